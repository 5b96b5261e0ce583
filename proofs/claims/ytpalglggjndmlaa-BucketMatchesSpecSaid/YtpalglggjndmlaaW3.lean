/-
  The law BucketMatchesSpec, lifted.
-/
import Derived.Test.YtpalglggjndmlaaFb
namespace Go.Proofs.Ytpalglggjndmlaa
open Go.Abs
set_option linter.unusedVariables false
set_option linter.unusedSimpArgs false
set_option maxRecDepth 20000


def law12_BucketMatchesSpec (n : Nat) (b_0 : S_api_Bucket) (t_1 : Int) (n_2 : Int) (to_3 : Int) : Option (Bool) :=
  (bucket_New b_0.Cap b_0.Num b_0.Den b_0.At).bind fun r2 =>
  (bucket_Refill b_0 t_1).bind fun r5 =>
  (bucket_Take b_0 t_1 n_2).bind fun r8 =>
  (bucket_Wait b_0 n_2).bind fun r11 =>
  (bucket_Most b_0 t_1 to_3).bind fun r13 =>
  (ref12_New b_0.Cap b_0.Num b_0.Den b_0.At).bind fun r15 =>
  (ref12_Refill b_0 t_1).bind fun r18 =>
  (ref12_Take b_0 t_1 n_2).bind fun r21 =>
  (ref12_Wait b_0 n_2).bind fun r24 =>
  (ref12_Most b_0 t_1 to_3).bind fun r27 =>
  (law12_sanity n).bind fun r45 =>
  bindJ (S := Bool)
    (cond (((((r45 && ((((((decide (r2.1.Cap = r15.B.Cap) && (decide (r2.1.Num = r15.B.Num) && (decide (r2.1.Den = r15.B.Den) && (decide (r2.1.Level = r15.B.Level) && (decide (r2.1.At = r15.B.At)))))) && decide (r2.2 = r15.E)) && (decide (r5.1.Cap = r18.B.Cap) && (decide (r5.1.Num = r18.B.Num) && (decide (r5.1.Den = r18.B.Den) && (decide (r5.1.Level = r18.B.Level) && (decide (r5.1.At = r18.B.At))))))) && decide (r5.2 = r18.E)) && (decide (r8.1.Cap = r21.B.Cap) && (decide (r8.1.Num = r21.B.Num) && (decide (r8.1.Den = r21.B.Den) && (decide (r8.1.Level = r21.B.Level) && (decide (r8.1.At = r21.B.At))))))) && decide (r8.2 = r21.E))) && decide (r11.1 = r24.N)) && decide (r11.2 = r24.E)) && decide (r13.1 = r27.N)) && decide (r13.2 = r27.E))
      ((bucket_Valid b_0).bind fun r68 =>
      (ref12_Valid b_0).bind fun r70 =>
      some (.go (r68 == r70)))
      (some (.go false)))
  (fun b62 =>
    bindJ (S := Bool)
      (cond b62
        ((bucket_Tokens b_0).bind fun r78 =>
        (ref12_Tokens b_0).bind fun r80 =>
        some (.go (decide (r78 = r80))))
        (some (.go false)))
    (fun b72 =>
      some b72))
theorem law12_BucketMatchesSpec_ok (n : Nat) (b_0 : S_api_Bucket) (t_1 : Int) (n_2 : Int) (to_3 : Int)  {r : Bool} (h : law12_BucketMatchesSpec n b_0 t_1 n_2 to_3 = some r) :
    Meets Try.prog 3 [.agg #[.int .i64 b_0.Cap, .int .i64 b_0.Num, .int .i64 b_0.Den, .int .i64 b_0.Level, .int .i64 b_0.At], .int .i64 t_1, .int .i64 n_2, .int .i64 to_3] [] (fun v G => v = .bool r ∧ G = []) := by
  refine fn_of_run Try.func3 rfl Try.ntmps3 rfl (fun w0 o0 => ?_)
  refine run_seq ?_
  refine run_region' ?_
  refine ops_t (wn rfl) rfl (t_box rfl) ?_
  rintro _ _ ⟨b1, rfl, rfl⟩
  refine ops_y (wn rfl) rfl (y_assign rfl) ?_
  refine ops_nil ?_
  refine goes_code ?_
  refine run_seq ?_
  refine run_region' ?_
  refine ops_y (wn rfl) rfl (y_fieldAddr_box (sz := 0) Try.runUnderlying23 rfl Try.sizeOf3 rfl) ?_
  refine ops_y (wn rfl) rfl (y_load_box 0 Try.isAgg3 rfl rfl rfl) ?_
  refine ops_y (wn rfl) rfl (y_fieldAddr_box (sz := 0) Try.runUnderlying23 rfl Try.sizeOf3 rfl) ?_
  refine ops_y (wn rfl) rfl (y_load_box 0 Try.isAgg3 rfl rfl rfl) ?_
  refine ops_y (wn rfl) rfl (y_fieldAddr_box (sz := 0) Try.runUnderlying23 rfl Try.sizeOf3 rfl) ?_
  refine ops_y (wn rfl) rfl (y_load_box 0 Try.isAgg3 rfl rfl rfl) ?_
  refine ops_y (wn rfl) rfl (y_fieldAddr_box (sz := 0) Try.runUnderlying23 rfl Try.sizeOf3 rfl) ?_
  refine ops_y (wn rfl) rfl (y_load_box 0 Try.isAgg3 rfl rfl rfl) ?_
  obtain ⟨r2, hr3, h⟩ := bind_some h
  refine ops_t (wn rfl) rfl (t_call (vs := [.int .i64 b_0.Cap, .int .i64 b_0.Num, .int .i64 b_0.Den, .int .i64 b_0.At]) (cs := []) [] rfl Try.call9 rfl (bucket_New_ok b_0.Cap b_0.Num b_0.Den b_0.At  hr3) shows_nil (.inl rfl)) ?_
  rintro _ _ ⟨_, ⟨rfl, rfl⟩, rfl⟩
  refine ops_y (wn rfl) rfl (y_move rfl) ?_
  refine ops_y (wn rfl) rfl (y_extract rfl rfl) ?_
  refine ops_y (wn rfl) rfl (y_extract rfl rfl) ?_
  refine ops_t (wn rfl) rfl (t_alloc Try.zeroValue23) ?_
  rintro _ _ ⟨b4, rfl, rfl⟩
  refine ops_t (wn rfl) rfl (t_store 1 Try.sizeOf23 rfl rfl rfl rfl (by simp [Value.cells]) (by simp [Value.cells, Value.oneCell'])) ?_
  rintro _ _ ⟨rfl, rfl⟩
  refine ops_turn (retell 1 (g := box b4 [.int .i64 r2.1.Cap, .int .i64 r2.1.Num, .int .i64 r2.1.Den, .int .i64 r2.1.Level, .int .i64 r2.1.At]) rfl rfl) ?_
  refine ops_weak [(1, .int .i64 t_1), (2, .int .i64 n_2), (3, .int .i64 to_3), (4, boxP b1 0), (36, .int .i64 r2.2), (9, boxP b4 0)] [0, 1] [box b1 [.int .i64 b_0.Cap, .int .i64 b_0.Num, .int .i64 b_0.Den, .int .i64 b_0.Level, .int .i64 b_0.At], box b4 [.int .i64 r2.1.Cap, .int .i64 r2.1.Num, .int .i64 r2.1.Den, .int .i64 r2.1.Level, .int .i64 r2.1.At]] (vcons rfl (vcons rfl (vcons rfl (vcons rfl (vcons rfl (vcons rfl (vnil))))))) (by decide) rfl ?_
  refine ops_y (wn rfl) rfl (y_assign rfl) ?_
  refine ops_nil ?_
  refine goes_code ?_
  refine run_seq ?_
  refine run_region' ?_
  refine ops_y (wn rfl) rfl (y_load_boxagg (c := [.int .i64 b_0.Cap, .int .i64 b_0.Num, .int .i64 b_0.Den, .int .i64 b_0.Level, .int .i64 b_0.At]) 0 Try.isAgg23 Try.sizeOf23 rfl rfl rfl) ?_
  refine ops_y (wn rfl) rfl (y_move rfl) ?_
  obtain ⟨r5, hr6, h⟩ := bind_some h
  refine ops_t (wn rfl) rfl (t_call (vs := [.agg #[.int .i64 b_0.Cap, .int .i64 b_0.Num, .int .i64 b_0.Den, .int .i64 b_0.Level, .int .i64 b_0.At], .int .i64 t_1]) (cs := []) [] rfl Try.call10 rfl (bucket_Refill_ok b_0 t_1  hr6) shows_nil (.inl rfl)) ?_
  rintro _ _ ⟨_, ⟨rfl, rfl⟩, rfl⟩
  refine ops_y (wn rfl) rfl (y_move rfl) ?_
  refine ops_y (wn rfl) rfl (y_extract rfl rfl) ?_
  refine ops_y (wn rfl) rfl (y_extract rfl rfl) ?_
  refine ops_t (wn rfl) rfl (t_alloc Try.zeroValue23) ?_
  rintro _ _ ⟨b7, rfl, rfl⟩
  refine ops_t (wn rfl) rfl (t_store 2 Try.sizeOf23 rfl rfl rfl rfl (by simp [Value.cells]) (by simp [Value.cells, Value.oneCell'])) ?_
  rintro _ _ ⟨rfl, rfl⟩
  refine ops_turn (retell 2 (g := box b7 [.int .i64 r5.1.Cap, .int .i64 r5.1.Num, .int .i64 r5.1.Den, .int .i64 r5.1.Level, .int .i64 r5.1.At]) rfl rfl) ?_
  refine ops_y (wn rfl) rfl (y_assign rfl) ?_
  refine ops_nil ?_
  refine goes_code ?_
  refine run_seq ?_
  refine run_weak [(1, .int .i64 t_1), (2, .int .i64 n_2), (3, .int .i64 to_3), (4, boxP b1 0), (9, boxP b4 0), (10, .int .i64 r2.2), (11, boxP b7 0), (12, .int .i64 r5.2)] [0, 1, 2] [box b1 [.int .i64 b_0.Cap, .int .i64 b_0.Num, .int .i64 b_0.Den, .int .i64 b_0.Level, .int .i64 b_0.At], box b4 [.int .i64 r2.1.Cap, .int .i64 r2.1.Num, .int .i64 r2.1.Den, .int .i64 r2.1.Level, .int .i64 r2.1.At], box b7 [.int .i64 r5.1.Cap, .int .i64 r5.1.Num, .int .i64 r5.1.Den, .int .i64 r5.1.Level, .int .i64 r5.1.At]] (vcons rfl (vcons rfl (vcons rfl (vcons rfl (vcons rfl (vcons rfl (vcons rfl (vcons rfl (vnil))))))))) (by decide) rfl ?_
  refine run_region' ?_
  refine ops_y (wn rfl) rfl (y_load_boxagg (c := [.int .i64 b_0.Cap, .int .i64 b_0.Num, .int .i64 b_0.Den, .int .i64 b_0.Level, .int .i64 b_0.At]) 0 Try.isAgg23 Try.sizeOf23 rfl rfl rfl) ?_
  refine ops_y (wn rfl) rfl (y_move rfl) ?_
  refine ops_y (wn rfl) rfl (y_move rfl) ?_
  obtain ⟨r8, hr9, h⟩ := bind_some h
  refine ops_t (wn rfl) rfl (t_call (vs := [.agg #[.int .i64 b_0.Cap, .int .i64 b_0.Num, .int .i64 b_0.Den, .int .i64 b_0.Level, .int .i64 b_0.At], .int .i64 t_1, .int .i64 n_2]) (cs := []) [] rfl Try.call11 rfl (bucket_Take_ok b_0 t_1 n_2  hr9) shows_nil (.inl rfl)) ?_
  rintro _ _ ⟨_, ⟨rfl, rfl⟩, rfl⟩
  refine ops_y (wn rfl) rfl (y_move rfl) ?_
  refine ops_y (wn rfl) rfl (y_extract rfl rfl) ?_
  refine ops_y (wn rfl) rfl (y_extract rfl rfl) ?_
  refine ops_t (wn rfl) rfl (t_alloc Try.zeroValue23) ?_
  rintro _ _ ⟨b10, rfl, rfl⟩
  refine ops_t (wn rfl) rfl (t_store 3 Try.sizeOf23 rfl rfl rfl rfl (by simp [Value.cells]) (by simp [Value.cells, Value.oneCell'])) ?_
  rintro _ _ ⟨rfl, rfl⟩
  refine ops_turn (retell 3 (g := box b10 [.int .i64 r8.1.Cap, .int .i64 r8.1.Num, .int .i64 r8.1.Den, .int .i64 r8.1.Level, .int .i64 r8.1.At]) rfl rfl) ?_
  refine ops_y (wn rfl) rfl (y_assign rfl) ?_
  refine ops_nil ?_
  refine goes_code ?_
  refine run_seq ?_
  refine run_weak [(1, .int .i64 t_1), (2, .int .i64 n_2), (3, .int .i64 to_3), (4, boxP b1 0), (9, boxP b4 0), (10, .int .i64 r2.2), (11, boxP b7 0), (12, .int .i64 r5.2), (13, boxP b10 0), (14, .int .i64 r8.2)] [0, 1, 2, 3] [box b1 [.int .i64 b_0.Cap, .int .i64 b_0.Num, .int .i64 b_0.Den, .int .i64 b_0.Level, .int .i64 b_0.At], box b4 [.int .i64 r2.1.Cap, .int .i64 r2.1.Num, .int .i64 r2.1.Den, .int .i64 r2.1.Level, .int .i64 r2.1.At], box b7 [.int .i64 r5.1.Cap, .int .i64 r5.1.Num, .int .i64 r5.1.Den, .int .i64 r5.1.Level, .int .i64 r5.1.At], box b10 [.int .i64 r8.1.Cap, .int .i64 r8.1.Num, .int .i64 r8.1.Den, .int .i64 r8.1.Level, .int .i64 r8.1.At]] (vcons rfl (vcons rfl (vcons rfl (vcons rfl (vcons rfl (vcons rfl (vcons rfl (vcons rfl (vcons rfl (vcons rfl (vnil))))))))))) (by decide) rfl ?_
  refine run_region' ?_
  refine ops_y (wn rfl) rfl (y_load_boxagg (c := [.int .i64 b_0.Cap, .int .i64 b_0.Num, .int .i64 b_0.Den, .int .i64 b_0.Level, .int .i64 b_0.At]) 0 Try.isAgg23 Try.sizeOf23 rfl rfl rfl) ?_
  refine ops_y (wn rfl) rfl (y_move rfl) ?_
  obtain ⟨r11, hr12, h⟩ := bind_some h
  refine ops_t (wn rfl) rfl (t_call (vs := [.agg #[.int .i64 b_0.Cap, .int .i64 b_0.Num, .int .i64 b_0.Den, .int .i64 b_0.Level, .int .i64 b_0.At], .int .i64 n_2]) (cs := []) [] rfl Try.call12 rfl (bucket_Wait_ok b_0 n_2  hr12) shows_nil (.inl rfl)) ?_
  rintro _ _ ⟨_, ⟨rfl, rfl⟩, rfl⟩
  refine ops_y (wn rfl) rfl (y_move rfl) ?_
  refine ops_y (wn rfl) rfl (y_extract rfl rfl) ?_
  refine ops_y (wn rfl) rfl (y_extract rfl rfl) ?_
  refine ops_y (wn rfl) rfl (y_assign rfl) ?_
  refine ops_y (wn rfl) rfl (y_assign rfl) ?_
  refine ops_nil ?_
  refine goes_code ?_
  refine run_seq ?_
  refine run_weak [(1, .int .i64 t_1), (2, .int .i64 n_2), (3, .int .i64 to_3), (4, boxP b1 0), (9, boxP b4 0), (10, .int .i64 r2.2), (11, boxP b7 0), (12, .int .i64 r5.2), (13, boxP b10 0), (14, .int .i64 r8.2), (15, .int .i64 r11.1), (16, .int .i64 r11.2)] [0, 1, 2, 3] [box b1 [.int .i64 b_0.Cap, .int .i64 b_0.Num, .int .i64 b_0.Den, .int .i64 b_0.Level, .int .i64 b_0.At], box b4 [.int .i64 r2.1.Cap, .int .i64 r2.1.Num, .int .i64 r2.1.Den, .int .i64 r2.1.Level, .int .i64 r2.1.At], box b7 [.int .i64 r5.1.Cap, .int .i64 r5.1.Num, .int .i64 r5.1.Den, .int .i64 r5.1.Level, .int .i64 r5.1.At], box b10 [.int .i64 r8.1.Cap, .int .i64 r8.1.Num, .int .i64 r8.1.Den, .int .i64 r8.1.Level, .int .i64 r8.1.At]] (vcons rfl (vcons rfl (vcons rfl (vcons rfl (vcons rfl (vcons rfl (vcons rfl (vcons rfl (vcons rfl (vcons rfl (vcons rfl (vcons rfl (vnil))))))))))))) (by decide) rfl ?_
  refine run_region' ?_
  refine ops_y (wn rfl) rfl (y_load_boxagg (c := [.int .i64 b_0.Cap, .int .i64 b_0.Num, .int .i64 b_0.Den, .int .i64 b_0.Level, .int .i64 b_0.At]) 0 Try.isAgg23 Try.sizeOf23 rfl rfl rfl) ?_
  refine ops_y (wn rfl) rfl (y_move rfl) ?_
  refine ops_y (wn rfl) rfl (y_move rfl) ?_
  obtain ⟨r13, hr14, h⟩ := bind_some h
  refine ops_t (wn rfl) rfl (t_call (vs := [.agg #[.int .i64 b_0.Cap, .int .i64 b_0.Num, .int .i64 b_0.Den, .int .i64 b_0.Level, .int .i64 b_0.At], .int .i64 t_1, .int .i64 to_3]) (cs := []) [] rfl Try.call13 rfl (bucket_Most_ok b_0 t_1 to_3  hr14) shows_nil (.inl rfl)) ?_
  rintro _ _ ⟨_, ⟨rfl, rfl⟩, rfl⟩
  refine ops_y (wn rfl) rfl (y_move rfl) ?_
  refine ops_y (wn rfl) rfl (y_extract rfl rfl) ?_
  refine ops_y (wn rfl) rfl (y_extract rfl rfl) ?_
  refine ops_y (wn rfl) rfl (y_assign rfl) ?_
  refine ops_y (wn rfl) rfl (y_assign rfl) ?_
  refine ops_nil ?_
  refine goes_code ?_
  refine run_seq ?_
  refine run_weak [(1, .int .i64 t_1), (2, .int .i64 n_2), (3, .int .i64 to_3), (4, boxP b1 0), (9, boxP b4 0), (10, .int .i64 r2.2), (11, boxP b7 0), (12, .int .i64 r5.2), (13, boxP b10 0), (14, .int .i64 r8.2), (15, .int .i64 r11.1), (16, .int .i64 r11.2), (17, .int .i64 r13.1), (18, .int .i64 r13.2)] [0, 1, 2, 3] [box b1 [.int .i64 b_0.Cap, .int .i64 b_0.Num, .int .i64 b_0.Den, .int .i64 b_0.Level, .int .i64 b_0.At], box b4 [.int .i64 r2.1.Cap, .int .i64 r2.1.Num, .int .i64 r2.1.Den, .int .i64 r2.1.Level, .int .i64 r2.1.At], box b7 [.int .i64 r5.1.Cap, .int .i64 r5.1.Num, .int .i64 r5.1.Den, .int .i64 r5.1.Level, .int .i64 r5.1.At], box b10 [.int .i64 r8.1.Cap, .int .i64 r8.1.Num, .int .i64 r8.1.Den, .int .i64 r8.1.Level, .int .i64 r8.1.At]] (vcons rfl (vcons rfl (vcons rfl (vcons rfl (vcons rfl (vcons rfl (vcons rfl (vcons rfl (vcons rfl (vcons rfl (vcons rfl (vcons rfl (vcons rfl (vcons rfl (vnil))))))))))))))) (by decide) rfl ?_
  refine run_region' ?_
  refine ops_y (wn rfl) rfl (y_fieldAddr_box (sz := 0) Try.runUnderlying23 rfl Try.sizeOf3 rfl) ?_
  refine ops_y (wn rfl) rfl (y_load_box 0 Try.isAgg3 rfl rfl rfl) ?_
  refine ops_y (wn rfl) rfl (y_fieldAddr_box (sz := 0) Try.runUnderlying23 rfl Try.sizeOf3 rfl) ?_
  refine ops_y (wn rfl) rfl (y_load_box 0 Try.isAgg3 rfl rfl rfl) ?_
  refine ops_y (wn rfl) rfl (y_fieldAddr_box (sz := 0) Try.runUnderlying23 rfl Try.sizeOf3 rfl) ?_
  refine ops_y (wn rfl) rfl (y_load_box 0 Try.isAgg3 rfl rfl rfl) ?_
  refine ops_y (wn rfl) rfl (y_fieldAddr_box (sz := 0) Try.runUnderlying23 rfl Try.sizeOf3 rfl) ?_
  refine ops_y (wn rfl) rfl (y_load_box 0 Try.isAgg3 rfl rfl rfl) ?_
  obtain ⟨r15, hr16, h⟩ := bind_some h
  refine ops_t (wn rfl) rfl (t_call (vs := [.int .i64 b_0.Cap, .int .i64 b_0.Num, .int .i64 b_0.Den, .int .i64 b_0.At]) (cs := []) [] rfl Try.call14 rfl (ref12_New_ok b_0.Cap b_0.Num b_0.Den b_0.At  hr16) shows_nil (.inl rfl)) ?_
  rintro _ _ ⟨_, ⟨rfl, rfl⟩, rfl⟩
  refine ops_t (wn rfl) rfl (t_alloc Try.zeroValue33) ?_
  rintro _ _ ⟨b17, rfl, rfl⟩
  refine ops_t (wn rfl) rfl (t_store 4 Try.sizeOf33 rfl rfl rfl rfl (by simp [Value.cells]) (by simp [Value.cells, Value.oneCell'])) ?_
  rintro _ _ ⟨rfl, rfl⟩
  refine ops_turn (retell 4 (g := box b17 [.int .i64 r15.B.Cap, .int .i64 r15.B.Num, .int .i64 r15.B.Den, .int .i64 r15.B.Level, .int .i64 r15.B.At, .int .i64 r15.E]) rfl rfl) ?_
  refine ops_nil ?_
  refine goes_code ?_
  refine run_seq ?_
  refine run_weak [(1, .int .i64 t_1), (2, .int .i64 n_2), (3, .int .i64 to_3), (4, boxP b1 0), (9, boxP b4 0), (10, .int .i64 r2.2), (11, boxP b7 0), (12, .int .i64 r5.2), (13, boxP b10 0), (14, .int .i64 r8.2), (15, .int .i64 r11.1), (16, .int .i64 r11.2), (17, .int .i64 r13.1), (18, .int .i64 r13.2), (19, boxP b17 0)] [0, 1, 2, 3, 4] [box b1 [.int .i64 b_0.Cap, .int .i64 b_0.Num, .int .i64 b_0.Den, .int .i64 b_0.Level, .int .i64 b_0.At], box b4 [.int .i64 r2.1.Cap, .int .i64 r2.1.Num, .int .i64 r2.1.Den, .int .i64 r2.1.Level, .int .i64 r2.1.At], box b7 [.int .i64 r5.1.Cap, .int .i64 r5.1.Num, .int .i64 r5.1.Den, .int .i64 r5.1.Level, .int .i64 r5.1.At], box b10 [.int .i64 r8.1.Cap, .int .i64 r8.1.Num, .int .i64 r8.1.Den, .int .i64 r8.1.Level, .int .i64 r8.1.At], box b17 [.int .i64 r15.B.Cap, .int .i64 r15.B.Num, .int .i64 r15.B.Den, .int .i64 r15.B.Level, .int .i64 r15.B.At, .int .i64 r15.E]] (vcons rfl (vcons rfl (vcons rfl (vcons rfl (vcons rfl (vcons rfl (vcons rfl (vcons rfl (vcons rfl (vcons rfl (vcons rfl (vcons rfl (vcons rfl (vcons rfl (vcons rfl (vnil)))))))))))))))) (by decide) rfl ?_
  refine run_region' ?_
  refine ops_y (wn rfl) rfl (y_load_boxagg (c := [.int .i64 b_0.Cap, .int .i64 b_0.Num, .int .i64 b_0.Den, .int .i64 b_0.Level, .int .i64 b_0.At]) 0 Try.isAgg23 Try.sizeOf23 rfl rfl rfl) ?_
  refine ops_y (wn rfl) rfl (y_move rfl) ?_
  obtain ⟨r18, hr19, h⟩ := bind_some h
  refine ops_t (wn rfl) rfl (t_call (vs := [.agg #[.int .i64 b_0.Cap, .int .i64 b_0.Num, .int .i64 b_0.Den, .int .i64 b_0.Level, .int .i64 b_0.At], .int .i64 t_1]) (cs := []) [] rfl Try.call15 rfl (ref12_Refill_ok b_0 t_1  hr19) shows_nil (.inl rfl)) ?_
  rintro _ _ ⟨_, ⟨rfl, rfl⟩, rfl⟩
  refine ops_t (wn rfl) rfl (t_alloc Try.zeroValue33) ?_
  rintro _ _ ⟨b20, rfl, rfl⟩
  refine ops_t (wn rfl) rfl (t_store 5 Try.sizeOf33 rfl rfl rfl rfl (by simp [Value.cells]) (by simp [Value.cells, Value.oneCell'])) ?_
  rintro _ _ ⟨rfl, rfl⟩
  refine ops_turn (retell 5 (g := box b20 [.int .i64 r18.B.Cap, .int .i64 r18.B.Num, .int .i64 r18.B.Den, .int .i64 r18.B.Level, .int .i64 r18.B.At, .int .i64 r18.E]) rfl rfl) ?_
  refine ops_nil ?_
  refine goes_code ?_
  refine run_seq ?_
  refine run_region' ?_
  refine ops_y (wn rfl) rfl (y_load_boxagg (c := [.int .i64 b_0.Cap, .int .i64 b_0.Num, .int .i64 b_0.Den, .int .i64 b_0.Level, .int .i64 b_0.At]) 0 Try.isAgg23 Try.sizeOf23 rfl rfl rfl) ?_
  refine ops_y (wn rfl) rfl (y_move rfl) ?_
  refine ops_y (wn rfl) rfl (y_move rfl) ?_
  obtain ⟨r21, hr22, h⟩ := bind_some h
  refine ops_t (wn rfl) rfl (t_call (vs := [.agg #[.int .i64 b_0.Cap, .int .i64 b_0.Num, .int .i64 b_0.Den, .int .i64 b_0.Level, .int .i64 b_0.At], .int .i64 t_1, .int .i64 n_2]) (cs := []) [] rfl Try.call16 rfl (ref12_Take_ok b_0 t_1 n_2  hr22) shows_nil (.inl rfl)) ?_
  rintro _ _ ⟨_, ⟨rfl, rfl⟩, rfl⟩
  refine ops_t (wn rfl) rfl (t_alloc Try.zeroValue33) ?_
  rintro _ _ ⟨b23, rfl, rfl⟩
  refine ops_t (wn rfl) rfl (t_store 6 Try.sizeOf33 rfl rfl rfl rfl (by simp [Value.cells]) (by simp [Value.cells, Value.oneCell'])) ?_
  rintro _ _ ⟨rfl, rfl⟩
  refine ops_turn (retell 6 (g := box b23 [.int .i64 r21.B.Cap, .int .i64 r21.B.Num, .int .i64 r21.B.Den, .int .i64 r21.B.Level, .int .i64 r21.B.At, .int .i64 r21.E]) rfl rfl) ?_
  refine ops_nil ?_
  refine goes_code ?_
  refine run_seq ?_
  refine run_weak [(1, .int .i64 t_1), (2, .int .i64 n_2), (3, .int .i64 to_3), (4, boxP b1 0), (9, boxP b4 0), (10, .int .i64 r2.2), (11, boxP b7 0), (12, .int .i64 r5.2), (13, boxP b10 0), (14, .int .i64 r8.2), (15, .int .i64 r11.1), (16, .int .i64 r11.2), (17, .int .i64 r13.1), (18, .int .i64 r13.2), (19, boxP b17 0), (20, boxP b20 0), (21, boxP b23 0)] [0, 1, 2, 3, 4, 5, 6] [box b1 [.int .i64 b_0.Cap, .int .i64 b_0.Num, .int .i64 b_0.Den, .int .i64 b_0.Level, .int .i64 b_0.At], box b4 [.int .i64 r2.1.Cap, .int .i64 r2.1.Num, .int .i64 r2.1.Den, .int .i64 r2.1.Level, .int .i64 r2.1.At], box b7 [.int .i64 r5.1.Cap, .int .i64 r5.1.Num, .int .i64 r5.1.Den, .int .i64 r5.1.Level, .int .i64 r5.1.At], box b10 [.int .i64 r8.1.Cap, .int .i64 r8.1.Num, .int .i64 r8.1.Den, .int .i64 r8.1.Level, .int .i64 r8.1.At], box b17 [.int .i64 r15.B.Cap, .int .i64 r15.B.Num, .int .i64 r15.B.Den, .int .i64 r15.B.Level, .int .i64 r15.B.At, .int .i64 r15.E], box b20 [.int .i64 r18.B.Cap, .int .i64 r18.B.Num, .int .i64 r18.B.Den, .int .i64 r18.B.Level, .int .i64 r18.B.At, .int .i64 r18.E], box b23 [.int .i64 r21.B.Cap, .int .i64 r21.B.Num, .int .i64 r21.B.Den, .int .i64 r21.B.Level, .int .i64 r21.B.At, .int .i64 r21.E]] (vcons rfl (vcons rfl (vcons rfl (vcons rfl (vcons rfl (vcons rfl (vcons rfl (vcons rfl (vcons rfl (vcons rfl (vcons rfl (vcons rfl (vcons rfl (vcons rfl (vcons rfl (vcons rfl (vcons rfl (vnil)))))))))))))))))) (by decide) rfl ?_
  refine run_region' ?_
  refine ops_y (wn rfl) rfl (y_load_boxagg (c := [.int .i64 b_0.Cap, .int .i64 b_0.Num, .int .i64 b_0.Den, .int .i64 b_0.Level, .int .i64 b_0.At]) 0 Try.isAgg23 Try.sizeOf23 rfl rfl rfl) ?_
  refine ops_y (wn rfl) rfl (y_move rfl) ?_
  obtain ⟨r24, hr25, h⟩ := bind_some h
  refine ops_t (wn rfl) rfl (t_call (vs := [.agg #[.int .i64 b_0.Cap, .int .i64 b_0.Num, .int .i64 b_0.Den, .int .i64 b_0.Level, .int .i64 b_0.At], .int .i64 n_2]) (cs := []) [] rfl Try.call17 rfl (ref12_Wait_ok b_0 n_2  hr25) shows_nil (.inl rfl)) ?_
  rintro _ _ ⟨_, ⟨rfl, rfl⟩, rfl⟩
  refine ops_t (wn rfl) rfl (t_alloc Try.zeroValue38) ?_
  rintro _ _ ⟨b26, rfl, rfl⟩
  refine ops_t (wn rfl) rfl (t_store 7 Try.sizeOf38 rfl rfl rfl rfl (by simp [Value.cells]) (by simp [Value.cells, Value.oneCell'])) ?_
  rintro _ _ ⟨rfl, rfl⟩
  refine ops_turn (retell 7 (g := box b26 [.int .i64 r24.N, .int .i64 r24.E]) rfl rfl) ?_
  refine ops_nil ?_
  refine goes_code ?_
  refine run_seq ?_
  refine run_region' ?_
  refine ops_y (wn rfl) rfl (y_load_boxagg (c := [.int .i64 b_0.Cap, .int .i64 b_0.Num, .int .i64 b_0.Den, .int .i64 b_0.Level, .int .i64 b_0.At]) 0 Try.isAgg23 Try.sizeOf23 rfl rfl rfl) ?_
  refine ops_y (wn rfl) rfl (y_move rfl) ?_
  refine ops_y (wn rfl) rfl (y_move rfl) ?_
  obtain ⟨r27, hr28, h⟩ := bind_some h
  refine ops_t (wn rfl) rfl (t_call (vs := [.agg #[.int .i64 b_0.Cap, .int .i64 b_0.Num, .int .i64 b_0.Den, .int .i64 b_0.Level, .int .i64 b_0.At], .int .i64 t_1, .int .i64 to_3]) (cs := []) [] rfl Try.call18 rfl (ref12_Most_ok b_0 t_1 to_3  hr28) shows_nil (.inl rfl)) ?_
  rintro _ _ ⟨_, ⟨rfl, rfl⟩, rfl⟩
  refine ops_t (wn rfl) rfl (t_alloc Try.zeroValue38) ?_
  rintro _ _ ⟨b29, rfl, rfl⟩
  refine ops_t (wn rfl) rfl (t_store 8 Try.sizeOf38 rfl rfl rfl rfl (by simp [Value.cells]) (by simp [Value.cells, Value.oneCell'])) ?_
  rintro _ _ ⟨rfl, rfl⟩
  refine ops_turn (retell 8 (g := box b29 [.int .i64 r27.N, .int .i64 r27.E]) rfl rfl) ?_
  refine ops_nil ?_
  refine goes_code ?_
  refine run_seq ?_
  refine run_weak [(4, boxP b1 0), (9, boxP b4 0), (10, .int .i64 r2.2), (11, boxP b7 0), (12, .int .i64 r5.2), (13, boxP b10 0), (14, .int .i64 r8.2), (15, .int .i64 r11.1), (16, .int .i64 r11.2), (17, .int .i64 r13.1), (18, .int .i64 r13.2), (19, boxP b17 0), (20, boxP b20 0), (21, boxP b23 0), (22, boxP b26 0), (23, boxP b29 0)] [0, 1, 2, 3, 4, 5, 6, 7, 8] [box b1 [.int .i64 b_0.Cap, .int .i64 b_0.Num, .int .i64 b_0.Den, .int .i64 b_0.Level, .int .i64 b_0.At], box b4 [.int .i64 r2.1.Cap, .int .i64 r2.1.Num, .int .i64 r2.1.Den, .int .i64 r2.1.Level, .int .i64 r2.1.At], box b7 [.int .i64 r5.1.Cap, .int .i64 r5.1.Num, .int .i64 r5.1.Den, .int .i64 r5.1.Level, .int .i64 r5.1.At], box b10 [.int .i64 r8.1.Cap, .int .i64 r8.1.Num, .int .i64 r8.1.Den, .int .i64 r8.1.Level, .int .i64 r8.1.At], box b17 [.int .i64 r15.B.Cap, .int .i64 r15.B.Num, .int .i64 r15.B.Den, .int .i64 r15.B.Level, .int .i64 r15.B.At, .int .i64 r15.E], box b20 [.int .i64 r18.B.Cap, .int .i64 r18.B.Num, .int .i64 r18.B.Den, .int .i64 r18.B.Level, .int .i64 r18.B.At, .int .i64 r18.E], box b23 [.int .i64 r21.B.Cap, .int .i64 r21.B.Num, .int .i64 r21.B.Den, .int .i64 r21.B.Level, .int .i64 r21.B.At, .int .i64 r21.E], box b26 [.int .i64 r24.N, .int .i64 r24.E], box b29 [.int .i64 r27.N, .int .i64 r27.E]] (vcons rfl (vcons rfl (vcons rfl (vcons rfl (vcons rfl (vcons rfl (vcons rfl (vcons rfl (vcons rfl (vcons rfl (vcons rfl (vcons rfl (vcons rfl (vcons rfl (vcons rfl (vcons rfl (vnil))))))))))))))))) (by decide) rfl ?_
  refine run_region' ?_
  refine ops_y (wn rfl) rfl (y_load_boxagg (c := [.int .i64 r2.1.Cap, .int .i64 r2.1.Num, .int .i64 r2.1.Den, .int .i64 r2.1.Level, .int .i64 r2.1.At]) 1 Try.isAgg23 Try.sizeOf23 rfl rfl rfl) ?_
  refine ops_y (wn rfl) rfl (y_fieldAddr_box (sz := 4) Try.runUnderlying33 rfl Try.sizeOf23 rfl) ?_
  refine ops_y (wn rfl) rfl (y_load_boxagg (c := [.int .i64 r15.B.Cap, .int .i64 r15.B.Num, .int .i64 r15.B.Den, .int .i64 r15.B.Level, .int .i64 r15.B.At]) 4 Try.isAgg23 Try.sizeOf23 rfl rfl rfl) ?_
  refine ops_y (wn rfl) rfl (y_eqS (by kernel_rfl) (by kernel_rfl) Try.runUnderlying23 rfl rfl (.cons (eqf_int (by decide) Try.runUnderlying3 Try.isAgg3 rfl rfl) (.cons (eqf_int (by decide) Try.runUnderlying3 Try.isAgg3 rfl rfl) (.cons (eqf_int (by decide) Try.runUnderlying3 Try.isAgg3 rfl rfl) (.cons (eqf_int (by decide) Try.runUnderlying3 Try.isAgg3 rfl rfl) (.cons (eqf_int (by decide) Try.runUnderlying3 Try.isAgg3 rfl rfl) EqFs.nil)))))) ?_
  refine ops_y (wn rfl) rfl (y_move rfl) ?_
  refine ops_cut 5 Bool (fun σ => [(4, boxP b1 0), (11, boxP b7 0), (12, .int .i64 r5.2), (13, boxP b10 0), (14, .int .i64 r8.2), (15, .int .i64 r11.1), (16, .int .i64 r11.2), (17, .int .i64 r13.1), (18, .int .i64 r13.2), (20, boxP b20 0), (21, boxP b23 0), (22, boxP b26 0), (23, boxP b29 0), (95, .bool σ)]) (fun σ => [box b1 [.int .i64 b_0.Cap, .int .i64 b_0.Num, .int .i64 b_0.Den, .int .i64 b_0.Level, .int .i64 b_0.At], box b4 [.int .i64 r2.1.Cap, .int .i64 r2.1.Num, .int .i64 r2.1.Den, .int .i64 r2.1.Level, .int .i64 r2.1.At], box b7 [.int .i64 r5.1.Cap, .int .i64 r5.1.Num, .int .i64 r5.1.Den, .int .i64 r5.1.Level, .int .i64 r5.1.At], box b10 [.int .i64 r8.1.Cap, .int .i64 r8.1.Num, .int .i64 r8.1.Den, .int .i64 r8.1.Level, .int .i64 r8.1.At], box b17 [.int .i64 r15.B.Cap, .int .i64 r15.B.Num, .int .i64 r15.B.Den, .int .i64 r15.B.Level, .int .i64 r15.B.At, .int .i64 r15.E], box b20 [.int .i64 r18.B.Cap, .int .i64 r18.B.Num, .int .i64 r18.B.Den, .int .i64 r18.B.Level, .int .i64 r18.B.At, .int .i64 r18.E], box b23 [.int .i64 r21.B.Cap, .int .i64 r21.B.Num, .int .i64 r21.B.Den, .int .i64 r21.B.Level, .int .i64 r21.B.At, .int .i64 r21.E], box b26 [.int .i64 r24.N, .int .i64 r24.E], box b29 [.int .i64 r27.N, .int .i64 r27.E]]) (fun σ => σ = ((decide (r2.1.Cap = r15.B.Cap) && (decide (r2.1.Num = r15.B.Num) && (decide (r2.1.Den = r15.B.Den) && (decide (r2.1.Level = r15.B.Level) && (decide (r2.1.At = r15.B.At)))))) && decide (r2.2 = r15.E))) (fun L30 hL31 => ?_) ?_
  · refine ops_split 90 (decide (r2.1.Cap = r15.B.Cap) && (decide (r2.1.Num = r15.B.Num) && (decide (r2.1.Den = r15.B.Den) && (decide (r2.1.Level = r15.B.Level) && (decide (r2.1.At = r15.B.At)))))) rfl (fun hg32 => ?_) (fun hg32 => ?_)
    · skip
      refine ops_y (wg 4 true 90 rfl rfl rfl rfl) rfl (y_move rfl) ?_
      refine ops_y (wg 4 true 90 rfl rfl rfl rfl) rfl (y_fieldAddr_box (sz := 0) Try.runUnderlying33 rfl Try.sizeOf24 rfl) ?_
      refine ops_y (wg 4 true 90 rfl rfl rfl rfl) rfl (y_load_box 4 Try.isAgg24 rfl rfl rfl) ?_
      refine ops_y (wg 4 true 90 rfl rfl rfl rfl) rfl (y_eql rfl rfl) ?_
      refine ops_y (wn rfl) rfl (y_pick (b := true) rfl rfl) ?_
      refine ops_nil ?_
      exact goes_cut hL31 (decide (r2.2 = r15.E)) [0, 1, 2, 3, 4, 5, 6, 7, 8] (vcons rfl (vcons rfl (vcons rfl (vcons rfl (vcons rfl (vcons rfl (vcons rfl (vcons rfl (vcons rfl (vcons rfl (vcons rfl (vcons rfl (vcons rfl (vcons rfl (vnil))))))))))))))) (by decide) rfl (by rw [hg32]; simp)
    · skip
      refine ops_no 4 true 90 rfl rfl rfl rfl rfl ?_
      refine ops_no 4 true 90 rfl rfl rfl rfl rfl ?_
      refine ops_no 4 true 90 rfl rfl rfl rfl rfl ?_
      refine ops_no 4 true 90 rfl rfl rfl rfl rfl ?_
      refine ops_y (wn rfl) rfl (y_pick (b := false) rfl rfl) ?_
      refine ops_nil ?_
      exact goes_cut hL31 false [0, 1, 2, 3, 4, 5, 6, 7, 8] (vcons rfl (vcons rfl (vcons rfl (vcons rfl (vcons rfl (vcons rfl (vcons rfl (vcons rfl (vcons rfl (vcons rfl (vcons rfl (vcons rfl (vcons rfl (vcons rfl (vnil))))))))))))))) (by decide) rfl (by rw [hg32]; simp)
  rintro _ rfl
  refine ops_y (wn rfl) rfl (y_move rfl) ?_
  refine ops_cut 5 Bool (fun σ => [(4, boxP b1 0), (12, .int .i64 r5.2), (13, boxP b10 0), (14, .int .i64 r8.2), (15, .int .i64 r11.1), (16, .int .i64 r11.2), (17, .int .i64 r13.1), (18, .int .i64 r13.2), (20, boxP b20 0), (21, boxP b23 0), (22, boxP b26 0), (23, boxP b29 0), (101, .bool σ)]) (fun σ => [box b1 [.int .i64 b_0.Cap, .int .i64 b_0.Num, .int .i64 b_0.Den, .int .i64 b_0.Level, .int .i64 b_0.At], box b4 [.int .i64 r2.1.Cap, .int .i64 r2.1.Num, .int .i64 r2.1.Den, .int .i64 r2.1.Level, .int .i64 r2.1.At], box b7 [.int .i64 r5.1.Cap, .int .i64 r5.1.Num, .int .i64 r5.1.Den, .int .i64 r5.1.Level, .int .i64 r5.1.At], box b10 [.int .i64 r8.1.Cap, .int .i64 r8.1.Num, .int .i64 r8.1.Den, .int .i64 r8.1.Level, .int .i64 r8.1.At], box b17 [.int .i64 r15.B.Cap, .int .i64 r15.B.Num, .int .i64 r15.B.Den, .int .i64 r15.B.Level, .int .i64 r15.B.At, .int .i64 r15.E], box b20 [.int .i64 r18.B.Cap, .int .i64 r18.B.Num, .int .i64 r18.B.Den, .int .i64 r18.B.Level, .int .i64 r18.B.At, .int .i64 r18.E], box b23 [.int .i64 r21.B.Cap, .int .i64 r21.B.Num, .int .i64 r21.B.Den, .int .i64 r21.B.Level, .int .i64 r21.B.At, .int .i64 r21.E], box b26 [.int .i64 r24.N, .int .i64 r24.E], box b29 [.int .i64 r27.N, .int .i64 r27.E]]) (fun σ => σ = (((decide (r2.1.Cap = r15.B.Cap) && (decide (r2.1.Num = r15.B.Num) && (decide (r2.1.Den = r15.B.Den) && (decide (r2.1.Level = r15.B.Level) && (decide (r2.1.At = r15.B.At)))))) && decide (r2.2 = r15.E)) && (decide (r5.1.Cap = r18.B.Cap) && (decide (r5.1.Num = r18.B.Num) && (decide (r5.1.Den = r18.B.Den) && (decide (r5.1.Level = r18.B.Level) && (decide (r5.1.At = r18.B.At)))))))) (fun L33 hL34 => ?_) ?_
  · refine ops_split 96 ((decide (r2.1.Cap = r15.B.Cap) && (decide (r2.1.Num = r15.B.Num) && (decide (r2.1.Den = r15.B.Den) && (decide (r2.1.Level = r15.B.Level) && (decide (r2.1.At = r15.B.At)))))) && decide (r2.2 = r15.E)) rfl (fun hg35 => ?_) (fun hg35 => ?_)
    · skip
      refine ops_y (wg 10 true 96 rfl rfl rfl rfl) rfl (y_load_boxagg (c := [.int .i64 r5.1.Cap, .int .i64 r5.1.Num, .int .i64 r5.1.Den, .int .i64 r5.1.Level, .int .i64 r5.1.At]) 2 Try.isAgg23 Try.sizeOf23 rfl rfl rfl) ?_
      refine ops_y (wg 10 true 96 rfl rfl rfl rfl) rfl (y_fieldAddr_box (sz := 4) Try.runUnderlying33 rfl Try.sizeOf23 rfl) ?_
      refine ops_y (wg 10 true 96 rfl rfl rfl rfl) rfl (y_load_boxagg (c := [.int .i64 r18.B.Cap, .int .i64 r18.B.Num, .int .i64 r18.B.Den, .int .i64 r18.B.Level, .int .i64 r18.B.At]) 5 Try.isAgg23 Try.sizeOf23 rfl rfl rfl) ?_
      refine ops_y (wg 10 true 96 rfl rfl rfl rfl) rfl (y_eqS (by kernel_rfl) (by kernel_rfl) Try.runUnderlying23 rfl rfl (.cons (eqf_int (by decide) Try.runUnderlying3 Try.isAgg3 rfl rfl) (.cons (eqf_int (by decide) Try.runUnderlying3 Try.isAgg3 rfl rfl) (.cons (eqf_int (by decide) Try.runUnderlying3 Try.isAgg3 rfl rfl) (.cons (eqf_int (by decide) Try.runUnderlying3 Try.isAgg3 rfl rfl) (.cons (eqf_int (by decide) Try.runUnderlying3 Try.isAgg3 rfl rfl) EqFs.nil)))))) ?_
      refine ops_y (wn rfl) rfl (y_pick (b := true) rfl rfl) ?_
      refine ops_nil ?_
      exact goes_cut hL34 (decide (r5.1.Cap = r18.B.Cap) && (decide (r5.1.Num = r18.B.Num) && (decide (r5.1.Den = r18.B.Den) && (decide (r5.1.Level = r18.B.Level) && (decide (r5.1.At = r18.B.At)))))) [0, 1, 2, 3, 4, 5, 6, 7, 8] (vcons rfl (vcons rfl (vcons rfl (vcons rfl (vcons rfl (vcons rfl (vcons rfl (vcons rfl (vcons rfl (vcons rfl (vcons rfl (vcons rfl (vcons rfl (vnil)))))))))))))) (by decide) rfl (by rw [hg35]; simp)
    · skip
      refine ops_no 10 true 96 rfl rfl rfl rfl rfl ?_
      refine ops_no 10 true 96 rfl rfl rfl rfl rfl ?_
      refine ops_no 10 true 96 rfl rfl rfl rfl rfl ?_
      refine ops_no 10 true 96 rfl rfl rfl rfl rfl ?_
      refine ops_y (wn rfl) rfl (y_pick (b := false) rfl rfl) ?_
      refine ops_nil ?_
      exact goes_cut hL34 false [0, 1, 2, 3, 4, 5, 6, 7, 8] (vcons rfl (vcons rfl (vcons rfl (vcons rfl (vcons rfl (vcons rfl (vcons rfl (vcons rfl (vcons rfl (vcons rfl (vcons rfl (vcons rfl (vcons rfl (vnil)))))))))))))) (by decide) rfl (by rw [hg35]; simp)
  rintro _ rfl
  refine ops_y (wn rfl) rfl (y_move rfl) ?_
  refine ops_cut 5 Bool (fun σ => [(4, boxP b1 0), (13, boxP b10 0), (14, .int .i64 r8.2), (15, .int .i64 r11.1), (16, .int .i64 r11.2), (17, .int .i64 r13.1), (18, .int .i64 r13.2), (21, boxP b23 0), (22, boxP b26 0), (23, boxP b29 0), (107, .bool σ)]) (fun σ => [box b1 [.int .i64 b_0.Cap, .int .i64 b_0.Num, .int .i64 b_0.Den, .int .i64 b_0.Level, .int .i64 b_0.At], box b4 [.int .i64 r2.1.Cap, .int .i64 r2.1.Num, .int .i64 r2.1.Den, .int .i64 r2.1.Level, .int .i64 r2.1.At], box b7 [.int .i64 r5.1.Cap, .int .i64 r5.1.Num, .int .i64 r5.1.Den, .int .i64 r5.1.Level, .int .i64 r5.1.At], box b10 [.int .i64 r8.1.Cap, .int .i64 r8.1.Num, .int .i64 r8.1.Den, .int .i64 r8.1.Level, .int .i64 r8.1.At], box b17 [.int .i64 r15.B.Cap, .int .i64 r15.B.Num, .int .i64 r15.B.Den, .int .i64 r15.B.Level, .int .i64 r15.B.At, .int .i64 r15.E], box b20 [.int .i64 r18.B.Cap, .int .i64 r18.B.Num, .int .i64 r18.B.Den, .int .i64 r18.B.Level, .int .i64 r18.B.At, .int .i64 r18.E], box b23 [.int .i64 r21.B.Cap, .int .i64 r21.B.Num, .int .i64 r21.B.Den, .int .i64 r21.B.Level, .int .i64 r21.B.At, .int .i64 r21.E], box b26 [.int .i64 r24.N, .int .i64 r24.E], box b29 [.int .i64 r27.N, .int .i64 r27.E]]) (fun σ => σ = ((((decide (r2.1.Cap = r15.B.Cap) && (decide (r2.1.Num = r15.B.Num) && (decide (r2.1.Den = r15.B.Den) && (decide (r2.1.Level = r15.B.Level) && (decide (r2.1.At = r15.B.At)))))) && decide (r2.2 = r15.E)) && (decide (r5.1.Cap = r18.B.Cap) && (decide (r5.1.Num = r18.B.Num) && (decide (r5.1.Den = r18.B.Den) && (decide (r5.1.Level = r18.B.Level) && (decide (r5.1.At = r18.B.At))))))) && decide (r5.2 = r18.E))) (fun L36 hL37 => ?_) ?_
  · refine ops_split 102 (((decide (r2.1.Cap = r15.B.Cap) && (decide (r2.1.Num = r15.B.Num) && (decide (r2.1.Den = r15.B.Den) && (decide (r2.1.Level = r15.B.Level) && (decide (r2.1.At = r15.B.At)))))) && decide (r2.2 = r15.E)) && (decide (r5.1.Cap = r18.B.Cap) && (decide (r5.1.Num = r18.B.Num) && (decide (r5.1.Den = r18.B.Den) && (decide (r5.1.Level = r18.B.Level) && (decide (r5.1.At = r18.B.At))))))) rfl (fun hg38 => ?_) (fun hg38 => ?_)
    · skip
      refine ops_y (wg 16 true 102 rfl rfl rfl rfl) rfl (y_move rfl) ?_
      refine ops_y (wg 16 true 102 rfl rfl rfl rfl) rfl (y_fieldAddr_box (sz := 0) Try.runUnderlying33 rfl Try.sizeOf24 rfl) ?_
      refine ops_y (wg 16 true 102 rfl rfl rfl rfl) rfl (y_load_box 5 Try.isAgg24 rfl rfl rfl) ?_
      refine ops_y (wg 16 true 102 rfl rfl rfl rfl) rfl (y_eql rfl rfl) ?_
      refine ops_y (wn rfl) rfl (y_pick (b := true) rfl rfl) ?_
      refine ops_nil ?_
      exact goes_cut hL37 (decide (r5.2 = r18.E)) [0, 1, 2, 3, 4, 5, 6, 7, 8] (vcons rfl (vcons rfl (vcons rfl (vcons rfl (vcons rfl (vcons rfl (vcons rfl (vcons rfl (vcons rfl (vcons rfl (vcons rfl (vnil)))))))))))) (by decide) rfl (by rw [hg38]; simp)
    · skip
      refine ops_no 16 true 102 rfl rfl rfl rfl rfl ?_
      refine ops_no 16 true 102 rfl rfl rfl rfl rfl ?_
      refine ops_no 16 true 102 rfl rfl rfl rfl rfl ?_
      refine ops_no 16 true 102 rfl rfl rfl rfl rfl ?_
      refine ops_y (wn rfl) rfl (y_pick (b := false) rfl rfl) ?_
      refine ops_nil ?_
      exact goes_cut hL37 false [0, 1, 2, 3, 4, 5, 6, 7, 8] (vcons rfl (vcons rfl (vcons rfl (vcons rfl (vcons rfl (vcons rfl (vcons rfl (vcons rfl (vcons rfl (vcons rfl (vcons rfl (vnil)))))))))))) (by decide) rfl (by rw [hg38]; simp)
  rintro _ rfl
  refine ops_y (wn rfl) rfl (y_move rfl) ?_
  refine ops_cut 5 Bool (fun σ => [(4, boxP b1 0), (14, .int .i64 r8.2), (15, .int .i64 r11.1), (16, .int .i64 r11.2), (17, .int .i64 r13.1), (18, .int .i64 r13.2), (21, boxP b23 0), (22, boxP b26 0), (23, boxP b29 0), (113, .bool σ)]) (fun σ => [box b1 [.int .i64 b_0.Cap, .int .i64 b_0.Num, .int .i64 b_0.Den, .int .i64 b_0.Level, .int .i64 b_0.At], box b4 [.int .i64 r2.1.Cap, .int .i64 r2.1.Num, .int .i64 r2.1.Den, .int .i64 r2.1.Level, .int .i64 r2.1.At], box b7 [.int .i64 r5.1.Cap, .int .i64 r5.1.Num, .int .i64 r5.1.Den, .int .i64 r5.1.Level, .int .i64 r5.1.At], box b10 [.int .i64 r8.1.Cap, .int .i64 r8.1.Num, .int .i64 r8.1.Den, .int .i64 r8.1.Level, .int .i64 r8.1.At], box b17 [.int .i64 r15.B.Cap, .int .i64 r15.B.Num, .int .i64 r15.B.Den, .int .i64 r15.B.Level, .int .i64 r15.B.At, .int .i64 r15.E], box b20 [.int .i64 r18.B.Cap, .int .i64 r18.B.Num, .int .i64 r18.B.Den, .int .i64 r18.B.Level, .int .i64 r18.B.At, .int .i64 r18.E], box b23 [.int .i64 r21.B.Cap, .int .i64 r21.B.Num, .int .i64 r21.B.Den, .int .i64 r21.B.Level, .int .i64 r21.B.At, .int .i64 r21.E], box b26 [.int .i64 r24.N, .int .i64 r24.E], box b29 [.int .i64 r27.N, .int .i64 r27.E]]) (fun σ => σ = (((((decide (r2.1.Cap = r15.B.Cap) && (decide (r2.1.Num = r15.B.Num) && (decide (r2.1.Den = r15.B.Den) && (decide (r2.1.Level = r15.B.Level) && (decide (r2.1.At = r15.B.At)))))) && decide (r2.2 = r15.E)) && (decide (r5.1.Cap = r18.B.Cap) && (decide (r5.1.Num = r18.B.Num) && (decide (r5.1.Den = r18.B.Den) && (decide (r5.1.Level = r18.B.Level) && (decide (r5.1.At = r18.B.At))))))) && decide (r5.2 = r18.E)) && (decide (r8.1.Cap = r21.B.Cap) && (decide (r8.1.Num = r21.B.Num) && (decide (r8.1.Den = r21.B.Den) && (decide (r8.1.Level = r21.B.Level) && (decide (r8.1.At = r21.B.At)))))))) (fun L39 hL40 => ?_) ?_
  · refine ops_split 108 ((((decide (r2.1.Cap = r15.B.Cap) && (decide (r2.1.Num = r15.B.Num) && (decide (r2.1.Den = r15.B.Den) && (decide (r2.1.Level = r15.B.Level) && (decide (r2.1.At = r15.B.At)))))) && decide (r2.2 = r15.E)) && (decide (r5.1.Cap = r18.B.Cap) && (decide (r5.1.Num = r18.B.Num) && (decide (r5.1.Den = r18.B.Den) && (decide (r5.1.Level = r18.B.Level) && (decide (r5.1.At = r18.B.At))))))) && decide (r5.2 = r18.E)) rfl (fun hg41 => ?_) (fun hg41 => ?_)
    · skip
      refine ops_y (wg 22 true 108 rfl rfl rfl rfl) rfl (y_load_boxagg (c := [.int .i64 r8.1.Cap, .int .i64 r8.1.Num, .int .i64 r8.1.Den, .int .i64 r8.1.Level, .int .i64 r8.1.At]) 3 Try.isAgg23 Try.sizeOf23 rfl rfl rfl) ?_
      refine ops_y (wg 22 true 108 rfl rfl rfl rfl) rfl (y_fieldAddr_box (sz := 4) Try.runUnderlying33 rfl Try.sizeOf23 rfl) ?_
      refine ops_y (wg 22 true 108 rfl rfl rfl rfl) rfl (y_load_boxagg (c := [.int .i64 r21.B.Cap, .int .i64 r21.B.Num, .int .i64 r21.B.Den, .int .i64 r21.B.Level, .int .i64 r21.B.At]) 6 Try.isAgg23 Try.sizeOf23 rfl rfl rfl) ?_
      refine ops_y (wg 22 true 108 rfl rfl rfl rfl) rfl (y_eqS (by kernel_rfl) (by kernel_rfl) Try.runUnderlying23 rfl rfl (.cons (eqf_int (by decide) Try.runUnderlying3 Try.isAgg3 rfl rfl) (.cons (eqf_int (by decide) Try.runUnderlying3 Try.isAgg3 rfl rfl) (.cons (eqf_int (by decide) Try.runUnderlying3 Try.isAgg3 rfl rfl) (.cons (eqf_int (by decide) Try.runUnderlying3 Try.isAgg3 rfl rfl) (.cons (eqf_int (by decide) Try.runUnderlying3 Try.isAgg3 rfl rfl) EqFs.nil)))))) ?_
      refine ops_y (wn rfl) rfl (y_pick (b := true) rfl rfl) ?_
      refine ops_nil ?_
      exact goes_cut hL40 (decide (r8.1.Cap = r21.B.Cap) && (decide (r8.1.Num = r21.B.Num) && (decide (r8.1.Den = r21.B.Den) && (decide (r8.1.Level = r21.B.Level) && (decide (r8.1.At = r21.B.At)))))) [0, 1, 2, 3, 4, 5, 6, 7, 8] (vcons rfl (vcons rfl (vcons rfl (vcons rfl (vcons rfl (vcons rfl (vcons rfl (vcons rfl (vcons rfl (vcons rfl (vnil))))))))))) (by decide) rfl (by rw [hg41]; simp)
    · skip
      refine ops_no 22 true 108 rfl rfl rfl rfl rfl ?_
      refine ops_no 22 true 108 rfl rfl rfl rfl rfl ?_
      refine ops_no 22 true 108 rfl rfl rfl rfl rfl ?_
      refine ops_no 22 true 108 rfl rfl rfl rfl rfl ?_
      refine ops_y (wn rfl) rfl (y_pick (b := false) rfl rfl) ?_
      refine ops_nil ?_
      exact goes_cut hL40 false [0, 1, 2, 3, 4, 5, 6, 7, 8] (vcons rfl (vcons rfl (vcons rfl (vcons rfl (vcons rfl (vcons rfl (vcons rfl (vcons rfl (vcons rfl (vcons rfl (vnil))))))))))) (by decide) rfl (by rw [hg41]; simp)
  rintro _ rfl
  refine ops_y (wn rfl) rfl (y_move rfl) ?_
  refine ops_cut 5 Bool (fun σ => [(4, boxP b1 0), (15, .int .i64 r11.1), (16, .int .i64 r11.2), (17, .int .i64 r13.1), (18, .int .i64 r13.2), (22, boxP b26 0), (23, boxP b29 0), (119, .bool σ)]) (fun σ => [box b1 [.int .i64 b_0.Cap, .int .i64 b_0.Num, .int .i64 b_0.Den, .int .i64 b_0.Level, .int .i64 b_0.At], box b4 [.int .i64 r2.1.Cap, .int .i64 r2.1.Num, .int .i64 r2.1.Den, .int .i64 r2.1.Level, .int .i64 r2.1.At], box b7 [.int .i64 r5.1.Cap, .int .i64 r5.1.Num, .int .i64 r5.1.Den, .int .i64 r5.1.Level, .int .i64 r5.1.At], box b10 [.int .i64 r8.1.Cap, .int .i64 r8.1.Num, .int .i64 r8.1.Den, .int .i64 r8.1.Level, .int .i64 r8.1.At], box b17 [.int .i64 r15.B.Cap, .int .i64 r15.B.Num, .int .i64 r15.B.Den, .int .i64 r15.B.Level, .int .i64 r15.B.At, .int .i64 r15.E], box b20 [.int .i64 r18.B.Cap, .int .i64 r18.B.Num, .int .i64 r18.B.Den, .int .i64 r18.B.Level, .int .i64 r18.B.At, .int .i64 r18.E], box b23 [.int .i64 r21.B.Cap, .int .i64 r21.B.Num, .int .i64 r21.B.Den, .int .i64 r21.B.Level, .int .i64 r21.B.At, .int .i64 r21.E], box b26 [.int .i64 r24.N, .int .i64 r24.E], box b29 [.int .i64 r27.N, .int .i64 r27.E]]) (fun σ => σ = ((((((decide (r2.1.Cap = r15.B.Cap) && (decide (r2.1.Num = r15.B.Num) && (decide (r2.1.Den = r15.B.Den) && (decide (r2.1.Level = r15.B.Level) && (decide (r2.1.At = r15.B.At)))))) && decide (r2.2 = r15.E)) && (decide (r5.1.Cap = r18.B.Cap) && (decide (r5.1.Num = r18.B.Num) && (decide (r5.1.Den = r18.B.Den) && (decide (r5.1.Level = r18.B.Level) && (decide (r5.1.At = r18.B.At))))))) && decide (r5.2 = r18.E)) && (decide (r8.1.Cap = r21.B.Cap) && (decide (r8.1.Num = r21.B.Num) && (decide (r8.1.Den = r21.B.Den) && (decide (r8.1.Level = r21.B.Level) && (decide (r8.1.At = r21.B.At))))))) && decide (r8.2 = r21.E))) (fun L42 hL43 => ?_) ?_
  · refine ops_split 114 (((((decide (r2.1.Cap = r15.B.Cap) && (decide (r2.1.Num = r15.B.Num) && (decide (r2.1.Den = r15.B.Den) && (decide (r2.1.Level = r15.B.Level) && (decide (r2.1.At = r15.B.At)))))) && decide (r2.2 = r15.E)) && (decide (r5.1.Cap = r18.B.Cap) && (decide (r5.1.Num = r18.B.Num) && (decide (r5.1.Den = r18.B.Den) && (decide (r5.1.Level = r18.B.Level) && (decide (r5.1.At = r18.B.At))))))) && decide (r5.2 = r18.E)) && (decide (r8.1.Cap = r21.B.Cap) && (decide (r8.1.Num = r21.B.Num) && (decide (r8.1.Den = r21.B.Den) && (decide (r8.1.Level = r21.B.Level) && (decide (r8.1.At = r21.B.At))))))) rfl (fun hg44 => ?_) (fun hg44 => ?_)
    · skip
      refine ops_y (wg 28 true 114 rfl rfl rfl rfl) rfl (y_move rfl) ?_
      refine ops_y (wg 28 true 114 rfl rfl rfl rfl) rfl (y_fieldAddr_box (sz := 0) Try.runUnderlying33 rfl Try.sizeOf24 rfl) ?_
      refine ops_y (wg 28 true 114 rfl rfl rfl rfl) rfl (y_load_box 6 Try.isAgg24 rfl rfl rfl) ?_
      refine ops_y (wg 28 true 114 rfl rfl rfl rfl) rfl (y_eql rfl rfl) ?_
      refine ops_y (wn rfl) rfl (y_pick (b := true) rfl rfl) ?_
      refine ops_nil ?_
      exact goes_cut hL43 (decide (r8.2 = r21.E)) [0, 1, 2, 3, 4, 5, 6, 7, 8] (vcons rfl (vcons rfl (vcons rfl (vcons rfl (vcons rfl (vcons rfl (vcons rfl (vcons rfl (vnil))))))))) (by decide) rfl (by rw [hg44]; simp)
    · skip
      refine ops_no 28 true 114 rfl rfl rfl rfl rfl ?_
      refine ops_no 28 true 114 rfl rfl rfl rfl rfl ?_
      refine ops_no 28 true 114 rfl rfl rfl rfl rfl ?_
      refine ops_no 28 true 114 rfl rfl rfl rfl rfl ?_
      refine ops_y (wn rfl) rfl (y_pick (b := false) rfl rfl) ?_
      refine ops_nil ?_
      exact goes_cut hL43 false [0, 1, 2, 3, 4, 5, 6, 7, 8] (vcons rfl (vcons rfl (vcons rfl (vcons rfl (vcons rfl (vcons rfl (vcons rfl (vcons rfl (vnil))))))))) (by decide) rfl (by rw [hg44]; simp)
  rintro _ rfl
  refine ops_y (wn rfl) rfl (y_assign rfl) ?_
  refine ops_nil ?_
  refine goes_code ?_
  refine run_seq ?_
  refine run_drawany [box b1 [.int .i64 b_0.Cap, .int .i64 b_0.Num, .int .i64 b_0.Den, .int .i64 b_0.Level, .int .i64 b_0.At], box b4 [.int .i64 r2.1.Cap, .int .i64 r2.1.Num, .int .i64 r2.1.Den, .int .i64 r2.1.Level, .int .i64 r2.1.At], box b7 [.int .i64 r5.1.Cap, .int .i64 r5.1.Num, .int .i64 r5.1.Den, .int .i64 r5.1.Level, .int .i64 r5.1.At], box b10 [.int .i64 r8.1.Cap, .int .i64 r8.1.Num, .int .i64 r8.1.Den, .int .i64 r8.1.Level, .int .i64 r8.1.At], box b17 [.int .i64 r15.B.Cap, .int .i64 r15.B.Num, .int .i64 r15.B.Den, .int .i64 r15.B.Level, .int .i64 r15.B.At, .int .i64 r15.E], box b20 [.int .i64 r18.B.Cap, .int .i64 r18.B.Num, .int .i64 r18.B.Den, .int .i64 r18.B.Level, .int .i64 r18.B.At, .int .i64 r18.E], box b23 [.int .i64 r21.B.Cap, .int .i64 r21.B.Num, .int .i64 r21.B.Den, .int .i64 r21.B.Level, .int .i64 r21.B.At, .int .i64 r21.E], box b26 [.int .i64 r24.N, .int .i64 r24.E], box b29 [.int .i64 r27.N, .int .i64 r27.E]] (by kernel_rfl) ?_
  refine any_all [0] (by kernel_rfl) rfl (anyo_cons ?_ anyo_nil)
  obtain ⟨r45, hr46, h⟩ := bind_some h
  refine any_t rfl (wn rfl) rfl (t_call (vs := []) (cs := []) [] rfl Try.call19 rfl (law12_sanity_ok n   hr46) shows_nil (.inl rfl)) ?_
  rintro _ _ ⟨_, ⟨rfl, rfl⟩, rfl⟩
  refine ⟨(sub_same (sub_same (sub_same (sub_same (sub_same (sub_same (sub_same (sub_same (sub_same (sub_nil)))))))))), ?_⟩
  refine any_y 1 rfl (by kernel_rfl) (by kernel_rfl) (by kernel_rfl) (sub_same (sub_same (sub_same (sub_same (sub_same (sub_same (sub_same (sub_same (sub_same (sub_nil)))))))))) (wn rfl) rfl (y_move rfl) ?_
  refine any_cut #[true, true, true, true, false, false, false, false, false, false, false, false, false, false, false, false, false, false, false, false, false, false, false, false, false, false, false, false, false, false, false, false, false, false, false, false, false, false, false, false, false, false, false] 39 Bool (fun σ => [(4, boxP b1 0), (15, .int .i64 r11.1), (16, .int .i64 r11.2), (17, .int .i64 r13.1), (18, .int .i64 r13.2), (22, boxP b26 0), (23, boxP b29 0), (123, .bool σ)]) (fun σ => [box b1 [.int .i64 b_0.Cap, .int .i64 b_0.Num, .int .i64 b_0.Den, .int .i64 b_0.Level, .int .i64 b_0.At], box b4 [.int .i64 r2.1.Cap, .int .i64 r2.1.Num, .int .i64 r2.1.Den, .int .i64 r2.1.Level, .int .i64 r2.1.At], box b7 [.int .i64 r5.1.Cap, .int .i64 r5.1.Num, .int .i64 r5.1.Den, .int .i64 r5.1.Level, .int .i64 r5.1.At], box b10 [.int .i64 r8.1.Cap, .int .i64 r8.1.Num, .int .i64 r8.1.Den, .int .i64 r8.1.Level, .int .i64 r8.1.At], box b17 [.int .i64 r15.B.Cap, .int .i64 r15.B.Num, .int .i64 r15.B.Den, .int .i64 r15.B.Level, .int .i64 r15.B.At, .int .i64 r15.E], box b20 [.int .i64 r18.B.Cap, .int .i64 r18.B.Num, .int .i64 r18.B.Den, .int .i64 r18.B.Level, .int .i64 r18.B.At, .int .i64 r18.E], box b23 [.int .i64 r21.B.Cap, .int .i64 r21.B.Num, .int .i64 r21.B.Den, .int .i64 r21.B.Level, .int .i64 r21.B.At, .int .i64 r21.E], box b26 [.int .i64 r24.N, .int .i64 r24.E], box b29 [.int .i64 r27.N, .int .i64 r27.E]]) (fun σ => σ = (r45 && ((((((decide (r2.1.Cap = r15.B.Cap) && (decide (r2.1.Num = r15.B.Num) && (decide (r2.1.Den = r15.B.Den) && (decide (r2.1.Level = r15.B.Level) && (decide (r2.1.At = r15.B.At)))))) && decide (r2.2 = r15.E)) && (decide (r5.1.Cap = r18.B.Cap) && (decide (r5.1.Num = r18.B.Num) && (decide (r5.1.Den = r18.B.Den) && (decide (r5.1.Level = r18.B.Level) && (decide (r5.1.At = r18.B.At))))))) && decide (r5.2 = r18.E)) && (decide (r8.1.Cap = r21.B.Cap) && (decide (r8.1.Num = r21.B.Num) && (decide (r8.1.Den = r21.B.Den) && (decide (r8.1.Level = r21.B.Level) && (decide (r8.1.At = r21.B.At))))))) && decide (r8.2 = r21.E)))) (fun hL48 => ?_) ?_
  · refine any_split 121 r45 rfl (fun hg49 => ?_) (fun hg49 => ?_)
    · skip
      refine any_y 2 rfl (by kernel_rfl) (by kernel_rfl) (by kernel_rfl) (sub_same (sub_same (sub_same (sub_same (sub_same (sub_same (sub_same (sub_same (sub_same (sub_nil)))))))))) (wg 1 true 121 rfl rfl rfl rfl) rfl (y_move rfl) ?_
      refine any_y 3 rfl (by kernel_rfl) (by kernel_rfl) (by kernel_rfl) (sub_same (sub_same (sub_same (sub_same (sub_same (sub_same (sub_same (sub_same (sub_same (sub_nil)))))))))) (wn rfl) rfl (y_pick (b := true) rfl rfl) ?_
      exact any_weak [(4, boxP b1 0), (15, .int .i64 r11.1), (16, .int .i64 r11.2), (17, .int .i64 r13.1), (18, .int .i64 r13.2), (22, boxP b26 0), (23, boxP b29 0), (123, .bool ((((((decide (r2.1.Cap = r15.B.Cap) && (decide (r2.1.Num = r15.B.Num) && (decide (r2.1.Den = r15.B.Den) && (decide (r2.1.Level = r15.B.Level) && (decide (r2.1.At = r15.B.At)))))) && decide (r2.2 = r15.E)) && (decide (r5.1.Cap = r18.B.Cap) && (decide (r5.1.Num = r18.B.Num) && (decide (r5.1.Den = r18.B.Den) && (decide (r5.1.Level = r18.B.Level) && (decide (r5.1.At = r18.B.At))))))) && decide (r5.2 = r18.E)) && (decide (r8.1.Cap = r21.B.Cap) && (decide (r8.1.Num = r21.B.Num) && (decide (r8.1.Den = r21.B.Den) && (decide (r8.1.Level = r21.B.Level) && (decide (r8.1.At = r21.B.At))))))) && decide (r8.2 = r21.E)))] [0, 1, 2, 3, 4, 5, 6, 7, 8] [box b1 [.int .i64 b_0.Cap, .int .i64 b_0.Num, .int .i64 b_0.Den, .int .i64 b_0.Level, .int .i64 b_0.At], box b4 [.int .i64 r2.1.Cap, .int .i64 r2.1.Num, .int .i64 r2.1.Den, .int .i64 r2.1.Level, .int .i64 r2.1.At], box b7 [.int .i64 r5.1.Cap, .int .i64 r5.1.Num, .int .i64 r5.1.Den, .int .i64 r5.1.Level, .int .i64 r5.1.At], box b10 [.int .i64 r8.1.Cap, .int .i64 r8.1.Num, .int .i64 r8.1.Den, .int .i64 r8.1.Level, .int .i64 r8.1.At], box b17 [.int .i64 r15.B.Cap, .int .i64 r15.B.Num, .int .i64 r15.B.Den, .int .i64 r15.B.Level, .int .i64 r15.B.At, .int .i64 r15.E], box b20 [.int .i64 r18.B.Cap, .int .i64 r18.B.Num, .int .i64 r18.B.Den, .int .i64 r18.B.Level, .int .i64 r18.B.At, .int .i64 r18.E], box b23 [.int .i64 r21.B.Cap, .int .i64 r21.B.Num, .int .i64 r21.B.Den, .int .i64 r21.B.Level, .int .i64 r21.B.At, .int .i64 r21.E], box b26 [.int .i64 r24.N, .int .i64 r24.E], box b29 [.int .i64 r27.N, .int .i64 r27.E]] (by kernel_rfl) (vcons rfl (vcons rfl (vcons rfl (vcons rfl (vcons rfl (vcons rfl (vcons rfl (vcons rfl (vnil))))))))) (by decide) rfl (hL48 ((((((decide (r2.1.Cap = r15.B.Cap) && (decide (r2.1.Num = r15.B.Num) && (decide (r2.1.Den = r15.B.Den) && (decide (r2.1.Level = r15.B.Level) && (decide (r2.1.At = r15.B.At)))))) && decide (r2.2 = r15.E)) && (decide (r5.1.Cap = r18.B.Cap) && (decide (r5.1.Num = r18.B.Num) && (decide (r5.1.Den = r18.B.Den) && (decide (r5.1.Level = r18.B.Level) && (decide (r5.1.At = r18.B.At))))))) && decide (r5.2 = r18.E)) && (decide (r8.1.Cap = r21.B.Cap) && (decide (r8.1.Num = r21.B.Num) && (decide (r8.1.Den = r21.B.Den) && (decide (r8.1.Level = r21.B.Level) && (decide (r8.1.At = r21.B.At))))))) && decide (r8.2 = r21.E)) (by rw [hg49]; simp))
    · skip
      refine any_no 2 rfl (by kernel_rfl) (by kernel_rfl) (by kernel_rfl) (sub_same (sub_same (sub_same (sub_same (sub_same (sub_same (sub_same (sub_same (sub_same (sub_nil)))))))))) 1 true 121 rfl rfl rfl rfl rfl ?_
      refine any_y 3 rfl (by kernel_rfl) (by kernel_rfl) (by kernel_rfl) (sub_same (sub_same (sub_same (sub_same (sub_same (sub_same (sub_same (sub_same (sub_same (sub_nil)))))))))) (wn rfl) rfl (y_pick (b := false) rfl rfl) ?_
      exact any_weak [(4, boxP b1 0), (15, .int .i64 r11.1), (16, .int .i64 r11.2), (17, .int .i64 r13.1), (18, .int .i64 r13.2), (22, boxP b26 0), (23, boxP b29 0), (123, .bool false)] [0, 1, 2, 3, 4, 5, 6, 7, 8] [box b1 [.int .i64 b_0.Cap, .int .i64 b_0.Num, .int .i64 b_0.Den, .int .i64 b_0.Level, .int .i64 b_0.At], box b4 [.int .i64 r2.1.Cap, .int .i64 r2.1.Num, .int .i64 r2.1.Den, .int .i64 r2.1.Level, .int .i64 r2.1.At], box b7 [.int .i64 r5.1.Cap, .int .i64 r5.1.Num, .int .i64 r5.1.Den, .int .i64 r5.1.Level, .int .i64 r5.1.At], box b10 [.int .i64 r8.1.Cap, .int .i64 r8.1.Num, .int .i64 r8.1.Den, .int .i64 r8.1.Level, .int .i64 r8.1.At], box b17 [.int .i64 r15.B.Cap, .int .i64 r15.B.Num, .int .i64 r15.B.Den, .int .i64 r15.B.Level, .int .i64 r15.B.At, .int .i64 r15.E], box b20 [.int .i64 r18.B.Cap, .int .i64 r18.B.Num, .int .i64 r18.B.Den, .int .i64 r18.B.Level, .int .i64 r18.B.At, .int .i64 r18.E], box b23 [.int .i64 r21.B.Cap, .int .i64 r21.B.Num, .int .i64 r21.B.Den, .int .i64 r21.B.Level, .int .i64 r21.B.At, .int .i64 r21.E], box b26 [.int .i64 r24.N, .int .i64 r24.E], box b29 [.int .i64 r27.N, .int .i64 r27.E]] (by kernel_rfl) (vcons rfl (vcons rfl (vcons rfl (vcons rfl (vcons rfl (vcons rfl (vcons rfl (vcons rfl (vnil))))))))) (by decide) rfl (hL48 false (by rw [hg49]; simp))
  rintro _ rfl
  refine any_y 4 rfl (by kernel_rfl) (by kernel_rfl) (by kernel_rfl) (sub_same (sub_same (sub_same (sub_same (sub_same (sub_same (sub_same (sub_same (sub_same (sub_nil)))))))))) (wn rfl) rfl (y_move rfl) ?_
  refine any_cut #[true, true, true, true, true, true, true, true, true, true, false, false, false, false, false, false, false, false, false, false, false, false, false, false, false, false, false, false, false, false, false, false, false, false, false, false, false, false, false, false, false, false, false] 33 Bool (fun σ => [(4, boxP b1 0), (16, .int .i64 r11.2), (17, .int .i64 r13.1), (18, .int .i64 r13.2), (22, boxP b26 0), (23, boxP b29 0), (129, .bool σ)]) (fun σ => [box b1 [.int .i64 b_0.Cap, .int .i64 b_0.Num, .int .i64 b_0.Den, .int .i64 b_0.Level, .int .i64 b_0.At], box b4 [.int .i64 r2.1.Cap, .int .i64 r2.1.Num, .int .i64 r2.1.Den, .int .i64 r2.1.Level, .int .i64 r2.1.At], box b7 [.int .i64 r5.1.Cap, .int .i64 r5.1.Num, .int .i64 r5.1.Den, .int .i64 r5.1.Level, .int .i64 r5.1.At], box b10 [.int .i64 r8.1.Cap, .int .i64 r8.1.Num, .int .i64 r8.1.Den, .int .i64 r8.1.Level, .int .i64 r8.1.At], box b17 [.int .i64 r15.B.Cap, .int .i64 r15.B.Num, .int .i64 r15.B.Den, .int .i64 r15.B.Level, .int .i64 r15.B.At, .int .i64 r15.E], box b20 [.int .i64 r18.B.Cap, .int .i64 r18.B.Num, .int .i64 r18.B.Den, .int .i64 r18.B.Level, .int .i64 r18.B.At, .int .i64 r18.E], box b23 [.int .i64 r21.B.Cap, .int .i64 r21.B.Num, .int .i64 r21.B.Den, .int .i64 r21.B.Level, .int .i64 r21.B.At, .int .i64 r21.E], box b26 [.int .i64 r24.N, .int .i64 r24.E], box b29 [.int .i64 r27.N, .int .i64 r27.E]]) (fun σ => σ = ((r45 && ((((((decide (r2.1.Cap = r15.B.Cap) && (decide (r2.1.Num = r15.B.Num) && (decide (r2.1.Den = r15.B.Den) && (decide (r2.1.Level = r15.B.Level) && (decide (r2.1.At = r15.B.At)))))) && decide (r2.2 = r15.E)) && (decide (r5.1.Cap = r18.B.Cap) && (decide (r5.1.Num = r18.B.Num) && (decide (r5.1.Den = r18.B.Den) && (decide (r5.1.Level = r18.B.Level) && (decide (r5.1.At = r18.B.At))))))) && decide (r5.2 = r18.E)) && (decide (r8.1.Cap = r21.B.Cap) && (decide (r8.1.Num = r21.B.Num) && (decide (r8.1.Den = r21.B.Den) && (decide (r8.1.Level = r21.B.Level) && (decide (r8.1.At = r21.B.At))))))) && decide (r8.2 = r21.E))) && decide (r11.1 = r24.N))) (fun hL51 => ?_) ?_
  · refine any_split 124 (r45 && ((((((decide (r2.1.Cap = r15.B.Cap) && (decide (r2.1.Num = r15.B.Num) && (decide (r2.1.Den = r15.B.Den) && (decide (r2.1.Level = r15.B.Level) && (decide (r2.1.At = r15.B.At)))))) && decide (r2.2 = r15.E)) && (decide (r5.1.Cap = r18.B.Cap) && (decide (r5.1.Num = r18.B.Num) && (decide (r5.1.Den = r18.B.Den) && (decide (r5.1.Level = r18.B.Level) && (decide (r5.1.At = r18.B.At))))))) && decide (r5.2 = r18.E)) && (decide (r8.1.Cap = r21.B.Cap) && (decide (r8.1.Num = r21.B.Num) && (decide (r8.1.Den = r21.B.Den) && (decide (r8.1.Level = r21.B.Level) && (decide (r8.1.At = r21.B.At))))))) && decide (r8.2 = r21.E))) rfl (fun hg52 => ?_) (fun hg52 => ?_)
    · skip
      refine any_y 5 rfl (by kernel_rfl) (by kernel_rfl) (by kernel_rfl) (sub_same (sub_same (sub_same (sub_same (sub_same (sub_same (sub_same (sub_same (sub_same (sub_nil)))))))))) (wg 4 true 124 rfl rfl rfl rfl) rfl (y_move rfl) ?_
      refine any_y 6 rfl (by kernel_rfl) (by kernel_rfl) (by kernel_rfl) (sub_same (sub_same (sub_same (sub_same (sub_same (sub_same (sub_same (sub_same (sub_same (sub_nil)))))))))) (wg 4 true 124 rfl rfl rfl rfl) rfl (y_fieldAddr_box (sz := 0) Try.runUnderlying38 rfl Try.sizeOf3 rfl) ?_
      refine any_y 7 rfl (by kernel_rfl) (by kernel_rfl) (by kernel_rfl) (sub_same (sub_same (sub_same (sub_same (sub_same (sub_same (sub_same (sub_same (sub_same (sub_nil)))))))))) (wg 4 true 124 rfl rfl rfl rfl) rfl (y_load_box 7 Try.isAgg3 rfl rfl rfl) ?_
      refine any_y 8 rfl (by kernel_rfl) (by kernel_rfl) (by kernel_rfl) (sub_same (sub_same (sub_same (sub_same (sub_same (sub_same (sub_same (sub_same (sub_same (sub_nil)))))))))) (wg 4 true 124 rfl rfl rfl rfl) rfl (y_eql rfl rfl) ?_
      refine any_y 9 rfl (by kernel_rfl) (by kernel_rfl) (by kernel_rfl) (sub_same (sub_same (sub_same (sub_same (sub_same (sub_same (sub_same (sub_same (sub_same (sub_nil)))))))))) (wn rfl) rfl (y_pick (b := true) rfl rfl) ?_
      exact any_weak [(4, boxP b1 0), (16, .int .i64 r11.2), (17, .int .i64 r13.1), (18, .int .i64 r13.2), (22, boxP b26 0), (23, boxP b29 0), (129, .bool (decide (r11.1 = r24.N)))] [0, 1, 2, 3, 4, 5, 6, 7, 8] [box b1 [.int .i64 b_0.Cap, .int .i64 b_0.Num, .int .i64 b_0.Den, .int .i64 b_0.Level, .int .i64 b_0.At], box b4 [.int .i64 r2.1.Cap, .int .i64 r2.1.Num, .int .i64 r2.1.Den, .int .i64 r2.1.Level, .int .i64 r2.1.At], box b7 [.int .i64 r5.1.Cap, .int .i64 r5.1.Num, .int .i64 r5.1.Den, .int .i64 r5.1.Level, .int .i64 r5.1.At], box b10 [.int .i64 r8.1.Cap, .int .i64 r8.1.Num, .int .i64 r8.1.Den, .int .i64 r8.1.Level, .int .i64 r8.1.At], box b17 [.int .i64 r15.B.Cap, .int .i64 r15.B.Num, .int .i64 r15.B.Den, .int .i64 r15.B.Level, .int .i64 r15.B.At, .int .i64 r15.E], box b20 [.int .i64 r18.B.Cap, .int .i64 r18.B.Num, .int .i64 r18.B.Den, .int .i64 r18.B.Level, .int .i64 r18.B.At, .int .i64 r18.E], box b23 [.int .i64 r21.B.Cap, .int .i64 r21.B.Num, .int .i64 r21.B.Den, .int .i64 r21.B.Level, .int .i64 r21.B.At, .int .i64 r21.E], box b26 [.int .i64 r24.N, .int .i64 r24.E], box b29 [.int .i64 r27.N, .int .i64 r27.E]] (by kernel_rfl) (vcons rfl (vcons rfl (vcons rfl (vcons rfl (vcons rfl (vcons rfl (vcons rfl (vnil)))))))) (by decide) rfl (hL51 (decide (r11.1 = r24.N)) (by rw [hg52]; simp))
    · skip
      refine any_no 5 rfl (by kernel_rfl) (by kernel_rfl) (by kernel_rfl) (sub_same (sub_same (sub_same (sub_same (sub_same (sub_same (sub_same (sub_same (sub_same (sub_nil)))))))))) 4 true 124 rfl rfl rfl rfl rfl ?_
      refine any_no 6 rfl (by kernel_rfl) (by kernel_rfl) (by kernel_rfl) (sub_same (sub_same (sub_same (sub_same (sub_same (sub_same (sub_same (sub_same (sub_same (sub_nil)))))))))) 4 true 124 rfl rfl rfl rfl rfl ?_
      refine any_no 7 rfl (by kernel_rfl) (by kernel_rfl) (by kernel_rfl) (sub_same (sub_same (sub_same (sub_same (sub_same (sub_same (sub_same (sub_same (sub_same (sub_nil)))))))))) 4 true 124 rfl rfl rfl rfl rfl ?_
      refine any_no 8 rfl (by kernel_rfl) (by kernel_rfl) (by kernel_rfl) (sub_same (sub_same (sub_same (sub_same (sub_same (sub_same (sub_same (sub_same (sub_same (sub_nil)))))))))) 4 true 124 rfl rfl rfl rfl rfl ?_
      refine any_y 9 rfl (by kernel_rfl) (by kernel_rfl) (by kernel_rfl) (sub_same (sub_same (sub_same (sub_same (sub_same (sub_same (sub_same (sub_same (sub_same (sub_nil)))))))))) (wn rfl) rfl (y_pick (b := false) rfl rfl) ?_
      exact any_weak [(4, boxP b1 0), (16, .int .i64 r11.2), (17, .int .i64 r13.1), (18, .int .i64 r13.2), (22, boxP b26 0), (23, boxP b29 0), (129, .bool false)] [0, 1, 2, 3, 4, 5, 6, 7, 8] [box b1 [.int .i64 b_0.Cap, .int .i64 b_0.Num, .int .i64 b_0.Den, .int .i64 b_0.Level, .int .i64 b_0.At], box b4 [.int .i64 r2.1.Cap, .int .i64 r2.1.Num, .int .i64 r2.1.Den, .int .i64 r2.1.Level, .int .i64 r2.1.At], box b7 [.int .i64 r5.1.Cap, .int .i64 r5.1.Num, .int .i64 r5.1.Den, .int .i64 r5.1.Level, .int .i64 r5.1.At], box b10 [.int .i64 r8.1.Cap, .int .i64 r8.1.Num, .int .i64 r8.1.Den, .int .i64 r8.1.Level, .int .i64 r8.1.At], box b17 [.int .i64 r15.B.Cap, .int .i64 r15.B.Num, .int .i64 r15.B.Den, .int .i64 r15.B.Level, .int .i64 r15.B.At, .int .i64 r15.E], box b20 [.int .i64 r18.B.Cap, .int .i64 r18.B.Num, .int .i64 r18.B.Den, .int .i64 r18.B.Level, .int .i64 r18.B.At, .int .i64 r18.E], box b23 [.int .i64 r21.B.Cap, .int .i64 r21.B.Num, .int .i64 r21.B.Den, .int .i64 r21.B.Level, .int .i64 r21.B.At, .int .i64 r21.E], box b26 [.int .i64 r24.N, .int .i64 r24.E], box b29 [.int .i64 r27.N, .int .i64 r27.E]] (by kernel_rfl) (vcons rfl (vcons rfl (vcons rfl (vcons rfl (vcons rfl (vcons rfl (vcons rfl (vnil)))))))) (by decide) rfl (hL51 false (by rw [hg52]; simp))
  rintro _ rfl
  refine any_y 10 rfl (by kernel_rfl) (by kernel_rfl) (by kernel_rfl) (sub_same (sub_same (sub_same (sub_same (sub_same (sub_same (sub_same (sub_same (sub_same (sub_nil)))))))))) (wn rfl) rfl (y_move rfl) ?_
  refine any_cut #[true, true, true, true, true, true, true, true, true, true, true, true, true, true, true, true, false, false, false, false, false, false, false, false, false, false, false, false, false, false, false, false, false, false, false, false, false, false, false, false, false, false, false] 27 Bool (fun σ => [(4, boxP b1 0), (17, .int .i64 r13.1), (18, .int .i64 r13.2), (23, boxP b29 0), (135, .bool σ)]) (fun σ => [box b1 [.int .i64 b_0.Cap, .int .i64 b_0.Num, .int .i64 b_0.Den, .int .i64 b_0.Level, .int .i64 b_0.At], box b4 [.int .i64 r2.1.Cap, .int .i64 r2.1.Num, .int .i64 r2.1.Den, .int .i64 r2.1.Level, .int .i64 r2.1.At], box b7 [.int .i64 r5.1.Cap, .int .i64 r5.1.Num, .int .i64 r5.1.Den, .int .i64 r5.1.Level, .int .i64 r5.1.At], box b10 [.int .i64 r8.1.Cap, .int .i64 r8.1.Num, .int .i64 r8.1.Den, .int .i64 r8.1.Level, .int .i64 r8.1.At], box b17 [.int .i64 r15.B.Cap, .int .i64 r15.B.Num, .int .i64 r15.B.Den, .int .i64 r15.B.Level, .int .i64 r15.B.At, .int .i64 r15.E], box b20 [.int .i64 r18.B.Cap, .int .i64 r18.B.Num, .int .i64 r18.B.Den, .int .i64 r18.B.Level, .int .i64 r18.B.At, .int .i64 r18.E], box b23 [.int .i64 r21.B.Cap, .int .i64 r21.B.Num, .int .i64 r21.B.Den, .int .i64 r21.B.Level, .int .i64 r21.B.At, .int .i64 r21.E], box b26 [.int .i64 r24.N, .int .i64 r24.E], box b29 [.int .i64 r27.N, .int .i64 r27.E]]) (fun σ => σ = (((r45 && ((((((decide (r2.1.Cap = r15.B.Cap) && (decide (r2.1.Num = r15.B.Num) && (decide (r2.1.Den = r15.B.Den) && (decide (r2.1.Level = r15.B.Level) && (decide (r2.1.At = r15.B.At)))))) && decide (r2.2 = r15.E)) && (decide (r5.1.Cap = r18.B.Cap) && (decide (r5.1.Num = r18.B.Num) && (decide (r5.1.Den = r18.B.Den) && (decide (r5.1.Level = r18.B.Level) && (decide (r5.1.At = r18.B.At))))))) && decide (r5.2 = r18.E)) && (decide (r8.1.Cap = r21.B.Cap) && (decide (r8.1.Num = r21.B.Num) && (decide (r8.1.Den = r21.B.Den) && (decide (r8.1.Level = r21.B.Level) && (decide (r8.1.At = r21.B.At))))))) && decide (r8.2 = r21.E))) && decide (r11.1 = r24.N)) && decide (r11.2 = r24.E))) (fun hL54 => ?_) ?_
  · refine any_split 130 ((r45 && ((((((decide (r2.1.Cap = r15.B.Cap) && (decide (r2.1.Num = r15.B.Num) && (decide (r2.1.Den = r15.B.Den) && (decide (r2.1.Level = r15.B.Level) && (decide (r2.1.At = r15.B.At)))))) && decide (r2.2 = r15.E)) && (decide (r5.1.Cap = r18.B.Cap) && (decide (r5.1.Num = r18.B.Num) && (decide (r5.1.Den = r18.B.Den) && (decide (r5.1.Level = r18.B.Level) && (decide (r5.1.At = r18.B.At))))))) && decide (r5.2 = r18.E)) && (decide (r8.1.Cap = r21.B.Cap) && (decide (r8.1.Num = r21.B.Num) && (decide (r8.1.Den = r21.B.Den) && (decide (r8.1.Level = r21.B.Level) && (decide (r8.1.At = r21.B.At))))))) && decide (r8.2 = r21.E))) && decide (r11.1 = r24.N)) rfl (fun hg55 => ?_) (fun hg55 => ?_)
    · skip
      refine any_y 11 rfl (by kernel_rfl) (by kernel_rfl) (by kernel_rfl) (sub_same (sub_same (sub_same (sub_same (sub_same (sub_same (sub_same (sub_same (sub_same (sub_nil)))))))))) (wg 10 true 130 rfl rfl rfl rfl) rfl (y_move rfl) ?_
      refine any_y 12 rfl (by kernel_rfl) (by kernel_rfl) (by kernel_rfl) (sub_same (sub_same (sub_same (sub_same (sub_same (sub_same (sub_same (sub_same (sub_same (sub_nil)))))))))) (wg 10 true 130 rfl rfl rfl rfl) rfl (y_fieldAddr_box (sz := 0) Try.runUnderlying38 rfl Try.sizeOf24 rfl) ?_
      refine any_y 13 rfl (by kernel_rfl) (by kernel_rfl) (by kernel_rfl) (sub_same (sub_same (sub_same (sub_same (sub_same (sub_same (sub_same (sub_same (sub_same (sub_nil)))))))))) (wg 10 true 130 rfl rfl rfl rfl) rfl (y_load_box 7 Try.isAgg24 rfl rfl rfl) ?_
      refine any_y 14 rfl (by kernel_rfl) (by kernel_rfl) (by kernel_rfl) (sub_same (sub_same (sub_same (sub_same (sub_same (sub_same (sub_same (sub_same (sub_same (sub_nil)))))))))) (wg 10 true 130 rfl rfl rfl rfl) rfl (y_eql rfl rfl) ?_
      refine any_y 15 rfl (by kernel_rfl) (by kernel_rfl) (by kernel_rfl) (sub_same (sub_same (sub_same (sub_same (sub_same (sub_same (sub_same (sub_same (sub_same (sub_nil)))))))))) (wn rfl) rfl (y_pick (b := true) rfl rfl) ?_
      exact any_weak [(4, boxP b1 0), (17, .int .i64 r13.1), (18, .int .i64 r13.2), (23, boxP b29 0), (135, .bool (decide (r11.2 = r24.E)))] [0, 1, 2, 3, 4, 5, 6, 7, 8] [box b1 [.int .i64 b_0.Cap, .int .i64 b_0.Num, .int .i64 b_0.Den, .int .i64 b_0.Level, .int .i64 b_0.At], box b4 [.int .i64 r2.1.Cap, .int .i64 r2.1.Num, .int .i64 r2.1.Den, .int .i64 r2.1.Level, .int .i64 r2.1.At], box b7 [.int .i64 r5.1.Cap, .int .i64 r5.1.Num, .int .i64 r5.1.Den, .int .i64 r5.1.Level, .int .i64 r5.1.At], box b10 [.int .i64 r8.1.Cap, .int .i64 r8.1.Num, .int .i64 r8.1.Den, .int .i64 r8.1.Level, .int .i64 r8.1.At], box b17 [.int .i64 r15.B.Cap, .int .i64 r15.B.Num, .int .i64 r15.B.Den, .int .i64 r15.B.Level, .int .i64 r15.B.At, .int .i64 r15.E], box b20 [.int .i64 r18.B.Cap, .int .i64 r18.B.Num, .int .i64 r18.B.Den, .int .i64 r18.B.Level, .int .i64 r18.B.At, .int .i64 r18.E], box b23 [.int .i64 r21.B.Cap, .int .i64 r21.B.Num, .int .i64 r21.B.Den, .int .i64 r21.B.Level, .int .i64 r21.B.At, .int .i64 r21.E], box b26 [.int .i64 r24.N, .int .i64 r24.E], box b29 [.int .i64 r27.N, .int .i64 r27.E]] (by kernel_rfl) (vcons rfl (vcons rfl (vcons rfl (vcons rfl (vcons rfl (vnil)))))) (by decide) rfl (hL54 (decide (r11.2 = r24.E)) (by rw [hg55]; simp))
    · skip
      refine any_no 11 rfl (by kernel_rfl) (by kernel_rfl) (by kernel_rfl) (sub_same (sub_same (sub_same (sub_same (sub_same (sub_same (sub_same (sub_same (sub_same (sub_nil)))))))))) 10 true 130 rfl rfl rfl rfl rfl ?_
      refine any_no 12 rfl (by kernel_rfl) (by kernel_rfl) (by kernel_rfl) (sub_same (sub_same (sub_same (sub_same (sub_same (sub_same (sub_same (sub_same (sub_same (sub_nil)))))))))) 10 true 130 rfl rfl rfl rfl rfl ?_
      refine any_no 13 rfl (by kernel_rfl) (by kernel_rfl) (by kernel_rfl) (sub_same (sub_same (sub_same (sub_same (sub_same (sub_same (sub_same (sub_same (sub_same (sub_nil)))))))))) 10 true 130 rfl rfl rfl rfl rfl ?_
      refine any_no 14 rfl (by kernel_rfl) (by kernel_rfl) (by kernel_rfl) (sub_same (sub_same (sub_same (sub_same (sub_same (sub_same (sub_same (sub_same (sub_same (sub_nil)))))))))) 10 true 130 rfl rfl rfl rfl rfl ?_
      refine any_y 15 rfl (by kernel_rfl) (by kernel_rfl) (by kernel_rfl) (sub_same (sub_same (sub_same (sub_same (sub_same (sub_same (sub_same (sub_same (sub_same (sub_nil)))))))))) (wn rfl) rfl (y_pick (b := false) rfl rfl) ?_
      exact any_weak [(4, boxP b1 0), (17, .int .i64 r13.1), (18, .int .i64 r13.2), (23, boxP b29 0), (135, .bool false)] [0, 1, 2, 3, 4, 5, 6, 7, 8] [box b1 [.int .i64 b_0.Cap, .int .i64 b_0.Num, .int .i64 b_0.Den, .int .i64 b_0.Level, .int .i64 b_0.At], box b4 [.int .i64 r2.1.Cap, .int .i64 r2.1.Num, .int .i64 r2.1.Den, .int .i64 r2.1.Level, .int .i64 r2.1.At], box b7 [.int .i64 r5.1.Cap, .int .i64 r5.1.Num, .int .i64 r5.1.Den, .int .i64 r5.1.Level, .int .i64 r5.1.At], box b10 [.int .i64 r8.1.Cap, .int .i64 r8.1.Num, .int .i64 r8.1.Den, .int .i64 r8.1.Level, .int .i64 r8.1.At], box b17 [.int .i64 r15.B.Cap, .int .i64 r15.B.Num, .int .i64 r15.B.Den, .int .i64 r15.B.Level, .int .i64 r15.B.At, .int .i64 r15.E], box b20 [.int .i64 r18.B.Cap, .int .i64 r18.B.Num, .int .i64 r18.B.Den, .int .i64 r18.B.Level, .int .i64 r18.B.At, .int .i64 r18.E], box b23 [.int .i64 r21.B.Cap, .int .i64 r21.B.Num, .int .i64 r21.B.Den, .int .i64 r21.B.Level, .int .i64 r21.B.At, .int .i64 r21.E], box b26 [.int .i64 r24.N, .int .i64 r24.E], box b29 [.int .i64 r27.N, .int .i64 r27.E]] (by kernel_rfl) (vcons rfl (vcons rfl (vcons rfl (vcons rfl (vcons rfl (vnil)))))) (by decide) rfl (hL54 false (by rw [hg55]; simp))
  rintro _ rfl
  refine any_y 16 rfl (by kernel_rfl) (by kernel_rfl) (by kernel_rfl) (sub_same (sub_same (sub_same (sub_same (sub_same (sub_same (sub_same (sub_same (sub_same (sub_nil)))))))))) (wn rfl) rfl (y_move rfl) ?_
  refine any_cut #[true, true, true, true, true, true, true, true, true, true, true, true, true, true, true, true, true, true, true, true, true, true, false, false, false, false, false, false, false, false, false, false, false, false, false, false, false, false, false, false, false, false, false] 21 Bool (fun σ => [(4, boxP b1 0), (18, .int .i64 r13.2), (23, boxP b29 0), (141, .bool σ)]) (fun σ => [box b1 [.int .i64 b_0.Cap, .int .i64 b_0.Num, .int .i64 b_0.Den, .int .i64 b_0.Level, .int .i64 b_0.At], box b4 [.int .i64 r2.1.Cap, .int .i64 r2.1.Num, .int .i64 r2.1.Den, .int .i64 r2.1.Level, .int .i64 r2.1.At], box b7 [.int .i64 r5.1.Cap, .int .i64 r5.1.Num, .int .i64 r5.1.Den, .int .i64 r5.1.Level, .int .i64 r5.1.At], box b10 [.int .i64 r8.1.Cap, .int .i64 r8.1.Num, .int .i64 r8.1.Den, .int .i64 r8.1.Level, .int .i64 r8.1.At], box b17 [.int .i64 r15.B.Cap, .int .i64 r15.B.Num, .int .i64 r15.B.Den, .int .i64 r15.B.Level, .int .i64 r15.B.At, .int .i64 r15.E], box b20 [.int .i64 r18.B.Cap, .int .i64 r18.B.Num, .int .i64 r18.B.Den, .int .i64 r18.B.Level, .int .i64 r18.B.At, .int .i64 r18.E], box b23 [.int .i64 r21.B.Cap, .int .i64 r21.B.Num, .int .i64 r21.B.Den, .int .i64 r21.B.Level, .int .i64 r21.B.At, .int .i64 r21.E], box b26 [.int .i64 r24.N, .int .i64 r24.E], box b29 [.int .i64 r27.N, .int .i64 r27.E]]) (fun σ => σ = ((((r45 && ((((((decide (r2.1.Cap = r15.B.Cap) && (decide (r2.1.Num = r15.B.Num) && (decide (r2.1.Den = r15.B.Den) && (decide (r2.1.Level = r15.B.Level) && (decide (r2.1.At = r15.B.At)))))) && decide (r2.2 = r15.E)) && (decide (r5.1.Cap = r18.B.Cap) && (decide (r5.1.Num = r18.B.Num) && (decide (r5.1.Den = r18.B.Den) && (decide (r5.1.Level = r18.B.Level) && (decide (r5.1.At = r18.B.At))))))) && decide (r5.2 = r18.E)) && (decide (r8.1.Cap = r21.B.Cap) && (decide (r8.1.Num = r21.B.Num) && (decide (r8.1.Den = r21.B.Den) && (decide (r8.1.Level = r21.B.Level) && (decide (r8.1.At = r21.B.At))))))) && decide (r8.2 = r21.E))) && decide (r11.1 = r24.N)) && decide (r11.2 = r24.E)) && decide (r13.1 = r27.N))) (fun hL57 => ?_) ?_
  · refine any_split 136 (((r45 && ((((((decide (r2.1.Cap = r15.B.Cap) && (decide (r2.1.Num = r15.B.Num) && (decide (r2.1.Den = r15.B.Den) && (decide (r2.1.Level = r15.B.Level) && (decide (r2.1.At = r15.B.At)))))) && decide (r2.2 = r15.E)) && (decide (r5.1.Cap = r18.B.Cap) && (decide (r5.1.Num = r18.B.Num) && (decide (r5.1.Den = r18.B.Den) && (decide (r5.1.Level = r18.B.Level) && (decide (r5.1.At = r18.B.At))))))) && decide (r5.2 = r18.E)) && (decide (r8.1.Cap = r21.B.Cap) && (decide (r8.1.Num = r21.B.Num) && (decide (r8.1.Den = r21.B.Den) && (decide (r8.1.Level = r21.B.Level) && (decide (r8.1.At = r21.B.At))))))) && decide (r8.2 = r21.E))) && decide (r11.1 = r24.N)) && decide (r11.2 = r24.E)) rfl (fun hg58 => ?_) (fun hg58 => ?_)
    · skip
      refine any_y 17 rfl (by kernel_rfl) (by kernel_rfl) (by kernel_rfl) (sub_same (sub_same (sub_same (sub_same (sub_same (sub_same (sub_same (sub_same (sub_same (sub_nil)))))))))) (wg 16 true 136 rfl rfl rfl rfl) rfl (y_move rfl) ?_
      refine any_y 18 rfl (by kernel_rfl) (by kernel_rfl) (by kernel_rfl) (sub_same (sub_same (sub_same (sub_same (sub_same (sub_same (sub_same (sub_same (sub_same (sub_nil)))))))))) (wg 16 true 136 rfl rfl rfl rfl) rfl (y_fieldAddr_box (sz := 0) Try.runUnderlying38 rfl Try.sizeOf3 rfl) ?_
      refine any_y 19 rfl (by kernel_rfl) (by kernel_rfl) (by kernel_rfl) (sub_same (sub_same (sub_same (sub_same (sub_same (sub_same (sub_same (sub_same (sub_same (sub_nil)))))))))) (wg 16 true 136 rfl rfl rfl rfl) rfl (y_load_box 8 Try.isAgg3 rfl rfl rfl) ?_
      refine any_y 20 rfl (by kernel_rfl) (by kernel_rfl) (by kernel_rfl) (sub_same (sub_same (sub_same (sub_same (sub_same (sub_same (sub_same (sub_same (sub_same (sub_nil)))))))))) (wg 16 true 136 rfl rfl rfl rfl) rfl (y_eql rfl rfl) ?_
      refine any_y 21 rfl (by kernel_rfl) (by kernel_rfl) (by kernel_rfl) (sub_same (sub_same (sub_same (sub_same (sub_same (sub_same (sub_same (sub_same (sub_same (sub_nil)))))))))) (wn rfl) rfl (y_pick (b := true) rfl rfl) ?_
      exact any_weak [(4, boxP b1 0), (18, .int .i64 r13.2), (23, boxP b29 0), (141, .bool (decide (r13.1 = r27.N)))] [0, 1, 2, 3, 4, 5, 6, 7, 8] [box b1 [.int .i64 b_0.Cap, .int .i64 b_0.Num, .int .i64 b_0.Den, .int .i64 b_0.Level, .int .i64 b_0.At], box b4 [.int .i64 r2.1.Cap, .int .i64 r2.1.Num, .int .i64 r2.1.Den, .int .i64 r2.1.Level, .int .i64 r2.1.At], box b7 [.int .i64 r5.1.Cap, .int .i64 r5.1.Num, .int .i64 r5.1.Den, .int .i64 r5.1.Level, .int .i64 r5.1.At], box b10 [.int .i64 r8.1.Cap, .int .i64 r8.1.Num, .int .i64 r8.1.Den, .int .i64 r8.1.Level, .int .i64 r8.1.At], box b17 [.int .i64 r15.B.Cap, .int .i64 r15.B.Num, .int .i64 r15.B.Den, .int .i64 r15.B.Level, .int .i64 r15.B.At, .int .i64 r15.E], box b20 [.int .i64 r18.B.Cap, .int .i64 r18.B.Num, .int .i64 r18.B.Den, .int .i64 r18.B.Level, .int .i64 r18.B.At, .int .i64 r18.E], box b23 [.int .i64 r21.B.Cap, .int .i64 r21.B.Num, .int .i64 r21.B.Den, .int .i64 r21.B.Level, .int .i64 r21.B.At, .int .i64 r21.E], box b26 [.int .i64 r24.N, .int .i64 r24.E], box b29 [.int .i64 r27.N, .int .i64 r27.E]] (by kernel_rfl) (vcons rfl (vcons rfl (vcons rfl (vcons rfl (vnil))))) (by decide) rfl (hL57 (decide (r13.1 = r27.N)) (by rw [hg58]; simp))
    · skip
      refine any_no 17 rfl (by kernel_rfl) (by kernel_rfl) (by kernel_rfl) (sub_same (sub_same (sub_same (sub_same (sub_same (sub_same (sub_same (sub_same (sub_same (sub_nil)))))))))) 16 true 136 rfl rfl rfl rfl rfl ?_
      refine any_no 18 rfl (by kernel_rfl) (by kernel_rfl) (by kernel_rfl) (sub_same (sub_same (sub_same (sub_same (sub_same (sub_same (sub_same (sub_same (sub_same (sub_nil)))))))))) 16 true 136 rfl rfl rfl rfl rfl ?_
      refine any_no 19 rfl (by kernel_rfl) (by kernel_rfl) (by kernel_rfl) (sub_same (sub_same (sub_same (sub_same (sub_same (sub_same (sub_same (sub_same (sub_same (sub_nil)))))))))) 16 true 136 rfl rfl rfl rfl rfl ?_
      refine any_no 20 rfl (by kernel_rfl) (by kernel_rfl) (by kernel_rfl) (sub_same (sub_same (sub_same (sub_same (sub_same (sub_same (sub_same (sub_same (sub_same (sub_nil)))))))))) 16 true 136 rfl rfl rfl rfl rfl ?_
      refine any_y 21 rfl (by kernel_rfl) (by kernel_rfl) (by kernel_rfl) (sub_same (sub_same (sub_same (sub_same (sub_same (sub_same (sub_same (sub_same (sub_same (sub_nil)))))))))) (wn rfl) rfl (y_pick (b := false) rfl rfl) ?_
      exact any_weak [(4, boxP b1 0), (18, .int .i64 r13.2), (23, boxP b29 0), (141, .bool false)] [0, 1, 2, 3, 4, 5, 6, 7, 8] [box b1 [.int .i64 b_0.Cap, .int .i64 b_0.Num, .int .i64 b_0.Den, .int .i64 b_0.Level, .int .i64 b_0.At], box b4 [.int .i64 r2.1.Cap, .int .i64 r2.1.Num, .int .i64 r2.1.Den, .int .i64 r2.1.Level, .int .i64 r2.1.At], box b7 [.int .i64 r5.1.Cap, .int .i64 r5.1.Num, .int .i64 r5.1.Den, .int .i64 r5.1.Level, .int .i64 r5.1.At], box b10 [.int .i64 r8.1.Cap, .int .i64 r8.1.Num, .int .i64 r8.1.Den, .int .i64 r8.1.Level, .int .i64 r8.1.At], box b17 [.int .i64 r15.B.Cap, .int .i64 r15.B.Num, .int .i64 r15.B.Den, .int .i64 r15.B.Level, .int .i64 r15.B.At, .int .i64 r15.E], box b20 [.int .i64 r18.B.Cap, .int .i64 r18.B.Num, .int .i64 r18.B.Den, .int .i64 r18.B.Level, .int .i64 r18.B.At, .int .i64 r18.E], box b23 [.int .i64 r21.B.Cap, .int .i64 r21.B.Num, .int .i64 r21.B.Den, .int .i64 r21.B.Level, .int .i64 r21.B.At, .int .i64 r21.E], box b26 [.int .i64 r24.N, .int .i64 r24.E], box b29 [.int .i64 r27.N, .int .i64 r27.E]] (by kernel_rfl) (vcons rfl (vcons rfl (vcons rfl (vcons rfl (vnil))))) (by decide) rfl (hL57 false (by rw [hg58]; simp))
  rintro _ rfl
  refine any_y 22 rfl (by kernel_rfl) (by kernel_rfl) (by kernel_rfl) (sub_same (sub_same (sub_same (sub_same (sub_same (sub_same (sub_same (sub_same (sub_same (sub_nil)))))))))) (wn rfl) rfl (y_move rfl) ?_
  refine any_cut #[true, true, true, true, true, true, true, true, true, true, true, true, true, true, true, true, true, true, true, true, true, true, true, true, true, true, true, true, false, false, false, false, false, false, false, false, false, false, false, false, false, false, false] 15 Bool (fun σ => [(4, boxP b1 0), (147, .bool σ)]) (fun σ => [box b1 [.int .i64 b_0.Cap, .int .i64 b_0.Num, .int .i64 b_0.Den, .int .i64 b_0.Level, .int .i64 b_0.At], box b4 [.int .i64 r2.1.Cap, .int .i64 r2.1.Num, .int .i64 r2.1.Den, .int .i64 r2.1.Level, .int .i64 r2.1.At], box b7 [.int .i64 r5.1.Cap, .int .i64 r5.1.Num, .int .i64 r5.1.Den, .int .i64 r5.1.Level, .int .i64 r5.1.At], box b10 [.int .i64 r8.1.Cap, .int .i64 r8.1.Num, .int .i64 r8.1.Den, .int .i64 r8.1.Level, .int .i64 r8.1.At], box b17 [.int .i64 r15.B.Cap, .int .i64 r15.B.Num, .int .i64 r15.B.Den, .int .i64 r15.B.Level, .int .i64 r15.B.At, .int .i64 r15.E], box b20 [.int .i64 r18.B.Cap, .int .i64 r18.B.Num, .int .i64 r18.B.Den, .int .i64 r18.B.Level, .int .i64 r18.B.At, .int .i64 r18.E], box b23 [.int .i64 r21.B.Cap, .int .i64 r21.B.Num, .int .i64 r21.B.Den, .int .i64 r21.B.Level, .int .i64 r21.B.At, .int .i64 r21.E], box b26 [.int .i64 r24.N, .int .i64 r24.E], box b29 [.int .i64 r27.N, .int .i64 r27.E]]) (fun σ => σ = (((((r45 && ((((((decide (r2.1.Cap = r15.B.Cap) && (decide (r2.1.Num = r15.B.Num) && (decide (r2.1.Den = r15.B.Den) && (decide (r2.1.Level = r15.B.Level) && (decide (r2.1.At = r15.B.At)))))) && decide (r2.2 = r15.E)) && (decide (r5.1.Cap = r18.B.Cap) && (decide (r5.1.Num = r18.B.Num) && (decide (r5.1.Den = r18.B.Den) && (decide (r5.1.Level = r18.B.Level) && (decide (r5.1.At = r18.B.At))))))) && decide (r5.2 = r18.E)) && (decide (r8.1.Cap = r21.B.Cap) && (decide (r8.1.Num = r21.B.Num) && (decide (r8.1.Den = r21.B.Den) && (decide (r8.1.Level = r21.B.Level) && (decide (r8.1.At = r21.B.At))))))) && decide (r8.2 = r21.E))) && decide (r11.1 = r24.N)) && decide (r11.2 = r24.E)) && decide (r13.1 = r27.N)) && decide (r13.2 = r27.E))) (fun hL60 => ?_) ?_
  · refine any_split 142 ((((r45 && ((((((decide (r2.1.Cap = r15.B.Cap) && (decide (r2.1.Num = r15.B.Num) && (decide (r2.1.Den = r15.B.Den) && (decide (r2.1.Level = r15.B.Level) && (decide (r2.1.At = r15.B.At)))))) && decide (r2.2 = r15.E)) && (decide (r5.1.Cap = r18.B.Cap) && (decide (r5.1.Num = r18.B.Num) && (decide (r5.1.Den = r18.B.Den) && (decide (r5.1.Level = r18.B.Level) && (decide (r5.1.At = r18.B.At))))))) && decide (r5.2 = r18.E)) && (decide (r8.1.Cap = r21.B.Cap) && (decide (r8.1.Num = r21.B.Num) && (decide (r8.1.Den = r21.B.Den) && (decide (r8.1.Level = r21.B.Level) && (decide (r8.1.At = r21.B.At))))))) && decide (r8.2 = r21.E))) && decide (r11.1 = r24.N)) && decide (r11.2 = r24.E)) && decide (r13.1 = r27.N)) rfl (fun hg61 => ?_) (fun hg61 => ?_)
    · skip
      refine any_y 23 rfl (by kernel_rfl) (by kernel_rfl) (by kernel_rfl) (sub_same (sub_same (sub_same (sub_same (sub_same (sub_same (sub_same (sub_same (sub_same (sub_nil)))))))))) (wg 22 true 142 rfl rfl rfl rfl) rfl (y_move rfl) ?_
      refine any_y 24 rfl (by kernel_rfl) (by kernel_rfl) (by kernel_rfl) (sub_same (sub_same (sub_same (sub_same (sub_same (sub_same (sub_same (sub_same (sub_same (sub_nil)))))))))) (wg 22 true 142 rfl rfl rfl rfl) rfl (y_fieldAddr_box (sz := 0) Try.runUnderlying38 rfl Try.sizeOf24 rfl) ?_
      refine any_y 25 rfl (by kernel_rfl) (by kernel_rfl) (by kernel_rfl) (sub_same (sub_same (sub_same (sub_same (sub_same (sub_same (sub_same (sub_same (sub_same (sub_nil)))))))))) (wg 22 true 142 rfl rfl rfl rfl) rfl (y_load_box 8 Try.isAgg24 rfl rfl rfl) ?_
      refine any_y 26 rfl (by kernel_rfl) (by kernel_rfl) (by kernel_rfl) (sub_same (sub_same (sub_same (sub_same (sub_same (sub_same (sub_same (sub_same (sub_same (sub_nil)))))))))) (wg 22 true 142 rfl rfl rfl rfl) rfl (y_eql rfl rfl) ?_
      refine any_y 27 rfl (by kernel_rfl) (by kernel_rfl) (by kernel_rfl) (sub_same (sub_same (sub_same (sub_same (sub_same (sub_same (sub_same (sub_same (sub_same (sub_nil)))))))))) (wn rfl) rfl (y_pick (b := true) rfl rfl) ?_
      exact any_weak [(4, boxP b1 0), (147, .bool (decide (r13.2 = r27.E)))] [0, 1, 2, 3, 4, 5, 6, 7, 8] [box b1 [.int .i64 b_0.Cap, .int .i64 b_0.Num, .int .i64 b_0.Den, .int .i64 b_0.Level, .int .i64 b_0.At], box b4 [.int .i64 r2.1.Cap, .int .i64 r2.1.Num, .int .i64 r2.1.Den, .int .i64 r2.1.Level, .int .i64 r2.1.At], box b7 [.int .i64 r5.1.Cap, .int .i64 r5.1.Num, .int .i64 r5.1.Den, .int .i64 r5.1.Level, .int .i64 r5.1.At], box b10 [.int .i64 r8.1.Cap, .int .i64 r8.1.Num, .int .i64 r8.1.Den, .int .i64 r8.1.Level, .int .i64 r8.1.At], box b17 [.int .i64 r15.B.Cap, .int .i64 r15.B.Num, .int .i64 r15.B.Den, .int .i64 r15.B.Level, .int .i64 r15.B.At, .int .i64 r15.E], box b20 [.int .i64 r18.B.Cap, .int .i64 r18.B.Num, .int .i64 r18.B.Den, .int .i64 r18.B.Level, .int .i64 r18.B.At, .int .i64 r18.E], box b23 [.int .i64 r21.B.Cap, .int .i64 r21.B.Num, .int .i64 r21.B.Den, .int .i64 r21.B.Level, .int .i64 r21.B.At, .int .i64 r21.E], box b26 [.int .i64 r24.N, .int .i64 r24.E], box b29 [.int .i64 r27.N, .int .i64 r27.E]] (by kernel_rfl) (vcons rfl (vcons rfl (vnil))) (by decide) rfl (hL60 (decide (r13.2 = r27.E)) (by rw [hg61]; simp))
    · skip
      refine any_no 23 rfl (by kernel_rfl) (by kernel_rfl) (by kernel_rfl) (sub_same (sub_same (sub_same (sub_same (sub_same (sub_same (sub_same (sub_same (sub_same (sub_nil)))))))))) 22 true 142 rfl rfl rfl rfl rfl ?_
      refine any_no 24 rfl (by kernel_rfl) (by kernel_rfl) (by kernel_rfl) (sub_same (sub_same (sub_same (sub_same (sub_same (sub_same (sub_same (sub_same (sub_same (sub_nil)))))))))) 22 true 142 rfl rfl rfl rfl rfl ?_
      refine any_no 25 rfl (by kernel_rfl) (by kernel_rfl) (by kernel_rfl) (sub_same (sub_same (sub_same (sub_same (sub_same (sub_same (sub_same (sub_same (sub_same (sub_nil)))))))))) 22 true 142 rfl rfl rfl rfl rfl ?_
      refine any_no 26 rfl (by kernel_rfl) (by kernel_rfl) (by kernel_rfl) (sub_same (sub_same (sub_same (sub_same (sub_same (sub_same (sub_same (sub_same (sub_same (sub_nil)))))))))) 22 true 142 rfl rfl rfl rfl rfl ?_
      refine any_y 27 rfl (by kernel_rfl) (by kernel_rfl) (by kernel_rfl) (sub_same (sub_same (sub_same (sub_same (sub_same (sub_same (sub_same (sub_same (sub_same (sub_nil)))))))))) (wn rfl) rfl (y_pick (b := false) rfl rfl) ?_
      exact any_weak [(4, boxP b1 0), (147, .bool false)] [0, 1, 2, 3, 4, 5, 6, 7, 8] [box b1 [.int .i64 b_0.Cap, .int .i64 b_0.Num, .int .i64 b_0.Den, .int .i64 b_0.Level, .int .i64 b_0.At], box b4 [.int .i64 r2.1.Cap, .int .i64 r2.1.Num, .int .i64 r2.1.Den, .int .i64 r2.1.Level, .int .i64 r2.1.At], box b7 [.int .i64 r5.1.Cap, .int .i64 r5.1.Num, .int .i64 r5.1.Den, .int .i64 r5.1.Level, .int .i64 r5.1.At], box b10 [.int .i64 r8.1.Cap, .int .i64 r8.1.Num, .int .i64 r8.1.Den, .int .i64 r8.1.Level, .int .i64 r8.1.At], box b17 [.int .i64 r15.B.Cap, .int .i64 r15.B.Num, .int .i64 r15.B.Den, .int .i64 r15.B.Level, .int .i64 r15.B.At, .int .i64 r15.E], box b20 [.int .i64 r18.B.Cap, .int .i64 r18.B.Num, .int .i64 r18.B.Den, .int .i64 r18.B.Level, .int .i64 r18.B.At, .int .i64 r18.E], box b23 [.int .i64 r21.B.Cap, .int .i64 r21.B.Num, .int .i64 r21.B.Den, .int .i64 r21.B.Level, .int .i64 r21.B.At, .int .i64 r21.E], box b26 [.int .i64 r24.N, .int .i64 r24.E], box b29 [.int .i64 r27.N, .int .i64 r27.E]] (by kernel_rfl) (vcons rfl (vcons rfl (vnil))) (by decide) rfl (hL60 false (by rw [hg61]; simp))
  rintro _ rfl
  refine any_y 28 rfl (by kernel_rfl) (by kernel_rfl) (by kernel_rfl) (sub_same (sub_same (sub_same (sub_same (sub_same (sub_same (sub_same (sub_same (sub_same (sub_nil)))))))))) (wn rfl) rfl (y_move rfl) ?_
  obtain ⟨o63, h, ho64⟩ := bindJ_some h
  refine any_cut #[true, true, true, true, true, true, true, true, true, true, true, true, true, true, true, true, true, true, true, true, true, true, true, true, true, true, true, true, true, true, true, true, true, true, true, false, false, false, false, false, false, false, false] 8 Bool (fun σ => [(4, boxP b1 0), (154, .bool σ)]) (fun σ => [box b1 [.int .i64 b_0.Cap, .int .i64 b_0.Num, .int .i64 b_0.Den, .int .i64 b_0.Level, .int .i64 b_0.At], box b4 [.int .i64 r2.1.Cap, .int .i64 r2.1.Num, .int .i64 r2.1.Den, .int .i64 r2.1.Level, .int .i64 r2.1.At], box b7 [.int .i64 r5.1.Cap, .int .i64 r5.1.Num, .int .i64 r5.1.Den, .int .i64 r5.1.Level, .int .i64 r5.1.At], box b10 [.int .i64 r8.1.Cap, .int .i64 r8.1.Num, .int .i64 r8.1.Den, .int .i64 r8.1.Level, .int .i64 r8.1.At], box b17 [.int .i64 r15.B.Cap, .int .i64 r15.B.Num, .int .i64 r15.B.Den, .int .i64 r15.B.Level, .int .i64 r15.B.At, .int .i64 r15.E], box b20 [.int .i64 r18.B.Cap, .int .i64 r18.B.Num, .int .i64 r18.B.Den, .int .i64 r18.B.Level, .int .i64 r18.B.At, .int .i64 r18.E], box b23 [.int .i64 r21.B.Cap, .int .i64 r21.B.Num, .int .i64 r21.B.Den, .int .i64 r21.B.Level, .int .i64 r21.B.At, .int .i64 r21.E], box b26 [.int .i64 r24.N, .int .i64 r24.E], box b29 [.int .i64 r27.N, .int .i64 r27.E]]) (fun σ => o63 = .go σ) (fun hL66 => ?_) ?_
  · refine any_split 148 (((((r45 && ((((((decide (r2.1.Cap = r15.B.Cap) && (decide (r2.1.Num = r15.B.Num) && (decide (r2.1.Den = r15.B.Den) && (decide (r2.1.Level = r15.B.Level) && (decide (r2.1.At = r15.B.At)))))) && decide (r2.2 = r15.E)) && (decide (r5.1.Cap = r18.B.Cap) && (decide (r5.1.Num = r18.B.Num) && (decide (r5.1.Den = r18.B.Den) && (decide (r5.1.Level = r18.B.Level) && (decide (r5.1.At = r18.B.At))))))) && decide (r5.2 = r18.E)) && (decide (r8.1.Cap = r21.B.Cap) && (decide (r8.1.Num = r21.B.Num) && (decide (r8.1.Den = r21.B.Den) && (decide (r8.1.Level = r21.B.Level) && (decide (r8.1.At = r21.B.At))))))) && decide (r8.2 = r21.E))) && decide (r11.1 = r24.N)) && decide (r11.2 = r24.E)) && decide (r13.1 = r27.N)) && decide (r13.2 = r27.E)) rfl (fun hg67 => ?_) (fun hg67 => ?_)
    · replace h := cond_t h hg67
      refine any_y 29 rfl (by kernel_rfl) (by kernel_rfl) (by kernel_rfl) (sub_same (sub_same (sub_same (sub_same (sub_same (sub_same (sub_same (sub_same (sub_same (sub_nil)))))))))) (wg 28 true 148 rfl rfl rfl rfl) rfl (y_load_boxagg (c := [.int .i64 b_0.Cap, .int .i64 b_0.Num, .int .i64 b_0.Den, .int .i64 b_0.Level, .int .i64 b_0.At]) 0 Try.isAgg23 Try.sizeOf23 rfl rfl rfl) ?_
      refine any_y 31 rfl (by kernel_rfl) (by kernel_rfl) (by kernel_rfl) (sub_same (sub_same (sub_same (sub_same (sub_same (sub_same (sub_same (sub_same (sub_same (sub_nil)))))))))) (wg 28 true 148 rfl rfl rfl rfl) rfl (y_load_boxagg (c := [.int .i64 b_0.Cap, .int .i64 b_0.Num, .int .i64 b_0.Den, .int .i64 b_0.Level, .int .i64 b_0.At]) 0 Try.isAgg23 Try.sizeOf23 rfl rfl rfl) ?_
      refine any_all [30] (by kernel_rfl) rfl (anyo_cons ?_ anyo_nil)
      obtain ⟨r68, hr69, h⟩ := bind_some h
      refine any_t rfl (wg 28 true 148 rfl rfl rfl rfl) rfl (t_call (vs := [.agg #[.int .i64 b_0.Cap, .int .i64 b_0.Num, .int .i64 b_0.Den, .int .i64 b_0.Level, .int .i64 b_0.At]]) (cs := []) [] rfl Try.call20 rfl (bucket_Valid_ok b_0  hr69) shows_nil (.inl rfl)) ?_
      rintro _ _ ⟨_, ⟨rfl, rfl⟩, rfl⟩
      refine ⟨(sub_same (sub_same (sub_same (sub_same (sub_same (sub_same (sub_same (sub_same (sub_same (sub_nil)))))))))), ?_⟩
      refine any_all [32] (by kernel_rfl) rfl (anyo_cons ?_ anyo_nil)
      obtain ⟨r70, hr71, h⟩ := bind_some h
      refine any_t rfl (wg 28 true 148 rfl rfl rfl rfl) rfl (t_call (vs := [.agg #[.int .i64 b_0.Cap, .int .i64 b_0.Num, .int .i64 b_0.Den, .int .i64 b_0.Level, .int .i64 b_0.At]]) (cs := []) [] rfl Try.call21 rfl (ref12_Valid_ok b_0  hr71) shows_nil (.inl rfl)) ?_
      rintro _ _ ⟨_, ⟨rfl, rfl⟩, rfl⟩
      refine ⟨(sub_same (sub_same (sub_same (sub_same (sub_same (sub_same (sub_same (sub_same (sub_same (sub_nil)))))))))), ?_⟩
      refine any_y 33 rfl (by kernel_rfl) (by kernel_rfl) (by kernel_rfl) (sub_same (sub_same (sub_same (sub_same (sub_same (sub_same (sub_same (sub_same (sub_same (sub_nil)))))))))) (wg 28 true 148 rfl rfl rfl rfl) rfl (y_beql Try.runUnderlying4 rfl rfl) ?_
      refine any_y 34 rfl (by kernel_rfl) (by kernel_rfl) (by kernel_rfl) (sub_same (sub_same (sub_same (sub_same (sub_same (sub_same (sub_same (sub_same (sub_same (sub_nil)))))))))) (wn rfl) rfl (y_pick (b := true) rfl rfl) ?_
      obtain rfl := some_eq h
      exact any_weak [(4, boxP b1 0), (154, .bool (r68 == r70))] [0, 1, 2, 3, 4, 5, 6, 7, 8] [box b1 [.int .i64 b_0.Cap, .int .i64 b_0.Num, .int .i64 b_0.Den, .int .i64 b_0.Level, .int .i64 b_0.At], box b4 [.int .i64 r2.1.Cap, .int .i64 r2.1.Num, .int .i64 r2.1.Den, .int .i64 r2.1.Level, .int .i64 r2.1.At], box b7 [.int .i64 r5.1.Cap, .int .i64 r5.1.Num, .int .i64 r5.1.Den, .int .i64 r5.1.Level, .int .i64 r5.1.At], box b10 [.int .i64 r8.1.Cap, .int .i64 r8.1.Num, .int .i64 r8.1.Den, .int .i64 r8.1.Level, .int .i64 r8.1.At], box b17 [.int .i64 r15.B.Cap, .int .i64 r15.B.Num, .int .i64 r15.B.Den, .int .i64 r15.B.Level, .int .i64 r15.B.At, .int .i64 r15.E], box b20 [.int .i64 r18.B.Cap, .int .i64 r18.B.Num, .int .i64 r18.B.Den, .int .i64 r18.B.Level, .int .i64 r18.B.At, .int .i64 r18.E], box b23 [.int .i64 r21.B.Cap, .int .i64 r21.B.Num, .int .i64 r21.B.Den, .int .i64 r21.B.Level, .int .i64 r21.B.At, .int .i64 r21.E], box b26 [.int .i64 r24.N, .int .i64 r24.E], box b29 [.int .i64 r27.N, .int .i64 r27.E]] (by kernel_rfl) (vcons rfl (vcons rfl (vnil))) (by decide) rfl (hL66 (r68 == r70) rfl)
    · replace h := cond_f h hg67
      refine any_no 29 rfl (by kernel_rfl) (by kernel_rfl) (by kernel_rfl) (sub_same (sub_same (sub_same (sub_same (sub_same (sub_same (sub_same (sub_same (sub_same (sub_nil)))))))))) 28 true 148 rfl rfl rfl rfl rfl ?_
      refine any_no 31 rfl (by kernel_rfl) (by kernel_rfl) (by kernel_rfl) (sub_same (sub_same (sub_same (sub_same (sub_same (sub_same (sub_same (sub_same (sub_same (sub_nil)))))))))) 28 true 148 rfl rfl rfl rfl rfl ?_
      refine any_no 30 rfl (by kernel_rfl) (by kernel_rfl) (by kernel_rfl) (sub_same (sub_same (sub_same (sub_same (sub_same (sub_same (sub_same (sub_same (sub_same (sub_nil)))))))))) 28 true 148 rfl rfl rfl rfl rfl ?_
      refine any_no 32 rfl (by kernel_rfl) (by kernel_rfl) (by kernel_rfl) (sub_same (sub_same (sub_same (sub_same (sub_same (sub_same (sub_same (sub_same (sub_same (sub_nil)))))))))) 28 true 148 rfl rfl rfl rfl rfl ?_
      refine any_no 33 rfl (by kernel_rfl) (by kernel_rfl) (by kernel_rfl) (sub_same (sub_same (sub_same (sub_same (sub_same (sub_same (sub_same (sub_same (sub_same (sub_nil)))))))))) 28 true 148 rfl rfl rfl rfl rfl ?_
      refine any_y 34 rfl (by kernel_rfl) (by kernel_rfl) (by kernel_rfl) (sub_same (sub_same (sub_same (sub_same (sub_same (sub_same (sub_same (sub_same (sub_same (sub_nil)))))))))) (wn rfl) rfl (y_pick (b := false) rfl rfl) ?_
      obtain rfl := some_eq h
      exact any_weak [(4, boxP b1 0), (154, .bool false)] [0, 1, 2, 3, 4, 5, 6, 7, 8] [box b1 [.int .i64 b_0.Cap, .int .i64 b_0.Num, .int .i64 b_0.Den, .int .i64 b_0.Level, .int .i64 b_0.At], box b4 [.int .i64 r2.1.Cap, .int .i64 r2.1.Num, .int .i64 r2.1.Den, .int .i64 r2.1.Level, .int .i64 r2.1.At], box b7 [.int .i64 r5.1.Cap, .int .i64 r5.1.Num, .int .i64 r5.1.Den, .int .i64 r5.1.Level, .int .i64 r5.1.At], box b10 [.int .i64 r8.1.Cap, .int .i64 r8.1.Num, .int .i64 r8.1.Den, .int .i64 r8.1.Level, .int .i64 r8.1.At], box b17 [.int .i64 r15.B.Cap, .int .i64 r15.B.Num, .int .i64 r15.B.Den, .int .i64 r15.B.Level, .int .i64 r15.B.At, .int .i64 r15.E], box b20 [.int .i64 r18.B.Cap, .int .i64 r18.B.Num, .int .i64 r18.B.Den, .int .i64 r18.B.Level, .int .i64 r18.B.At, .int .i64 r18.E], box b23 [.int .i64 r21.B.Cap, .int .i64 r21.B.Num, .int .i64 r21.B.Den, .int .i64 r21.B.Level, .int .i64 r21.B.At, .int .i64 r21.E], box b26 [.int .i64 r24.N, .int .i64 r24.E], box b29 [.int .i64 r27.N, .int .i64 r27.E]] (by kernel_rfl) (vcons rfl (vcons rfl (vnil))) (by decide) rfl (hL66 false rfl)
  rintro b62 hj
  obtain rfl : o63 = _ := hj
  replace h := after_go ho64
  clear ho64
  refine any_y 35 rfl (by kernel_rfl) (by kernel_rfl) (by kernel_rfl) (sub_same (sub_same (sub_same (sub_same (sub_same (sub_same (sub_same (sub_same (sub_same (sub_nil)))))))))) (wn rfl) rfl (y_move rfl) ?_
  obtain ⟨o73, h, ho74⟩ := bindJ_some h
  refine any_cut #[true, true, true, true, true, true, true, true, true, true, true, true, true, true, true, true, true, true, true, true, true, true, true, true, true, true, true, true, true, true, true, true, true, true, true, true, true, true, true, true, true, true, false] 1 Bool (fun σ => [(161, .bool σ)]) (fun σ => [box b1 [.int .i64 b_0.Cap, .int .i64 b_0.Num, .int .i64 b_0.Den, .int .i64 b_0.Level, .int .i64 b_0.At], box b4 [.int .i64 r2.1.Cap, .int .i64 r2.1.Num, .int .i64 r2.1.Den, .int .i64 r2.1.Level, .int .i64 r2.1.At], box b7 [.int .i64 r5.1.Cap, .int .i64 r5.1.Num, .int .i64 r5.1.Den, .int .i64 r5.1.Level, .int .i64 r5.1.At], box b10 [.int .i64 r8.1.Cap, .int .i64 r8.1.Num, .int .i64 r8.1.Den, .int .i64 r8.1.Level, .int .i64 r8.1.At], box b17 [.int .i64 r15.B.Cap, .int .i64 r15.B.Num, .int .i64 r15.B.Den, .int .i64 r15.B.Level, .int .i64 r15.B.At, .int .i64 r15.E], box b20 [.int .i64 r18.B.Cap, .int .i64 r18.B.Num, .int .i64 r18.B.Den, .int .i64 r18.B.Level, .int .i64 r18.B.At, .int .i64 r18.E], box b23 [.int .i64 r21.B.Cap, .int .i64 r21.B.Num, .int .i64 r21.B.Den, .int .i64 r21.B.Level, .int .i64 r21.B.At, .int .i64 r21.E], box b26 [.int .i64 r24.N, .int .i64 r24.E], box b29 [.int .i64 r27.N, .int .i64 r27.E]]) (fun σ => o73 = .go σ) (fun hL76 => ?_) ?_
  · refine any_split 155 b62 rfl (fun hg77 => ?_) (fun hg77 => ?_)
    · replace h := cond_t h hg77
      refine any_y 36 rfl (by kernel_rfl) (by kernel_rfl) (by kernel_rfl) (sub_same (sub_same (sub_same (sub_same (sub_same (sub_same (sub_same (sub_same (sub_same (sub_nil)))))))))) (wg 35 true 155 rfl rfl rfl rfl) rfl (y_load_boxagg (c := [.int .i64 b_0.Cap, .int .i64 b_0.Num, .int .i64 b_0.Den, .int .i64 b_0.Level, .int .i64 b_0.At]) 0 Try.isAgg23 Try.sizeOf23 rfl rfl rfl) ?_
      refine any_y 38 rfl (by kernel_rfl) (by kernel_rfl) (by kernel_rfl) (sub_same (sub_same (sub_same (sub_same (sub_same (sub_same (sub_same (sub_same (sub_same (sub_nil)))))))))) (wg 35 true 155 rfl rfl rfl rfl) rfl (y_load_boxagg (c := [.int .i64 b_0.Cap, .int .i64 b_0.Num, .int .i64 b_0.Den, .int .i64 b_0.Level, .int .i64 b_0.At]) 0 Try.isAgg23 Try.sizeOf23 rfl rfl rfl) ?_
      refine any_all [37] (by kernel_rfl) rfl (anyo_cons ?_ anyo_nil)
      obtain ⟨r78, hr79, h⟩ := bind_some h
      refine any_t rfl (wg 35 true 155 rfl rfl rfl rfl) rfl (t_call (vs := [.agg #[.int .i64 b_0.Cap, .int .i64 b_0.Num, .int .i64 b_0.Den, .int .i64 b_0.Level, .int .i64 b_0.At]]) (cs := []) [] rfl Try.call22 rfl (bucket_Tokens_ok b_0  hr79) shows_nil (.inl rfl)) ?_
      rintro _ _ ⟨_, ⟨rfl, rfl⟩, rfl⟩
      refine ⟨(sub_same (sub_same (sub_same (sub_same (sub_same (sub_same (sub_same (sub_same (sub_same (sub_nil)))))))))), ?_⟩
      refine any_all [39] (by kernel_rfl) rfl (anyo_cons ?_ anyo_nil)
      obtain ⟨r80, hr81, h⟩ := bind_some h
      refine any_t rfl (wg 35 true 155 rfl rfl rfl rfl) rfl (t_call (vs := [.agg #[.int .i64 b_0.Cap, .int .i64 b_0.Num, .int .i64 b_0.Den, .int .i64 b_0.Level, .int .i64 b_0.At]]) (cs := []) [] rfl Try.call23 rfl (ref12_Tokens_ok b_0  hr81) shows_nil (.inl rfl)) ?_
      rintro _ _ ⟨_, ⟨rfl, rfl⟩, rfl⟩
      refine ⟨(sub_same (sub_same (sub_same (sub_same (sub_same (sub_same (sub_same (sub_same (sub_same (sub_nil)))))))))), ?_⟩
      refine any_y 40 rfl (by kernel_rfl) (by kernel_rfl) (by kernel_rfl) (sub_same (sub_same (sub_same (sub_same (sub_same (sub_same (sub_same (sub_same (sub_same (sub_nil)))))))))) (wg 35 true 155 rfl rfl rfl rfl) rfl (y_eql rfl rfl) ?_
      refine any_y 41 rfl (by kernel_rfl) (by kernel_rfl) (by kernel_rfl) (sub_same (sub_same (sub_same (sub_same (sub_same (sub_same (sub_same (sub_same (sub_same (sub_nil)))))))))) (wn rfl) rfl (y_pick (b := true) rfl rfl) ?_
      obtain rfl := some_eq h
      exact any_weak [(161, .bool (decide (r78 = r80)))] [0, 1, 2, 3, 4, 5, 6, 7, 8] [box b1 [.int .i64 b_0.Cap, .int .i64 b_0.Num, .int .i64 b_0.Den, .int .i64 b_0.Level, .int .i64 b_0.At], box b4 [.int .i64 r2.1.Cap, .int .i64 r2.1.Num, .int .i64 r2.1.Den, .int .i64 r2.1.Level, .int .i64 r2.1.At], box b7 [.int .i64 r5.1.Cap, .int .i64 r5.1.Num, .int .i64 r5.1.Den, .int .i64 r5.1.Level, .int .i64 r5.1.At], box b10 [.int .i64 r8.1.Cap, .int .i64 r8.1.Num, .int .i64 r8.1.Den, .int .i64 r8.1.Level, .int .i64 r8.1.At], box b17 [.int .i64 r15.B.Cap, .int .i64 r15.B.Num, .int .i64 r15.B.Den, .int .i64 r15.B.Level, .int .i64 r15.B.At, .int .i64 r15.E], box b20 [.int .i64 r18.B.Cap, .int .i64 r18.B.Num, .int .i64 r18.B.Den, .int .i64 r18.B.Level, .int .i64 r18.B.At, .int .i64 r18.E], box b23 [.int .i64 r21.B.Cap, .int .i64 r21.B.Num, .int .i64 r21.B.Den, .int .i64 r21.B.Level, .int .i64 r21.B.At, .int .i64 r21.E], box b26 [.int .i64 r24.N, .int .i64 r24.E], box b29 [.int .i64 r27.N, .int .i64 r27.E]] (by kernel_rfl) (vcons rfl (vnil)) (by decide) rfl (hL76 (decide (r78 = r80)) rfl)
    · replace h := cond_f h hg77
      refine any_no 36 rfl (by kernel_rfl) (by kernel_rfl) (by kernel_rfl) (sub_same (sub_same (sub_same (sub_same (sub_same (sub_same (sub_same (sub_same (sub_same (sub_nil)))))))))) 35 true 155 rfl rfl rfl rfl rfl ?_
      refine any_no 38 rfl (by kernel_rfl) (by kernel_rfl) (by kernel_rfl) (sub_same (sub_same (sub_same (sub_same (sub_same (sub_same (sub_same (sub_same (sub_same (sub_nil)))))))))) 35 true 155 rfl rfl rfl rfl rfl ?_
      refine any_no 37 rfl (by kernel_rfl) (by kernel_rfl) (by kernel_rfl) (sub_same (sub_same (sub_same (sub_same (sub_same (sub_same (sub_same (sub_same (sub_same (sub_nil)))))))))) 35 true 155 rfl rfl rfl rfl rfl ?_
      refine any_no 39 rfl (by kernel_rfl) (by kernel_rfl) (by kernel_rfl) (sub_same (sub_same (sub_same (sub_same (sub_same (sub_same (sub_same (sub_same (sub_same (sub_nil)))))))))) 35 true 155 rfl rfl rfl rfl rfl ?_
      refine any_no 40 rfl (by kernel_rfl) (by kernel_rfl) (by kernel_rfl) (sub_same (sub_same (sub_same (sub_same (sub_same (sub_same (sub_same (sub_same (sub_same (sub_nil)))))))))) 35 true 155 rfl rfl rfl rfl rfl ?_
      refine any_y 41 rfl (by kernel_rfl) (by kernel_rfl) (by kernel_rfl) (sub_same (sub_same (sub_same (sub_same (sub_same (sub_same (sub_same (sub_same (sub_same (sub_nil)))))))))) (wn rfl) rfl (y_pick (b := false) rfl rfl) ?_
      obtain rfl := some_eq h
      exact any_weak [(161, .bool false)] [0, 1, 2, 3, 4, 5, 6, 7, 8] [box b1 [.int .i64 b_0.Cap, .int .i64 b_0.Num, .int .i64 b_0.Den, .int .i64 b_0.Level, .int .i64 b_0.At], box b4 [.int .i64 r2.1.Cap, .int .i64 r2.1.Num, .int .i64 r2.1.Den, .int .i64 r2.1.Level, .int .i64 r2.1.At], box b7 [.int .i64 r5.1.Cap, .int .i64 r5.1.Num, .int .i64 r5.1.Den, .int .i64 r5.1.Level, .int .i64 r5.1.At], box b10 [.int .i64 r8.1.Cap, .int .i64 r8.1.Num, .int .i64 r8.1.Den, .int .i64 r8.1.Level, .int .i64 r8.1.At], box b17 [.int .i64 r15.B.Cap, .int .i64 r15.B.Num, .int .i64 r15.B.Den, .int .i64 r15.B.Level, .int .i64 r15.B.At, .int .i64 r15.E], box b20 [.int .i64 r18.B.Cap, .int .i64 r18.B.Num, .int .i64 r18.B.Den, .int .i64 r18.B.Level, .int .i64 r18.B.At, .int .i64 r18.E], box b23 [.int .i64 r21.B.Cap, .int .i64 r21.B.Num, .int .i64 r21.B.Den, .int .i64 r21.B.Level, .int .i64 r21.B.At, .int .i64 r21.E], box b26 [.int .i64 r24.N, .int .i64 r24.E], box b29 [.int .i64 r27.N, .int .i64 r27.E]] (by kernel_rfl) (vcons rfl (vnil)) (by decide) rfl (hL76 false rfl)
  rintro b72 hj
  obtain rfl : o73 = _ := hj
  replace h := after_go ho74
  clear ho74
  refine any_y 42 rfl (by kernel_rfl) (by kernel_rfl) (by kernel_rfl) (sub_same (sub_same (sub_same (sub_same (sub_same (sub_same (sub_same (sub_same (sub_same (sub_nil)))))))))) (wn rfl) rfl (y_assign rfl) ?_
  refine any_nil (by kernel_rfl) ?_
  refine goes_code ?_
  refine run_ret ?_
  obtain rfl := some_eq h
  refine fin_slots [8] [.bool b72] [] [] Try.results3 rfl (by decide) rfl ?_
  exact ⟨rfl, rfl⟩

end Go.Proofs.Ytpalglggjndmlaa
