/-
  The functions of the bucket laws, lifted: parts of buckets.
-/
import Derived.Test.YtpalglggjndmlaaFb
namespace Go.Proofs.Ytpalglggjndmlaa
open Go.Abs
set_option linter.unusedVariables false
set_option linter.unusedSimpArgs false
set_option maxRecDepth 20000


def bucket_Merge_L1 (l_0 : (List S_api_Bucket)) : (Int × Int × Int × Int × Int × Int) → Option (Lp (Int × Int × Int × Int × Int × Int) (Lp (Int × Int × Int × Int × Int) (S_api_Bucket × Int))) :=
  fun (s_15, x_16, x_17, x_18, x_19, x_20) =>
    cond (decide (s_15 < (l_0.length : Int)))
      (idx l_0 s_15 fun x26 =>
      idx l_0 0 fun x29 =>
      (bucket_Valid x26).bind fun r30 =>
      cond ((!r30) || (!(decide (x26.Cap = x26.Cap) && (decide (x26.Num = x26.Num) && (decide (x26.Den = x29.Den) && (decide (x26.Level = x26.Level) && (decide (x26.At = x29.At))))))))
        (some (.stop (.stop ((S_api_Bucket.mk 0 0 0 0 0), 1))))
        (some (.go ((IntKind.i64.wrap (s_15 + 1)), (IntKind.i64.wrap (x_16 + x26.Cap)), (IntKind.i64.wrap (x_17 + x26.Num)), x26.Den, (IntKind.i64.wrap (x_19 + x26.Level)), x26.At))))
      (some (.stop (.go (x_16, x_17, x_18, x_19, x_20))))
def bucket_Merge (n : Nat) (l_0 : (List S_api_Bucket)) : Option (S_api_Bucket × Int) :=
  (bucket_within_int_29 (l_0.length : Int) 1 64).bind fun r2 =>
  cond (!r2)
    (some ((S_api_Bucket.mk 0 0 0 0 0), 1))
    (bindJ (S := Int × Int × Int × Int × Int)
      (iter (bucket_Merge_L1 l_0) n (0, 0, 0, 0, 0, 0))
    (fun (x_6, x_7, x_8, x_9, x_10) =>
      (bucket_valid (S_api_Bucket.mk x_6 x_7 x_8 x_9 x_10)).bind fun r36 =>
      some (r36.1, r36.2)))
theorem bucket_Merge_ok (n : Nat) (l_0 : (List S_api_Bucket)) (l_0v : Value) {r : S_api_Bucket × Int} (h : bucket_Merge n l_0 = some r) :
    Meets Try.prog 25 [l_0v] [ro l_0v 5 (l_0.map S_api_Bucket.enc)] (fun v G => v = .tuple #[.agg #[.int .i64 r.1.Cap, .int .i64 r.1.Num, .int .i64 r.1.Den, .int .i64 r.1.Level, .int .i64 r.1.At], .int .i64 r.2] ∧ G = []) := by
  refine fn_of_run Try.func25 rfl Try.ntmps25 rfl (fun w0 o0 => ?_)
  refine run_seq ?_
  refine run_region' ?_
  refine ops_t (wn rfl) rfl (t_alloc Try.zeroValue23) ?_
  rintro _ _ ⟨b1, rfl, rfl⟩
  refine ops_y (wn rfl) rfl (y_assign rfl) ?_
  refine ops_nil ?_
  refine goes_code ?_
  refine run_seq ?_
  refine run_seq ?_
  refine run_region' ?_
  refine ops_y (wn rfl) rfl (y_move rfl) ?_
  refine ops_y (wn rfl) rfl ((y_len 0 rfl Try.runUnderlying51 rfl rfl reads_ro).to (v_len S_api_Bucket.enc _)) ?_
  obtain ⟨r2, hr3, h⟩ := bind_some h
  refine ops_t (wn rfl) rfl (t_call (vs := [.int .i64 (l_0.length : Int), .int .i64 1, .int .i64 64]) (cs := []) [] rfl Try.call29 rfl (bucket_within_int_29_ok (l_0.length : Int) 1 64  hr3) shows_nil (.inl rfl)) ?_
  rintro _ _ ⟨_, ⟨rfl, rfl⟩, rfl⟩
  refine ops_y (wn rfl) rfl (y_not rfl) ?_
  refine ops_nil ?_
  refine goes_code ?_
  refine run_cond (!r2) rfl (fun hc4 => ?_) (fun hc4 => ?_)
  · replace h := cond_t h hc4
    refine run_seq ?_
    refine run_region' ?_
    refine ops_y (wn rfl) rfl (y_build_struct (cells := #[.int .i64 0, .int .i64 0, .int .i64 0, .int .i64 0, .int .i64 0]) [] [] Try.zeroValue23 Try.runUnderlying23 (fs_cons Try.sizeOf3 (fs_cons Try.sizeOf3 (fs_cons Try.sizeOf3 (fs_cons Try.sizeOf3 (fs_cons Try.sizeOf3 fs_nil))))) rfl rfl rfl) ?_
    refine ops_t (wn rfl) rfl (t_store 1 Try.sizeOf23 rfl rfl rfl rfl (by simp [Value.cells]) (by simp [Value.cells, Value.oneCell'])) ?_
    rintro _ _ ⟨rfl, rfl⟩
    refine ops_turn (retell 1 (g := box b1 [.int .i64 0, .int .i64 0, .int .i64 0, .int .i64 0, .int .i64 0]) rfl rfl) ?_
    refine ops_y (wn rfl) rfl (y_assign rfl) ?_
    refine ops_nil ?_
    refine goes_code ?_
    refine run_ret ?_
    obtain rfl := some_eq h
    refine fin_res [.cell 2 23, .tmp 3] [.agg #[.int .i64 0, .int .i64 0, .int .i64 0, .int .i64 0, .int .i64 0], .int .i64 1] [] [] Try.results25 rfl (rescons (res_box 1 Try.isAgg23 Try.sizeOf23 rfl rfl rfl) (rescons (res_tmp rfl) resnil)) (by decide) rfl ?_
    exact ⟨rfl, rfl⟩
  · replace h := cond_f h hc4
    refine run_skip ?_
    refine goes_code ?_
    refine run_seq ?_
    refine run_region' ?_
    refine ops_t (wn rfl) rfl (t_alloc Try.zeroValue23) ?_
    rintro _ _ ⟨b5, rfl, rfl⟩
    refine ops_nil ?_
    refine goes_code ?_
    obtain ⟨o11, h, ho12⟩ := bindJ_some h
    refine run_cut ((Int × Int × Int × Int × Int) × (Unit)) (fun σ => [(2, boxP b1 0), (4, boxP b5 0)]) (fun σ => [box b1 [.int .i64 0, .int .i64 0, .int .i64 0, .int .i64 0, .int .i64 0], box b5 [.int .i64 σ.1.1, .int .i64 σ.1.2.1, .int .i64 σ.1.2.2.1, .int .i64 σ.1.2.2.2.1, .int .i64 σ.1.2.2.2.2]]) (fun σ => o11 = .go σ.1) (fun L14 hL13 => ?_) ?_
    · -- the ways through
      refine run_seq ?_
      refine run_region' ?_
      refine ops_y (wn rfl) rfl (y_move rfl) ?_
      refine ops_y (wn rfl) rfl ((y_len 0 rfl Try.runUnderlying51 rfl rfl reads_ro).to (v_len S_api_Bucket.enc _)) ?_
      refine ops_y (wn rfl) rfl (y_move rfl) ?_
      refine ops_nil ?_
      refine goes_code ?_
      refine run_block ?_
      refine run_iter (step := bucket_Merge_L1 l_0) (n := n) (s0 := (0, 0, 0, 0, 0, 0)) h (G := Unit) () (fun σ γ => [(0, l_0v), (2, boxP b1 0), (4, boxP b5 0), (13, l_0v), (14, .int .i64 (l_0.length : Int)), (15, .int .i64 σ.1)]) (fun σ γ => [ro l_0v 5 (l_0.map S_api_Bucket.enc), box b1 [.int .i64 0, .int .i64 0, .int .i64 0, .int .i64 0, .int .i64 0], box b5 [.int .i64 σ.2.1, .int .i64 σ.2.2.1, .int .i64 σ.2.2.2.1, .int .i64 σ.2.2.2.2.1, .int .i64 σ.2.2.2.2.2]]) [0, 1, 2] (vcons rfl (vcons rfl (vcons rfl (vcons rfl (vcons rfl (vcons rfl (vnil))))))) (by decide) rfl ?_
      rintro ⟨s_15, x_16, x_17, x_18, x_19, x_20⟩ _ o21 h L24 hgo22 hstop23
      change Run _ _ _ (VF.of [(0, l_0v), (2, boxP b1 0), (4, boxP b5 0), (13, l_0v), (14, .int .i64 (l_0.length : Int)), (15, .int .i64 s_15)]) [ro l_0v 5 (l_0.map S_api_Bucket.enc), box b1 [.int .i64 0, .int .i64 0, .int .i64 0, .int .i64 0, .int .i64 0], box b5 [.int .i64 x_16, .int .i64 x_17, .int .i64 x_18, .int .i64 x_19, .int .i64 x_20]]
      refine run_seq ?_
      refine run_region' ?_
      refine ops_y (wn rfl) rfl (y_lss rfl rfl) ?_
      refine ops_nil ?_
      refine goes_code ?_
      refine run_seq ?_
      refine run_cond (decide (s_15 < (l_0.length : Int))) rfl (fun hc25 => ?_) (fun hc25 => ?_)
      · replace h := cond_t h hc25
        refine run_skip ?_
        refine goes_code ?_
        refine run_seq ?_
        refine run_block ?_
        refine run_seq ?_
        refine run_region' ?_
        obtain ⟨x26, hzx26, hlx26, hxx26, h⟩ := idx_some h
        refine ops_y (wn rfl) rfl (y_indexAddrI (kd := .i64) (i := s_15) 0 Try.runUnderlying51 Try.sizeOf23 rfl rfl rfl reads_ro hzx26 (map_lt hlx26)) ?_
        refine ops_y (wn rfl) rfl (y_load_agg (i := s_15.toNat) (c := [.int .i64 x26.Cap, .int .i64 x26.Num, .int .i64 x26.Den, .int .i64 x26.Level, .int .i64 x26.At]) 0 Try.isAgg23 Try.sizeOf23 rfl rfl reads_ro (map_get hxx26)) ?_
        refine ops_t (wn rfl) rfl (t_alloc Try.zeroValue23) ?_
        rintro _ _ ⟨b27, rfl, rfl⟩
        refine ops_t (wn rfl) rfl (t_store 3 Try.sizeOf23 rfl rfl rfl rfl (by simp [Value.cells]) (by simp [Value.cells, Value.oneCell'])) ?_
        rintro _ _ ⟨rfl, rfl⟩
        refine ops_turn (retell 3 (g := box b27 [.int .i64 x26.Cap, .int .i64 x26.Num, .int .i64 x26.Den, .int .i64 x26.Level, .int .i64 x26.At]) rfl rfl) ?_
        refine ops_nil ?_
        refine goes_code ?_
        refine run_seq ?_
        refine run_region' ?_
        refine ops_y (wn rfl) rfl (y_load_boxagg (c := [.int .i64 x26.Cap, .int .i64 x26.Num, .int .i64 x26.Den, .int .i64 x26.Level, .int .i64 x26.At]) 3 Try.isAgg23 Try.sizeOf23 rfl rfl rfl) ?_
        refine ops_t (wn rfl) rfl (t_alloc Try.zeroValue23) ?_
        rintro _ _ ⟨b28, rfl, rfl⟩
        refine ops_t (wn rfl) rfl (t_store 4 Try.sizeOf23 rfl rfl rfl rfl (by simp [Value.cells]) (by simp [Value.cells, Value.oneCell'])) ?_
        rintro _ _ ⟨rfl, rfl⟩
        refine ops_turn (retell 4 (g := box b28 [.int .i64 x26.Cap, .int .i64 x26.Num, .int .i64 x26.Den, .int .i64 x26.Level, .int .i64 x26.At]) rfl rfl) ?_
        refine ops_nil ?_
        refine goes_code ?_
        refine run_seq ?_
        refine run_weak [(0, l_0v), (2, boxP b1 0), (4, boxP b5 0), (13, l_0v), (14, .int .i64 (l_0.length : Int)), (15, .int .i64 s_15), (6, boxP b27 0), (7, boxP b28 0)] [0, 1, 2, 3, 4] [ro l_0v 5 (l_0.map S_api_Bucket.enc), box b1 [.int .i64 0, .int .i64 0, .int .i64 0, .int .i64 0, .int .i64 0], box b5 [.int .i64 x_16, .int .i64 x_17, .int .i64 x_18, .int .i64 x_19, .int .i64 x_20], box b27 [.int .i64 x26.Cap, .int .i64 x26.Num, .int .i64 x26.Den, .int .i64 x26.Level, .int .i64 x26.At], box b28 [.int .i64 x26.Cap, .int .i64 x26.Num, .int .i64 x26.Den, .int .i64 x26.Level, .int .i64 x26.At]] (vcons rfl (vcons rfl (vcons rfl (vcons rfl (vcons rfl (vcons rfl (vcons rfl (vcons rfl (vnil))))))))) (by decide) rfl ?_
        refine run_drawany [ro l_0v 5 (l_0.map S_api_Bucket.enc), box b1 [.int .i64 0, .int .i64 0, .int .i64 0, .int .i64 0, .int .i64 0], box b5 [.int .i64 x_16, .int .i64 x_17, .int .i64 x_18, .int .i64 x_19, .int .i64 x_20], box b27 [.int .i64 x26.Cap, .int .i64 x26.Num, .int .i64 x26.Den, .int .i64 x26.Level, .int .i64 x26.At], HA.emp] (by kernel_rfl) ?_
        refine any_y 0 rfl (by kernel_rfl) (by kernel_rfl) (by kernel_rfl) (sub_same (sub_same (sub_same (sub_same (sub_emp (sub_nil)))))) (wn rfl) rfl (y_move rfl) ?_
        obtain ⟨x29, hzx29, hlx29, hxx29, h⟩ := idx_some h
        refine any_y 1 rfl (by kernel_rfl) (by kernel_rfl) (by kernel_rfl) (sub_same (sub_same (sub_same (sub_same (sub_emp (sub_nil)))))) (wn rfl) rfl (y_indexAddrI (kd := .i64) (i := 0) 0 Try.runUnderlying51 Try.sizeOf23 rfl rfl rfl reads_ro hzx29 (map_lt hlx29)) ?_
        refine any_y 2 rfl (by kernel_rfl) (by kernel_rfl) (by kernel_rfl) (sub_same (sub_same (sub_same (sub_same (sub_emp (sub_nil)))))) (wn rfl) rfl (y_fieldAddr_elem (sz := 0) Try.runUnderlying23 rfl Try.sizeOf3 rfl) ?_
        refine any_y 3 rfl (by kernel_rfl) (by kernel_rfl) (by kernel_rfl) (sub_same (sub_same (sub_same (sub_same (sub_emp (sub_nil)))))) (wn rfl) rfl (y_load_field (i := (0 : Int).toNat) (j := 2) 0 Try.isAgg3 rfl rfl reads_ro (map_get hxx29) rfl) ?_
        refine any_y 4 rfl (by kernel_rfl) (by kernel_rfl) (by kernel_rfl) (sub_same (sub_same (sub_same (sub_same (sub_emp (sub_nil)))))) (wn rfl) rfl (y_move rfl) ?_
        refine any_y 5 rfl (by kernel_rfl) (by kernel_rfl) (by kernel_rfl) (sub_same (sub_same (sub_same (sub_same (sub_emp (sub_nil)))))) (wn rfl) rfl (y_indexAddrI (kd := .i64) (i := 0) 0 Try.runUnderlying51 Try.sizeOf23 rfl rfl rfl reads_ro hzx29 (map_lt hlx29)) ?_
        refine any_y 6 rfl (by kernel_rfl) (by kernel_rfl) (by kernel_rfl) (sub_same (sub_same (sub_same (sub_same (sub_emp (sub_nil)))))) (wn rfl) rfl (y_fieldAddr_elem (sz := 0) Try.runUnderlying23 rfl Try.sizeOf3 rfl) ?_
        refine any_y 7 rfl (by kernel_rfl) (by kernel_rfl) (by kernel_rfl) (sub_same (sub_same (sub_same (sub_same (sub_emp (sub_nil)))))) (wn rfl) rfl (y_load_field (i := (0 : Int).toNat) (j := 4) 0 Try.isAgg3 rfl rfl reads_ro (map_get hxx29) rfl) ?_
        refine any_y 8 rfl (by kernel_rfl) (by kernel_rfl) (by kernel_rfl) (sub_same (sub_same (sub_same (sub_same (sub_emp (sub_nil)))))) (wn rfl) rfl (y_fieldAddr_box (sz := 0) Try.runUnderlying23 rfl Try.sizeOf3 rfl) ?_
        refine any_all [9] (by kernel_rfl) rfl (anyo_cons ?_ anyo_nil)
        refine any_t rfl (wn rfl) rfl (t_store 4 Try.sizeOf3 rfl rfl rfl rfl (by simp [Value.cells]) (by simp [Value.cells, Value.oneCell'])) ?_
        rintro _ _ ⟨rfl, rfl⟩
        refine ⟨(sub_same (sub_same (sub_same (sub_same (sub_emp (sub_nil)))))), ?_⟩
        refine any_turn (retell 4 (g := box b28 [.int .i64 x26.Cap, .int .i64 x26.Num, .int .i64 x29.Den, .int .i64 x26.Level, .int .i64 x26.At]) rfl rfl) ?_
        refine any_y 10 rfl (by kernel_rfl) (by kernel_rfl) (by kernel_rfl) (sub_same (sub_same (sub_same (sub_same (sub_emp (sub_nil)))))) (wn rfl) rfl (y_fieldAddr_box (sz := 0) Try.runUnderlying23 rfl Try.sizeOf3 rfl) ?_
        refine any_all [11] (by kernel_rfl) rfl (anyo_cons ?_ anyo_nil)
        refine any_t rfl (wn rfl) rfl (t_store 4 Try.sizeOf3 rfl rfl rfl rfl (by simp [Value.cells]) (by simp [Value.cells, Value.oneCell'])) ?_
        rintro _ _ ⟨rfl, rfl⟩
        refine ⟨(sub_same (sub_same (sub_same (sub_same (sub_emp (sub_nil)))))), ?_⟩
        refine any_turn (retell 4 (g := box b28 [.int .i64 x26.Cap, .int .i64 x26.Num, .int .i64 x29.Den, .int .i64 x26.Level, .int .i64 x29.At]) rfl rfl) ?_
        refine any_nil (by kernel_rfl) ?_
        refine goes_code ?_
        refine run_seq ?_
        refine run_seq ?_
        refine run_weak [(0, l_0v), (2, boxP b1 0), (4, boxP b5 0), (13, l_0v), (14, .int .i64 (l_0.length : Int)), (15, .int .i64 s_15), (6, boxP b27 0), (7, boxP b28 0)] [0, 1, 2, 3, 4] [ro l_0v 5 (l_0.map S_api_Bucket.enc), box b1 [.int .i64 0, .int .i64 0, .int .i64 0, .int .i64 0, .int .i64 0], box b5 [.int .i64 x_16, .int .i64 x_17, .int .i64 x_18, .int .i64 x_19, .int .i64 x_20], box b27 [.int .i64 x26.Cap, .int .i64 x26.Num, .int .i64 x26.Den, .int .i64 x26.Level, .int .i64 x26.At], box b28 [.int .i64 x26.Cap, .int .i64 x26.Num, .int .i64 x29.Den, .int .i64 x26.Level, .int .i64 x29.At]] (vcons rfl (vcons rfl (vcons rfl (vcons rfl (vcons rfl (vcons rfl (vcons rfl (vcons rfl (vnil))))))))) (by decide) rfl ?_
        refine run_region' ?_
        refine ops_y (wn rfl) rfl (y_load_boxagg (c := [.int .i64 x26.Cap, .int .i64 x26.Num, .int .i64 x26.Den, .int .i64 x26.Level, .int .i64 x26.At]) 3 Try.isAgg23 Try.sizeOf23 rfl rfl rfl) ?_
        obtain ⟨r30, hr31, h⟩ := bind_some h
        refine ops_t (wn rfl) rfl (t_call (vs := [.agg #[.int .i64 x26.Cap, .int .i64 x26.Num, .int .i64 x26.Den, .int .i64 x26.Level, .int .i64 x26.At]]) (cs := []) [] rfl Try.call20 rfl (bucket_Valid_ok x26  hr31) shows_nil (.inl rfl)) ?_
        rintro _ _ ⟨_, ⟨rfl, rfl⟩, rfl⟩
        refine ops_y (wn rfl) rfl (y_not rfl) ?_
        refine ops_y (wn rfl) rfl (y_move rfl) ?_
        refine ops_cut 4 Bool (fun σ => [(0, l_0v), (2, boxP b1 0), (4, boxP b5 0), (13, l_0v), (14, .int .i64 (l_0.length : Int)), (15, .int .i64 s_15), (6, boxP b27 0), (37, .bool σ)]) (fun σ => [ro l_0v 5 (l_0.map S_api_Bucket.enc), box b1 [.int .i64 0, .int .i64 0, .int .i64 0, .int .i64 0, .int .i64 0], box b5 [.int .i64 x_16, .int .i64 x_17, .int .i64 x_18, .int .i64 x_19, .int .i64 x_20], box b27 [.int .i64 x26.Cap, .int .i64 x26.Num, .int .i64 x26.Den, .int .i64 x26.Level, .int .i64 x26.At], box b28 [.int .i64 x26.Cap, .int .i64 x26.Num, .int .i64 x29.Den, .int .i64 x26.Level, .int .i64 x29.At]]) (fun σ => σ = ((!r30) || (!(decide (x26.Cap = x26.Cap) && (decide (x26.Num = x26.Num) && (decide (x26.Den = x29.Den) && (decide (x26.Level = x26.Level) && (decide (x26.At = x29.At))))))))) (fun L32 hL33 => ?_) ?_
        · refine ops_split 33 (!r30) rfl (fun hg34 => ?_) (fun hg34 => ?_)
          · skip
            refine ops_no 3 false 33 rfl rfl rfl rfl rfl ?_
            refine ops_no 3 false 33 rfl rfl rfl rfl rfl ?_
            refine ops_no 3 false 33 rfl rfl rfl rfl rfl ?_
            refine ops_y (wn rfl) rfl (y_pick (b := true) rfl rfl) ?_
            refine ops_nil ?_
            exact goes_cut hL33 true [0, 1, 2, 3, 4] (vcons rfl (vcons rfl (vcons rfl (vcons rfl (vcons rfl (vcons rfl (vcons rfl (vcons rfl (vnil))))))))) (by decide) rfl (by rw [hg34]; simp)
          · skip
            refine ops_y (wg 3 false 33 rfl rfl rfl rfl) rfl (y_load_boxagg (c := [.int .i64 x26.Cap, .int .i64 x26.Num, .int .i64 x26.Den, .int .i64 x26.Level, .int .i64 x26.At]) 3 Try.isAgg23 Try.sizeOf23 rfl rfl rfl) ?_
            refine ops_y (wg 3 false 33 rfl rfl rfl rfl) rfl (y_load_boxagg (c := [.int .i64 x26.Cap, .int .i64 x26.Num, .int .i64 x29.Den, .int .i64 x26.Level, .int .i64 x29.At]) 4 Try.isAgg23 Try.sizeOf23 rfl rfl rfl) ?_
            refine ops_y (wg 3 false 33 rfl rfl rfl rfl) rfl (y_neS (by kernel_rfl) (by kernel_rfl) Try.runUnderlying23 rfl rfl (.cons (eqf_int (by decide) Try.runUnderlying3 Try.isAgg3 rfl rfl) (.cons (eqf_int (by decide) Try.runUnderlying3 Try.isAgg3 rfl rfl) (.cons (eqf_int (by decide) Try.runUnderlying3 Try.isAgg3 rfl rfl) (.cons (eqf_int (by decide) Try.runUnderlying3 Try.isAgg3 rfl rfl) (.cons (eqf_int (by decide) Try.runUnderlying3 Try.isAgg3 rfl rfl) EqFs.nil)))))) ?_
            refine ops_y (wn rfl) rfl (y_pick (b := false) rfl rfl) ?_
            refine ops_nil ?_
            exact goes_cut hL33 (!(decide (x26.Cap = x26.Cap) && (decide (x26.Num = x26.Num) && (decide (x26.Den = x29.Den) && (decide (x26.Level = x26.Level) && (decide (x26.At = x29.At))))))) [0, 1, 2, 3, 4] (vcons rfl (vcons rfl (vcons rfl (vcons rfl (vcons rfl (vcons rfl (vcons rfl (vcons rfl (vnil))))))))) (by decide) rfl (by rw [hg34]; simp)
        rintro _ rfl
        refine ops_nil ?_
        refine goes_code ?_
        refine run_cond ((!r30) || (!(decide (x26.Cap = x26.Cap) && (decide (x26.Num = x26.Num) && (decide (x26.Den = x29.Den) && (decide (x26.Level = x26.Level) && (decide (x26.At = x29.At)))))))) rfl (fun hc35 => ?_) (fun hc35 => ?_)
        · replace h := cond_t h hc35
          refine run_seq ?_
          refine run_region' ?_
          refine ops_y (wn rfl) rfl (y_build_struct (cells := #[.int .i64 0, .int .i64 0, .int .i64 0, .int .i64 0, .int .i64 0]) [] [] Try.zeroValue23 Try.runUnderlying23 (fs_cons Try.sizeOf3 (fs_cons Try.sizeOf3 (fs_cons Try.sizeOf3 (fs_cons Try.sizeOf3 (fs_cons Try.sizeOf3 fs_nil))))) rfl rfl rfl) ?_
          refine ops_t (wn rfl) rfl (t_store 1 Try.sizeOf23 rfl rfl rfl rfl (by simp [Value.cells]) (by simp [Value.cells, Value.oneCell'])) ?_
          rintro _ _ ⟨rfl, rfl⟩
          refine ops_turn (retell 1 (g := box b1 [.int .i64 0, .int .i64 0, .int .i64 0, .int .i64 0, .int .i64 0]) rfl rfl) ?_
          refine ops_y (wn rfl) rfl (y_assign rfl) ?_
          refine ops_nil ?_
          refine goes_code ?_
          refine run_ret ?_
          obtain rfl := some_eq h
          obtain rfl := hstop23 _ rfl
          skip
          obtain rfl := after_stop ho12
          refine fin_res [.cell 2 23, .tmp 3] [.agg #[.int .i64 0, .int .i64 0, .int .i64 0, .int .i64 0, .int .i64 0], .int .i64 1] [] [] Try.results25 rfl (rescons (res_box 1 Try.isAgg23 Try.sizeOf23 rfl rfl rfl) (rescons (res_tmp rfl) resnil)) (by decide) rfl ?_
          exact ⟨rfl, rfl⟩
        · replace h := cond_f h hc35
          refine run_skip ?_
          refine goes_code ?_
          refine run_region' ?_
          refine ops_y (wn rfl) rfl (y_fieldAddr_box (sz := 0) Try.runUnderlying23 rfl Try.sizeOf3 rfl) ?_
          refine ops_y (wn rfl) rfl (y_load_box 2 Try.isAgg3 rfl rfl rfl) ?_
          refine ops_y (wn rfl) rfl (y_fieldAddr_box (sz := 0) Try.runUnderlying23 rfl Try.sizeOf3 rfl) ?_
          refine ops_y (wn rfl) rfl (y_load_box 3 Try.isAgg3 rfl rfl rfl) ?_
          refine ops_y (wn rfl) rfl (y_add rfl rfl) ?_
          refine ops_y (wn rfl) rfl (y_fieldAddr_box (sz := 0) Try.runUnderlying23 rfl Try.sizeOf3 rfl) ?_
          refine ops_y (wn rfl) rfl (y_load_box 2 Try.isAgg3 rfl rfl rfl) ?_
          refine ops_y (wn rfl) rfl (y_fieldAddr_box (sz := 0) Try.runUnderlying23 rfl Try.sizeOf3 rfl) ?_
          refine ops_y (wn rfl) rfl (y_load_box 3 Try.isAgg3 rfl rfl rfl) ?_
          refine ops_y (wn rfl) rfl (y_add rfl rfl) ?_
          refine ops_y (wn rfl) rfl (y_fieldAddr_box (sz := 0) Try.runUnderlying23 rfl Try.sizeOf3 rfl) ?_
          refine ops_y (wn rfl) rfl (y_load_box 3 Try.isAgg3 rfl rfl rfl) ?_
          refine ops_y (wn rfl) rfl (y_fieldAddr_box (sz := 0) Try.runUnderlying23 rfl Try.sizeOf3 rfl) ?_
          refine ops_y (wn rfl) rfl (y_load_box 2 Try.isAgg3 rfl rfl rfl) ?_
          refine ops_y (wn rfl) rfl (y_fieldAddr_box (sz := 0) Try.runUnderlying23 rfl Try.sizeOf3 rfl) ?_
          refine ops_y (wn rfl) rfl (y_load_box 3 Try.isAgg3 rfl rfl rfl) ?_
          refine ops_weak [(0, l_0v), (2, boxP b1 0), (4, boxP b5 0), (13, l_0v), (14, .int .i64 (l_0.length : Int)), (15, .int .i64 s_15), (6, boxP b27 0), (43, .int .i64 (IntKind.i64.wrap (x_16 + x26.Cap))), (48, .int .i64 (IntKind.i64.wrap (x_17 + x26.Num))), (50, .int .i64 x26.Den), (52, .int .i64 x_19), (54, .int .i64 x26.Level)] [0, 1, 2, 3] [ro l_0v 5 (l_0.map S_api_Bucket.enc), box b1 [.int .i64 0, .int .i64 0, .int .i64 0, .int .i64 0, .int .i64 0], box b5 [.int .i64 x_16, .int .i64 x_17, .int .i64 x_18, .int .i64 x_19, .int .i64 x_20], box b27 [.int .i64 x26.Cap, .int .i64 x26.Num, .int .i64 x26.Den, .int .i64 x26.Level, .int .i64 x26.At]] (vcons rfl (vcons rfl (vcons rfl (vcons rfl (vcons rfl (vcons rfl (vcons rfl (vcons rfl (vcons rfl (vcons rfl (vcons rfl (vcons rfl (vnil))))))))))))) (by decide) rfl ?_
          refine ops_y (wn rfl) rfl (y_add rfl rfl) ?_
          refine ops_y (wn rfl) rfl (y_fieldAddr_box (sz := 0) Try.runUnderlying23 rfl Try.sizeOf3 rfl) ?_
          refine ops_y (wn rfl) rfl (y_load_box 3 Try.isAgg3 rfl rfl rfl) ?_
          refine ops_y (wn rfl) rfl (y_build_struct (cells := #[.int .i64 (IntKind.i64.wrap (x_16 + x26.Cap)), .int .i64 (IntKind.i64.wrap (x_17 + x26.Num)), .int .i64 x26.Den, .int .i64 (IntKind.i64.wrap (x_19 + x26.Level)), .int .i64 x26.At]) [(0, .int .i64 (IntKind.i64.wrap (x_16 + x26.Cap))), (1, .int .i64 (IntKind.i64.wrap (x_17 + x26.Num))), (2, .int .i64 x26.Den), (3, .int .i64 (IntKind.i64.wrap (x_19 + x26.Level))), (4, .int .i64 x26.At)] [(0, [.int .i64 (IntKind.i64.wrap (x_16 + x26.Cap))]), (1, [.int .i64 (IntKind.i64.wrap (x_17 + x26.Num))]), (2, [.int .i64 x26.Den]), (3, [.int .i64 (IntKind.i64.wrap (x_19 + x26.Level))]), (4, [.int .i64 x26.At])] Try.zeroValue23 Try.runUnderlying23 (fs_cons Try.sizeOf3 (fs_cons Try.sizeOf3 (fs_cons Try.sizeOf3 (fs_cons Try.sizeOf3 (fs_cons Try.sizeOf3 fs_nil))))) rfl rfl rfl) ?_
          refine ops_t (wn rfl) rfl (t_store 2 Try.sizeOf23 rfl rfl rfl rfl (by simp [Value.cells]) (by simp [Value.cells, Value.oneCell'])) ?_
          rintro _ _ ⟨rfl, rfl⟩
          refine ops_turn (retell 2 (g := box b5 [.int .i64 (IntKind.i64.wrap (x_16 + x26.Cap)), .int .i64 (IntKind.i64.wrap (x_17 + x26.Num)), .int .i64 x26.Den, .int .i64 (IntKind.i64.wrap (x_19 + x26.Level)), .int .i64 x26.At]) rfl rfl) ?_
          refine ops_nil ?_
          refine goes_blk ?_
          refine goes_code ?_
          refine run_region' ?_
          refine ops_y (wn rfl) rfl (y_add rfl rfl) ?_
          refine ops_y (wn rfl) rfl (y_move rfl) ?_
          refine ops_nil ?_
          obtain rfl := some_eq h
          exact goes_iter hgo22 ((IntKind.i64.wrap (s_15 + 1)), (IntKind.i64.wrap (x_16 + x26.Cap)), (IntKind.i64.wrap (x_17 + x26.Num)), x26.Den, (IntKind.i64.wrap (x_19 + x26.Level)), x26.At) () [0, 1, 2] rfl (vcons rfl (vcons rfl (vcons rfl (vcons rfl (vcons rfl (vcons rfl (vnil))))))) (by decide) rfl
      · replace h := cond_f h hc25
        refine run_exit _ rfl ?_
        obtain rfl := some_eq h
        obtain rfl := hstop23 _ rfl
        exact goes_cut hL13 ((x_16, x_17, x_18, x_19, x_20), ()) [1, 2] (vcons rfl (vcons rfl (vnil))) (by decide) rfl rfl
    rintro ⟨⟨x_6, x_7, x_8, x_9, x_10⟩, _⟩ hj
    obtain rfl : o11 = _ := hj
    replace h := after_go ho12
    clear ho12
    change Run _ _ _ (VF.of [(2, boxP b1 0), (4, boxP b5 0)]) [box b1 [.int .i64 0, .int .i64 0, .int .i64 0, .int .i64 0, .int .i64 0], box b5 [.int .i64 x_6, .int .i64 x_7, .int .i64 x_8, .int .i64 x_9, .int .i64 x_10]]
    refine run_seq ?_
    refine run_region' ?_
    refine ops_y (wn rfl) rfl (y_load_boxagg (c := [.int .i64 x_6, .int .i64 x_7, .int .i64 x_8, .int .i64 x_9, .int .i64 x_10]) 1 Try.isAgg23 Try.sizeOf23 rfl rfl rfl) ?_
    obtain ⟨r36, hr37, h⟩ := bind_some h
    refine ops_t (wn rfl) rfl (t_call (vs := [.agg #[.int .i64 x_6, .int .i64 x_7, .int .i64 x_8, .int .i64 x_9, .int .i64 x_10]]) (cs := []) [] rfl Try.call30 rfl (bucket_valid_ok (S_api_Bucket.mk x_6 x_7 x_8 x_9 x_10)  hr37) shows_nil (.inl rfl)) ?_
    rintro _ _ ⟨_, ⟨rfl, rfl⟩, rfl⟩
    refine ops_y (wn rfl) rfl (y_extract rfl rfl) ?_
    refine ops_y (wn rfl) rfl (y_extract rfl rfl) ?_
    refine ops_t (wn rfl) rfl (t_store 0 Try.sizeOf23 rfl rfl rfl rfl (by simp [Value.cells]) (by simp [Value.cells, Value.oneCell'])) ?_
    rintro _ _ ⟨rfl, rfl⟩
    refine ops_turn (retell 0 (g := box b1 [.int .i64 r36.1.Cap, .int .i64 r36.1.Num, .int .i64 r36.1.Den, .int .i64 r36.1.Level, .int .i64 r36.1.At]) rfl rfl) ?_
    refine ops_y (wn rfl) rfl (y_assign rfl) ?_
    refine ops_nil ?_
    refine goes_code ?_
    refine run_ret ?_
    obtain rfl := some_eq h
    refine fin_res [.cell 2 23, .tmp 3] [.agg #[.int .i64 r36.1.Cap, .int .i64 r36.1.Num, .int .i64 r36.1.Den, .int .i64 r36.1.Level, .int .i64 r36.1.At], .int .i64 r36.2] [] [] Try.results25 rfl (rescons (res_box 0 Try.isAgg23 Try.sizeOf23 rfl rfl rfl) (rescons (res_tmp rfl) resnil)) (by decide) rfl ?_
    exact ⟨rfl, rfl⟩

def ref12_sums_L1 (l_0 : (List Int)) : (Int × Int) → Option (Lp (Int × Int) (Lp (Int) (Bool))) :=
  fun (left_6, i_7) =>
    cond (decide (i_7 < (l_0.length : Int)))
      (idx l_0 i_7 fun x13 =>
      cond (decide (x13 < 0) || decide (left_6 < x13))
        (some (.stop (.stop false)))
        (idx l_0 i_7 fun x18 =>
        some (.go ((IntKind.i64.wrap (left_6 - x18)), (IntKind.i64.wrap (i_7 + 1))))))
      (some (.stop (.go left_6)))
def ref12_sums (n : Nat) (l_0 : (List Int)) (want_1 : Int) : Option (Bool) :=
  bindJ (S := Int)
    (iter (ref12_sums_L1 l_0) n (want_1, 0))
  (fun left_1 =>
    some (decide (left_1 = 0)))
theorem ref12_sums_ok (n : Nat) (l_0 : (List Int)) (want_1 : Int) (l_0v : Value) {r : Bool} (h : ref12_sums n l_0 want_1 = some r) :
    Meets Try.prog 32 [l_0v, .int .i64 want_1] [ro l_0v 1 (l_0.map (eInt .i64))] (fun v G => v = .bool r ∧ G = []) := by
  refine fn_of_run Try.func32 rfl Try.ntmps32 rfl (fun w0 o0 => ?_)
  refine run_seq ?_
  refine run_region' ?_
  refine ops_y (wn rfl) rfl (y_assign rfl) ?_
  refine ops_nil ?_
  refine goes_code ?_
  refine run_seq ?_
  refine run_region' ?_
  refine ops_y (wn rfl) rfl (y_move rfl) ?_
  refine ops_y (wn rfl) rfl (y_assign rfl) ?_
  refine ops_nil ?_
  refine goes_code ?_
  obtain ⟨o2, h, ho3⟩ := bindJ_some h
  refine run_cut ((Int) × (Unit)) (fun σ => [(5, .int .i64 σ.1)]) (fun σ => []) (fun σ => o2 = .go σ.1) (fun L5 hL4 => ?_) ?_
  · -- the ways through
    refine run_seq ?_
    refine run_region' ?_
    refine ops_y (wn rfl) rfl (y_assign rfl) ?_
    refine ops_nil ?_
    refine goes_code ?_
    refine run_block ?_
    refine run_iter (step := ref12_sums_L1 l_0) (n := n) (s0 := (want_1, 0)) h (G := Unit) () (fun σ γ => [(0, l_0v), (5, .int .i64 σ.1), (6, .int .i64 σ.2)]) (fun σ γ => [ro l_0v 1 (l_0.map (eInt .i64))]) [0] (vcons rfl (vcons rfl (vcons rfl (vnil)))) (by decide) rfl ?_
    rintro ⟨left_6, i_7⟩ _ o8 h L11 hgo9 hstop10
    change Run _ _ _ (VF.of [(0, l_0v), (5, .int .i64 left_6), (6, .int .i64 i_7)]) [ro l_0v 1 (l_0.map (eInt .i64))]
    refine run_seq ?_
    refine run_seq ?_
    refine run_region' ?_
    refine ops_y (wn rfl) rfl (y_move rfl) ?_
    refine ops_y (wn rfl) rfl (y_move rfl) ?_
    refine ops_y (wn rfl) rfl ((y_len 0 rfl Try.runUnderlying46 rfl rfl reads_ro).to (v_len (eInt .i64) _)) ?_
    refine ops_y (wn rfl) rfl (y_lss rfl rfl) ?_
    refine ops_nil ?_
    refine goes_code ?_
    refine run_cond (decide (i_7 < (l_0.length : Int))) rfl (fun hc12 => ?_) (fun hc12 => ?_)
    · replace h := cond_t h hc12
      refine run_skip ?_
      refine goes_code ?_
      refine run_seq ?_
      refine run_block ?_
      refine run_seq ?_
      refine run_seq ?_
      refine run_region' ?_
      refine ops_y (wn rfl) rfl (y_move rfl) ?_
      refine ops_y (wn rfl) rfl (y_move rfl) ?_
      obtain ⟨x13, hzx13, hlx13, hxx13, h⟩ := idx_some h
      refine ops_y (wn rfl) rfl (y_indexAddrI (kd := .i64) (i := i_7) 0 Try.runUnderlying46 Try.sizeOf3 rfl rfl rfl reads_ro hzx13 (map_lt hlx13)) ?_
      refine ops_y (wn rfl) rfl (y_load_elem (i := i_7.toNat) 0 Try.isAgg3 rfl rfl reads_ro (map_get hxx13)) ?_
      refine ops_y (wn rfl) rfl (y_lss rfl rfl) ?_
      refine ops_y (wn rfl) rfl (y_move rfl) ?_
      refine ops_cut 7 Bool (fun σ => [(0, l_0v), (5, .int .i64 left_6), (6, .int .i64 i_7), (26, .bool σ)]) (fun σ => [ro l_0v 1 (l_0.map (eInt .i64))]) (fun σ => σ = (decide (x13 < 0) || decide (left_6 < x13))) (fun L14 hL15 => ?_) ?_
      · refine ops_split 19 (decide (x13 < 0)) rfl (fun hg16 => ?_) (fun hg16 => ?_)
        · skip
          refine ops_no 5 false 19 rfl rfl rfl rfl rfl ?_
          refine ops_no 5 false 19 rfl rfl rfl rfl rfl ?_
          refine ops_no 5 false 19 rfl rfl rfl rfl rfl ?_
          refine ops_no 5 false 19 rfl rfl rfl rfl rfl ?_
          refine ops_no 5 false 19 rfl rfl rfl rfl rfl ?_
          refine ops_weak [(0, l_0v), (5, .int .i64 left_6), (6, .int .i64 i_7), (19, .bool true)] [0] [ro l_0v 1 (l_0.map (eInt .i64))] (vcons rfl (vcons rfl (vcons rfl (vcons rfl (vnil))))) (by decide) rfl ?_
          refine ops_no 5 false 19 rfl rfl rfl rfl rfl ?_
          refine ops_y (wn rfl) rfl (y_pick (b := true) rfl rfl) ?_
          refine ops_nil ?_
          exact goes_cut hL15 true [0] (vcons rfl (vcons rfl (vcons rfl (vcons rfl (vnil))))) (by decide) rfl (by rw [hg16]; simp)
        · skip
          refine ops_y (wg 5 false 19 rfl rfl rfl rfl) rfl (y_move rfl) ?_
          refine ops_y (wg 5 false 19 rfl rfl rfl rfl) rfl (y_move rfl) ?_
          refine ops_y (wg 5 false 19 rfl rfl rfl rfl) rfl (y_indexAddrI (kd := .i64) (i := i_7) 0 Try.runUnderlying46 Try.sizeOf3 rfl rfl rfl reads_ro hzx13 (map_lt hlx13)) ?_
          refine ops_y (wg 5 false 19 rfl rfl rfl rfl) rfl (y_load_elem (i := i_7.toNat) 0 Try.isAgg3 rfl rfl reads_ro (map_get hxx13)) ?_
          refine ops_y (wg 5 false 19 rfl rfl rfl rfl) rfl (y_move rfl) ?_
          refine ops_weak [(0, l_0v), (5, .int .i64 left_6), (6, .int .i64 i_7), (19, .bool false), (23, .int .i64 x13), (24, .int .i64 left_6)] [0] [ro l_0v 1 (l_0.map (eInt .i64))] (vcons rfl (vcons rfl (vcons rfl (vcons rfl (vcons rfl (vcons rfl (vnil))))))) (by decide) rfl ?_
          refine ops_y (wg 5 false 19 rfl rfl rfl rfl) rfl (y_gtr rfl rfl) ?_
          refine ops_y (wn rfl) rfl (y_pick (b := false) rfl rfl) ?_
          refine ops_nil ?_
          exact goes_cut hL15 (decide (left_6 < x13)) [0] (vcons rfl (vcons rfl (vcons rfl (vcons rfl (vnil))))) (by decide) rfl (by rw [hg16]; simp)
      rintro _ rfl
      refine ops_nil ?_
      refine goes_code ?_
      refine run_cond (decide (x13 < 0) || decide (left_6 < x13)) rfl (fun hc17 => ?_) (fun hc17 => ?_)
      · replace h := cond_t h hc17
        refine run_seq ?_
        refine run_region' ?_
        refine ops_y (wn rfl) rfl (y_assign rfl) ?_
        refine ops_nil ?_
        refine goes_code ?_
        refine run_ret ?_
        obtain rfl := some_eq h
        obtain rfl := hstop10 _ rfl
        skip
        obtain rfl := after_stop ho3
        refine fin_slots [4] [.bool false] [] [] Try.results32 rfl (by decide) rfl ?_
        exact ⟨rfl, rfl⟩
      · replace h := cond_f h hc17
        refine run_skip ?_
        refine goes_code ?_
        refine run_region' ?_
        refine ops_y (wn rfl) rfl (y_move rfl) ?_
        refine ops_y (wn rfl) rfl (y_move rfl) ?_
        refine ops_y (wn rfl) rfl (y_move rfl) ?_
        obtain ⟨x18, hzx18, hlx18, hxx18, h⟩ := idx_some h
        refine ops_y (wn rfl) rfl (y_indexAddrI (kd := .i64) (i := i_7) 0 Try.runUnderlying46 Try.sizeOf3 rfl rfl rfl reads_ro hzx18 (map_lt hlx18)) ?_
        refine ops_y (wn rfl) rfl (y_load_elem (i := i_7.toNat) 0 Try.isAgg3 rfl rfl reads_ro (map_get hxx18)) ?_
        refine ops_y (wn rfl) rfl (y_sub rfl rfl) ?_
        refine ops_y (wn rfl) rfl (y_assign rfl) ?_
        refine ops_nil ?_
        refine goes_blk ?_
        refine goes_code ?_
        refine run_region' ?_
        refine ops_y (wn rfl) rfl (y_move rfl) ?_
        refine ops_y (wn rfl) rfl (y_add rfl rfl) ?_
        refine ops_y (wn rfl) rfl (y_assign rfl) ?_
        refine ops_nil ?_
        obtain rfl := some_eq h
        exact goes_iter hgo9 ((IntKind.i64.wrap (left_6 - x18)), (IntKind.i64.wrap (i_7 + 1))) () [0] rfl (vcons rfl (vcons rfl (vcons rfl (vnil)))) (by decide) rfl
    · replace h := cond_f h hc12
      refine run_exit _ rfl ?_
      obtain rfl := some_eq h
      obtain rfl := hstop10 _ rfl
      exact goes_cut hL4 (left_6, ()) [] (vcons rfl (vnil)) (by decide) rfl rfl
  rintro ⟨left_1, _⟩ hj
  obtain rfl : o2 = _ := hj
  replace h := after_go ho3
  clear ho3
  change Run _ _ _ (VF.of [(5, .int .i64 left_1)]) []
  refine run_seq ?_
  refine run_region' ?_
  refine ops_y (wn rfl) rfl (y_move rfl) ?_
  refine ops_y (wn rfl) rfl (y_eql rfl rfl) ?_
  refine ops_y (wn rfl) rfl (y_assign rfl) ?_
  refine ops_nil ?_
  refine goes_code ?_
  refine run_ret ?_
  obtain rfl := some_eq h
  refine fin_slots [4] [.bool (decide (left_1 = 0))] [] [] Try.results32 rfl (by decide) rfl ?_
  exact ⟨rfl, rfl⟩

def ref12_Split_L1 (b_0 : S_api_Bucket) (caps_1 : (List Int)) (nums_2 : (List Int)) : (Int × (List S_api_Bucket) × Int) → Option (Lp (Int × (List S_api_Bucket) × Int) (Lp ((List S_api_Bucket)) (S_ref12_Parts))) :=
  fun (left_37, out_38, i_39) =>
    cond (decide (i_39 < (caps_1.length : Int)))
      (idx caps_1 i_39 fun x46 =>
      idx nums_2 i_39 fun x47 =>
      need (out_38.length + [(S_api_Bucket.mk x46 x47 b_0.Den (min left_37 (IntKind.i64.wrap (x46 * b_0.Den))) b_0.At)].length ≤ 4294967296) (
      some (.go ((IntKind.i64.wrap (left_37 - (min left_37 (IntKind.i64.wrap (x46 * b_0.Den))))), (out_38 ++ [(S_api_Bucket.mk x46 x47 b_0.Den (min left_37 (IntKind.i64.wrap (x46 * b_0.Den))) b_0.At)]), (IntKind.i64.wrap (i_39 + 1))))))
      (some (.stop (.go out_38)))
def ref12_Split (n : Nat) (b_0 : S_api_Bucket) (caps_1 : (List Int)) (nums_2 : (List Int)) : Option (S_ref12_Parts) :=
  (ref12_Valid b_0).bind fun r3 =>
  bindJ (S := Bool)
    (cond ((((!r3) || decide ((caps_1.length : Int) < 1)) || decide (64 < (caps_1.length : Int))) || decide ((nums_2.length : Int) ≠ (caps_1.length : Int)))
      (some (.go true))
      ((ref12_sums n caps_1 b_0.Cap).bind fun r20 =>
      some (.go (!r20))))
  (fun b14 =>
    bindJ (S := Bool)
      (cond b14
        (some (.go true))
        ((ref12_sums n nums_2 b_0.Num).bind fun r28 =>
        some (.go (!r28))))
    (fun b22 =>
      cond b22
        (some (S_ref12_Parts.mk ([] : List S_api_Bucket) 1))
        (bindJ (S := (List S_api_Bucket))
          (iter (ref12_Split_L1 b_0 caps_1 nums_2) n (b_0.Level, ([] : List S_api_Bucket), 0))
        (fun out_31 =>
          some (S_ref12_Parts.mk out_31 0)))))
theorem ref12_Split_ok (n : Nat) (b_0 : S_api_Bucket) (caps_1 : (List Int)) (nums_2 : (List Int)) (caps_1v : Value) (nums_2v : Value) {r : S_ref12_Parts} (h : ref12_Split n b_0 caps_1 nums_2 = some r) :
    Meets Try.prog 26 [.agg #[.int .i64 b_0.Cap, .int .i64 b_0.Num, .int .i64 b_0.Den, .int .i64 b_0.Level, .int .i64 b_0.At], caps_1v, nums_2v] [ro caps_1v 1 (caps_1.map (eInt .i64)), ro nums_2v 1 (nums_2.map (eInt .i64))] (fun v G => ∃ v0, v = .agg #[v0, .int .i64 r.E] ∧ G = [row v0 5 (r.L.map S_api_Bucket.enc)]) := by
  refine fn_of_run Try.func26 rfl Try.ntmps26 rfl (fun w0 o0 => ?_)
  refine run_seq ?_
  refine run_region' ?_
  refine ops_t (wn rfl) rfl (t_box rfl) ?_
  rintro _ _ ⟨b1, rfl, rfl⟩
  refine ops_t (wn rfl) rfl (t_alloc Try.zeroValue56) ?_
  rintro _ _ ⟨b2, rfl, rfl⟩
  refine ops_nil ?_
  refine goes_code ?_
  refine run_seq ?_
  refine run_seq ?_
  refine run_region' ?_
  refine ops_y (wn rfl) rfl (y_load_boxagg (c := [.int .i64 b_0.Cap, .int .i64 b_0.Num, .int .i64 b_0.Den, .int .i64 b_0.Level, .int .i64 b_0.At]) 2 Try.isAgg23 Try.sizeOf23 rfl rfl rfl) ?_
  obtain ⟨r3, hr4, h⟩ := bind_some h
  refine ops_t (wn rfl) rfl (t_call (vs := [.agg #[.int .i64 b_0.Cap, .int .i64 b_0.Num, .int .i64 b_0.Den, .int .i64 b_0.Level, .int .i64 b_0.At]]) (cs := []) [] rfl Try.call21 rfl (ref12_Valid_ok b_0  hr4) shows_nil (.inl rfl)) ?_
  rintro _ _ ⟨_, ⟨rfl, rfl⟩, rfl⟩
  refine ops_y (wn rfl) rfl (y_not rfl) ?_
  refine ops_y (wn rfl) rfl (y_move rfl) ?_
  refine ops_cut 4 Bool (fun σ => [(1, caps_1v), (2, nums_2v), (3, boxP b1 0), (6, boxP b2 0), (18, .bool σ)]) (fun σ => [ro caps_1v 1 (caps_1.map (eInt .i64)), ro nums_2v 1 (nums_2.map (eInt .i64)), box b1 [.int .i64 b_0.Cap, .int .i64 b_0.Num, .int .i64 b_0.Den, .int .i64 b_0.Level, .int .i64 b_0.At], box b2 [.slice none 0 0, .int .i64 0]]) (fun σ => σ = ((!r3) || decide ((caps_1.length : Int) < 1))) (fun L5 hL6 => ?_) ?_
  · refine ops_split 14 (!r3) rfl (fun hg7 => ?_) (fun hg7 => ?_)
    · skip
      refine ops_no 3 false 14 rfl rfl rfl rfl rfl ?_
      refine ops_no 3 false 14 rfl rfl rfl rfl rfl ?_
      refine ops_no 3 false 14 rfl rfl rfl rfl rfl ?_
      refine ops_y (wn rfl) rfl (y_pick (b := true) rfl rfl) ?_
      refine ops_nil ?_
      exact goes_cut hL6 true [0, 1, 2, 3] (vcons rfl (vcons rfl (vcons rfl (vcons rfl (vcons rfl (vnil)))))) (by decide) rfl (by rw [hg7]; simp)
    · skip
      refine ops_y (wg 3 false 14 rfl rfl rfl rfl) rfl (y_move rfl) ?_
      refine ops_y (wg 3 false 14 rfl rfl rfl rfl) rfl ((y_len 0 rfl Try.runUnderlying46 rfl rfl reads_ro).to (v_len (eInt .i64) _)) ?_
      refine ops_y (wg 3 false 14 rfl rfl rfl rfl) rfl (y_lss rfl rfl) ?_
      refine ops_y (wn rfl) rfl (y_pick (b := false) rfl rfl) ?_
      refine ops_nil ?_
      exact goes_cut hL6 (decide ((caps_1.length : Int) < 1)) [0, 1, 2, 3] (vcons rfl (vcons rfl (vcons rfl (vcons rfl (vcons rfl (vnil)))))) (by decide) rfl (by rw [hg7]; simp)
  rintro _ rfl
  refine ops_y (wn rfl) rfl (y_move rfl) ?_
  refine ops_cut 4 Bool (fun σ => [(1, caps_1v), (2, nums_2v), (3, boxP b1 0), (6, boxP b2 0), (23, .bool σ)]) (fun σ => [ro caps_1v 1 (caps_1.map (eInt .i64)), ro nums_2v 1 (nums_2.map (eInt .i64)), box b1 [.int .i64 b_0.Cap, .int .i64 b_0.Num, .int .i64 b_0.Den, .int .i64 b_0.Level, .int .i64 b_0.At], box b2 [.slice none 0 0, .int .i64 0]]) (fun σ => σ = (((!r3) || decide ((caps_1.length : Int) < 1)) || decide (64 < (caps_1.length : Int)))) (fun L8 hL9 => ?_) ?_
  · refine ops_split 19 ((!r3) || decide ((caps_1.length : Int) < 1)) rfl (fun hg10 => ?_) (fun hg10 => ?_)
    · skip
      refine ops_no 8 false 19 rfl rfl rfl rfl rfl ?_
      refine ops_no 8 false 19 rfl rfl rfl rfl rfl ?_
      refine ops_no 8 false 19 rfl rfl rfl rfl rfl ?_
      refine ops_y (wn rfl) rfl (y_pick (b := true) rfl rfl) ?_
      refine ops_nil ?_
      exact goes_cut hL9 true [0, 1, 2, 3] (vcons rfl (vcons rfl (vcons rfl (vcons rfl (vcons rfl (vnil)))))) (by decide) rfl (by rw [hg10]; simp)
    · skip
      refine ops_y (wg 8 false 19 rfl rfl rfl rfl) rfl (y_move rfl) ?_
      refine ops_y (wg 8 false 19 rfl rfl rfl rfl) rfl ((y_len 0 rfl Try.runUnderlying46 rfl rfl reads_ro).to (v_len (eInt .i64) _)) ?_
      refine ops_y (wg 8 false 19 rfl rfl rfl rfl) rfl (y_gtr rfl rfl) ?_
      refine ops_y (wn rfl) rfl (y_pick (b := false) rfl rfl) ?_
      refine ops_nil ?_
      exact goes_cut hL9 (decide (64 < (caps_1.length : Int))) [0, 1, 2, 3] (vcons rfl (vcons rfl (vcons rfl (vcons rfl (vcons rfl (vnil)))))) (by decide) rfl (by rw [hg10]; simp)
  rintro _ rfl
  refine ops_y (wn rfl) rfl (y_move rfl) ?_
  refine ops_cut 6 Bool (fun σ => [(1, caps_1v), (2, nums_2v), (3, boxP b1 0), (6, boxP b2 0), (30, .bool σ)]) (fun σ => [ro caps_1v 1 (caps_1.map (eInt .i64)), ro nums_2v 1 (nums_2.map (eInt .i64)), box b1 [.int .i64 b_0.Cap, .int .i64 b_0.Num, .int .i64 b_0.Den, .int .i64 b_0.Level, .int .i64 b_0.At], box b2 [.slice none 0 0, .int .i64 0]]) (fun σ => σ = ((((!r3) || decide ((caps_1.length : Int) < 1)) || decide (64 < (caps_1.length : Int))) || decide ((nums_2.length : Int) ≠ (caps_1.length : Int)))) (fun L11 hL12 => ?_) ?_
  · refine ops_split 24 (((!r3) || decide ((caps_1.length : Int) < 1)) || decide (64 < (caps_1.length : Int))) rfl (fun hg13 => ?_) (fun hg13 => ?_)
    · skip
      refine ops_no 13 false 24 rfl rfl rfl rfl rfl ?_
      refine ops_no 13 false 24 rfl rfl rfl rfl rfl ?_
      refine ops_no 13 false 24 rfl rfl rfl rfl rfl ?_
      refine ops_no 13 false 24 rfl rfl rfl rfl rfl ?_
      refine ops_no 13 false 24 rfl rfl rfl rfl rfl ?_
      refine ops_y (wn rfl) rfl (y_pick (b := true) rfl rfl) ?_
      refine ops_nil ?_
      exact goes_cut hL12 true [0, 1, 2, 3] (vcons rfl (vcons rfl (vcons rfl (vcons rfl (vcons rfl (vnil)))))) (by decide) rfl (by rw [hg13]; simp)
    · skip
      refine ops_y (wg 13 false 24 rfl rfl rfl rfl) rfl (y_move rfl) ?_
      refine ops_y (wg 13 false 24 rfl rfl rfl rfl) rfl ((y_len 1 rfl Try.runUnderlying46 rfl rfl reads_ro).to (v_len (eInt .i64) _)) ?_
      refine ops_y (wg 13 false 24 rfl rfl rfl rfl) rfl (y_move rfl) ?_
      refine ops_y (wg 13 false 24 rfl rfl rfl rfl) rfl ((y_len 0 rfl Try.runUnderlying46 rfl rfl reads_ro).to (v_len (eInt .i64) _)) ?_
      refine ops_y (wg 13 false 24 rfl rfl rfl rfl) rfl (y_neq rfl rfl) ?_
      refine ops_y (wn rfl) rfl (y_pick (b := false) rfl rfl) ?_
      refine ops_nil ?_
      exact goes_cut hL12 (decide ((nums_2.length : Int) ≠ (caps_1.length : Int))) [0, 1, 2, 3] (vcons rfl (vcons rfl (vcons rfl (vcons rfl (vcons rfl (vnil)))))) (by decide) rfl (by rw [hg13]; simp)
  rintro _ rfl
  refine ops_y (wn rfl) rfl (y_move rfl) ?_
  obtain ⟨o15, h, ho16⟩ := bindJ_some h
  refine ops_cut 6 Bool (fun σ => [(1, caps_1v), (2, nums_2v), (3, boxP b1 0), (6, boxP b2 0), (37, .bool σ)]) (fun σ => [ro caps_1v 1 (caps_1.map (eInt .i64)), ro nums_2v 1 (nums_2.map (eInt .i64)), box b1 [.int .i64 b_0.Cap, .int .i64 b_0.Num, .int .i64 b_0.Den, .int .i64 b_0.Level, .int .i64 b_0.At], box b2 [.slice none 0 0, .int .i64 0]]) (fun σ => o15 = .go σ) (fun L17 hL18 => ?_) ?_
  · refine ops_split 31 ((((!r3) || decide ((caps_1.length : Int) < 1)) || decide (64 < (caps_1.length : Int))) || decide ((nums_2.length : Int) ≠ (caps_1.length : Int))) rfl (fun hg19 => ?_) (fun hg19 => ?_)
    · replace h := cond_t h hg19
      refine ops_no 20 false 31 rfl rfl rfl rfl rfl ?_
      refine ops_no 20 false 31 rfl rfl rfl rfl rfl ?_
      refine ops_no 20 false 31 rfl rfl rfl rfl rfl ?_
      refine ops_no 20 false 31 rfl rfl rfl rfl rfl ?_
      refine ops_no 20 false 31 rfl rfl rfl rfl rfl ?_
      refine ops_y (wn rfl) rfl (y_pick (b := true) rfl rfl) ?_
      refine ops_nil ?_
      obtain rfl := some_eq h
      exact goes_cut hL18 true [0, 1, 2, 3] (vcons rfl (vcons rfl (vcons rfl (vcons rfl (vcons rfl (vnil)))))) (by decide) rfl rfl
    · replace h := cond_f h hg19
      refine ops_y (wg 20 false 31 rfl rfl rfl rfl) rfl (y_move rfl) ?_
      refine ops_y (wg 20 false 31 rfl rfl rfl rfl) rfl (y_fieldAddr_box (sz := 0) Try.runUnderlying23 rfl Try.sizeOf3 rfl) ?_
      refine ops_y (wg 20 false 31 rfl rfl rfl rfl) rfl (y_load_box 2 Try.isAgg3 rfl rfl rfl) ?_
      obtain ⟨r20, hr21, h⟩ := bind_some h
      refine ops_t (wg 20 false 31 rfl rfl rfl rfl) rfl (t_call (vs := [caps_1v, .int .i64 b_0.Cap]) (cs := []) [⟨0, false⟩] rfl Try.call32 rfl (ref12_sums_ok n caps_1 b_0.Cap caps_1v hr21) (shows_cons 0 false rfl views_ro shows_nil) (.inl rfl)) ?_
      rintro _ _ ⟨_, ⟨rfl, rfl⟩, rfl⟩
      refine ops_y (wg 20 false 31 rfl rfl rfl rfl) rfl (y_not rfl) ?_
      refine ops_y (wn rfl) rfl (y_pick (b := false) rfl rfl) ?_
      refine ops_nil ?_
      obtain rfl := some_eq h
      exact goes_cut hL18 (!r20) [0, 1, 2, 3] (vcons rfl (vcons rfl (vcons rfl (vcons rfl (vcons rfl (vnil)))))) (by decide) rfl rfl
  rintro b14 hj
  obtain rfl : o15 = _ := hj
  replace h := after_go ho16
  clear ho16
  refine ops_y (wn rfl) rfl (y_move rfl) ?_
  obtain ⟨o23, h, ho24⟩ := bindJ_some h
  refine ops_cut 6 Bool (fun σ => [(1, caps_1v), (2, nums_2v), (3, boxP b1 0), (6, boxP b2 0), (44, .bool σ)]) (fun σ => [ro caps_1v 1 (caps_1.map (eInt .i64)), ro nums_2v 1 (nums_2.map (eInt .i64)), box b1 [.int .i64 b_0.Cap, .int .i64 b_0.Num, .int .i64 b_0.Den, .int .i64 b_0.Level, .int .i64 b_0.At], box b2 [.slice none 0 0, .int .i64 0]]) (fun σ => o23 = .go σ) (fun L25 hL26 => ?_) ?_
  · refine ops_split 38 b14 rfl (fun hg27 => ?_) (fun hg27 => ?_)
    · replace h := cond_t h hg27
      refine ops_no 27 false 38 rfl rfl rfl rfl rfl ?_
      refine ops_no 27 false 38 rfl rfl rfl rfl rfl ?_
      refine ops_no 27 false 38 rfl rfl rfl rfl rfl ?_
      refine ops_no 27 false 38 rfl rfl rfl rfl rfl ?_
      refine ops_no 27 false 38 rfl rfl rfl rfl rfl ?_
      refine ops_y (wn rfl) rfl (y_pick (b := true) rfl rfl) ?_
      refine ops_nil ?_
      obtain rfl := some_eq h
      exact goes_cut hL26 true [0, 1, 2, 3] (vcons rfl (vcons rfl (vcons rfl (vcons rfl (vcons rfl (vnil)))))) (by decide) rfl rfl
    · replace h := cond_f h hg27
      refine ops_y (wg 27 false 38 rfl rfl rfl rfl) rfl (y_move rfl) ?_
      refine ops_y (wg 27 false 38 rfl rfl rfl rfl) rfl (y_fieldAddr_box (sz := 0) Try.runUnderlying23 rfl Try.sizeOf3 rfl) ?_
      refine ops_y (wg 27 false 38 rfl rfl rfl rfl) rfl (y_load_box 2 Try.isAgg3 rfl rfl rfl) ?_
      obtain ⟨r28, hr29, h⟩ := bind_some h
      refine ops_t (wg 27 false 38 rfl rfl rfl rfl) rfl (t_call (vs := [nums_2v, .int .i64 b_0.Num]) (cs := []) [⟨1, false⟩] rfl Try.call32 rfl (ref12_sums_ok n nums_2 b_0.Num nums_2v hr29) (shows_cons 1 false rfl views_ro shows_nil) (.inl rfl)) ?_
      rintro _ _ ⟨_, ⟨rfl, rfl⟩, rfl⟩
      refine ops_y (wg 27 false 38 rfl rfl rfl rfl) rfl (y_not rfl) ?_
      refine ops_y (wn rfl) rfl (y_pick (b := false) rfl rfl) ?_
      refine ops_nil ?_
      obtain rfl := some_eq h
      exact goes_cut hL26 (!r28) [0, 1, 2, 3] (vcons rfl (vcons rfl (vcons rfl (vcons rfl (vcons rfl (vnil)))))) (by decide) rfl rfl
  rintro b22 hj
  obtain rfl : o23 = _ := hj
  replace h := after_go ho24
  clear ho24
  refine ops_nil ?_
  refine goes_code ?_
  refine run_cond b22 rfl (fun hc30 => ?_) (fun hc30 => ?_)
  · replace h := cond_t h hc30
    refine run_seq ?_
    refine run_region' ?_
    refine ops_y (wn rfl) rfl (y_build_struct (cells := #[.slice none 0 0, .int .i64 1]) [(1, .int .i64 1)] [(1, [.int .i64 1])] Try.zeroValue56 Try.runUnderlying56 (fs_cons Try.sizeOf51 (fs_cons Try.sizeOf24 fs_nil)) rfl rfl rfl) ?_
    refine ops_t (wn rfl) rfl (t_store 3 Try.sizeOf56 rfl rfl rfl rfl (by simp [Value.cells]) (by simp [Value.cells, Value.oneCell'])) ?_
    rintro _ _ ⟨rfl, rfl⟩
    refine ops_turn (retell 3 (g := box b2 [.slice none 0 0, .int .i64 1]) rfl rfl) ?_
    refine ops_nil ?_
    refine goes_code ?_
    refine run_ret ?_
    refine fin_turn (nilrow 5) ?_
    refine fin_turn (retell 4 (g := row (.slice none 0 0) 5 (([] : List S_api_Bucket).map S_api_Bucket.enc)) rfl rfl) ?_
    obtain rfl := some_eq h
    refine fin_res [.cell 6 56] [.agg #[(.slice none 0 0), .int .i64 1]] [4] [row (.slice none 0 0) 5 (([] : List S_api_Bucket).map S_api_Bucket.enc)] Try.results26 rfl (rescons (res_box 3 Try.isAgg56 Try.sizeOf56 rfl rfl rfl) resnil) (by decide) rfl ?_
    exact ⟨_, rfl, rfl⟩
  · replace h := cond_f h hc30
    refine run_skip ?_
    refine goes_code ?_
    refine run_seq ?_
    refine run_region' ?_
    refine ops_y (wn rfl) rfl (y_fieldAddr_box (sz := 0) Try.runUnderlying23 rfl Try.sizeOf3 rfl) ?_
    refine ops_y (wn rfl) rfl (y_load_box 2 Try.isAgg3 rfl rfl rfl) ?_
    refine ops_y (wn rfl) rfl (y_assign rfl) ?_
    refine ops_nil ?_
    refine goes_code ?_
    refine run_seq ?_
    refine run_region' ?_
    refine ops_y (wn rfl) rfl (y_assign rfl) ?_
    refine ops_nil ?_
    refine goes_code ?_
    obtain ⟨o33, h, ho34⟩ := bindJ_some h
    refine run_cut (((List S_api_Bucket)) × (Value)) (fun σ => [(6, boxP b2 0), (8, σ.2)]) (fun σ => [box b2 [.slice none 0 0, .int .i64 0], row σ.2 5 (σ.1.map S_api_Bucket.enc)]) (fun σ => o33 = .go σ.1) (fun L36 hL35 => ?_) ?_
    · -- the ways through
      refine run_seq ?_
      refine run_region' ?_
      refine ops_y (wn rfl) rfl (y_assign rfl) ?_
      refine ops_nil ?_
      refine goes_code ?_
      refine run_block ?_
      refine run_turn (nilrow 5) ?_
      refine run_turn (retell 4 (g := row (.slice none 0 0) 5 (([] : List S_api_Bucket).map S_api_Bucket.enc)) rfl rfl) ?_
      refine run_iter (step := ref12_Split_L1 b_0 caps_1 nums_2) (n := n) (s0 := (b_0.Level, ([] : List S_api_Bucket), 0)) h (G := Value) (.slice none 0 0) (fun σ γ => [(1, caps_1v), (2, nums_2v), (3, boxP b1 0), (6, boxP b2 0), (7, .int .i64 σ.1), (8, γ), (9, .int .i64 σ.2.2)]) (fun σ γ => [ro caps_1v 1 (caps_1.map (eInt .i64)), ro nums_2v 1 (nums_2.map (eInt .i64)), box b1 [.int .i64 b_0.Cap, .int .i64 b_0.Num, .int .i64 b_0.Den, .int .i64 b_0.Level, .int .i64 b_0.At], box b2 [.slice none 0 0, .int .i64 0], row γ 5 (σ.2.1.map S_api_Bucket.enc)]) [0, 1, 2, 3, 4] (vcons rfl (vcons rfl (vcons rfl (vcons rfl (vcons rfl (vcons rfl (vcons rfl (vnil)))))))) (by decide) rfl ?_
      rintro ⟨left_37, out_38, i_39⟩ v40 o41 h L44 hgo42 hstop43
      change Run _ _ _ (VF.of [(1, caps_1v), (2, nums_2v), (3, boxP b1 0), (6, boxP b2 0), (7, .int .i64 left_37), (8, v40), (9, .int .i64 i_39)]) [ro caps_1v 1 (caps_1.map (eInt .i64)), ro nums_2v 1 (nums_2.map (eInt .i64)), box b1 [.int .i64 b_0.Cap, .int .i64 b_0.Num, .int .i64 b_0.Den, .int .i64 b_0.Level, .int .i64 b_0.At], box b2 [.slice none 0 0, .int .i64 0], row v40 5 (out_38.map S_api_Bucket.enc)]
      refine run_seq ?_
      refine run_seq ?_
      refine run_region' ?_
      refine ops_y (wn rfl) rfl (y_move rfl) ?_
      refine ops_y (wn rfl) rfl (y_move rfl) ?_
      refine ops_y (wn rfl) rfl ((y_len 0 rfl Try.runUnderlying46 rfl rfl reads_ro).to (v_len (eInt .i64) _)) ?_
      refine ops_y (wn rfl) rfl (y_lss rfl rfl) ?_
      refine ops_nil ?_
      refine goes_code ?_
      refine run_cond (decide (i_39 < (caps_1.length : Int))) rfl (fun hc45 => ?_) (fun hc45 => ?_)
      · replace h := cond_t h hc45
        refine run_skip ?_
        refine goes_code ?_
        refine run_seq ?_
        refine run_block ?_
        refine run_seq ?_
        refine run_draw (by kernel_rfl) (by kernel_rfl) ?_
        refine still_y (wn rfl) rfl (y_move rfl) ?_
        refine still_y (wn rfl) rfl (y_move rfl) ?_
        refine still_y (wn rfl) rfl (y_move rfl) ?_
        obtain ⟨x46, hzx46, hlx46, hxx46, h⟩ := idx_some h
        refine still_y (wn rfl) rfl (y_indexAddrI (kd := .i64) (i := i_39) 0 Try.runUnderlying46 Try.sizeOf3 rfl rfl rfl reads_ro hzx46 (map_lt hlx46)) ?_
        refine still_y (wn rfl) rfl (y_load_elem (i := i_39.toNat) 0 Try.isAgg3 rfl rfl reads_ro (map_get hxx46)) ?_
        refine still_y (wn rfl) rfl (y_fieldAddr_box (sz := 0) Try.runUnderlying23 rfl Try.sizeOf3 rfl) ?_
        refine still_y (wn rfl) rfl (y_load_box 2 Try.isAgg3 rfl rfl rfl) ?_
        refine still_y (wn rfl) rfl (y_mul rfl rfl) ?_
        refine still_y (wn rfl) rfl (y_min rfl rfl) ?_
        refine still_y (wn rfl) rfl (y_assign rfl) ?_
        refine still_nil ?_
        refine goes_code ?_
        refine run_seq ?_
        refine run_weak [(1, caps_1v), (2, nums_2v), (3, boxP b1 0), (6, boxP b2 0), (7, .int .i64 left_37), (8, v40), (9, .int .i64 i_39), (10, .int .i64 (min left_37 (IntKind.i64.wrap (x46 * b_0.Den))))] [0, 1, 2, 3, 4] [ro caps_1v 1 (caps_1.map (eInt .i64)), ro nums_2v 1 (nums_2.map (eInt .i64)), box b1 [.int .i64 b_0.Cap, .int .i64 b_0.Num, .int .i64 b_0.Den, .int .i64 b_0.Level, .int .i64 b_0.At], box b2 [.slice none 0 0, .int .i64 0], row v40 5 (out_38.map S_api_Bucket.enc)] (vcons rfl (vcons rfl (vcons rfl (vcons rfl (vcons rfl (vcons rfl (vcons rfl (vcons rfl (vnil))))))))) (by decide) rfl ?_
        refine run_drawany [ro caps_1v 1 (caps_1.map (eInt .i64)), ro nums_2v 1 (nums_2.map (eInt .i64)), box b1 [.int .i64 b_0.Cap, .int .i64 b_0.Num, .int .i64 b_0.Den, .int .i64 b_0.Level, .int .i64 b_0.At], box b2 [.slice none 0 0, .int .i64 0], HA.emp] (by kernel_rfl) ?_
        refine any_y 0 rfl (by kernel_rfl) (by kernel_rfl) (by kernel_rfl) (sub_same (sub_same (sub_same (sub_same (sub_emp (sub_nil)))))) (wn rfl) rfl (y_move rfl) ?_
        refine any_y 1 rfl (by kernel_rfl) (by kernel_rfl) (by kernel_rfl) (sub_same (sub_same (sub_same (sub_same (sub_emp (sub_nil)))))) (wn rfl) rfl (y_move rfl) ?_
        refine any_y 2 rfl (by kernel_rfl) (by kernel_rfl) (by kernel_rfl) (sub_same (sub_same (sub_same (sub_same (sub_emp (sub_nil)))))) (wn rfl) rfl (y_move rfl) ?_
        refine any_y 3 rfl (by kernel_rfl) (by kernel_rfl) (by kernel_rfl) (sub_same (sub_same (sub_same (sub_same (sub_emp (sub_nil)))))) (wn rfl) rfl (y_indexAddrI (kd := .i64) (i := i_39) 0 Try.runUnderlying46 Try.sizeOf3 rfl rfl rfl reads_ro hzx46 (map_lt hlx46)) ?_
        refine any_y 4 rfl (by kernel_rfl) (by kernel_rfl) (by kernel_rfl) (sub_same (sub_same (sub_same (sub_same (sub_emp (sub_nil)))))) (wn rfl) rfl (y_load_elem (i := i_39.toNat) 0 Try.isAgg3 rfl rfl reads_ro (map_get hxx46)) ?_
        refine any_y 5 rfl (by kernel_rfl) (by kernel_rfl) (by kernel_rfl) (sub_same (sub_same (sub_same (sub_same (sub_emp (sub_nil)))))) (wn rfl) rfl (y_move rfl) ?_
        refine any_y 6 rfl (by kernel_rfl) (by kernel_rfl) (by kernel_rfl) (sub_same (sub_same (sub_same (sub_same (sub_emp (sub_nil)))))) (wn rfl) rfl (y_move rfl) ?_
        obtain ⟨x47, hzx47, hlx47, hxx47, h⟩ := idx_some h
        refine any_y 7 rfl (by kernel_rfl) (by kernel_rfl) (by kernel_rfl) (sub_same (sub_same (sub_same (sub_same (sub_emp (sub_nil)))))) (wn rfl) rfl (y_indexAddrI (kd := .i64) (i := i_39) 1 Try.runUnderlying46 Try.sizeOf3 rfl rfl rfl reads_ro hzx47 (map_lt hlx47)) ?_
        refine any_y 8 rfl (by kernel_rfl) (by kernel_rfl) (by kernel_rfl) (sub_same (sub_same (sub_same (sub_same (sub_emp (sub_nil)))))) (wn rfl) rfl (y_load_elem (i := i_39.toNat) 1 Try.isAgg3 rfl rfl reads_ro (map_get hxx47)) ?_
        refine any_y 9 rfl (by kernel_rfl) (by kernel_rfl) (by kernel_rfl) (sub_same (sub_same (sub_same (sub_same (sub_emp (sub_nil)))))) (wn rfl) rfl (y_fieldAddr_box (sz := 0) Try.runUnderlying23 rfl Try.sizeOf3 rfl) ?_
        refine any_y 10 rfl (by kernel_rfl) (by kernel_rfl) (by kernel_rfl) (sub_same (sub_same (sub_same (sub_same (sub_emp (sub_nil)))))) (wn rfl) rfl (y_load_box 2 Try.isAgg3 rfl rfl rfl) ?_
        refine any_y 11 rfl (by kernel_rfl) (by kernel_rfl) (by kernel_rfl) (sub_same (sub_same (sub_same (sub_same (sub_emp (sub_nil)))))) (wn rfl) rfl (y_move rfl) ?_
        refine any_y 12 rfl (by kernel_rfl) (by kernel_rfl) (by kernel_rfl) (sub_same (sub_same (sub_same (sub_same (sub_emp (sub_nil)))))) (wn rfl) rfl (y_fieldAddr_box (sz := 0) Try.runUnderlying23 rfl Try.sizeOf3 rfl) ?_
        refine any_y 13 rfl (by kernel_rfl) (by kernel_rfl) (by kernel_rfl) (sub_same (sub_same (sub_same (sub_same (sub_emp (sub_nil)))))) (wn rfl) rfl (y_load_box 2 Try.isAgg3 rfl rfl rfl) ?_
        refine any_y 14 rfl (by kernel_rfl) (by kernel_rfl) (by kernel_rfl) (sub_same (sub_same (sub_same (sub_same (sub_emp (sub_nil)))))) (wn rfl) rfl (y_build_struct (cells := #[.int .i64 x46, .int .i64 x47, .int .i64 b_0.Den, .int .i64 (min left_37 (IntKind.i64.wrap (x46 * b_0.Den))), .int .i64 b_0.At]) [(0, .int .i64 x46), (1, .int .i64 x47), (2, .int .i64 b_0.Den), (3, .int .i64 (min left_37 (IntKind.i64.wrap (x46 * b_0.Den)))), (4, .int .i64 b_0.At)] [(0, [.int .i64 x46]), (1, [.int .i64 x47]), (2, [.int .i64 b_0.Den]), (3, [.int .i64 (min left_37 (IntKind.i64.wrap (x46 * b_0.Den)))]), (4, [.int .i64 b_0.At])] Try.zeroValue23 Try.runUnderlying23 (fs_cons Try.sizeOf3 (fs_cons Try.sizeOf3 (fs_cons Try.sizeOf3 (fs_cons Try.sizeOf3 (fs_cons Try.sizeOf3 fs_nil))))) rfl rfl rfl) ?_
        refine any_all [15] (by kernel_rfl) rfl (anyo_cons ?_ anyo_nil)
        refine any_t rfl (wn rfl) rfl (t_lit [.agg #[.int .i64 x46, .int .i64 x47, .int .i64 b_0.Den, .int .i64 (min left_37 (IntKind.i64.wrap (x46 * b_0.Den))), .int .i64 b_0.At]] Try.runUnderlying51 Try.sizeOf23 Try.zeroValue23 rfl (by decide) (by decide) rfl (by simp [Value.cells])) ?_
        rintro v48 _ ⟨rfl, _⟩
        refine ⟨(sub_same (sub_same (sub_same (sub_same (sub_emp (sub_nil)))))), ?_⟩
        refine any_turn (retell 5 (g := row v48 5 ([(S_api_Bucket.mk x46 x47 b_0.Den (min left_37 (IntKind.i64.wrap (x46 * b_0.Den))) b_0.At)].map S_api_Bucket.enc)) rfl rfl) ?_
        refine any_all [16] (by kernel_rfl) rfl (anyo_cons ?_ anyo_nil)
        obtain ⟨hr50, h⟩ := need_some h
        refine any_t rfl (wn rfl) rfl (t_append (es := 5) 4 rfl Try.runUnderlying51 rfl Try.runUnderlying51 (.inr ⟨_, rfl⟩) Try.typeInfo23 rfl (by decide) Try.zeroValue23 rfl rfl rfl rfl (src_reads 5 rfl reads_row (map_ok S_api_Bucket.enc_ok _)) (map_room hr50 (by decide)) (map_fit hr50)) ?_
        rintro v49 _ rfl
        refine ⟨(sub_same (sub_same (sub_same (sub_same (sub_emp (sub_nil)))))), ?_⟩
        refine any_turn (retell 4 (g := row v49 5 ((out_38 ++ [(S_api_Bucket.mk x46 x47 b_0.Den (min left_37 (IntKind.i64.wrap (x46 * b_0.Den))) b_0.At)]).map S_api_Bucket.enc)) rfl (congrArg (row _ _) List.map_append.symm)) ?_
        refine any_y 17 rfl (by kernel_rfl) (by kernel_rfl) (by kernel_rfl) (sub_same (sub_same (sub_same (sub_same (sub_emp (sub_nil)))))) (wn rfl) rfl (y_assign rfl) ?_
        refine any_nil (by kernel_rfl) ?_
        refine goes_code ?_
        refine run_weak [(1, caps_1v), (2, nums_2v), (3, boxP b1 0), (6, boxP b2 0), (7, .int .i64 left_37), (8, v49), (9, .int .i64 i_39), (10, .int .i64 (min left_37 (IntKind.i64.wrap (x46 * b_0.Den))))] [0, 1, 2, 3, 4] [ro caps_1v 1 (caps_1.map (eInt .i64)), ro nums_2v 1 (nums_2.map (eInt .i64)), box b1 [.int .i64 b_0.Cap, .int .i64 b_0.Num, .int .i64 b_0.Den, .int .i64 b_0.Level, .int .i64 b_0.At], box b2 [.slice none 0 0, .int .i64 0], row v49 5 ((out_38 ++ [(S_api_Bucket.mk x46 x47 b_0.Den (min left_37 (IntKind.i64.wrap (x46 * b_0.Den))) b_0.At)]).map S_api_Bucket.enc)] (vcons rfl (vcons rfl (vcons rfl (vcons rfl (vcons rfl (vcons rfl (vcons rfl (vcons rfl (vnil))))))))) (by decide) rfl ?_
        refine run_region' ?_
        refine ops_y (wn rfl) rfl (y_move rfl) ?_
        refine ops_y (wn rfl) rfl (y_move rfl) ?_
        refine ops_y (wn rfl) rfl (y_sub rfl rfl) ?_
        refine ops_y (wn rfl) rfl (y_assign rfl) ?_
        refine ops_nil ?_
        refine goes_blk ?_
        refine goes_code ?_
        refine run_region' ?_
        refine ops_y (wn rfl) rfl (y_move rfl) ?_
        refine ops_y (wn rfl) rfl (y_add rfl rfl) ?_
        refine ops_y (wn rfl) rfl (y_assign rfl) ?_
        refine ops_nil ?_
        obtain rfl := some_eq h
        exact goes_iter hgo42 ((IntKind.i64.wrap (left_37 - (min left_37 (IntKind.i64.wrap (x46 * b_0.Den))))), (out_38 ++ [(S_api_Bucket.mk x46 x47 b_0.Den (min left_37 (IntKind.i64.wrap (x46 * b_0.Den))) b_0.At)]), (IntKind.i64.wrap (i_39 + 1))) v49 [0, 1, 2, 3, 4] rfl (vcons rfl (vcons rfl (vcons rfl (vcons rfl (vcons rfl (vcons rfl (vcons rfl (vnil)))))))) (by decide) rfl
      · replace h := cond_f h hc45
        refine run_exit _ rfl ?_
        obtain rfl := some_eq h
        obtain rfl := hstop43 _ rfl
        exact goes_cut hL35 (out_38, v40) [3, 4] (vcons rfl (vcons rfl (vnil))) (by decide) rfl rfl
    rintro ⟨out_31, v32⟩ hj
    obtain rfl : o33 = _ := hj
    replace h := after_go ho34
    clear ho34
    change Run _ _ _ (VF.of [(6, boxP b2 0), (8, v32)]) [box b2 [.slice none 0 0, .int .i64 0], row v32 5 (out_31.map S_api_Bucket.enc)]
    refine run_seq ?_
    refine run_region' ?_
    refine ops_y (wn rfl) rfl (y_move rfl) ?_
    refine ops_slc 1 rfl reads_row (fun hs51 hs51o => ?_)
    refine ops_y (wn rfl) rfl (y_build_struct (cells := #[v32, .int .i64 0]) [(0, v32)] [(0, [v32])] Try.zeroValue56 Try.runUnderlying56 (fs_cons Try.sizeOf51 (fs_cons Try.sizeOf24 fs_nil)) rfl (by first | (simp only [List.map_cons, List.map_nil, hs51]; done) | (simp only [List.map_cons, List.map_nil, hs51]; rfl)) rfl) ?_
    refine ops_slc 1 rfl reads_row (fun hs52 hs52o => ?_)
    refine ops_t (wn rfl) rfl (t_store 0 Try.sizeOf56 rfl rfl rfl rfl (by simp [Value.cells]) (by intro u hu; simp only [Value.cells, List.mem_cons, List.not_mem_nil, or_false] at hu; rcases hu with rfl | rfl <;> first | rfl | assumption)) ?_
    rintro _ _ ⟨rfl, rfl⟩
    refine ops_turn (retell 0 (g := box b2 [v32, .int .i64 0]) rfl rfl) ?_
    refine ops_nil ?_
    refine goes_code ?_
    refine run_ret ?_
    obtain rfl := some_eq h
    refine fin_res [.cell 6 56] [.agg #[v32, .int .i64 0]] [1] [row v32 5 (out_31.map S_api_Bucket.enc)] Try.results26 rfl (rescons (res_box 0 Try.isAgg56 Try.sizeOf56 rfl rfl rfl) resnil) (by decide) rfl ?_
    exact ⟨_, rfl, rfl⟩

def ref12_Merge_L1 (l_0 : (List S_api_Bucket)) (x6 : S_api_Bucket) : (Int × Int × Int × Int) → Option (Lp (Int × Int × Int × Int) (Lp (Int × Int × Int) (S_ref12_Made))) :=
  fun (i_15, x_16, x_17, x_18) =>
    cond (decide (i_15 < (l_0.length : Int)))
      (idx l_0 i_15 fun x24 =>
      (ref12_Valid x24).bind fun r25 =>
      bindJ (S := Bool)
        (cond ((!r25) || decide (x24.Den ≠ x6.Den))
          (some (.go true))
          (idx l_0 i_15 fun x36 =>
          some (.go (decide (x36.At ≠ x6.At)))))
      (fun b30 =>
        cond b30
          (some (.stop (.stop (S_ref12_Made.mk (S_api_Bucket.mk 0 0 0 0 0) 1))))
          (idx l_0 i_15 fun x38 =>
          some (.go ((IntKind.i64.wrap (i_15 + 1)), (IntKind.i64.wrap (x_16 + x38.Cap)), (IntKind.i64.wrap (x_17 + x38.Num)), (IntKind.i64.wrap (x_18 + x38.Level)))))))
      (some (.stop (.go (x_16, x_17, x_18))))
def ref12_Merge (n : Nat) (l_0 : (List S_api_Bucket)) : Option (S_ref12_Made) :=
  cond (decide ((l_0.length : Int) < 1) || decide (64 < (l_0.length : Int)))
    (some (S_ref12_Made.mk (S_api_Bucket.mk 0 0 0 0 0) 1))
    (idx l_0 0 fun x6 =>
    bindJ (S := Int × Int × Int)
      (iter (ref12_Merge_L1 l_0 x6) n (0, 0, 0, 0))
    (fun (x_8, x_9, x_10) =>
      (ref12_Valid (S_api_Bucket.mk x_8 x_9 x6.Den x_10 x6.At)).bind fun r39 =>
      cond (!r39)
        (some (S_ref12_Made.mk (S_api_Bucket.mk 0 0 0 0 0) 1))
        (some (S_ref12_Made.mk (S_api_Bucket.mk x_8 x_9 x6.Den x_10 x6.At) 0))))
theorem ref12_Merge_ok (n : Nat) (l_0 : (List S_api_Bucket)) (l_0v : Value) {r : S_ref12_Made} (h : ref12_Merge n l_0 = some r) :
    Meets Try.prog 27 [l_0v] [ro l_0v 5 (l_0.map S_api_Bucket.enc)] (fun v G => v = .agg #[.int .i64 r.B.Cap, .int .i64 r.B.Num, .int .i64 r.B.Den, .int .i64 r.B.Level, .int .i64 r.B.At, .int .i64 r.E] ∧ G = []) := by
  refine fn_of_run Try.func27 rfl Try.ntmps27 rfl (fun w0 o0 => ?_)
  refine run_seq ?_
  refine run_region' ?_
  refine ops_t (wn rfl) rfl (t_alloc Try.zeroValue33) ?_
  rintro _ _ ⟨b1, rfl, rfl⟩
  refine ops_nil ?_
  refine goes_code ?_
  refine run_seq ?_
  refine run_seq ?_
  refine run_region' ?_
  refine ops_y (wn rfl) rfl (y_move rfl) ?_
  refine ops_y (wn rfl) rfl ((y_len 0 rfl Try.runUnderlying51 rfl rfl reads_ro).to (v_len S_api_Bucket.enc _)) ?_
  refine ops_y (wn rfl) rfl (y_lss rfl rfl) ?_
  refine ops_y (wn rfl) rfl (y_move rfl) ?_
  refine ops_cut 4 Bool (fun σ => [(0, l_0v), (2, boxP b1 0), (13, .bool σ)]) (fun σ => [ro l_0v 5 (l_0.map S_api_Bucket.enc), box b1 [.int .i64 0, .int .i64 0, .int .i64 0, .int .i64 0, .int .i64 0, .int .i64 0]]) (fun σ => σ = (decide ((l_0.length : Int) < 1) || decide (64 < (l_0.length : Int)))) (fun L2 hL3 => ?_) ?_
  · refine ops_split 9 (decide ((l_0.length : Int) < 1)) rfl (fun hg4 => ?_) (fun hg4 => ?_)
    · skip
      refine ops_no 3 false 9 rfl rfl rfl rfl rfl ?_
      refine ops_no 3 false 9 rfl rfl rfl rfl rfl ?_
      refine ops_no 3 false 9 rfl rfl rfl rfl rfl ?_
      refine ops_y (wn rfl) rfl (y_pick (b := true) rfl rfl) ?_
      refine ops_nil ?_
      exact goes_cut hL3 true [0, 1] (vcons rfl (vcons rfl (vcons rfl (vnil)))) (by decide) rfl (by rw [hg4]; simp)
    · skip
      refine ops_y (wg 3 false 9 rfl rfl rfl rfl) rfl (y_move rfl) ?_
      refine ops_y (wg 3 false 9 rfl rfl rfl rfl) rfl ((y_len 0 rfl Try.runUnderlying51 rfl rfl reads_ro).to (v_len S_api_Bucket.enc _)) ?_
      refine ops_y (wg 3 false 9 rfl rfl rfl rfl) rfl (y_gtr rfl rfl) ?_
      refine ops_y (wn rfl) rfl (y_pick (b := false) rfl rfl) ?_
      refine ops_nil ?_
      exact goes_cut hL3 (decide (64 < (l_0.length : Int))) [0, 1] (vcons rfl (vcons rfl (vcons rfl (vnil)))) (by decide) rfl (by rw [hg4]; simp)
  rintro _ rfl
  refine ops_nil ?_
  refine goes_code ?_
  refine run_cond (decide ((l_0.length : Int) < 1) || decide (64 < (l_0.length : Int))) rfl (fun hc5 => ?_) (fun hc5 => ?_)
  · replace h := cond_t h hc5
    refine run_seq ?_
    refine run_region' ?_
    refine ops_y (wn rfl) rfl (y_build_struct (cells := #[.int .i64 0, .int .i64 0, .int .i64 0, .int .i64 0, .int .i64 0, .int .i64 1]) [(1, .int .i64 1)] [(1, [.int .i64 1])] Try.zeroValue33 Try.runUnderlying33 (fs_cons Try.sizeOf23 (fs_cons Try.sizeOf24 fs_nil)) rfl rfl rfl) ?_
    refine ops_t (wn rfl) rfl (t_store 1 Try.sizeOf33 rfl rfl rfl rfl (by simp [Value.cells]) (by simp [Value.cells, Value.oneCell'])) ?_
    rintro _ _ ⟨rfl, rfl⟩
    refine ops_turn (retell 1 (g := box b1 [.int .i64 0, .int .i64 0, .int .i64 0, .int .i64 0, .int .i64 0, .int .i64 1]) rfl rfl) ?_
    refine ops_nil ?_
    refine goes_code ?_
    refine run_ret ?_
    obtain rfl := some_eq h
    refine fin_res [.cell 2 33] [.agg #[.int .i64 0, .int .i64 0, .int .i64 0, .int .i64 0, .int .i64 0, .int .i64 1]] [] [] Try.results27 rfl (rescons (res_box 1 Try.isAgg33 Try.sizeOf33 rfl rfl rfl) resnil) (by decide) rfl ?_
    exact ⟨rfl, rfl⟩
  · replace h := cond_f h hc5
    refine run_skip ?_
    refine goes_code ?_
    refine run_seq ?_
    refine run_drawany [ro l_0v 5 (l_0.map S_api_Bucket.enc), box b1 [.int .i64 0, .int .i64 0, .int .i64 0, .int .i64 0, .int .i64 0, .int .i64 0]] (by kernel_rfl) ?_
    refine any_y 0 rfl (by kernel_rfl) (by kernel_rfl) (by kernel_rfl) (sub_same (sub_same (sub_nil))) (wn rfl) rfl (y_move rfl) ?_
    obtain ⟨x6, hzx6, hlx6, hxx6, h⟩ := idx_some h
    refine any_y 1 rfl (by kernel_rfl) (by kernel_rfl) (by kernel_rfl) (sub_same (sub_same (sub_nil))) (wn rfl) rfl (y_indexAddrI (kd := .i64) (i := 0) 0 Try.runUnderlying51 Try.sizeOf23 rfl rfl rfl reads_ro hzx6 (map_lt hlx6)) ?_
    refine any_y 2 rfl (by kernel_rfl) (by kernel_rfl) (by kernel_rfl) (sub_same (sub_same (sub_nil))) (wn rfl) rfl (y_fieldAddr_elem (sz := 0) Try.runUnderlying23 rfl Try.sizeOf3 rfl) ?_
    refine any_y 3 rfl (by kernel_rfl) (by kernel_rfl) (by kernel_rfl) (sub_same (sub_same (sub_nil))) (wn rfl) rfl (y_load_field (i := (0 : Int).toNat) (j := 2) 0 Try.isAgg3 rfl rfl reads_ro (map_get hxx6) rfl) ?_
    refine any_y 4 rfl (by kernel_rfl) (by kernel_rfl) (by kernel_rfl) (sub_same (sub_same (sub_nil))) (wn rfl) rfl (y_move rfl) ?_
    refine any_y 5 rfl (by kernel_rfl) (by kernel_rfl) (by kernel_rfl) (sub_same (sub_same (sub_nil))) (wn rfl) rfl (y_indexAddrI (kd := .i64) (i := 0) 0 Try.runUnderlying51 Try.sizeOf23 rfl rfl rfl reads_ro hzx6 (map_lt hlx6)) ?_
    refine any_y 6 rfl (by kernel_rfl) (by kernel_rfl) (by kernel_rfl) (sub_same (sub_same (sub_nil))) (wn rfl) rfl (y_fieldAddr_elem (sz := 0) Try.runUnderlying23 rfl Try.sizeOf3 rfl) ?_
    refine any_y 7 rfl (by kernel_rfl) (by kernel_rfl) (by kernel_rfl) (sub_same (sub_same (sub_nil))) (wn rfl) rfl (y_load_field (i := (0 : Int).toNat) (j := 4) 0 Try.isAgg3 rfl rfl reads_ro (map_get hxx6) rfl) ?_
    refine any_y 8 rfl (by kernel_rfl) (by kernel_rfl) (by kernel_rfl) (sub_same (sub_same (sub_nil))) (wn rfl) rfl (y_build_struct (cells := #[.int .i64 0, .int .i64 0, .int .i64 x6.Den, .int .i64 0, .int .i64 x6.At]) [(2, .int .i64 x6.Den), (4, .int .i64 x6.At)] [(2, [.int .i64 x6.Den]), (4, [.int .i64 x6.At])] Try.zeroValue23 Try.runUnderlying23 (fs_cons Try.sizeOf3 (fs_cons Try.sizeOf3 (fs_cons Try.sizeOf3 (fs_cons Try.sizeOf3 (fs_cons Try.sizeOf3 fs_nil))))) rfl rfl rfl) ?_
    refine any_all [9] (by kernel_rfl) rfl (anyo_cons ?_ anyo_nil)
    refine any_t rfl (wn rfl) rfl (t_alloc Try.zeroValue23) ?_
    rintro _ _ ⟨b7, rfl, rfl⟩
    refine ⟨(sub_same (sub_same (sub_nil))), ?_⟩
    refine any_all [10] (by kernel_rfl) rfl (anyo_cons ?_ anyo_nil)
    refine any_t rfl (wn rfl) rfl (t_store 2 Try.sizeOf23 rfl rfl rfl rfl (by simp [Value.cells]) (by simp [Value.cells, Value.oneCell'])) ?_
    rintro _ _ ⟨rfl, rfl⟩
    refine ⟨(sub_same (sub_same (sub_nil))), ?_⟩
    refine any_turn (retell 2 (g := box b7 [.int .i64 0, .int .i64 0, .int .i64 x6.Den, .int .i64 0, .int .i64 x6.At]) rfl rfl) ?_
    refine any_nil (by kernel_rfl) ?_
    refine goes_code ?_
    obtain ⟨o11, h, ho12⟩ := bindJ_some h
    refine run_cut ((Int × Int × Int) × (Unit)) (fun σ => [(2, boxP b1 0), (3, boxP b7 0)]) (fun σ => [box b1 [.int .i64 0, .int .i64 0, .int .i64 0, .int .i64 0, .int .i64 0, .int .i64 0], box b7 [.int .i64 σ.1.1, .int .i64 σ.1.2.1, .int .i64 x6.Den, .int .i64 σ.1.2.2, .int .i64 x6.At]]) (fun σ => o11 = .go σ.1) (fun L14 hL13 => ?_) ?_
    · -- the ways through
      refine run_seq ?_
      refine run_weak [(0, l_0v), (2, boxP b1 0), (3, boxP b7 0)] [0, 1, 2] [ro l_0v 5 (l_0.map S_api_Bucket.enc), box b1 [.int .i64 0, .int .i64 0, .int .i64 0, .int .i64 0, .int .i64 0, .int .i64 0], box b7 [.int .i64 0, .int .i64 0, .int .i64 x6.Den, .int .i64 0, .int .i64 x6.At]] (vcons rfl (vcons rfl (vcons rfl (vnil)))) (by decide) rfl ?_
      refine run_region' ?_
      refine ops_y (wn rfl) rfl (y_assign rfl) ?_
      refine ops_nil ?_
      refine goes_code ?_
      refine run_block ?_
      refine run_iter (step := ref12_Merge_L1 l_0 x6) (n := n) (s0 := (0, 0, 0, 0)) h (G := Unit) () (fun σ γ => [(0, l_0v), (2, boxP b1 0), (3, boxP b7 0), (4, .int .i64 σ.1)]) (fun σ γ => [ro l_0v 5 (l_0.map S_api_Bucket.enc), box b1 [.int .i64 0, .int .i64 0, .int .i64 0, .int .i64 0, .int .i64 0, .int .i64 0], box b7 [.int .i64 σ.2.1, .int .i64 σ.2.2.1, .int .i64 x6.Den, .int .i64 σ.2.2.2, .int .i64 x6.At]]) [0, 1, 2] (vcons rfl (vcons rfl (vcons rfl (vcons rfl (vnil))))) (by decide) rfl ?_
      rintro ⟨i_15, x_16, x_17, x_18⟩ _ o19 h L22 hgo20 hstop21
      change Run _ _ _ (VF.of [(0, l_0v), (2, boxP b1 0), (3, boxP b7 0), (4, .int .i64 i_15)]) [ro l_0v 5 (l_0.map S_api_Bucket.enc), box b1 [.int .i64 0, .int .i64 0, .int .i64 0, .int .i64 0, .int .i64 0, .int .i64 0], box b7 [.int .i64 x_16, .int .i64 x_17, .int .i64 x6.Den, .int .i64 x_18, .int .i64 x6.At]]
      refine run_seq ?_
      refine run_seq ?_
      refine run_region' ?_
      refine ops_y (wn rfl) rfl (y_move rfl) ?_
      refine ops_y (wn rfl) rfl (y_move rfl) ?_
      refine ops_y (wn rfl) rfl ((y_len 0 rfl Try.runUnderlying51 rfl rfl reads_ro).to (v_len S_api_Bucket.enc _)) ?_
      refine ops_y (wn rfl) rfl (y_lss rfl rfl) ?_
      refine ops_nil ?_
      refine goes_code ?_
      refine run_cond (decide (i_15 < (l_0.length : Int))) rfl (fun hc23 => ?_) (fun hc23 => ?_)
      · replace h := cond_t h hc23
        refine run_skip ?_
        refine goes_code ?_
        refine run_seq ?_
        refine run_block ?_
        refine run_seq ?_
        refine run_seq ?_
        refine run_drawany [ro l_0v 5 (l_0.map S_api_Bucket.enc), box b1 [.int .i64 0, .int .i64 0, .int .i64 0, .int .i64 0, .int .i64 0, .int .i64 0], box b7 [.int .i64 x_16, .int .i64 x_17, .int .i64 x6.Den, .int .i64 x_18, .int .i64 x6.At]] (by kernel_rfl) ?_
        refine any_y 0 rfl (by kernel_rfl) (by kernel_rfl) (by kernel_rfl) (sub_same (sub_same (sub_same (sub_nil)))) (wn rfl) rfl (y_move rfl) ?_
        refine any_y 1 rfl (by kernel_rfl) (by kernel_rfl) (by kernel_rfl) (sub_same (sub_same (sub_same (sub_nil)))) (wn rfl) rfl (y_move rfl) ?_
        obtain ⟨x24, hzx24, hlx24, hxx24, h⟩ := idx_some h
        refine any_y 2 rfl (by kernel_rfl) (by kernel_rfl) (by kernel_rfl) (sub_same (sub_same (sub_same (sub_nil)))) (wn rfl) rfl (y_indexAddrI (kd := .i64) (i := i_15) 0 Try.runUnderlying51 Try.sizeOf23 rfl rfl rfl reads_ro hzx24 (map_lt hlx24)) ?_
        refine any_y 3 rfl (by kernel_rfl) (by kernel_rfl) (by kernel_rfl) (sub_same (sub_same (sub_same (sub_nil)))) (wn rfl) rfl (y_load_agg (i := i_15.toNat) (c := [.int .i64 x24.Cap, .int .i64 x24.Num, .int .i64 x24.Den, .int .i64 x24.Level, .int .i64 x24.At]) 0 Try.isAgg23 Try.sizeOf23 rfl rfl reads_ro (map_get hxx24)) ?_
        refine any_all [4] (by kernel_rfl) rfl (anyo_cons ?_ anyo_nil)
        obtain ⟨r25, hr26, h⟩ := bind_some h
        refine any_t rfl (wn rfl) rfl (t_call (vs := [.agg #[.int .i64 x24.Cap, .int .i64 x24.Num, .int .i64 x24.Den, .int .i64 x24.Level, .int .i64 x24.At]]) (cs := []) [] rfl Try.call21 rfl (ref12_Valid_ok x24  hr26) shows_nil (.inl rfl)) ?_
        rintro _ _ ⟨_, ⟨rfl, rfl⟩, rfl⟩
        refine ⟨(sub_same (sub_same (sub_same (sub_nil)))), ?_⟩
        refine any_y 5 rfl (by kernel_rfl) (by kernel_rfl) (by kernel_rfl) (sub_same (sub_same (sub_same (sub_nil)))) (wn rfl) rfl (y_not rfl) ?_
        refine any_y 6 rfl (by kernel_rfl) (by kernel_rfl) (by kernel_rfl) (sub_same (sub_same (sub_same (sub_nil)))) (wn rfl) rfl (y_move rfl) ?_
        refine any_cut #[true, true, true, true, true, true, true, true, true, true, true, true, true, true, true, true, false, false, false, false, false, false, false, false, false, false] 10 Bool (fun σ => [(0, l_0v), (2, boxP b1 0), (3, boxP b7 0), (4, .int .i64 i_15), (45, .bool σ)]) (fun σ => [ro l_0v 5 (l_0.map S_api_Bucket.enc), box b1 [.int .i64 0, .int .i64 0, .int .i64 0, .int .i64 0, .int .i64 0, .int .i64 0], box b7 [.int .i64 x_16, .int .i64 x_17, .int .i64 x6.Den, .int .i64 x_18, .int .i64 x6.At]]) (fun σ => σ = ((!r25) || decide (x24.Den ≠ x6.Den))) (fun hL28 => ?_) ?_
        · refine any_split 36 (!r25) rfl (fun hg29 => ?_) (fun hg29 => ?_)
          · skip
            refine any_no 7 rfl (by kernel_rfl) (by kernel_rfl) (by kernel_rfl) (sub_same (sub_same (sub_same (sub_nil)))) 6 false 36 rfl rfl rfl rfl rfl ?_
            refine any_no 8 rfl (by kernel_rfl) (by kernel_rfl) (by kernel_rfl) (sub_same (sub_same (sub_same (sub_nil)))) 6 false 36 rfl rfl rfl rfl rfl ?_
            refine any_no 9 rfl (by kernel_rfl) (by kernel_rfl) (by kernel_rfl) (sub_same (sub_same (sub_same (sub_nil)))) 6 false 36 rfl rfl rfl rfl rfl ?_
            refine any_no 10 rfl (by kernel_rfl) (by kernel_rfl) (by kernel_rfl) (sub_same (sub_same (sub_same (sub_nil)))) 6 false 36 rfl rfl rfl rfl rfl ?_
            refine any_no 11 rfl (by kernel_rfl) (by kernel_rfl) (by kernel_rfl) (sub_same (sub_same (sub_same (sub_nil)))) 6 false 36 rfl rfl rfl rfl rfl ?_
            refine any_no 12 rfl (by kernel_rfl) (by kernel_rfl) (by kernel_rfl) (sub_same (sub_same (sub_same (sub_nil)))) 6 false 36 rfl rfl rfl rfl rfl ?_
            refine any_no 13 rfl (by kernel_rfl) (by kernel_rfl) (by kernel_rfl) (sub_same (sub_same (sub_same (sub_nil)))) 6 false 36 rfl rfl rfl rfl rfl ?_
            refine any_no 14 rfl (by kernel_rfl) (by kernel_rfl) (by kernel_rfl) (sub_same (sub_same (sub_same (sub_nil)))) 6 false 36 rfl rfl rfl rfl rfl ?_
            refine any_y 15 rfl (by kernel_rfl) (by kernel_rfl) (by kernel_rfl) (sub_same (sub_same (sub_same (sub_nil)))) (wn rfl) rfl (y_pick (b := true) rfl rfl) ?_
            exact any_weak [(0, l_0v), (2, boxP b1 0), (3, boxP b7 0), (4, .int .i64 i_15), (45, .bool true)] [0, 1, 2] [ro l_0v 5 (l_0.map S_api_Bucket.enc), box b1 [.int .i64 0, .int .i64 0, .int .i64 0, .int .i64 0, .int .i64 0, .int .i64 0], box b7 [.int .i64 x_16, .int .i64 x_17, .int .i64 x6.Den, .int .i64 x_18, .int .i64 x6.At]] (by kernel_rfl) (vcons rfl (vcons rfl (vcons rfl (vcons rfl (vcons rfl (vnil)))))) (by decide) rfl (hL28 true (by rw [hg29]; simp))
          · skip
            refine any_y 7 rfl (by kernel_rfl) (by kernel_rfl) (by kernel_rfl) (sub_same (sub_same (sub_same (sub_nil)))) (wg 6 false 36 rfl rfl rfl rfl) rfl (y_move rfl) ?_
            refine any_y 8 rfl (by kernel_rfl) (by kernel_rfl) (by kernel_rfl) (sub_same (sub_same (sub_same (sub_nil)))) (wg 6 false 36 rfl rfl rfl rfl) rfl (y_move rfl) ?_
            refine any_y 9 rfl (by kernel_rfl) (by kernel_rfl) (by kernel_rfl) (sub_same (sub_same (sub_same (sub_nil)))) (wg 6 false 36 rfl rfl rfl rfl) rfl (y_indexAddrI (kd := .i64) (i := i_15) 0 Try.runUnderlying51 Try.sizeOf23 rfl rfl rfl reads_ro hzx24 (map_lt hlx24)) ?_
            refine any_y 10 rfl (by kernel_rfl) (by kernel_rfl) (by kernel_rfl) (sub_same (sub_same (sub_same (sub_nil)))) (wg 6 false 36 rfl rfl rfl rfl) rfl (y_fieldAddr_elem (sz := 0) Try.runUnderlying23 rfl Try.sizeOf3 rfl) ?_
            refine any_y 11 rfl (by kernel_rfl) (by kernel_rfl) (by kernel_rfl) (sub_same (sub_same (sub_same (sub_nil)))) (wg 6 false 36 rfl rfl rfl rfl) rfl (y_load_field (i := i_15.toNat) (j := 2) 0 Try.isAgg3 rfl rfl reads_ro (map_get hxx24) rfl) ?_
            refine any_y 12 rfl (by kernel_rfl) (by kernel_rfl) (by kernel_rfl) (sub_same (sub_same (sub_same (sub_nil)))) (wg 6 false 36 rfl rfl rfl rfl) rfl (y_fieldAddr_box (sz := 0) Try.runUnderlying23 rfl Try.sizeOf3 rfl) ?_
            refine any_y 13 rfl (by kernel_rfl) (by kernel_rfl) (by kernel_rfl) (sub_same (sub_same (sub_same (sub_nil)))) (wg 6 false 36 rfl rfl rfl rfl) rfl (y_load_box 2 Try.isAgg3 rfl rfl rfl) ?_
            refine any_y 14 rfl (by kernel_rfl) (by kernel_rfl) (by kernel_rfl) (sub_same (sub_same (sub_same (sub_nil)))) (wg 6 false 36 rfl rfl rfl rfl) rfl (y_neq rfl rfl) ?_
            refine any_y 15 rfl (by kernel_rfl) (by kernel_rfl) (by kernel_rfl) (sub_same (sub_same (sub_same (sub_nil)))) (wn rfl) rfl (y_pick (b := false) rfl rfl) ?_
            exact any_weak [(0, l_0v), (2, boxP b1 0), (3, boxP b7 0), (4, .int .i64 i_15), (45, .bool (decide (x24.Den ≠ x6.Den)))] [0, 1, 2] [ro l_0v 5 (l_0.map S_api_Bucket.enc), box b1 [.int .i64 0, .int .i64 0, .int .i64 0, .int .i64 0, .int .i64 0, .int .i64 0], box b7 [.int .i64 x_16, .int .i64 x_17, .int .i64 x6.Den, .int .i64 x_18, .int .i64 x6.At]] (by kernel_rfl) (vcons rfl (vcons rfl (vcons rfl (vcons rfl (vcons rfl (vnil)))))) (by decide) rfl (hL28 (decide (x24.Den ≠ x6.Den)) (by rw [hg29]; simp))
        rintro _ rfl
        refine any_y 16 rfl (by kernel_rfl) (by kernel_rfl) (by kernel_rfl) (sub_same (sub_same (sub_same (sub_nil)))) (wn rfl) rfl (y_move rfl) ?_
        obtain ⟨o31, h, ho32⟩ := bindJ_some h
        refine any_cut #[true, true, true, true, true, true, true, true, true, true, true, true, true, true, true, true, true, true, true, true, true, true, true, true, true, true] 0 Bool (fun σ => [(0, l_0v), (2, boxP b1 0), (3, boxP b7 0), (4, .int .i64 i_15), (55, .bool σ)]) (fun σ => [ro l_0v 5 (l_0.map S_api_Bucket.enc), box b1 [.int .i64 0, .int .i64 0, .int .i64 0, .int .i64 0, .int .i64 0, .int .i64 0], box b7 [.int .i64 x_16, .int .i64 x_17, .int .i64 x6.Den, .int .i64 x_18, .int .i64 x6.At]]) (fun σ => o31 = .go σ) (fun hL34 => ?_) ?_
        · refine any_split 46 ((!r25) || decide (x24.Den ≠ x6.Den)) rfl (fun hg35 => ?_) (fun hg35 => ?_)
          · replace h := cond_t h hg35
            refine any_no 17 rfl (by kernel_rfl) (by kernel_rfl) (by kernel_rfl) (sub_same (sub_same (sub_same (sub_nil)))) 16 false 46 rfl rfl rfl rfl rfl ?_
            refine any_no 18 rfl (by kernel_rfl) (by kernel_rfl) (by kernel_rfl) (sub_same (sub_same (sub_same (sub_nil)))) 16 false 46 rfl rfl rfl rfl rfl ?_
            refine any_no 19 rfl (by kernel_rfl) (by kernel_rfl) (by kernel_rfl) (sub_same (sub_same (sub_same (sub_nil)))) 16 false 46 rfl rfl rfl rfl rfl ?_
            refine any_no 20 rfl (by kernel_rfl) (by kernel_rfl) (by kernel_rfl) (sub_same (sub_same (sub_same (sub_nil)))) 16 false 46 rfl rfl rfl rfl rfl ?_
            refine any_no 21 rfl (by kernel_rfl) (by kernel_rfl) (by kernel_rfl) (sub_same (sub_same (sub_same (sub_nil)))) 16 false 46 rfl rfl rfl rfl rfl ?_
            refine any_no 22 rfl (by kernel_rfl) (by kernel_rfl) (by kernel_rfl) (sub_same (sub_same (sub_same (sub_nil)))) 16 false 46 rfl rfl rfl rfl rfl ?_
            refine any_no 23 rfl (by kernel_rfl) (by kernel_rfl) (by kernel_rfl) (sub_same (sub_same (sub_same (sub_nil)))) 16 false 46 rfl rfl rfl rfl rfl ?_
            refine any_no 24 rfl (by kernel_rfl) (by kernel_rfl) (by kernel_rfl) (sub_same (sub_same (sub_same (sub_nil)))) 16 false 46 rfl rfl rfl rfl rfl ?_
            refine any_y 25 rfl (by kernel_rfl) (by kernel_rfl) (by kernel_rfl) (sub_same (sub_same (sub_same (sub_nil)))) (wn rfl) rfl (y_pick (b := true) rfl rfl) ?_
            obtain rfl := some_eq h
            exact any_weak [(0, l_0v), (2, boxP b1 0), (3, boxP b7 0), (4, .int .i64 i_15), (55, .bool true)] [0, 1, 2] [ro l_0v 5 (l_0.map S_api_Bucket.enc), box b1 [.int .i64 0, .int .i64 0, .int .i64 0, .int .i64 0, .int .i64 0, .int .i64 0], box b7 [.int .i64 x_16, .int .i64 x_17, .int .i64 x6.Den, .int .i64 x_18, .int .i64 x6.At]] (by kernel_rfl) (vcons rfl (vcons rfl (vcons rfl (vcons rfl (vcons rfl (vnil)))))) (by decide) rfl (hL34 true rfl)
          · replace h := cond_f h hg35
            refine any_y 17 rfl (by kernel_rfl) (by kernel_rfl) (by kernel_rfl) (sub_same (sub_same (sub_same (sub_nil)))) (wg 16 false 46 rfl rfl rfl rfl) rfl (y_move rfl) ?_
            refine any_y 18 rfl (by kernel_rfl) (by kernel_rfl) (by kernel_rfl) (sub_same (sub_same (sub_same (sub_nil)))) (wg 16 false 46 rfl rfl rfl rfl) rfl (y_move rfl) ?_
            obtain ⟨x36, hzx36, hlx36, hxx36, h⟩ := idx_some h
            refine any_y 19 rfl (by kernel_rfl) (by kernel_rfl) (by kernel_rfl) (sub_same (sub_same (sub_same (sub_nil)))) (wg 16 false 46 rfl rfl rfl rfl) rfl (y_indexAddrI (kd := .i64) (i := i_15) 0 Try.runUnderlying51 Try.sizeOf23 rfl rfl rfl reads_ro hzx36 (map_lt hlx36)) ?_
            refine any_y 20 rfl (by kernel_rfl) (by kernel_rfl) (by kernel_rfl) (sub_same (sub_same (sub_same (sub_nil)))) (wg 16 false 46 rfl rfl rfl rfl) rfl (y_fieldAddr_elem (sz := 0) Try.runUnderlying23 rfl Try.sizeOf3 rfl) ?_
            refine any_y 21 rfl (by kernel_rfl) (by kernel_rfl) (by kernel_rfl) (sub_same (sub_same (sub_same (sub_nil)))) (wg 16 false 46 rfl rfl rfl rfl) rfl (y_load_field (i := i_15.toNat) (j := 4) 0 Try.isAgg3 rfl rfl reads_ro (map_get hxx36) rfl) ?_
            refine any_y 22 rfl (by kernel_rfl) (by kernel_rfl) (by kernel_rfl) (sub_same (sub_same (sub_same (sub_nil)))) (wg 16 false 46 rfl rfl rfl rfl) rfl (y_fieldAddr_box (sz := 0) Try.runUnderlying23 rfl Try.sizeOf3 rfl) ?_
            refine any_y 23 rfl (by kernel_rfl) (by kernel_rfl) (by kernel_rfl) (sub_same (sub_same (sub_same (sub_nil)))) (wg 16 false 46 rfl rfl rfl rfl) rfl (y_load_box 2 Try.isAgg3 rfl rfl rfl) ?_
            refine any_y 24 rfl (by kernel_rfl) (by kernel_rfl) (by kernel_rfl) (sub_same (sub_same (sub_same (sub_nil)))) (wg 16 false 46 rfl rfl rfl rfl) rfl (y_neq rfl rfl) ?_
            refine any_y 25 rfl (by kernel_rfl) (by kernel_rfl) (by kernel_rfl) (sub_same (sub_same (sub_same (sub_nil)))) (wn rfl) rfl (y_pick (b := false) rfl rfl) ?_
            obtain rfl := some_eq h
            exact any_weak [(0, l_0v), (2, boxP b1 0), (3, boxP b7 0), (4, .int .i64 i_15), (55, .bool (decide (x36.At ≠ x6.At)))] [0, 1, 2] [ro l_0v 5 (l_0.map S_api_Bucket.enc), box b1 [.int .i64 0, .int .i64 0, .int .i64 0, .int .i64 0, .int .i64 0, .int .i64 0], box b7 [.int .i64 x_16, .int .i64 x_17, .int .i64 x6.Den, .int .i64 x_18, .int .i64 x6.At]] (by kernel_rfl) (vcons rfl (vcons rfl (vcons rfl (vcons rfl (vcons rfl (vnil)))))) (by decide) rfl (hL34 (decide (x36.At ≠ x6.At)) rfl)
        rintro b30 hj
        obtain rfl : o31 = _ := hj
        replace h := after_go ho32
        clear ho32
        refine any_nil (by kernel_rfl) ?_
        refine goes_code ?_
        refine run_cond b30 rfl (fun hc37 => ?_) (fun hc37 => ?_)
        · replace h := cond_t h hc37
          refine run_seq ?_
          refine run_region' ?_
          refine ops_y (wn rfl) rfl (y_build_struct (cells := #[.int .i64 0, .int .i64 0, .int .i64 0, .int .i64 0, .int .i64 0, .int .i64 1]) [(1, .int .i64 1)] [(1, [.int .i64 1])] Try.zeroValue33 Try.runUnderlying33 (fs_cons Try.sizeOf23 (fs_cons Try.sizeOf24 fs_nil)) rfl rfl rfl) ?_
          refine ops_t (wn rfl) rfl (t_store 1 Try.sizeOf33 rfl rfl rfl rfl (by simp [Value.cells]) (by simp [Value.cells, Value.oneCell'])) ?_
          rintro _ _ ⟨rfl, rfl⟩
          refine ops_turn (retell 1 (g := box b1 [.int .i64 0, .int .i64 0, .int .i64 0, .int .i64 0, .int .i64 0, .int .i64 1]) rfl rfl) ?_
          refine ops_nil ?_
          refine goes_code ?_
          refine run_ret ?_
          obtain rfl := some_eq h
          obtain rfl := hstop21 _ rfl
          skip
          obtain rfl := after_stop ho12
          refine fin_res [.cell 2 33] [.agg #[.int .i64 0, .int .i64 0, .int .i64 0, .int .i64 0, .int .i64 0, .int .i64 1]] [] [] Try.results27 rfl (rescons (res_box 1 Try.isAgg33 Try.sizeOf33 rfl rfl rfl) resnil) (by decide) rfl ?_
          exact ⟨rfl, rfl⟩
        · replace h := cond_f h hc37
          refine run_skip ?_
          refine goes_code ?_
          refine run_seq ?_
          refine run_drawany [ro l_0v 5 (l_0.map S_api_Bucket.enc), box b1 [.int .i64 0, .int .i64 0, .int .i64 0, .int .i64 0, .int .i64 0, .int .i64 0], HA.emp] (by kernel_rfl) ?_
          refine any_y 0 rfl (by kernel_rfl) (by kernel_rfl) (by kernel_rfl) (sub_same (sub_same (sub_emp (sub_nil)))) (wn rfl) rfl (y_fieldAddr_box (sz := 0) Try.runUnderlying23 rfl Try.sizeOf3 rfl) ?_
          refine any_y 2 rfl (by kernel_rfl) (by kernel_rfl) (by kernel_rfl) (sub_same (sub_same (sub_emp (sub_nil)))) (wn rfl) rfl (y_move rfl) ?_
          refine any_y 3 rfl (by kernel_rfl) (by kernel_rfl) (by kernel_rfl) (sub_same (sub_same (sub_emp (sub_nil)))) (wn rfl) rfl (y_move rfl) ?_
          obtain ⟨x38, hzx38, hlx38, hxx38, h⟩ := idx_some h
          refine any_y 4 rfl (by kernel_rfl) (by kernel_rfl) (by kernel_rfl) (sub_same (sub_same (sub_emp (sub_nil)))) (wn rfl) rfl (y_indexAddrI (kd := .i64) (i := i_15) 0 Try.runUnderlying51 Try.sizeOf23 rfl rfl rfl reads_ro hzx38 (map_lt hlx38)) ?_
          refine any_y 5 rfl (by kernel_rfl) (by kernel_rfl) (by kernel_rfl) (sub_same (sub_same (sub_emp (sub_nil)))) (wn rfl) rfl (y_fieldAddr_elem (sz := 0) Try.runUnderlying23 rfl Try.sizeOf3 rfl) ?_
          refine any_y 6 rfl (by kernel_rfl) (by kernel_rfl) (by kernel_rfl) (sub_same (sub_same (sub_emp (sub_nil)))) (wn rfl) rfl (y_load_field (i := i_15.toNat) (j := 0) 0 Try.isAgg3 rfl rfl reads_ro (map_get hxx38) rfl) ?_
          refine any_all [1] (by kernel_rfl) rfl (anyo_cons ?_ anyo_nil)
          refine any_t rfl (wn rfl) rfl (OpY.t (y_load_box 2 Try.isAgg3 rfl rfl rfl)) ?_
          rintro _ _ ⟨rfl, rfl⟩
          refine ⟨(sub_same (sub_same (sub_emp (sub_nil)))), ?_⟩
          refine any_y 7 rfl (by kernel_rfl) (by kernel_rfl) (by kernel_rfl) (sub_same (sub_same (sub_emp (sub_nil)))) (wn rfl) rfl (y_add rfl rfl) ?_
          refine any_y 8 rfl (by kernel_rfl) (by kernel_rfl) (by kernel_rfl) (sub_same (sub_same (sub_emp (sub_nil)))) (wn rfl) rfl (y_fieldAddr_box (sz := 0) Try.runUnderlying23 rfl Try.sizeOf3 rfl) ?_
          refine any_all [9] (by kernel_rfl) rfl (anyo_cons ?_ anyo_nil)
          refine any_t rfl (wn rfl) rfl (t_store 2 Try.sizeOf3 rfl rfl rfl rfl (by simp [Value.cells]) (by simp [Value.cells, Value.oneCell'])) ?_
          rintro _ _ ⟨rfl, rfl⟩
          refine ⟨(sub_same (sub_same (sub_emp (sub_nil)))), ?_⟩
          refine any_turn (retell 2 (g := box b7 [.int .i64 (IntKind.i64.wrap (x_16 + x38.Cap)), .int .i64 x_17, .int .i64 x6.Den, .int .i64 x_18, .int .i64 x6.At]) rfl rfl) ?_
          refine any_nil (by kernel_rfl) ?_
          refine goes_code ?_
          refine run_seq ?_
          refine run_weak [(0, l_0v), (2, boxP b1 0), (3, boxP b7 0), (4, .int .i64 i_15)] [0, 1, 2] [ro l_0v 5 (l_0.map S_api_Bucket.enc), box b1 [.int .i64 0, .int .i64 0, .int .i64 0, .int .i64 0, .int .i64 0, .int .i64 0], box b7 [.int .i64 (IntKind.i64.wrap (x_16 + x38.Cap)), .int .i64 x_17, .int .i64 x6.Den, .int .i64 x_18, .int .i64 x6.At]] (vcons rfl (vcons rfl (vcons rfl (vcons rfl (vnil))))) (by decide) rfl ?_
          refine run_drawany [ro l_0v 5 (l_0.map S_api_Bucket.enc), box b1 [.int .i64 0, .int .i64 0, .int .i64 0, .int .i64 0, .int .i64 0, .int .i64 0], HA.emp] (by kernel_rfl) ?_
          refine any_y 0 rfl (by kernel_rfl) (by kernel_rfl) (by kernel_rfl) (sub_same (sub_same (sub_emp (sub_nil)))) (wn rfl) rfl (y_fieldAddr_box (sz := 0) Try.runUnderlying23 rfl Try.sizeOf3 rfl) ?_
          refine any_y 2 rfl (by kernel_rfl) (by kernel_rfl) (by kernel_rfl) (sub_same (sub_same (sub_emp (sub_nil)))) (wn rfl) rfl (y_move rfl) ?_
          refine any_y 3 rfl (by kernel_rfl) (by kernel_rfl) (by kernel_rfl) (sub_same (sub_same (sub_emp (sub_nil)))) (wn rfl) rfl (y_move rfl) ?_
          refine any_y 4 rfl (by kernel_rfl) (by kernel_rfl) (by kernel_rfl) (sub_same (sub_same (sub_emp (sub_nil)))) (wn rfl) rfl (y_indexAddrI (kd := .i64) (i := i_15) 0 Try.runUnderlying51 Try.sizeOf23 rfl rfl rfl reads_ro hzx38 (map_lt hlx38)) ?_
          refine any_y 5 rfl (by kernel_rfl) (by kernel_rfl) (by kernel_rfl) (sub_same (sub_same (sub_emp (sub_nil)))) (wn rfl) rfl (y_fieldAddr_elem (sz := 0) Try.runUnderlying23 rfl Try.sizeOf3 rfl) ?_
          refine any_y 6 rfl (by kernel_rfl) (by kernel_rfl) (by kernel_rfl) (sub_same (sub_same (sub_emp (sub_nil)))) (wn rfl) rfl (y_load_field (i := i_15.toNat) (j := 1) 0 Try.isAgg3 rfl rfl reads_ro (map_get hxx38) rfl) ?_
          refine any_all [1] (by kernel_rfl) rfl (anyo_cons ?_ anyo_nil)
          refine any_t rfl (wn rfl) rfl (OpY.t (y_load_box 2 Try.isAgg3 rfl rfl rfl)) ?_
          rintro _ _ ⟨rfl, rfl⟩
          refine ⟨(sub_same (sub_same (sub_emp (sub_nil)))), ?_⟩
          refine any_y 7 rfl (by kernel_rfl) (by kernel_rfl) (by kernel_rfl) (sub_same (sub_same (sub_emp (sub_nil)))) (wn rfl) rfl (y_add rfl rfl) ?_
          refine any_y 8 rfl (by kernel_rfl) (by kernel_rfl) (by kernel_rfl) (sub_same (sub_same (sub_emp (sub_nil)))) (wn rfl) rfl (y_fieldAddr_box (sz := 0) Try.runUnderlying23 rfl Try.sizeOf3 rfl) ?_
          refine any_all [9] (by kernel_rfl) rfl (anyo_cons ?_ anyo_nil)
          refine any_t rfl (wn rfl) rfl (t_store 2 Try.sizeOf3 rfl rfl rfl rfl (by simp [Value.cells]) (by simp [Value.cells, Value.oneCell'])) ?_
          rintro _ _ ⟨rfl, rfl⟩
          refine ⟨(sub_same (sub_same (sub_emp (sub_nil)))), ?_⟩
          refine any_turn (retell 2 (g := box b7 [.int .i64 (IntKind.i64.wrap (x_16 + x38.Cap)), .int .i64 (IntKind.i64.wrap (x_17 + x38.Num)), .int .i64 x6.Den, .int .i64 x_18, .int .i64 x6.At]) rfl rfl) ?_
          refine any_nil (by kernel_rfl) ?_
          refine goes_code ?_
          refine run_weak [(0, l_0v), (2, boxP b1 0), (3, boxP b7 0), (4, .int .i64 i_15)] [0, 1, 2] [ro l_0v 5 (l_0.map S_api_Bucket.enc), box b1 [.int .i64 0, .int .i64 0, .int .i64 0, .int .i64 0, .int .i64 0, .int .i64 0], box b7 [.int .i64 (IntKind.i64.wrap (x_16 + x38.Cap)), .int .i64 (IntKind.i64.wrap (x_17 + x38.Num)), .int .i64 x6.Den, .int .i64 x_18, .int .i64 x6.At]] (vcons rfl (vcons rfl (vcons rfl (vcons rfl (vnil))))) (by decide) rfl ?_
          refine run_drawany [ro l_0v 5 (l_0.map S_api_Bucket.enc), box b1 [.int .i64 0, .int .i64 0, .int .i64 0, .int .i64 0, .int .i64 0, .int .i64 0], HA.emp] (by kernel_rfl) ?_
          refine any_y 0 rfl (by kernel_rfl) (by kernel_rfl) (by kernel_rfl) (sub_same (sub_same (sub_emp (sub_nil)))) (wn rfl) rfl (y_fieldAddr_box (sz := 0) Try.runUnderlying23 rfl Try.sizeOf3 rfl) ?_
          refine any_y 2 rfl (by kernel_rfl) (by kernel_rfl) (by kernel_rfl) (sub_same (sub_same (sub_emp (sub_nil)))) (wn rfl) rfl (y_move rfl) ?_
          refine any_y 3 rfl (by kernel_rfl) (by kernel_rfl) (by kernel_rfl) (sub_same (sub_same (sub_emp (sub_nil)))) (wn rfl) rfl (y_move rfl) ?_
          refine any_y 4 rfl (by kernel_rfl) (by kernel_rfl) (by kernel_rfl) (sub_same (sub_same (sub_emp (sub_nil)))) (wn rfl) rfl (y_indexAddrI (kd := .i64) (i := i_15) 0 Try.runUnderlying51 Try.sizeOf23 rfl rfl rfl reads_ro hzx38 (map_lt hlx38)) ?_
          refine any_y 5 rfl (by kernel_rfl) (by kernel_rfl) (by kernel_rfl) (sub_same (sub_same (sub_emp (sub_nil)))) (wn rfl) rfl (y_fieldAddr_elem (sz := 0) Try.runUnderlying23 rfl Try.sizeOf3 rfl) ?_
          refine any_y 6 rfl (by kernel_rfl) (by kernel_rfl) (by kernel_rfl) (sub_same (sub_same (sub_emp (sub_nil)))) (wn rfl) rfl (y_load_field (i := i_15.toNat) (j := 3) 0 Try.isAgg3 rfl rfl reads_ro (map_get hxx38) rfl) ?_
          refine any_all [1] (by kernel_rfl) rfl (anyo_cons ?_ anyo_nil)
          refine any_t rfl (wn rfl) rfl (OpY.t (y_load_box 2 Try.isAgg3 rfl rfl rfl)) ?_
          rintro _ _ ⟨rfl, rfl⟩
          refine ⟨(sub_same (sub_same (sub_emp (sub_nil)))), ?_⟩
          refine any_y 7 rfl (by kernel_rfl) (by kernel_rfl) (by kernel_rfl) (sub_same (sub_same (sub_emp (sub_nil)))) (wn rfl) rfl (y_add rfl rfl) ?_
          refine any_y 8 rfl (by kernel_rfl) (by kernel_rfl) (by kernel_rfl) (sub_same (sub_same (sub_emp (sub_nil)))) (wn rfl) rfl (y_fieldAddr_box (sz := 0) Try.runUnderlying23 rfl Try.sizeOf3 rfl) ?_
          refine any_all [9] (by kernel_rfl) rfl (anyo_cons ?_ anyo_nil)
          refine any_t rfl (wn rfl) rfl (t_store 2 Try.sizeOf3 rfl rfl rfl rfl (by simp [Value.cells]) (by simp [Value.cells, Value.oneCell'])) ?_
          rintro _ _ ⟨rfl, rfl⟩
          refine ⟨(sub_same (sub_same (sub_emp (sub_nil)))), ?_⟩
          refine any_turn (retell 2 (g := box b7 [.int .i64 (IntKind.i64.wrap (x_16 + x38.Cap)), .int .i64 (IntKind.i64.wrap (x_17 + x38.Num)), .int .i64 x6.Den, .int .i64 (IntKind.i64.wrap (x_18 + x38.Level)), .int .i64 x6.At]) rfl rfl) ?_
          refine any_nil (by kernel_rfl) ?_
          refine goes_blk ?_
          refine goes_code ?_
          refine run_weak [(0, l_0v), (2, boxP b1 0), (3, boxP b7 0), (4, .int .i64 i_15)] [0, 1, 2] [ro l_0v 5 (l_0.map S_api_Bucket.enc), box b1 [.int .i64 0, .int .i64 0, .int .i64 0, .int .i64 0, .int .i64 0, .int .i64 0], box b7 [.int .i64 (IntKind.i64.wrap (x_16 + x38.Cap)), .int .i64 (IntKind.i64.wrap (x_17 + x38.Num)), .int .i64 x6.Den, .int .i64 (IntKind.i64.wrap (x_18 + x38.Level)), .int .i64 x6.At]] (vcons rfl (vcons rfl (vcons rfl (vcons rfl (vnil))))) (by decide) rfl ?_
          refine run_region' ?_
          refine ops_y (wn rfl) rfl (y_move rfl) ?_
          refine ops_y (wn rfl) rfl (y_add rfl rfl) ?_
          refine ops_y (wn rfl) rfl (y_assign rfl) ?_
          refine ops_nil ?_
          obtain rfl := some_eq h
          exact goes_iter hgo20 ((IntKind.i64.wrap (i_15 + 1)), (IntKind.i64.wrap (x_16 + x38.Cap)), (IntKind.i64.wrap (x_17 + x38.Num)), (IntKind.i64.wrap (x_18 + x38.Level))) () [0, 1, 2] rfl (vcons rfl (vcons rfl (vcons rfl (vcons rfl (vnil))))) (by decide) rfl
      · replace h := cond_f h hc23
        refine run_exit _ rfl ?_
        obtain rfl := some_eq h
        obtain rfl := hstop21 _ rfl
        exact goes_cut hL13 ((x_16, x_17, x_18), ()) [1, 2] (vcons rfl (vcons rfl (vnil))) (by decide) rfl rfl
    rintro ⟨⟨x_8, x_9, x_10⟩, _⟩ hj
    obtain rfl : o11 = _ := hj
    replace h := after_go ho12
    clear ho12
    change Run _ _ _ (VF.of [(2, boxP b1 0), (3, boxP b7 0)]) [box b1 [.int .i64 0, .int .i64 0, .int .i64 0, .int .i64 0, .int .i64 0, .int .i64 0], box b7 [.int .i64 x_8, .int .i64 x_9, .int .i64 x6.Den, .int .i64 x_10, .int .i64 x6.At]]
    refine run_seq ?_
    refine run_region' ?_
    refine ops_y (wn rfl) rfl (y_load_boxagg (c := [.int .i64 x_8, .int .i64 x_9, .int .i64 x6.Den, .int .i64 x_10, .int .i64 x6.At]) 1 Try.isAgg23 Try.sizeOf23 rfl rfl rfl) ?_
    obtain ⟨r39, hr40, h⟩ := bind_some h
    refine ops_t (wn rfl) rfl (t_call (vs := [.agg #[.int .i64 x_8, .int .i64 x_9, .int .i64 x6.Den, .int .i64 x_10, .int .i64 x6.At]]) (cs := []) [] rfl Try.call21 rfl (ref12_Valid_ok (S_api_Bucket.mk x_8 x_9 x6.Den x_10 x6.At)  hr40) shows_nil (.inl rfl)) ?_
    rintro _ _ ⟨_, ⟨rfl, rfl⟩, rfl⟩
    refine ops_y (wn rfl) rfl (y_assign rfl) ?_
    refine ops_nil ?_
    refine goes_code ?_
    refine run_seq ?_
    refine run_seq ?_
    refine run_region' ?_
    refine ops_y (wn rfl) rfl (y_move rfl) ?_
    refine ops_y (wn rfl) rfl (y_not rfl) ?_
    refine ops_nil ?_
    refine goes_code ?_
    refine run_cond (!r39) rfl (fun hc41 => ?_) (fun hc41 => ?_)
    · replace h := cond_t h hc41
      refine run_seq ?_
      refine run_region' ?_
      refine ops_y (wn rfl) rfl (y_build_struct (cells := #[.int .i64 0, .int .i64 0, .int .i64 0, .int .i64 0, .int .i64 0, .int .i64 1]) [(1, .int .i64 1)] [(1, [.int .i64 1])] Try.zeroValue33 Try.runUnderlying33 (fs_cons Try.sizeOf23 (fs_cons Try.sizeOf24 fs_nil)) rfl rfl rfl) ?_
      refine ops_t (wn rfl) rfl (t_store 0 Try.sizeOf33 rfl rfl rfl rfl (by simp [Value.cells]) (by simp [Value.cells, Value.oneCell'])) ?_
      rintro _ _ ⟨rfl, rfl⟩
      refine ops_turn (retell 0 (g := box b1 [.int .i64 0, .int .i64 0, .int .i64 0, .int .i64 0, .int .i64 0, .int .i64 1]) rfl rfl) ?_
      refine ops_nil ?_
      refine goes_code ?_
      refine run_ret ?_
      obtain rfl := some_eq h
      refine fin_res [.cell 2 33] [.agg #[.int .i64 0, .int .i64 0, .int .i64 0, .int .i64 0, .int .i64 0, .int .i64 1]] [] [] Try.results27 rfl (rescons (res_box 0 Try.isAgg33 Try.sizeOf33 rfl rfl rfl) resnil) (by decide) rfl ?_
      exact ⟨rfl, rfl⟩
    · replace h := cond_f h hc41
      refine run_skip ?_
      refine goes_code ?_
      refine run_seq ?_
      refine run_region' ?_
      refine ops_y (wn rfl) rfl (y_load_boxagg (c := [.int .i64 x_8, .int .i64 x_9, .int .i64 x6.Den, .int .i64 x_10, .int .i64 x6.At]) 1 Try.isAgg23 Try.sizeOf23 rfl rfl rfl) ?_
      refine ops_y (wn rfl) rfl (y_build_struct (cells := #[.int .i64 x_8, .int .i64 x_9, .int .i64 x6.Den, .int .i64 x_10, .int .i64 x6.At, .int .i64 0]) [(0, .agg #[.int .i64 x_8, .int .i64 x_9, .int .i64 x6.Den, .int .i64 x_10, .int .i64 x6.At])] [(0, [.int .i64 x_8, .int .i64 x_9, .int .i64 x6.Den, .int .i64 x_10, .int .i64 x6.At])] Try.zeroValue33 Try.runUnderlying33 (fs_cons Try.sizeOf23 (fs_cons Try.sizeOf24 fs_nil)) rfl rfl rfl) ?_
      refine ops_t (wn rfl) rfl (t_store 0 Try.sizeOf33 rfl rfl rfl rfl (by simp [Value.cells]) (by simp [Value.cells, Value.oneCell'])) ?_
      rintro _ _ ⟨rfl, rfl⟩
      refine ops_turn (retell 0 (g := box b1 [.int .i64 x_8, .int .i64 x_9, .int .i64 x6.Den, .int .i64 x_10, .int .i64 x6.At, .int .i64 0]) rfl rfl) ?_
      refine ops_nil ?_
      refine goes_code ?_
      refine run_ret ?_
      obtain rfl := some_eq h
      refine fin_res [.cell 2 33] [.agg #[.int .i64 x_8, .int .i64 x_9, .int .i64 x6.Den, .int .i64 x_10, .int .i64 x6.At, .int .i64 0]] [] [] Try.results27 rfl (rescons (res_box 0 Try.isAgg33 Try.sizeOf33 rfl rfl rfl) resnil) (by decide) rfl ?_
      exact ⟨rfl, rfl⟩

def ref12_Same_L1 (a_0 : (List S_api_Bucket)) (b_1 : (List S_api_Bucket)) : (Int) → Option (Lp (Int) (Lp (Unit) (Bool))) :=
  fun i_6 =>
    cond (decide (i_6 < (a_0.length : Int)))
      (idx a_0 i_6 fun x12 =>
      idx b_1 i_6 fun x13 =>
      cond (!(decide (x12.Cap = x13.Cap) && (decide (x12.Num = x13.Num) && (decide (x12.Den = x13.Den) && (decide (x12.Level = x13.Level) && (decide (x12.At = x13.At)))))))
        (some (.stop (.stop false)))
        (some (.go (IntKind.i64.wrap (i_6 + 1)))))
      (some (.stop (.go ())))
def ref12_Same (n : Nat) (a_0 : (List S_api_Bucket)) (b_1 : (List S_api_Bucket)) : Option (Bool) :=
  cond (decide ((a_0.length : Int) ≠ (b_1.length : Int)))
    (some false)
    (bindJ (S := Unit)
      (iter (ref12_Same_L1 a_0 b_1) n 0)
    (fun _ =>
      some true))
theorem ref12_Same_ok (n : Nat) (a_0 : (List S_api_Bucket)) (b_1 : (List S_api_Bucket)) (a_0v : Value) (b_1v : Value) {r : Bool} (h : ref12_Same n a_0 b_1 = some r) :
    Meets Try.prog 28 [a_0v, b_1v] [ro a_0v 5 (a_0.map S_api_Bucket.enc), ro b_1v 5 (b_1.map S_api_Bucket.enc)] (fun v G => v = .bool r ∧ G = []) := by
  refine fn_of_run Try.func28 rfl Try.ntmps28 rfl (fun w0 o0 => ?_)
  refine run_seq ?_
  refine run_region' ?_
  refine ops_y (wn rfl) rfl (y_assign rfl) ?_
  refine ops_nil ?_
  refine goes_code ?_
  refine run_seq ?_
  refine run_seq ?_
  refine run_region' ?_
  refine ops_y (wn rfl) rfl (y_move rfl) ?_
  refine ops_y (wn rfl) rfl ((y_len 0 rfl Try.runUnderlying51 rfl rfl reads_ro).to (v_len S_api_Bucket.enc _)) ?_
  refine ops_y (wn rfl) rfl (y_move rfl) ?_
  refine ops_y (wn rfl) rfl ((y_len 1 rfl Try.runUnderlying51 rfl rfl reads_ro).to (v_len S_api_Bucket.enc _)) ?_
  refine ops_y (wn rfl) rfl (y_neq rfl rfl) ?_
  refine ops_nil ?_
  refine goes_code ?_
  refine run_cond (decide ((a_0.length : Int) ≠ (b_1.length : Int))) rfl (fun hc1 => ?_) (fun hc1 => ?_)
  · replace h := cond_t h hc1
    refine run_seq ?_
    refine run_region' ?_
    refine ops_y (wn rfl) rfl (y_assign rfl) ?_
    refine ops_nil ?_
    refine goes_code ?_
    refine run_ret ?_
    obtain rfl := some_eq h
    refine fin_slots [4] [.bool false] [] [] Try.results28 rfl (by decide) rfl ?_
    exact ⟨rfl, rfl⟩
  · replace h := cond_f h hc1
    refine run_skip ?_
    refine goes_code ?_
    obtain ⟨o2, h, ho3⟩ := bindJ_some h
    refine run_cut ((Unit) × (Unit)) (fun σ => []) (fun σ => []) (fun σ => o2 = .go σ.1) (fun L5 hL4 => ?_) ?_
    · -- the ways through
      refine run_seq ?_
      refine run_region' ?_
      refine ops_y (wn rfl) rfl (y_assign rfl) ?_
      refine ops_nil ?_
      refine goes_code ?_
      refine run_block ?_
      refine run_iter (step := ref12_Same_L1 a_0 b_1) (n := n) (s0 := 0) h (G := Unit) () (fun σ γ => [(0, a_0v), (1, b_1v), (5, .int .i64 σ)]) (fun σ γ => [ro a_0v 5 (a_0.map S_api_Bucket.enc), ro b_1v 5 (b_1.map S_api_Bucket.enc)]) [0, 1] (vcons rfl (vcons rfl (vcons rfl (vnil)))) (by decide) rfl ?_
      rintro i_6 _ o7 h L10 hgo8 hstop9
      change Run _ _ _ (VF.of [(0, a_0v), (1, b_1v), (5, .int .i64 i_6)]) [ro a_0v 5 (a_0.map S_api_Bucket.enc), ro b_1v 5 (b_1.map S_api_Bucket.enc)]
      refine run_seq ?_
      refine run_seq ?_
      refine run_region' ?_
      refine ops_y (wn rfl) rfl (y_move rfl) ?_
      refine ops_y (wn rfl) rfl (y_move rfl) ?_
      refine ops_y (wn rfl) rfl ((y_len 0 rfl Try.runUnderlying51 rfl rfl reads_ro).to (v_len S_api_Bucket.enc _)) ?_
      refine ops_y (wn rfl) rfl (y_lss rfl rfl) ?_
      refine ops_nil ?_
      refine goes_code ?_
      refine run_cond (decide (i_6 < (a_0.length : Int))) rfl (fun hc11 => ?_) (fun hc11 => ?_)
      · replace h := cond_t h hc11
        refine run_skip ?_
        refine goes_code ?_
        refine run_seq ?_
        refine run_block ?_
        refine run_seq ?_
        refine run_draw (by kernel_rfl) (by kernel_rfl) ?_
        refine still_y (wn rfl) rfl (y_move rfl) ?_
        refine still_y (wn rfl) rfl (y_move rfl) ?_
        obtain ⟨x12, hzx12, hlx12, hxx12, h⟩ := idx_some h
        refine still_y (wn rfl) rfl (y_indexAddrI (kd := .i64) (i := i_6) 0 Try.runUnderlying51 Try.sizeOf23 rfl rfl rfl reads_ro hzx12 (map_lt hlx12)) ?_
        refine still_y (wn rfl) rfl (y_load_agg (i := i_6.toNat) (c := [.int .i64 x12.Cap, .int .i64 x12.Num, .int .i64 x12.Den, .int .i64 x12.Level, .int .i64 x12.At]) 0 Try.isAgg23 Try.sizeOf23 rfl rfl reads_ro (map_get hxx12)) ?_
        refine still_y (wn rfl) rfl (y_move rfl) ?_
        refine still_y (wn rfl) rfl (y_move rfl) ?_
        obtain ⟨x13, hzx13, hlx13, hxx13, h⟩ := idx_some h
        refine still_y (wn rfl) rfl (y_indexAddrI (kd := .i64) (i := i_6) 1 Try.runUnderlying51 Try.sizeOf23 rfl rfl rfl reads_ro hzx13 (map_lt hlx13)) ?_
        refine still_y (wn rfl) rfl (y_load_agg (i := i_6.toNat) (c := [.int .i64 x13.Cap, .int .i64 x13.Num, .int .i64 x13.Den, .int .i64 x13.Level, .int .i64 x13.At]) 1 Try.isAgg23 Try.sizeOf23 rfl rfl reads_ro (map_get hxx13)) ?_
        refine still_y (wn rfl) rfl (y_neS (by kernel_rfl) (by kernel_rfl) Try.runUnderlying23 rfl rfl (.cons (eqf_int (by decide) Try.runUnderlying3 Try.isAgg3 rfl rfl) (.cons (eqf_int (by decide) Try.runUnderlying3 Try.isAgg3 rfl rfl) (.cons (eqf_int (by decide) Try.runUnderlying3 Try.isAgg3 rfl rfl) (.cons (eqf_int (by decide) Try.runUnderlying3 Try.isAgg3 rfl rfl) (.cons (eqf_int (by decide) Try.runUnderlying3 Try.isAgg3 rfl rfl) EqFs.nil)))))) ?_
        refine still_nil ?_
        refine goes_code ?_
        refine run_cond (!(decide (x12.Cap = x13.Cap) && (decide (x12.Num = x13.Num) && (decide (x12.Den = x13.Den) && (decide (x12.Level = x13.Level) && (decide (x12.At = x13.At))))))) rfl (fun hc14 => ?_) (fun hc14 => ?_)
        · replace h := cond_t h hc14
          refine run_seq ?_
          refine run_weak [] [] [] vnil (by decide) rfl ?_
          refine run_region' ?_
          refine ops_y (wn rfl) rfl (y_assign rfl) ?_
          refine ops_nil ?_
          refine goes_code ?_
          refine run_ret ?_
          obtain rfl := some_eq h
          obtain rfl := hstop9 _ rfl
          skip
          obtain rfl := after_stop ho3
          refine fin_slots [4] [.bool false] [] [] Try.results28 rfl (by decide) rfl ?_
          exact ⟨rfl, rfl⟩
        · replace h := cond_f h hc14
          refine run_skip ?_
          refine goes_blk ?_
          refine goes_code ?_
          refine run_weak [(0, a_0v), (1, b_1v), (5, .int .i64 i_6)] [0, 1] [ro a_0v 5 (a_0.map S_api_Bucket.enc), ro b_1v 5 (b_1.map S_api_Bucket.enc)] (vcons rfl (vcons rfl (vcons rfl (vnil)))) (by decide) rfl ?_
          refine run_region' ?_
          refine ops_y (wn rfl) rfl (y_move rfl) ?_
          refine ops_y (wn rfl) rfl (y_add rfl rfl) ?_
          refine ops_y (wn rfl) rfl (y_assign rfl) ?_
          refine ops_nil ?_
          obtain rfl := some_eq h
          exact goes_iter hgo8 (IntKind.i64.wrap (i_6 + 1)) () [0, 1] rfl (vcons rfl (vcons rfl (vcons rfl (vnil)))) (by decide) rfl
      · replace h := cond_f h hc11
        refine run_exit _ rfl ?_
        obtain rfl := some_eq h
        obtain rfl := hstop9 _ rfl
        exact goes_cut hL4 ((), ()) [] vnil (by decide) rfl rfl
    rintro ⟨_, _⟩ hj
    obtain rfl : o2 = _ := hj
    replace h := after_go ho3
    clear ho3
    change Run _ _ _ (VF.of []) []
    refine run_seq ?_
    refine run_region' ?_
    refine ops_y (wn rfl) rfl (y_assign rfl) ?_
    refine ops_nil ?_
    refine goes_code ?_
    refine run_ret ?_
    obtain rfl := some_eq h
    refine fin_slots [4] [.bool true] [] [] Try.results28 rfl (by decide) rfl ?_
    exact ⟨rfl, rfl⟩

end Go.Proofs.Ytpalglggjndmlaa
