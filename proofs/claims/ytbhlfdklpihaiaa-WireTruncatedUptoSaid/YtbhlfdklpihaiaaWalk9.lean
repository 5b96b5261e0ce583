/-
  The walks of the laws, fifth part.
-/
import Derived.Test.YtbhlfdklpihaiaaWireMore
import Derived.Test.YtbhlfdklpihaiaaWalk8
namespace Go.Proofs.Ytbhlfdklpihaiaa
open Go.Abs
set_option linter.unusedVariables false
set_option linter.unusedSimpArgs false
set_option maxRecDepth 20000

theorem law_round (s : List UInt8) (hs : s.length ≤ 1048576) (lv : Value) (l : List Int) (hll : l.length ≤ 1048576) (hn : ∀ n ∈ l, -9223372036854775808 ≤ n ∧ n ≤ 9223372036854775807) (xv : Value) (x : List (List UInt8)) (hx : x.length + (x.map List.length).sum ≤ 1048576) (dv : Value) (d : List (List UInt8)) (hdl : d.length ≤ 1048576) (hd : ∀ y ∈ d, y.length = 16) (tv : Value) (t : List UInt8) (htl : t.length ≤ 1048576) :
    Meets Try.prog 8 [.string (bs s), lv, xv, dv, tv] [ro lv 1 (i64c l), ro xv 1 (strc x), ro dv 16 (arrc d), ro tv 1 (u8c t)] (fun v G => v = .bool true ∧ G = []) := by
  have hxn : ∀ y ∈ x, y.length ≤ 4294967296 := fun y hy => by have := mem_sum x y hy; omega
  have hL := encLI_len l (by omega) hn
  have hX := encLS_len x (by omega) hxn
  have hD := encLD_len d (by omega) hd
  have hS := (encI_len (n := (s.length : Int)) (by omega) (by omega)).2
  have hSl : (encS s).length = (encI s.length).length + s.length := List.length_append
  have hr1 := getS_enc (s := s) (by omega) t
  have hr2 := getLI_enc l t (by omega) hn
  have hr3 := getLD_enc d t (by omega) hd
  have hr4 := getLS_enc x t (by omega) (fun y hy => by have := hxn y hy; omega)
  refine fn_of_run Try.func8 rfl Try.ntmps8 rfl (fun w0 o0 => ?_)
  refine run_seq ?_
  refine run_region' ?_
  refine ops_y (wn rfl) rfl (y_assign rfl) ?_
  refine ops_nil ?_
  refine goes_code ?_
  refine run_seq ?_
  refine run_seq ?_
  refine run_region' ?_
  refine ops_y (wn rfl) rfl (y_move rfl) ?_
  refine ops_y (wn rfl) rfl (y_len_str rfl Try.runUnderlying9 rfl) ?_
  refine ops_y (wn rfl) rfl (y_move rfl) ?_
  refine ops_y (wn rfl) rfl ((y_len 0 rfl Try.runUnderlying22 rfl rfl reads_ro).to (congrArg (fun n : Nat => Value.int .i64 (n : Int)) (i64c_len _))) ?_
  refine ops_y (wn rfl) rfl ((y_add rfl rfl).to (v64n (a := s.length) (b := l.length) (by omega))) ?_
  refine ops_y (wn rfl) rfl (y_move rfl) ?_
  refine ops_y (wn rfl) rfl ((y_len 2 rfl Try.runUnderlying24 rfl rfl reads_ro).to (congrArg (fun n : Nat => Value.int .i64 (n : Int)) (arrc_len _))) ?_
  refine ops_y (wn rfl) rfl ((y_add rfl rfl).to (v64n (a := (s.length + l.length)) (b := d.length) (by omega))) ?_
  refine ops_y (wn rfl) rfl (y_move rfl) ?_
  refine ops_y (wn rfl) rfl ((y_len 3 rfl Try.runUnderlying28 rfl rfl reads_ro).to (congrArg (fun n : Nat => Value.int .i64 (n : Int)) (u8c_len _))) ?_
  refine ops_y (wn rfl) rfl ((y_add rfl rfl).to (v64n (a := ((s.length + l.length) + d.length)) (b := t.length) (by omega))) ?_
  refine ops_y (wn rfl) rfl (y_gtr rfl rfl) ?_
  refine ops_y (wn rfl) rfl (y_move rfl) ?_
  refine ops_split 39 _ rfl (fun hg1 => ?_) (fun hg1 => ?_)
  · -- B1t
    replace hg1 := of_decide_eq_true hg1
    refine ops_no 12 false 39 rfl rfl rfl rfl rfl ?_
    refine ops_weak [(0, .string (bs s)), (1, lv), (2, xv), (3, dv), (4, tv), (10, .bool false), (39, .bool true), (40, undef)] [0, 1, 2, 3] [ro lv 1 (i64c l), ro xv 1 (strc x), ro dv 16 (arrc d), ro tv 1 (u8c t)] (vcons rfl (vcons rfl (vcons rfl (vcons rfl (vcons rfl (vcons rfl (vcons rfl (vcons rfl (vnil))))))))) (by decide) rfl ?_
    refine ops_no 12 false 39 rfl rfl rfl rfl rfl ?_
    refine ops_no 12 false 39 rfl rfl rfl rfl rfl ?_
    refine ops_y (wn rfl) rfl (y_pick (b := true) rfl rfl) ?_
    refine ops_nil ?_
    refine goes_code ?_
    refine run_cond_t rfl ?_
    refine run_seq ?_
    refine run_region' ?_
    refine ops_t (wn rfl) rfl (t_call (vs := []) (cs := []) [] rfl Try.call12 rfl (sanity) shows_nil (.inl rfl)) ?_
    rintro _ _ ⟨_, ⟨rfl, rfl⟩, rfl⟩
    refine ops_y (wn rfl) rfl (y_assign rfl) ?_
    refine ops_nil ?_
    refine goes_code ?_
    refine run_ret ?_
    refine fin_slots [10] [.bool true] [] [] Try.results8 rfl (by decide) rfl ?_
    dsimp only [tup]
    exact ⟨rfl, rfl⟩
  · -- B1f
    replace hg1 := of_decide_eq_false hg1
    refine ops_y (wg 12 false 39 rfl rfl rfl rfl) rfl (y_move rfl) ?_
    refine ops_weak [(0, .string (bs s)), (1, lv), (2, xv), (3, dv), (4, tv), (10, .bool false), (39, .bool false), (40, xv)] [0, 1, 2, 3] [ro lv 1 (i64c l), ro xv 1 (strc x), ro dv 16 (arrc d), ro tv 1 (u8c t)] (vcons rfl (vcons rfl (vcons rfl (vcons rfl (vcons rfl (vcons rfl (vcons rfl (vcons rfl (vnil))))))))) (by decide) rfl ?_
    refine ops_t (wg 12 false 39 rfl rfl rfl rfl) rfl (t_call (vs := [xv]) (cs := []) [⟨1, false⟩] rfl Try.call11 rfl (few_l xv x (by omega)) (shows_cons 1 false rfl views_ro shows_nil) (.inl rfl)) ?_
    rintro _ _ ⟨_, ⟨rfl, rfl⟩, rfl⟩
    refine ops_y (wg 12 false 39 rfl rfl rfl rfl) rfl (y_not rfl) ?_
    refine ops_y (wn rfl) rfl (y_pick (b := false) rfl rfl) ?_
    refine ops_nil ?_
    refine goes_code ?_
    refine run_cond _ rfl (fun hc2 => ?_) (fun hc2 => ?_)
    · -- B2t
      simp at hc2
      refine run_seq ?_
      refine run_region' ?_
      refine ops_t (wn rfl) rfl (t_call (vs := []) (cs := []) [] rfl Try.call12 rfl (sanity) shows_nil (.inl rfl)) ?_
      rintro _ _ ⟨_, ⟨rfl, rfl⟩, rfl⟩
      refine ops_y (wn rfl) rfl (y_assign rfl) ?_
      refine ops_nil ?_
      refine goes_code ?_
      refine run_ret ?_
      refine fin_slots [10] [.bool true] [] [] Try.results8 rfl (by decide) rfl ?_
      dsimp only [tup]
      exact ⟨rfl, rfl⟩
    · -- B2f
      simp at hc2
      refine run_skip ?_
      refine goes_code ?_
      refine run_seq ?_
      refine run_region' ?_
      refine ops_y (wn rfl) rfl (y_move rfl) ?_
      refine ops_t (wn rfl) rfl (t_call (vs := [.string (bs s)]) (cs := []) [] rfl Try.call16 rfl (bytes_p s (by first | omega | (simp only [List.length_drop, List.length_take, List.length_append]; omega) | (simp; done))) shows_nil (.inl rfl)) ?_
      rintro v3 _ ⟨_, rfl, rfl⟩
      refine ops_y (wn rfl) rfl (y_move rfl) ?_
      refine ops_t (wn rfl) rfl (t_call (vs := [lv]) (cs := []) [⟨0, false⟩] rfl Try.call18 rfl (ints_p lv l (by first | omega | (simp; done)) hn (by omega)) (shows_cons 0 false rfl views_ro shows_nil) (.inl rfl)) ?_
      rintro v4 _ ⟨_, rfl, rfl⟩
      refine ops_y (wn rfl) rfl (y_move rfl) ?_
      refine ops_t (wn rfl) rfl (t_call (vs := [dv]) (cs := []) [⟨2, false⟩] rfl Try.call22 rfl (digs_p dv d (by first | omega | (simp; done)) hd (by omega)) (shows_cons 2 false rfl views_ro shows_nil) (.inl rfl)) ?_
      rintro v5 _ ⟨_, rfl, rfl⟩
      refine ops_y (wn rfl) rfl (y_move rfl) ?_
      refine ops_t (wn rfl) rfl (t_call (vs := [xv]) (cs := []) [⟨1, false⟩] rfl Try.call20 rfl (strs_p xv x (by first | omega | (simp; done)) hxn (by omega)) (shows_cons 1 false rfl views_ro shows_nil) (.inl rfl)) ?_
      rintro v6 _ ⟨_, rfl, rfl⟩
      refine ops_y (wn rfl) rfl (y_assign rfl) ?_
      refine ops_y (wn rfl) rfl (y_assign rfl) ?_
      refine ops_y (wn rfl) rfl (y_assign rfl) ?_
      refine ops_y (wn rfl) rfl (y_assign rfl) ?_
      refine ops_nil ?_
      refine goes_code ?_
      refine run_seq ?_
      refine run_weak [(0, .string (bs s)), (1, lv), (2, xv), (3, dv), (4, tv), (10, .bool false), (11, v3), (12, v4), (13, v5), (14, v6)] [0, 1, 2, 3, 4, 5, 6, 7] [ro lv 1 (i64c l), ro xv 1 (strc x), ro dv 16 (arrc d), ro tv 1 (u8c t), row v3 1 (u8c (encS s)), row v4 1 (u8c (encL encI l)), row v5 1 (u8c (encL (fun d => d) d)), row v6 1 (u8c (encL encS x))] (vcons rfl (vcons rfl (vcons rfl (vcons rfl (vcons rfl (vcons rfl (vcons rfl (vcons rfl (vcons rfl (vcons rfl (vnil))))))))))) (by decide) rfl ?_
      refine run_region' ?_
      refine ops_y (wn rfl) rfl (y_move rfl) ?_
      refine ops_y (wn rfl) rfl (y_move rfl) ?_
      refine ops_y (wn rfl) rfl ((y_len 4 rfl Try.runUnderlying28 rfl rfl reads_row).to (congrArg (fun n : Nat => Value.int .i64 (n : Int)) (u8c_len _))) ?_
      refine ops_y (wn rfl) rfl (y_move rfl) ?_
      refine ops_y (wn rfl) rfl ((y_len 4 rfl Try.runUnderlying28 rfl rfl reads_row).to (congrArg (fun n : Nat => Value.int .i64 (n : Int)) (u8c_len _))) ?_
      refine ops_turn (Go.Abs.freeze 4 rfl) ?_
      refine ops_t (wn rfl) rfl (t_slice3 (r := ((encS s).length)) 4 Try.runUnderlying28 Try.sizeOf5 rfl rfl rfl rfl (by rw [u8c_len]; omega)) ?_
      rintro v7 _ rfl
      refine ops_turn (retell 8 (g := roc v7 1 (u8c (encS s))) rfl (by simp [List.take_of_length_le, List.map_take, u8c])) ?_
      refine ops_y (wn rfl) rfl (y_move rfl) ?_
      refine ops_t (wn rfl) rfl (t_append_ro (es := 1) 8 rfl Try.runUnderlying28 rfl Try.runUnderlying28 (.inr ⟨_, rfl⟩) Try.typeInfo5 rfl (by decide) Try.zeroValue5 rfl rfl rfl rfl (src_reads 3 rfl reads_ro (u8c_ok _)) (by simp only [u8c_len, arrc_len, u8c_len, i64c_len, strc_len, List.length_append, List.length_cons, List.length_nil]; (show _ * 1 ≤ _); omega) (by simp only [u8c_len, arrc_len, u8c_len, i64c_len, strc_len, List.length_append, List.length_cons, List.length_nil]; unfold maxLen; omega)) ?_
      rintro v8 _ rfl
      refine ops_turn (retell 9 (g := ro v8 1 (u8c ((encS s) ++ t))) rfl (congrArg (ro _ _) (u8c_append _ _))) ?_
      refine ops_t (wn rfl) rfl (t_call (vs := [v8]) (cs := []) [⟨9, false⟩] rfl Try.call26 rfl (getS_p v8 _ (by first | omega | (simp only [List.length_drop, List.length_take, List.length_append]; omega) | (simp; done))) (shows_cons 9 false rfl views_ro shows_nil) (.inl rfl)) ?_
      rintro _ _ ⟨_, ⟨rfl, rfl⟩, rfl⟩
      have hg9 := getS_any ((encS s) ++ t)
      refine ops_y (wn rfl) rfl (y_move rfl) ?_
      refine ops_y (wn rfl) rfl (OpY.to (v' := .string (bs s)) (y_extract rfl rfl) (congrArg (fun l => Value.string (bs l)) (by rw [hr1]))) ?_
      refine ops_y (wn rfl) rfl (OpY.to (v' := .int .i64 (((encS s).length : Nat) : Int)) (y_extract rfl rfl) (congrArg (fun n : Int => Value.int .i64 n) (by rw [hr1]))) ?_
      refine ops_y (wn rfl) rfl (OpY.to (v' := .int .i64 0) (y_extract rfl rfl) (congrArg (fun n : Int => Value.int .i64 n) (by rw [hr1]; rfl))) ?_
      refine ops_y (wn rfl) rfl (y_assign rfl) ?_
      refine ops_y (wn rfl) rfl (y_assign rfl) ?_
      refine ops_y (wn rfl) rfl (y_assign rfl) ?_
      refine ops_nil ?_
      refine goes_code ?_
      refine run_seq ?_
      refine run_weak [(0, .string (bs s)), (1, lv), (2, xv), (3, dv), (4, tv), (10, .bool false), (11, v3), (12, v4), (13, v5), (14, v6), (15, .string (bs s)), (16, .int .i64 (((encS s).length : Nat) : Int)), (17, .int .i64 0)] [0, 1, 2, 3, 4, 5, 6, 7] [ro lv 1 (i64c l), ro xv 1 (strc x), ro dv 16 (arrc d), ro tv 1 (u8c t), ro v3 1 (u8c (encS s)), row v4 1 (u8c (encL encI l)), row v5 1 (u8c (encL (fun d => d) d)), row v6 1 (u8c (encL encS x))] (vcons rfl (vcons rfl (vcons rfl (vcons rfl (vcons rfl (vcons rfl (vcons rfl (vcons rfl (vcons rfl (vcons rfl (vcons rfl (vcons rfl (vcons rfl (vnil)))))))))))))) (by decide) rfl ?_
      refine run_region' ?_
      refine ops_y (wn rfl) rfl (y_move rfl) ?_
      refine ops_y (wn rfl) rfl (y_move rfl) ?_
      refine ops_y (wn rfl) rfl ((y_len 5 rfl Try.runUnderlying28 rfl rfl reads_row).to (congrArg (fun n : Nat => Value.int .i64 (n : Int)) (u8c_len _))) ?_
      refine ops_y (wn rfl) rfl (y_move rfl) ?_
      refine ops_y (wn rfl) rfl ((y_len 5 rfl Try.runUnderlying28 rfl rfl reads_row).to (congrArg (fun n : Nat => Value.int .i64 (n : Int)) (u8c_len _))) ?_
      refine ops_turn (Go.Abs.freeze 5 rfl) ?_
      refine ops_t (wn rfl) rfl (t_slice3 (r := ((encL encI l).length)) 5 Try.runUnderlying28 Try.sizeOf5 rfl rfl rfl rfl (by rw [u8c_len]; omega)) ?_
      rintro v10 _ rfl
      refine ops_turn (retell 8 (g := roc v10 1 (u8c (encL encI l))) rfl (by simp [List.take_of_length_le, List.map_take, u8c])) ?_
      refine ops_y (wn rfl) rfl (y_move rfl) ?_
      refine ops_t (wn rfl) rfl (t_append_ro (es := 1) 8 rfl Try.runUnderlying28 rfl Try.runUnderlying28 (.inr ⟨_, rfl⟩) Try.typeInfo5 rfl (by decide) Try.zeroValue5 rfl rfl rfl rfl (src_reads 3 rfl reads_ro (u8c_ok _)) (by simp only [u8c_len, arrc_len, u8c_len, i64c_len, strc_len, List.length_append, List.length_cons, List.length_nil]; (show _ * 1 ≤ _); omega) (by simp only [u8c_len, arrc_len, u8c_len, i64c_len, strc_len, List.length_append, List.length_cons, List.length_nil]; unfold maxLen; omega)) ?_
      rintro v11 _ rfl
      refine ops_turn (retell 9 (g := ro v11 1 (u8c ((encL encI l) ++ t))) rfl (congrArg (ro _ _) (u8c_append _ _))) ?_
      refine ops_t (wn rfl) rfl (t_call (vs := [v11]) (cs := []) [⟨9, false⟩] rfl Try.call28 rfl (getInts_p v11 _ (by first | omega | (simp only [List.length_drop, List.length_take, List.length_append]; omega) | (simp; done))) (shows_cons 9 false rfl views_ro shows_nil) (.inl rfl)) ?_
      rintro _ _ ⟨_, ⟨v13, rfl, rfl⟩, rfl⟩
      have hd12 := getLI_any ((encL encI l) ++ t)
      refine ops_y (wn rfl) rfl (y_move rfl) ?_
      refine ops_y (wn rfl) rfl (y_extract rfl rfl) ?_
      refine ops_turn (retell 10 (g := row v13 1 (i64c l)) rfl (congrArg (fun l => row v13 1 (i64c l)) (by rw [hr2]))) ?_
      refine ops_y (wn rfl) rfl (OpY.to (v' := .int .i64 (((encL encI l).length : Nat) : Int)) (y_extract rfl rfl) (congrArg (fun n : Int => Value.int .i64 n) (by rw [hr2]))) ?_
      refine ops_y (wn rfl) rfl (OpY.to (v' := .int .i64 0) (y_extract rfl rfl) (congrArg (fun n : Int => Value.int .i64 n) (by rw [hr2]; rfl))) ?_
      refine ops_y (wn rfl) rfl (y_assign rfl) ?_
      refine ops_y (wn rfl) rfl (y_assign rfl) ?_
      refine ops_y (wn rfl) rfl (y_assign rfl) ?_
      refine ops_nil ?_
      refine goes_code ?_
      refine run_seq ?_
      refine run_weak [(0, .string (bs s)), (1, lv), (2, xv), (3, dv), (4, tv), (10, .bool false), (11, v3), (12, v4), (13, v5), (14, v6), (15, .string (bs s)), (16, .int .i64 (((encS s).length : Nat) : Int)), (17, .int .i64 0), (18, v13), (19, .int .i64 (((encL encI l).length : Nat) : Int)), (20, .int .i64 0)] [0, 1, 2, 3, 4, 5, 6, 7, 10] [ro lv 1 (i64c l), ro xv 1 (strc x), ro dv 16 (arrc d), ro tv 1 (u8c t), ro v3 1 (u8c (encS s)), ro v4 1 (u8c (encL encI l)), row v5 1 (u8c (encL (fun d => d) d)), row v6 1 (u8c (encL encS x)), row v13 1 (i64c l)] (vcons rfl (vcons rfl (vcons rfl (vcons rfl (vcons rfl (vcons rfl (vcons rfl (vcons rfl (vcons rfl (vcons rfl (vcons rfl (vcons rfl (vcons rfl (vcons rfl (vcons rfl (vcons rfl (vnil))))))))))))))))) (by decide) rfl ?_
      refine run_region' ?_
      refine ops_y (wn rfl) rfl (y_move rfl) ?_
      refine ops_y (wn rfl) rfl (y_move rfl) ?_
      refine ops_y (wn rfl) rfl ((y_len 6 rfl Try.runUnderlying28 rfl rfl reads_row).to (congrArg (fun n : Nat => Value.int .i64 (n : Int)) (u8c_len _))) ?_
      refine ops_y (wn rfl) rfl (y_move rfl) ?_
      refine ops_y (wn rfl) rfl ((y_len 6 rfl Try.runUnderlying28 rfl rfl reads_row).to (congrArg (fun n : Nat => Value.int .i64 (n : Int)) (u8c_len _))) ?_
      refine ops_turn (Go.Abs.freeze 6 rfl) ?_
      refine ops_t (wn rfl) rfl (t_slice3 (r := ((encL (fun d => d) d).length)) 6 Try.runUnderlying28 Try.sizeOf5 rfl rfl rfl rfl (by rw [u8c_len]; omega)) ?_
      rintro v14 _ rfl
      refine ops_turn (retell 9 (g := roc v14 1 (u8c (encL (fun d => d) d))) rfl (by simp [List.take_of_length_le, List.map_take, u8c])) ?_
      refine ops_y (wn rfl) rfl (y_move rfl) ?_
      refine ops_t (wn rfl) rfl (t_append_ro (es := 1) 9 rfl Try.runUnderlying28 rfl Try.runUnderlying28 (.inr ⟨_, rfl⟩) Try.typeInfo5 rfl (by decide) Try.zeroValue5 rfl rfl rfl rfl (src_reads 3 rfl reads_ro (u8c_ok _)) (by simp only [u8c_len, arrc_len, u8c_len, i64c_len, strc_len, List.length_append, List.length_cons, List.length_nil]; (show _ * 1 ≤ _); omega) (by simp only [u8c_len, arrc_len, u8c_len, i64c_len, strc_len, List.length_append, List.length_cons, List.length_nil]; unfold maxLen; omega)) ?_
      rintro v15 _ rfl
      refine ops_turn (retell 10 (g := ro v15 1 (u8c ((encL (fun d => d) d) ++ t))) rfl (congrArg (ro _ _) (u8c_append _ _))) ?_
      refine ops_t (wn rfl) rfl (t_call (vs := [v15]) (cs := []) [⟨10, false⟩] rfl Try.call34 rfl (getDigs_p v15 _ (by first | omega | (simp only [List.length_drop, List.length_take, List.length_append]; omega) | (simp; done))) (shows_cons 10 false rfl views_ro shows_nil) (.inl rfl)) ?_
      rintro _ _ ⟨_, ⟨v17, rfl, rfl⟩, rfl⟩
      have hd16 := getLD_any ((encL (fun d => d) d) ++ t)
      refine ops_y (wn rfl) rfl (y_move rfl) ?_
      refine ops_y (wn rfl) rfl (y_extract rfl rfl) ?_
      refine ops_turn (retell 11 (g := row v17 16 (arrc d)) rfl (congrArg (fun l => row v17 16 (arrc l)) (by rw [hr3]))) ?_
      refine ops_y (wn rfl) rfl (OpY.to (v' := .int .i64 (((encL (fun d => d) d).length : Nat) : Int)) (y_extract rfl rfl) (congrArg (fun n : Int => Value.int .i64 n) (by rw [hr3]))) ?_
      refine ops_y (wn rfl) rfl (OpY.to (v' := .int .i64 0) (y_extract rfl rfl) (congrArg (fun n : Int => Value.int .i64 n) (by rw [hr3]; rfl))) ?_
      refine ops_y (wn rfl) rfl (y_assign rfl) ?_
      refine ops_y (wn rfl) rfl (y_assign rfl) ?_
      refine ops_y (wn rfl) rfl (y_assign rfl) ?_
      refine ops_nil ?_
      refine goes_code ?_
      refine run_seq ?_
      refine run_weak [(0, .string (bs s)), (1, lv), (2, xv), (3, dv), (4, tv), (10, .bool false), (11, v3), (12, v4), (13, v5), (14, v6), (15, .string (bs s)), (16, .int .i64 (((encS s).length : Nat) : Int)), (17, .int .i64 0), (18, v13), (19, .int .i64 (((encL encI l).length : Nat) : Int)), (20, .int .i64 0), (21, v17), (22, .int .i64 (((encL (fun d => d) d).length : Nat) : Int)), (23, .int .i64 0)] [0, 1, 2, 3, 4, 5, 6, 7, 8, 11] [ro lv 1 (i64c l), ro xv 1 (strc x), ro dv 16 (arrc d), ro tv 1 (u8c t), ro v3 1 (u8c (encS s)), ro v4 1 (u8c (encL encI l)), ro v5 1 (u8c (encL (fun d => d) d)), row v6 1 (u8c (encL encS x)), row v13 1 (i64c l), row v17 16 (arrc d)] (vcons rfl (vcons rfl (vcons rfl (vcons rfl (vcons rfl (vcons rfl (vcons rfl (vcons rfl (vcons rfl (vcons rfl (vcons rfl (vcons rfl (vcons rfl (vcons rfl (vcons rfl (vcons rfl (vcons rfl (vcons rfl (vcons rfl (vnil)))))))))))))))))))) (by decide) rfl ?_
      refine run_region' ?_
      refine ops_y (wn rfl) rfl (y_move rfl) ?_
      refine ops_y (wn rfl) rfl (y_move rfl) ?_
      refine ops_y (wn rfl) rfl ((y_len 7 rfl Try.runUnderlying28 rfl rfl reads_row).to (congrArg (fun n : Nat => Value.int .i64 (n : Int)) (u8c_len _))) ?_
      refine ops_y (wn rfl) rfl (y_move rfl) ?_
      refine ops_y (wn rfl) rfl ((y_len 7 rfl Try.runUnderlying28 rfl rfl reads_row).to (congrArg (fun n : Nat => Value.int .i64 (n : Int)) (u8c_len _))) ?_
      refine ops_turn (Go.Abs.freeze 7 rfl) ?_
      refine ops_t (wn rfl) rfl (t_slice3 (r := ((encL encS x).length)) 7 Try.runUnderlying28 Try.sizeOf5 rfl rfl rfl rfl (by rw [u8c_len]; omega)) ?_
      rintro v18 _ rfl
      refine ops_turn (retell 10 (g := roc v18 1 (u8c (encL encS x))) rfl (by simp [List.take_of_length_le, List.map_take, u8c])) ?_
      refine ops_y (wn rfl) rfl (y_move rfl) ?_
      refine ops_t (wn rfl) rfl (t_append_ro (es := 1) 10 rfl Try.runUnderlying28 rfl Try.runUnderlying28 (.inr ⟨_, rfl⟩) Try.typeInfo5 rfl (by decide) Try.zeroValue5 rfl rfl rfl rfl (src_reads 3 rfl reads_ro (u8c_ok _)) (by simp only [u8c_len, arrc_len, u8c_len, i64c_len, strc_len, List.length_append, List.length_cons, List.length_nil]; (show _ * 1 ≤ _); omega) (by simp only [u8c_len, arrc_len, u8c_len, i64c_len, strc_len, List.length_append, List.length_cons, List.length_nil]; unfold maxLen; omega)) ?_
      rintro v19 _ rfl
      refine ops_turn (retell 11 (g := ro v19 1 (u8c ((encL encS x) ++ t))) rfl (congrArg (ro _ _) (u8c_append _ _))) ?_
      refine ops_t (wn rfl) rfl (t_call (vs := [v19]) (cs := []) [⟨11, false⟩] rfl Try.call31 rfl (getStrs_p v19 _ (by first | omega | (simp only [List.length_drop, List.length_take, List.length_append]; omega) | (simp; done))) (shows_cons 11 false rfl views_ro shows_nil) (.inl rfl)) ?_
      rintro _ _ ⟨_, ⟨v21, rfl, rfl⟩, rfl⟩
      have hd20 := getLS_any ((encL encS x) ++ t)
      refine ops_y (wn rfl) rfl (y_move rfl) ?_
      refine ops_y (wn rfl) rfl (y_extract rfl rfl) ?_
      refine ops_turn (retell 12 (g := row v21 1 (strc x)) rfl (congrArg (fun l => row v21 1 (strc l)) (by rw [hr4]))) ?_
      refine ops_y (wn rfl) rfl (OpY.to (v' := .int .i64 (((encL encS x).length : Nat) : Int)) (y_extract rfl rfl) (congrArg (fun n : Int => Value.int .i64 n) (by rw [hr4]))) ?_
      refine ops_y (wn rfl) rfl (OpY.to (v' := .int .i64 0) (y_extract rfl rfl) (congrArg (fun n : Int => Value.int .i64 n) (by rw [hr4]; rfl))) ?_
      refine ops_y (wn rfl) rfl (y_assign rfl) ?_
      refine ops_y (wn rfl) rfl (y_assign rfl) ?_
      refine ops_y (wn rfl) rfl (y_assign rfl) ?_
      refine ops_nil ?_
      refine goes_code ?_
      refine run_seq ?_
      refine run_weak [(0, .string (bs s)), (1, lv), (2, xv), (3, dv), (10, .bool false), (11, v3), (12, v4), (13, v5), (14, v6), (15, .string (bs s)), (16, .int .i64 (((encS s).length : Nat) : Int)), (17, .int .i64 0), (18, v13), (19, .int .i64 (((encL encI l).length : Nat) : Int)), (20, .int .i64 0), (21, v17), (22, .int .i64 (((encL (fun d => d) d).length : Nat) : Int)), (23, .int .i64 0), (24, v21), (25, .int .i64 (((encL encS x).length : Nat) : Int)), (26, .int .i64 0)] [0, 1, 2, 3, 4, 5, 6, 7, 8, 9, 12] [ro lv 1 (i64c l), ro xv 1 (strc x), ro dv 16 (arrc d), ro tv 1 (u8c t), ro v3 1 (u8c (encS s)), ro v4 1 (u8c (encL encI l)), ro v5 1 (u8c (encL (fun d => d) d)), ro v6 1 (u8c (encL encS x)), row v13 1 (i64c l), row v17 16 (arrc d), row v21 1 (strc x)] (vcons rfl (vcons rfl (vcons rfl (vcons rfl (vcons rfl (vcons rfl (vcons rfl (vcons rfl (vcons rfl (vcons rfl (vcons rfl (vcons rfl (vcons rfl (vcons rfl (vcons rfl (vcons rfl (vcons rfl (vcons rfl (vcons rfl (vcons rfl (vcons rfl (vnil)))))))))))))))))))))) (by decide) rfl ?_
      refine run_region' ?_
      refine ops_t (wn rfl) rfl (t_call (vs := []) (cs := []) [] rfl Try.call12 rfl (sanity) shows_nil (.inl rfl)) ?_
      rintro _ _ ⟨_, ⟨rfl, rfl⟩, rfl⟩
      refine ops_y (wn rfl) rfl (y_move rfl) ?_
      refine ops_y (wg 1 true 106 rfl rfl rfl rfl) rfl (y_move rfl) ?_
      refine ops_y (wg 1 true 106 rfl rfl rfl rfl) rfl (y_move rfl) ?_
      refine ops_t (wg 1 true 106 rfl rfl rfl rfl) rfl (t_call (vs := [v21, xv]) (cs := []) [⟨10, true⟩, ⟨1, false⟩] rfl Try.call33 rfl (sameTexts v21 xv _ _ (by first | omega | (simp only [List.length_drop, List.length_take, List.length_append]; omega) | (simp; done))) (shows_cons 10 true rfl views_row (shows_cons 1 false rfl views_ro shows_nil)) (.inr (by rintro _ _ ⟨rfl, rfl⟩ g hg; first | (cases hg; done) | (simp only [List.mem_cons, List.not_mem_nil, or_false] at hg; first | (subst hg; first | exact strict_row | exact strict_box) | (rcases hg with rfl | rfl <;> first | exact strict_row | exact strict_box))))) ?_
      rintro _ _ ⟨_, ⟨rfl, rfl⟩, rfl⟩
      refine ops_as 109 _ (.bool true) rfl (congrArg Value.bool (decide_eq_true rfl)) ?_
      refine ops_y (wn rfl) rfl (y_pick (b := true) rfl rfl) ?_
      refine ops_y (wn rfl) rfl (y_move rfl) ?_
      refine ops_y (wg 6 true 111 rfl rfl rfl rfl) rfl (y_move rfl) ?_
      refine ops_y (wg 6 true 111 rfl rfl rfl rfl) rfl (y_move rfl) ?_
      refine ops_y (wg 6 true 111 rfl rfl rfl rfl) rfl ((y_len 7 rfl Try.runUnderlying28 rfl rfl reads_ro).to (congrArg (fun n : Nat => Value.int .i64 (n : Int)) (u8c_len _))) ?_
      refine ops_y (wg 6 true 111 rfl rfl rfl rfl) rfl (y_eql rfl rfl) ?_
      refine ops_as 115 _ (.bool true) rfl (congrArg Value.bool (decide_eq_true rfl)) ?_
      refine ops_y (wn rfl) rfl (y_pick (b := true) rfl rfl) ?_
      refine ops_y (wn rfl) rfl (y_move rfl) ?_
      refine ops_y (wg 12 true 117 rfl rfl rfl rfl) rfl (y_move rfl) ?_
      refine ops_y (wg 12 true 117 rfl rfl rfl rfl) rfl (OpY.to (v' := .bool true) (y_eql rfl rfl) rfl) ?_
      refine ops_y (wn rfl) rfl (y_pick (b := true) rfl rfl) ?_
      refine ops_weak [(0, .string (bs s)), (1, lv), (3, dv), (10, .bool false), (11, v3), (12, v4), (13, v5), (15, .string (bs s)), (16, .int .i64 (((encS s).length : Nat) : Int)), (17, .int .i64 0), (18, v13), (19, .int .i64 (((encL encI l).length : Nat) : Int)), (20, .int .i64 0), (21, v17), (22, .int .i64 (((encL (fun d => d) d).length : Nat) : Int)), (23, .int .i64 0), (120, .bool true)] [0, 1, 2, 3, 4, 5, 6, 8, 9] [ro lv 1 (i64c l), ro xv 1 (strc x), ro dv 16 (arrc d), ro tv 1 (u8c t), ro v3 1 (u8c (encS s)), ro v4 1 (u8c (encL encI l)), ro v5 1 (u8c (encL (fun d => d) d)), row v13 1 (i64c l), row v17 16 (arrc d)] (vcons rfl (vcons rfl (vcons rfl (vcons rfl (vcons rfl (vcons rfl (vcons rfl (vcons rfl (vcons rfl (vcons rfl (vcons rfl (vcons rfl (vcons rfl (vcons rfl (vcons rfl (vcons rfl (vcons rfl (vnil)))))))))))))))))) (by decide) rfl ?_
      refine ops_y (wn rfl) rfl (y_move rfl) ?_
      refine ops_y (wg 16 true 121 rfl rfl rfl rfl) rfl (y_move rfl) ?_
      refine ops_y (wg 16 true 121 rfl rfl rfl rfl) rfl (y_move rfl) ?_
      refine ops_y (wg 16 true 121 rfl rfl rfl rfl) rfl (y_seql rfl rfl) ?_
      refine ops_as 124 _ (.bool true) rfl (congrArg Value.bool (decide_eq_true rfl)) ?_
      refine ops_y (wn rfl) rfl (y_pick (b := true) rfl rfl) ?_
      refine ops_y (wn rfl) rfl (y_move rfl) ?_
      refine ops_y (wg 21 true 126 rfl rfl rfl rfl) rfl (y_move rfl) ?_
      refine ops_y (wg 21 true 126 rfl rfl rfl rfl) rfl (y_move rfl) ?_
      refine ops_y (wg 21 true 126 rfl rfl rfl rfl) rfl ((y_len 4 rfl Try.runUnderlying28 rfl rfl reads_ro).to (congrArg (fun n : Nat => Value.int .i64 (n : Int)) (u8c_len _))) ?_
      refine ops_y (wg 21 true 126 rfl rfl rfl rfl) rfl (y_eql rfl rfl) ?_
      refine ops_as 130 _ (.bool true) rfl (congrArg Value.bool (decide_eq_true rfl)) ?_
      refine ops_y (wn rfl) rfl (y_pick (b := true) rfl rfl) ?_
      refine ops_y (wn rfl) rfl (y_move rfl) ?_
      refine ops_y (wg 27 true 132 rfl rfl rfl rfl) rfl (y_move rfl) ?_
      refine ops_y (wg 27 true 132 rfl rfl rfl rfl) rfl (OpY.to (v' := .bool true) (y_eql rfl rfl) rfl) ?_
      refine ops_y (wn rfl) rfl (y_pick (b := true) rfl rfl) ?_
      refine ops_y (wn rfl) rfl (y_move rfl) ?_
      refine ops_weak [(1, lv), (3, dv), (10, .bool false), (12, v4), (13, v5), (18, v13), (19, .int .i64 (((encL encI l).length : Nat) : Int)), (20, .int .i64 0), (21, v17), (22, .int .i64 (((encL (fun d => d) d).length : Nat) : Int)), (23, .int .i64 0), (136, .bool true)] [0, 1, 2, 3, 5, 6, 7, 8] [ro lv 1 (i64c l), ro xv 1 (strc x), ro dv 16 (arrc d), ro tv 1 (u8c t), ro v4 1 (u8c (encL encI l)), ro v5 1 (u8c (encL (fun d => d) d)), row v13 1 (i64c l), row v17 16 (arrc d)] (vcons rfl (vcons rfl (vcons rfl (vcons rfl (vcons rfl (vcons rfl (vcons rfl (vcons rfl (vcons rfl (vcons rfl (vcons rfl (vcons rfl (vnil))))))))))))) (by decide) rfl ?_
      refine ops_y (wg 31 true 136 rfl rfl rfl rfl) rfl (y_move rfl) ?_
      refine ops_y (wg 31 true 136 rfl rfl rfl rfl) rfl (y_move rfl) ?_
      refine ops_t (wg 31 true 136 rfl rfl rfl rfl) rfl (t_call (vs := [v13, lv]) (cs := []) [⟨6, true⟩, ⟨0, false⟩] rfl Try.call30 rfl (sameInts v13 lv _ _ (by first | omega | (simp only [List.length_drop, List.length_take, List.length_append]; omega) | (simp; done))) (shows_cons 6 true rfl views_row (shows_cons 0 false rfl views_ro shows_nil)) (.inr (by rintro _ _ ⟨rfl, rfl⟩ g hg; first | (cases hg; done) | (simp only [List.mem_cons, List.not_mem_nil, or_false] at hg; first | (subst hg; first | exact strict_row | exact strict_box) | (rcases hg with rfl | rfl <;> first | exact strict_row | exact strict_box))))) ?_
      rintro _ _ ⟨_, ⟨rfl, rfl⟩, rfl⟩
      refine ops_as 139 _ (.bool true) rfl (congrArg Value.bool (decide_eq_true rfl)) ?_
      refine ops_y (wn rfl) rfl (y_pick (b := true) rfl rfl) ?_
      refine ops_y (wn rfl) rfl (y_move rfl) ?_
      refine ops_y (wg 36 true 141 rfl rfl rfl rfl) rfl (y_move rfl) ?_
      refine ops_y (wg 36 true 141 rfl rfl rfl rfl) rfl (y_move rfl) ?_
      refine ops_y (wg 36 true 141 rfl rfl rfl rfl) rfl ((y_len 4 rfl Try.runUnderlying28 rfl rfl reads_ro).to (congrArg (fun n : Nat => Value.int .i64 (n : Int)) (u8c_len _))) ?_
      refine ops_y (wg 36 true 141 rfl rfl rfl rfl) rfl (y_eql rfl rfl) ?_
      refine ops_as 145 _ (.bool true) rfl (congrArg Value.bool (decide_eq_true rfl)) ?_
      refine ops_y (wn rfl) rfl (y_pick (b := true) rfl rfl) ?_
      refine ops_y (wn rfl) rfl (y_move rfl) ?_
      refine ops_y (wg 42 true 147 rfl rfl rfl rfl) rfl (y_move rfl) ?_
      refine ops_y (wg 42 true 147 rfl rfl rfl rfl) rfl (OpY.to (v' := .bool true) (y_eql rfl rfl) rfl) ?_
      refine ops_y (wn rfl) rfl (y_pick (b := true) rfl rfl) ?_
      refine ops_y (wn rfl) rfl (y_move rfl) ?_
      refine ops_y (wg 46 true 151 rfl rfl rfl rfl) rfl (y_move rfl) ?_
      refine ops_weak [(3, dv), (10, .bool false), (13, v5), (22, .int .i64 (((encL (fun d => d) d).length : Nat) : Int)), (23, .int .i64 0), (151, .bool true), (152, v17)] [0, 1, 2, 3, 5, 7] [ro lv 1 (i64c l), ro xv 1 (strc x), ro dv 16 (arrc d), ro tv 1 (u8c t), ro v5 1 (u8c (encL (fun d => d) d)), row v17 16 (arrc d)] (vcons rfl (vcons rfl (vcons rfl (vcons rfl (vcons rfl (vcons rfl (vcons rfl (vnil)))))))) (by decide) rfl ?_
      refine ops_y (wg 46 true 151 rfl rfl rfl rfl) rfl (y_move rfl) ?_
      refine ops_t (wg 46 true 151 rfl rfl rfl rfl) rfl (t_call (vs := [v17, dv]) (cs := []) [⟨5, true⟩, ⟨2, false⟩] rfl Try.call36 rfl (sameDigs v17 dv _ _ (by first | omega | (simp only [List.length_drop, List.length_take, List.length_append]; omega) | (simp; done)) hd hd) (shows_cons 5 true rfl views_row (shows_cons 2 false rfl views_ro shows_nil)) (.inr (by rintro _ _ ⟨rfl, rfl⟩ g hg; first | (cases hg; done) | (simp only [List.mem_cons, List.not_mem_nil, or_false] at hg; first | (subst hg; first | exact strict_row | exact strict_box) | (rcases hg with rfl | rfl <;> first | exact strict_row | exact strict_box))))) ?_
      rintro _ _ ⟨_, ⟨rfl, rfl⟩, rfl⟩
      refine ops_as 154 _ (.bool true) rfl (congrArg Value.bool (decide_eq_true rfl)) ?_
      refine ops_y (wn rfl) rfl (y_pick (b := true) rfl rfl) ?_
      refine ops_y (wn rfl) rfl (y_move rfl) ?_
      refine ops_y (wg 51 true 156 rfl rfl rfl rfl) rfl (y_move rfl) ?_
      refine ops_y (wg 51 true 156 rfl rfl rfl rfl) rfl (y_move rfl) ?_
      refine ops_y (wg 51 true 156 rfl rfl rfl rfl) rfl ((y_len 4 rfl Try.runUnderlying28 rfl rfl reads_ro).to (congrArg (fun n : Nat => Value.int .i64 (n : Int)) (u8c_len _))) ?_
      refine ops_y (wg 51 true 156 rfl rfl rfl rfl) rfl (y_eql rfl rfl) ?_
      refine ops_as 160 _ (.bool true) rfl (congrArg Value.bool (decide_eq_true rfl)) ?_
      refine ops_y (wn rfl) rfl (y_pick (b := true) rfl rfl) ?_
      refine ops_y (wn rfl) rfl (y_move rfl) ?_
      refine ops_y (wg 57 true 162 rfl rfl rfl rfl) rfl (y_move rfl) ?_
      refine ops_y (wg 57 true 162 rfl rfl rfl rfl) rfl (OpY.to (v' := .bool true) (y_eql rfl rfl) rfl) ?_
      refine ops_y (wn rfl) rfl (y_pick (b := true) rfl rfl) ?_
      refine ops_y (wn rfl) rfl (y_assign rfl) ?_
      refine ops_nil ?_
      refine goes_code ?_
      refine run_ret ?_
      refine fin_slots [10] [.bool true] [] [] Try.results8 rfl (by decide) rfl ?_
      dsimp only [tup]
      exact ⟨rfl, rfl⟩

end Go.Proofs.Ytbhlfdklpihaiaa
