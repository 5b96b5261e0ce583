/-
  Functions of the program, lifted: part 2.
-/
import Derived.Test.YtgibkdldfnlglaaGreatDoorFa
namespace Go.Proofs.YtgibkdldfnlglaaGreatDoor
open Go.Abs
set_option linter.unusedVariables false
set_option linter.unusedSimpArgs false
set_option maxRecDepth 20000
set_option maxHeartbeats 4000000

def lexer_Tokens_L1 (n : Nat) (s_0 : (List UInt8)) : ((List S_api_Lexeme) × (List UInt8) × Int × Int) → Option (Lp ((List S_api_Lexeme) × (List UInt8) × Int × Int) (Lp ((List S_api_Lexeme)) ((List S_api_Lexeme) × S_api_Problem))) :=
 fun (x_17, x_18, x_19, x_20) =>
  cond (decide (x_19 < (s_0.length : Int)))
   (bindJ (S := (List S_api_Lexeme) × (List UInt8) × Int)
    (idx s_0 x_19 fun c38 =>
    obind (lexer_isSmall (c38.toNat : Int)) fun r39 =>
    cond r39
     (obind (weirgate_lexer_reader_name_42 n (S_lexer_reader.mk x_18 x_19)) fun r42 =>
     pbind r42 (fun e45 =>
      some (.stop (.stop (.stop (([] : List S_api_Lexeme), (S_api_Problem.mk x_19 e45)))))) fun q44 =>
     need (x_17.length + ([(S_api_Lexeme.mk q44.1.Kind x_19 q44.1.S)] : List S_api_Lexeme).length ≤ 4294967296) (
     some (.go ((x_17 ++ ([(S_api_Lexeme.mk q44.1.Kind x_19 q44.1.S)] : List S_api_Lexeme)), q44.2.s_, q44.2.at_))))
     (idx s_0 x_19 fun c54 =>
     obind (lexer_isDigit (c54.toNat : Int)) fun r55 =>
     cond r55
      (obind (weirgate_lexer_reader_number_44 n (S_lexer_reader.mk x_18 x_19)) fun r58 =>
      pbind r58 (fun e61 =>
       some (.stop (.stop (.stop (([] : List S_api_Lexeme), (S_api_Problem.mk x_19 e61)))))) fun q60 =>
      need (x_17.length + ([(S_api_Lexeme.mk q60.1.Kind x_19 q60.1.S)] : List S_api_Lexeme).length ≤ 4294967296) (
      some (.go ((x_17 ++ ([(S_api_Lexeme.mk q60.1.Kind x_19 q60.1.S)] : List S_api_Lexeme)), q60.2.s_, q60.2.at_))))
      (idx s_0 x_19 fun c70 =>
      obind (lexer_forms_1_45 (c70.toNat : Int)) fun r71 =>
      cond r71
       (obind (weirgate_lexer_reader_text_46 n (S_lexer_reader.mk x_18 x_19)) fun r74 =>
       pbind r74 (fun e77 =>
        some (.stop (.stop (.stop (([] : List S_api_Lexeme), (S_api_Problem.mk x_19 e77)))))) fun q76 =>
       need (x_17.length + ([(S_api_Lexeme.mk q76.1.Kind x_19 q76.1.S)] : List S_api_Lexeme).length ≤ 4294967296) (
       some (.go ((x_17 ++ ([(S_api_Lexeme.mk q76.1.Kind x_19 q76.1.S)] : List S_api_Lexeme)), q76.2.s_, q76.2.at_))))
       (idx s_0 x_19 fun c86 =>
       obind (lexer_forms_2_47 (c86.toNat : Int)) fun r87 =>
       cond r87
        (obind (weirgate_lexer_reader_sign_48 n (S_lexer_reader.mk x_18 x_19)) fun r90 =>
        pbind r90 (fun e93 =>
         some (.stop (.stop (.stop (([] : List S_api_Lexeme), (S_api_Problem.mk x_19 e93)))))) fun q92 =>
        need (x_17.length + ([(S_api_Lexeme.mk q92.1.Kind x_19 q92.1.S)] : List S_api_Lexeme).length ≤ 4294967296) (
        some (.go ((x_17 ++ ([(S_api_Lexeme.mk q92.1.Kind x_19 q92.1.S)] : List S_api_Lexeme)), q92.2.s_, q92.2.at_))))
        (some (.go (x_17, x_18, x_19)))))))
   (fun (x_27, x_28, x_29) =>
    obind (weirgate_lexer_reader_space_28 n (S_lexer_reader.mk x_28 x_29)) fun r99 =>
    some (.go (x_27, r99.s_, r99.at_, x_19))))
   (some (.stop (.go x_17)))
def lexer_Tokens (n : Nat) (s_0 : (List UInt8)) : Option ((List S_api_Lexeme) × S_api_Problem) :=
 cond (decide (65536 < (s_0.length : Int)))
  (some (([] : List S_api_Lexeme), (S_api_Problem.mk 0 2)))
  (obind (lexer_forms) fun r6 =>
  bindJ (S := (List S_api_Lexeme))
   (obind (weirgate_lexer_reader_space_28 n (S_lexer_reader.mk s_0 0)) fun r15 =>
   iter (lexer_Tokens_L1 n s_0) n (([] : List S_api_Lexeme), r15.s_, r15.at_, 0))
  (fun x_9 =>
   some (x_9, (S_api_Problem.mk 0 0))))
theorem lexer_Tokens_ok (n : Nat) (s_0 : (List UInt8))  {r : (List S_api_Lexeme) × S_api_Problem} (h : lexer_Tokens n s_0 = some r) :
  Meets Tryz.prog 10 [.string (bs s_0)] [globA] (fun v G => ∃ v0, v = .tuple #[v0, .agg #[.int .i64 r.2.At, .int .i64 r.2.E]] ∧ G = [row v0 3 (r.1.map S_api_Lexeme.enc)]) := by
 refine fnq_of_run Tryz.func10 rfl Tryz.ntmps10 rfl (fun w0 o0 => ?_)
 refine run_seq ?_
 refine run_region' ?_
 refine ot rfl rfl (t_alloc Tryz.zeroValue23) ?_
 rintro _ _ ⟨b1, rfl, rfl⟩
 refine ot rfl rfl (t_alloc Tryz.zeroValue26) ?_
 rintro _ _ ⟨b2, rfl, rfl⟩
 refine ops_nil ?_
 refine goes_code ?_
 refine run_seq ?_
 refine run_seq ?_
 refine run_region' ?_
 refine oy rfl rfl (y_move rfl) ?_
 refine oy rfl rfl (y_len_str rfl Tryz.runUnderlying9 rfl) ?_
 refine oy rfl rfl (y_gtr rfl rfl) ?_
 refine ops_nil ?_
 refine goes_code ?_
 refine run_cond (decide (65536 < (s_0.length : Int))) rfl (fun hc3 => ?_) (fun hc3 => ?_)
 ·replace h := cond_t h hc3
  refine run_seq ?_
  refine run_region' ?_
  refine oy rfl rfl (y_build_struct (cells := #[.int .i64 0, .int .i64 2]) [(1, .int .i64 2)] [(1, [.int .i64 2])] Tryz.zeroValue26 Tryz.runUnderlying26 (fs_cons Tryz.sizeOf3 (fs_cons Tryz.sizeOf24 fs_nil)) rfl rfl rfl) ?_
  refine ot rfl rfl (t_store 1 Tryz.sizeOf23 rfl rfl rfl rfl (by simp [Value.cells, boxP]) (by simp [Value.cells, Value.oneCell', boxP])) ?_
  rintro _ _ ⟨rfl, rfl⟩
  refine ops_turn (retell 1 (g := box b1 [.slice none 0 0]) rfl rfl) ?_
  refine ot rfl rfl (t_store 2 Tryz.sizeOf26 rfl rfl rfl rfl (by simp [Value.cells, boxP]) (by simp [Value.cells, Value.oneCell', boxP])) ?_
  rintro _ _ ⟨rfl, rfl⟩
  refine ops_turn (retell 2 (g := box b2 [.int .i64 0, .int .i64 2]) rfl rfl) ?_
  refine ops_nil ?_
  refine goes_code ?_
  refine run_ret ?_
  refine fin_turn (nilrow 3) ?_
  refine fin_turn (retell 3 (g := row (.slice none 0 0) 3 (([] : List S_api_Lexeme).map S_api_Lexeme.enc)) rfl rfl) ?_
  obtain rfl := some_eq h
  refine fin_resQ [.cell 2 23, .cell 3 26] [(.slice none 0 0), .agg #[.int .i64 0, .int .i64 2]] [3] [row (.slice none 0 0) 3 (([] : List S_api_Lexeme).map S_api_Lexeme.enc)] Tryz.results10 rfl (rescons (res_boxs 1 Tryz.isAgg23 rfl rfl) (rescons (res_box 2 Tryz.isAgg26 Tryz.sizeOf26 rfl rfl rfl) resnil)) (by decide) rfl ?_
  exact ⟨_, rfl, rfl⟩
 ·replace h := cond_f h hc3
  refine run_skip ?_
  refine goes_code ?_
  refine run_seq ?_
  refine run_region' ?_
  refine oy rfl rfl (y_move rfl) ?_
  refine oy rfl rfl (y_build_struct (cells := #[.string (bs s_0), .int .i64 0]) [(0, .string (bs s_0))] [(0, [.string (bs s_0)])] Tryz.zeroValue63 Tryz.runUnderlying63 (fs_cons Tryz.sizeOf9 (fs_cons Tryz.sizeOf3 fs_nil)) rfl rfl rfl) ?_
  refine ot rfl rfl (t_box rfl) ?_
  rintro _ _ ⟨b4, rfl, rfl⟩
  refine oy rfl rfl (y_assign rfl) ?_
  refine ops_nil ?_
  refine goes_code ?_
  refine run_seq ?_
  refine run_weak [(0, .string (bs s_0)), (2, boxP b1 0), (3, boxP b2 0), (4, boxP b4 0)] [0, 1, 2, 3] [globA, box b1 [.slice none 0 0], box b2 [.int .i64 0, .int .i64 0], box b4 [.string (bs s_0), .int .i64 0]] (qv4 rfl rfl rfl rfl) (by decide) rfl ?_
  refine run_region' ?_
  refine ot rfl rfl (t_alloc Tryz.zeroValue3) ?_
  rintro _ _ ⟨b5, rfl, rfl⟩
  refine ot rfl rfl (t_store 4 Tryz.sizeOf3 rfl rfl rfl rfl (by simp [Value.cells, boxP]) (by simp [Value.cells, Value.oneCell', boxP])) ?_
  rintro _ _ ⟨rfl, rfl⟩
  refine ops_turn (retell 4 (g := box b5 [.int .i64 0]) rfl rfl) ?_
  refine ops_nil ?_
  refine goes_code ?_
  refine run_seq ?_
  refine run_region' ?_
  refine oy rfl rfl (y_makeFunc (vs := [boxP b5 0, boxP b1 0, boxP b2 0]) rfl) ?_
  refine ops_defer (wn rfl) rfl rfl rfl rfl ?_
  refine ops_nil ?_
  refine goes_code ?_
  refine run_seq ?_
  refine run_region' ?_
  obtain ⟨r6, hr7, h⟩ := obind_some h
  refine ot rfl rfl (t_callx (vs := []) (cs := []) [(0, 0)] rfl Tryz.call27 rfl (lexer_forms_ok    hr7) (showsX_view 0 rfl views_glob showsX_nil) rfl (.inl rfl)) ?_
  rintro v8 _ ⟨_, ⟨_, rfl, rfl⟩, rfl⟩
  refine oy rfl rfl (y_assign rfl) ?_
  refine ops_nil ?_
  refine goes_code ?_
  obtain ⟨o11, h, ho12⟩ := bindJ_some h
  refine run_cut (((List S_api_Lexeme)) × (Value)) (fun σ => [(2, boxP b1 0), (3, boxP b2 0)]) (fun σ => [box b1 [σ.2], row σ.2 3 (σ.1.map S_api_Lexeme.enc), box b2 [.int .i64 0, .int .i64 0], globA]) (fun σ => o11 = .go σ.1) (fun L14 hL13 => ?_) ?_
  ·
   refine run_seq ?_
   refine run_region' ?_
   refine oy rfl rfl (y_move rfl) ?_
   obtain ⟨r15, hr16, h⟩ := obind_some h
   refine ot rfl rfl (t_callx (vs := [boxP b4 0]) (cs := []) [(3, 2)] rfl Tryz.call28 rfl (weirgate_lexer_reader_space_28_ok n  (S_lexer_reader.mk s_0 0) b4 hr16) (showsX_lend 3 rfl showsX_nil) rfl (.inl rfl)) ?_
   rintro _ _ ⟨_, ⟨rfl, rfl⟩, rfl⟩
   refine ops_nil ?_
   refine goes_code ?_
   refine run_block ?_
   refine run_turn (nilrow 3) ?_
   refine run_turn (retell 7 (g := row (.slice none 0 0) 3 (([] : List S_api_Lexeme).map S_api_Lexeme.enc)) rfl rfl) ?_
   refine run_iter (step := lexer_Tokens_L1 n s_0) (n := n) (s0 := (([] : List S_api_Lexeme), r15.s_, r15.at_, 0)) h (G := Value) (.slice none 0 0) (fun σ γ => [(0, .string (bs s_0)), (2, boxP b1 0), (3, boxP b2 0), (4, boxP b4 0), (5, boxP b5 0), (6, v8)]) (fun σ γ => [box b1 [γ], row γ 3 (σ.1.map S_api_Lexeme.enc), box b2 [.int .i64 0, .int .i64 0], box b4 [.string (bs σ.2.1), .int .i64 σ.2.2.1], box b5 [.int .i64 σ.2.2.2], row v8 2 [[.func (.func 41) #[] #[], .func (.func 42) #[] #[]], [.func (.func 43) #[] #[], .func (.func 44) #[] #[]], [.func (.func 45) #[] #[], .func (.func 46) #[] #[]], [.func (.func 47) #[] #[], .func (.func 48) #[] #[]]], globA]) [1, 7, 2, 6, 4, 5, 0] (qv6 rfl rfl rfl rfl rfl rfl) (by decide) rfl ?_
   rintro ⟨x_17, x_18, x_19, x_20⟩ v21 o22 h L25 hgo23 hstop24
   change Run _ _ _ (VF.of [(0, .string (bs s_0)), (2, boxP b1 0), (3, boxP b2 0), (4, boxP b4 0), (5, boxP b5 0), (6, v8)]) [box b1 [v21], row v21 3 (x_17.map S_api_Lexeme.enc), box b2 [.int .i64 0, .int .i64 0], box b4 [.string (bs x_18), .int .i64 x_19], box b5 [.int .i64 x_20], row v8 2 [[.func (.func 41) #[] #[], .func (.func 42) #[] #[]], [.func (.func 43) #[] #[], .func (.func 44) #[] #[]], [.func (.func 45) #[] #[], .func (.func 46) #[] #[]], [.func (.func 47) #[] #[], .func (.func 48) #[] #[]]], globA]
   refine run_seq ?_
   refine run_seq ?_
   refine run_region' ?_
   refine oy rfl rfl (y_move rfl) ?_
   refine oy rfl rfl (y_nilBox rfl) ?_
   refine oy rfl rfl (y_fieldAddr_box (sz := 0) Tryz.runUnderlying63 rfl Tryz.sizeOf3 rfl) ?_
   refine oy rfl rfl (y_load_box 3 Tryz.isAgg3 rfl rfl rfl) ?_
   refine oy rfl rfl (y_move rfl) ?_
   refine oy rfl rfl (y_len_str rfl Tryz.runUnderlying9 rfl) ?_
   refine oy rfl rfl (y_lss rfl rfl) ?_
   refine ops_nil ?_
   refine goes_code ?_
   refine run_cond (decide (x_19 < (s_0.length : Int))) rfl (fun hc26 => ?_) (fun hc26 => ?_)
   ·replace h := cond_t h hc26
    refine run_skip ?_
    refine goes_code ?_
    obtain ⟨o31, h, ho32⟩ := bindJ_some h
    refine run_cut (((List S_api_Lexeme) × (List UInt8) × Int) × (Value)) (fun σ => [(0, .string (bs s_0)), (2, boxP b1 0), (3, boxP b2 0), (4, boxP b4 0), (5, boxP b5 0), (6, v8)]) (fun σ => [box b1 [σ.2], row σ.2 3 (σ.1.1.map S_api_Lexeme.enc), box b2 [.int .i64 0, .int .i64 0], box b4 [.string (bs σ.1.2.1), .int .i64 σ.1.2.2], box b5 [.int .i64 x_19], row v8 2 [[.func (.func 41) #[] #[], .func (.func 42) #[] #[]], [.func (.func 43) #[] #[], .func (.func 44) #[] #[]], [.func (.func 45) #[] #[], .func (.func 46) #[] #[]], [.func (.func 47) #[] #[], .func (.func 48) #[] #[]]], globA]) (fun σ => o31 = .go σ.1) (fun L34 hL33 => ?_) ?_
    ·
     refine run_block ?_
     refine run_seq ?_
     refine run_region' ?_
     refine oy rfl rfl (y_move rfl) ?_
     refine oy rfl rfl (y_nilBox rfl) ?_
     refine oy rfl rfl (y_fieldAddr_box (sz := 0) Tryz.runUnderlying63 rfl Tryz.sizeOf3 rfl) ?_
     refine oy rfl rfl (y_load_box 3 Tryz.isAgg3 rfl rfl rfl) ?_
     refine ot rfl rfl (t_store 4 Tryz.sizeOf3 rfl rfl rfl rfl (by simp [Value.cells, boxP]) (by simp [Value.cells, Value.oneCell', boxP])) ?_
     rintro _ _ ⟨rfl, rfl⟩
     refine ops_turn (retell 4 (g := box b5 [.int .i64 x_19]) rfl rfl) ?_
     refine ops_nil ?_
     refine goes_code ?_
     refine run_seq ?_
     refine run_weak [(0, .string (bs s_0)), (2, boxP b1 0), (3, boxP b2 0), (4, boxP b4 0), (5, boxP b5 0), (6, v8)] [0, 1, 2, 3, 4, 5, 6] [box b1 [v21], row v21 3 (x_17.map S_api_Lexeme.enc), box b2 [.int .i64 0, .int .i64 0], box b4 [.string (bs x_18), .int .i64 x_19], box b5 [.int .i64 x_19], row v8 2 [[.func (.func 41) #[] #[], .func (.func 42) #[] #[]], [.func (.func 43) #[] #[], .func (.func 44) #[] #[]], [.func (.func 45) #[] #[], .func (.func 46) #[] #[]], [.func (.func 47) #[] #[], .func (.func 48) #[] #[]]], globA] (qv6 rfl rfl rfl rfl rfl rfl) (by decide) rfl ?_
     refine run_region' ?_
     refine oy rfl rfl (y_move rfl) ?_
     refine oy rfl rfl (y_len 5 rfl Tryz.runUnderlying65 rfl rfl reads_row) ?_
     refine oy rfl rfl (y_move rfl) ?_
     refine ops_nil ?_
     refine goes_code ?_
     refine run_block ?_
     refine run_times 60 ?_
     refine run_seq ?_
     refine run_region' ?_
     refine oy rfl rfl (y_lss rfl rfl) ?_
     refine ops_nil ?_
     refine goes_code ?_
     refine run_seq ?_
     refine run_cond_t rfl ?_
     refine run_skip ?_
     refine goes_code ?_
     refine run_seq ?_
     refine run_block ?_
     refine run_seq ?_
     refine run_region' ?_
     refine oy rfl rfl (y_indexAddrI (kd := .i64) (i := 0) 5 Tryz.runUnderlying65 Tryz.sizeOf69 rfl rfl rfl reads_row (by decide) (by decide)) ?_
     refine oy rfl rfl (y_load_agg (i := (0 : Int).toNat) (c := [.func (.func 41) #[] #[], .func (.func 42) #[] #[]]) 5 Tryz.isAgg69 Tryz.sizeOf69 rfl rfl reads_row rfl) ?_
     refine ot rfl rfl (t_alloc Tryz.zeroValue69) ?_
     rintro _ _ ⟨b35, rfl, rfl⟩
     refine ot rfl rfl (t_store 7 Tryz.sizeOf69 rfl rfl rfl rfl (by simp [Value.cells, boxP]) (by simp [Value.cells, Value.oneCell', boxP])) ?_
     rintro _ _ ⟨rfl, rfl⟩
     refine ops_turn (retell 7 (g := box b35 [.func (.func 41) #[] #[], .func (.func 42) #[] #[]]) rfl rfl) ?_
     refine ops_nil ?_
     refine goes_code ?_
     refine run_seq ?_
     refine run_weak [(0, .string (bs s_0)), (2, boxP b1 0), (3, boxP b2 0), (4, boxP b4 0), (5, boxP b5 0), (6, v8), (34, v8), (35, .int .i64 4), (36, .int .i64 0), (8, boxP b35 0)] [0, 1, 2, 3, 4, 5, 6, 7] [box b1 [v21], row v21 3 (x_17.map S_api_Lexeme.enc), box b2 [.int .i64 0, .int .i64 0], box b4 [.string (bs x_18), .int .i64 x_19], box b5 [.int .i64 x_19], row v8 2 [[.func (.func 41) #[] #[], .func (.func 42) #[] #[]], [.func (.func 43) #[] #[], .func (.func 44) #[] #[]], [.func (.func 45) #[] #[], .func (.func 46) #[] #[]], [.func (.func 47) #[] #[], .func (.func 48) #[] #[]]], globA, box b35 [.func (.func 41) #[] #[], .func (.func 42) #[] #[]]] (qv10 rfl rfl rfl rfl rfl rfl rfl rfl rfl rfl) (by decide) rfl ?_
     refine run_calm (fun L36 hL37 => ?_)
     refine run_drawany [box b1 [v21], row v21 3 (x_17.map S_api_Lexeme.enc), box b2 [.int .i64 0, .int .i64 0], box b4 [.string (bs x_18), .int .i64 x_19], box b5 [.int .i64 x_19], row v8 2 [[.func (.func 41) #[] #[], .func (.func 42) #[] #[]], [.func (.func 43) #[] #[], .func (.func 44) #[] #[]], [.func (.func 45) #[] #[], .func (.func 46) #[] #[]], [.func (.func 47) #[] #[], .func (.func 48) #[] #[]]], globA, box b35 [.func (.func 41) #[] #[], .func (.func 42) #[] #[]]] (by kernel_rfl) ?_
     refine any_y 0 rfl (by kernel_rfl) (by kernel_rfl) (by kernel_rfl) (ss (ss (ss (ss (ss (ss (ss (ss (sn))))))))) (wn rfl) rfl (y_fieldAddr_box (sz := 0) Tryz.runUnderlying69 rfl Tryz.sizeOf67 rfl) ?_
     refine any_y 1 rfl (by kernel_rfl) (by kernel_rfl) (by kernel_rfl) (ss (ss (ss (ss (ss (ss (ss (ss (sn))))))))) (wn rfl) rfl (y_load_box 7 Tryz.isAgg67 rfl rfl rfl) ?_
     refine any_y 2 rfl (by kernel_rfl) (by kernel_rfl) (by kernel_rfl) (ss (ss (ss (ss (ss (ss (ss (ss (sn))))))))) (wn rfl) rfl (y_move rfl) ?_
     refine any_y 3 rfl (by kernel_rfl) (by kernel_rfl) (by kernel_rfl) (ss (ss (ss (ss (ss (ss (ss (ss (sn))))))))) (wn rfl) rfl (y_load_box 4 Tryz.isAgg3 rfl rfl rfl) ?_
     obtain ⟨c38, hzc38, hlc38, hxc38, h⟩ := idx_some h
     refine any_y 4 rfl (by kernel_rfl) (by kernel_rfl) (by kernel_rfl) (ss (ss (ss (ss (ss (ss (ss (ss (sn))))))))) (wn rfl) rfl (y_index_strI (kd := .i64) (i := x_19) Tryz.runUnderlying9 rfl rfl hzc38 hxc38) ?_
     refine any_all [5] (by kernel_rfl) rfl (anyo_cons ?_ anyo_nil)
     obtain ⟨r39, hr40, h⟩ := obind_some h
     refine any_t rfl (wn rfl) rfl (t_callx (vs := [.int .u8 (c38.toNat : Int)]) (cs := []) [] rfl Tryz.call41 rfl (lexer_isSmall_ok  (c38.toNat : Int)  hr40) showsX_nil rfl (.inl rfl)) ?_
     rintro _ _ ⟨_, ⟨rfl, rfl⟩, rfl⟩
     refine ⟨(ss (ss (ss (ss (ss (ss (ss (ss (sn))))))))), ?_⟩
     refine any_nil (by kernel_rfl) ?_
     refine goes_calm hL37 ?_
     refine goes_code ?_
     refine run_cond r39 rfl (fun hc41 => ?_) (fun hc41 => ?_)
     ·replace h := cond_t h hc41
      refine run_seq ?_
      refine run_region' ?_
      refine oy rfl rfl (y_fieldAddr_box (sz := 0) Tryz.runUnderlying69 rfl Tryz.sizeOf68 rfl) ?_
      refine oy rfl rfl (y_load_box 7 Tryz.isAgg68 rfl rfl rfl) ?_
      refine oy rfl rfl (y_move rfl) ?_
      obtain ⟨r42, hr43, h⟩ := obind_some h
      rcases r42 with q44 | e45
      rotate_left
      ·replace h := pbind_pan h
       refine ops_tp (wn rfl) rfl (t_callp (vs := [boxP b4 0]) (cs := []) [(3, 2), (6, 0)] rfl Tryz.call42 rfl (weirgate_lexer_reader_name_42_ok n  (S_lexer_reader.mk x_18 x_19) b4 hr43) (showsX_lend 3 rfl (showsX_view 6 rfl views_glob showsX_nil)) rfl (.inl rfl)) (by rintro _ _ ⟨_, ⟨_, hq, _⟩, _⟩; cases hq) ?_
       rintro _ ⟨_, he, rfl⟩
       obtain rfl := Pn.pan.inj he
       refine finP_rec Tryz.call26 (tokRec_pan b5 b1 b2 e45 x_19 4 0 2 rfl rfl rfl (by decide)) ?_
       refine fin_turn (nilrow 3) ?_
       refine fin_turn (retell 8 (g := row (.slice none 0 0) 3 (([] : List S_api_Lexeme).map S_api_Lexeme.enc)) rfl rfl) ?_
       obtain rfl := some_eq h
       obtain rfl := after_stop ho32
       skip
       obtain rfl := hstop24 _ rfl
       skip
       obtain rfl := after_stop ho12
       refine fin_resQ [.cell 2 23, .cell 3 26] [(.slice none 0 0), .agg #[.int .i64 x_19, .int .i64 e45]] [8] [row (.slice none 0 0) 3 (([] : List S_api_Lexeme).map S_api_Lexeme.enc)] Tryz.results10 rfl (rescons (res_boxs 0 Tryz.isAgg23 rfl rfl) (rescons (res_box 2 Tryz.isAgg26 Tryz.sizeOf26 rfl rfl rfl) resnil)) (by decide) rfl ?_
       exact ⟨_, rfl, rfl⟩
      replace h := pbind_ret h
      refine ot rfl rfl (t_callx (vs := [boxP b4 0]) (cs := []) [(3, 2), (6, 0)] rfl Tryz.call42 rfl (mp_ret (weirgate_lexer_reader_name_42_ok n  (S_lexer_reader.mk x_18 x_19) b4 hr43)) (showsX_lend 3 rfl (showsX_view 6 rfl views_glob showsX_nil)) rfl (.inl rfl)) ?_
      rintro _ _ ⟨_, ⟨rfl, rfl⟩, rfl⟩
      refine ot rfl rfl (t_alloc Tryz.zeroValue44) ?_
      rintro _ _ ⟨b46, rfl, rfl⟩
      refine ot rfl rfl (t_store 9 Tryz.sizeOf44 rfl rfl rfl rfl (by simp [Value.cells, boxP]) (by simp [Value.cells, Value.oneCell', boxP])) ?_
      rintro _ _ ⟨rfl, rfl⟩
      refine ops_turn (retell 9 (g := box b46 [.int .i64 q44.1.Kind, .int .i64 q44.1.At, .string (bs q44.1.S)]) rfl rfl) ?_
      refine ops_nil ?_
      refine goes_code ?_
      refine run_seq ?_
      refine run_weak [(0, .string (bs s_0)), (2, boxP b1 0), (3, boxP b2 0), (4, boxP b4 0), (5, boxP b5 0), (6, v8), (9, boxP b46 0)] [0, 1, 2, 4, 5, 6, 8, 9] [box b1 [v21], row v21 3 (x_17.map S_api_Lexeme.enc), box b2 [.int .i64 0, .int .i64 0], box b5 [.int .i64 x_19], row v8 2 [[.func (.func 41) #[] #[], .func (.func 42) #[] #[]], [.func (.func 43) #[] #[], .func (.func 44) #[] #[]], [.func (.func 45) #[] #[], .func (.func 46) #[] #[]], [.func (.func 47) #[] #[], .func (.func 48) #[] #[]]], globA, box b4 [.string (bs q44.2.s_), .int .i64 q44.2.at_], box b46 [.int .i64 q44.1.Kind, .int .i64 q44.1.At, .string (bs q44.1.S)]] (qv7 rfl rfl rfl rfl rfl rfl rfl) (by decide) rfl ?_
      refine run_region' ?_
      refine oy rfl rfl (y_load_box 3 Tryz.isAgg3 rfl rfl rfl) ?_
      refine oy rfl rfl (y_fieldAddr_box (sz := 0) Tryz.runUnderlying44 rfl Tryz.sizeOf3 rfl) ?_
      refine ot rfl rfl (t_store 7 Tryz.sizeOf3 rfl rfl rfl rfl (by simp [Value.cells, boxP]) (by simp [Value.cells, Value.oneCell', boxP])) ?_
      rintro _ _ ⟨rfl, rfl⟩
      refine ops_turn (retell 7 (g := box b46 [.int .i64 q44.1.Kind, .int .i64 x_19, .string (bs q44.1.S)]) rfl rfl) ?_
      refine ops_nil ?_
      refine goes_code ?_
      refine run_seq ?_
      refine run_region' ?_
      refine oy rfl rfl (y_load_box 0 Tryz.isAgg23 rfl rfl rfl) ?_
      refine oy rfl rfl (y_load_boxagg (c := [.int .i64 q44.1.Kind, .int .i64 x_19, .string (bs q44.1.S)]) 7 Tryz.isAgg44 Tryz.sizeOf44 rfl rfl rfl) ?_
      refine ot rfl rfl (t_lit [.agg #[.int .i64 q44.1.Kind, .int .i64 x_19, .string (bs q44.1.S)]] Tryz.runUnderlying23 Tryz.sizeOf44 Tryz.zeroValue44 rfl (by decide) (by decide) rfl (by simp [Value.cells, boxP])) ?_
      rintro v47 _ ⟨rfl, _⟩
      refine ops_turn (retell 8 (g := row v47 3 (([(S_api_Lexeme.mk q44.1.Kind x_19 q44.1.S)] : List S_api_Lexeme).map S_api_Lexeme.enc)) rfl rfl) ?_
      obtain ⟨hr49, h⟩ := need_some h
      refine ot rfl rfl (t_append (es := 3) 1 rfl Tryz.runUnderlying23 rfl Tryz.runUnderlying23 (.inr ⟨_, rfl⟩) Tryz.typeInfo44 rfl (by decide) Tryz.zeroValue44 rfl rfl rfl rfl (src_reads 8 rfl reads_row (map_ok S_api_Lexeme.enc_ok _)) (map_room hr49 (by decide)) (map_fit hr49)) ?_
      rintro v48 _ rfl
      refine ops_turn (retell 1 (g := row v48 3 ((x_17 ++ ([(S_api_Lexeme.mk q44.1.Kind x_19 q44.1.S)] : List S_api_Lexeme)).map S_api_Lexeme.enc)) rfl (congrArg (row _ _) List.map_append.symm)) ?_
      refine ops_slc 1 rfl reads_row (fun hs50 hs50o => ?_)
      refine ot rfl rfl (t_store 0 Tryz.sizeOf23 rfl rfl rfl (by rw [hs50]; rfl) (by simp [Value.cells, boxP]) (by rw [hs50]; exact allL_cons hs50o (allL_nil))) ?_
      rintro _ _ ⟨rfl, rfl⟩
      refine ops_turn (retell 0 (g := box b1 [v48]) rfl (by rw [hs50]; rfl)) ?_
      refine ops_nil ?_
      refine goes_code ?_
      refine run_exit _ rfl ?_
      refine goes_blk ?_
      obtain rfl := some_eq h
      exact goes_cut hL33 (((x_17 ++ ([(S_api_Lexeme.mk q44.1.Kind x_19 q44.1.S)] : List S_api_Lexeme)), q44.2.s_, q44.2.at_), v48) [0, 1, 2, 6, 3, 4, 5] (qv6 rfl rfl rfl rfl rfl rfl) (by decide) rfl rfl
     ·replace h := cond_f h hc41
      refine run_skip ?_
      refine goes_blk ?_
      refine goes_code ?_
      refine run_region' ?_
      refine oy rfl rfl (y_add rfl rfl) ?_
      refine oy rfl rfl (y_move rfl) ?_
      refine ops_nil ?_
      refine goes_times ?_
      refine run_seq ?_
      refine run_weak [(0, .string (bs s_0)), (2, boxP b1 0), (3, boxP b2 0), (4, boxP b4 0), (5, boxP b5 0), (6, v8), (34, v8), (35, .int .i64 4), (36, .int .i64 1)] [0, 1, 2, 3, 4, 5, 6] [box b1 [v21], row v21 3 (x_17.map S_api_Lexeme.enc), box b2 [.int .i64 0, .int .i64 0], box b4 [.string (bs x_18), .int .i64 x_19], box b5 [.int .i64 x_19], row v8 2 [[.func (.func 41) #[] #[], .func (.func 42) #[] #[]], [.func (.func 43) #[] #[], .func (.func 44) #[] #[]], [.func (.func 45) #[] #[], .func (.func 46) #[] #[]], [.func (.func 47) #[] #[], .func (.func 48) #[] #[]]], globA] (qv9 rfl rfl rfl rfl rfl rfl rfl rfl rfl) (by decide) rfl ?_
      refine run_region' ?_
      refine oy rfl rfl (y_lss rfl rfl) ?_
      refine ops_nil ?_
      refine goes_code ?_
      refine run_seq ?_
      refine run_cond_t rfl ?_
      refine run_skip ?_
      refine goes_code ?_
      refine run_seq ?_
      refine run_block ?_
      refine run_seq ?_
      refine run_region' ?_
      refine oy rfl rfl (y_indexAddrI (kd := .i64) (i := 1) 5 Tryz.runUnderlying65 Tryz.sizeOf69 rfl rfl rfl reads_row (by decide) (by decide)) ?_
      refine oy rfl rfl (y_load_agg (i := (1 : Int).toNat) (c := [.func (.func 43) #[] #[], .func (.func 44) #[] #[]]) 5 Tryz.isAgg69 Tryz.sizeOf69 rfl rfl reads_row rfl) ?_
      refine ot rfl rfl (t_alloc Tryz.zeroValue69) ?_
      rintro _ _ ⟨b51, rfl, rfl⟩
      refine ot rfl rfl (t_store 7 Tryz.sizeOf69 rfl rfl rfl rfl (by simp [Value.cells, boxP]) (by simp [Value.cells, Value.oneCell', boxP])) ?_
      rintro _ _ ⟨rfl, rfl⟩
      refine ops_turn (retell 7 (g := box b51 [.func (.func 43) #[] #[], .func (.func 44) #[] #[]]) rfl rfl) ?_
      refine ops_nil ?_
      refine goes_code ?_
      refine run_seq ?_
      refine run_calm (fun L52 hL53 => ?_)
      refine run_drawany [box b1 [v21], row v21 3 (x_17.map S_api_Lexeme.enc), box b2 [.int .i64 0, .int .i64 0], box b4 [.string (bs x_18), .int .i64 x_19], box b5 [.int .i64 x_19], row v8 2 [[.func (.func 41) #[] #[], .func (.func 42) #[] #[]], [.func (.func 43) #[] #[], .func (.func 44) #[] #[]], [.func (.func 45) #[] #[], .func (.func 46) #[] #[]], [.func (.func 47) #[] #[], .func (.func 48) #[] #[]]], globA, box b51 [.func (.func 43) #[] #[], .func (.func 44) #[] #[]]] (by kernel_rfl) ?_
      refine any_y 0 rfl (by kernel_rfl) (by kernel_rfl) (by kernel_rfl) (ss (ss (ss (ss (ss (ss (ss (ss (sn))))))))) (wn rfl) rfl (y_fieldAddr_box (sz := 0) Tryz.runUnderlying69 rfl Tryz.sizeOf67 rfl) ?_
      refine any_y 1 rfl (by kernel_rfl) (by kernel_rfl) (by kernel_rfl) (ss (ss (ss (ss (ss (ss (ss (ss (sn))))))))) (wn rfl) rfl (y_load_box 7 Tryz.isAgg67 rfl rfl rfl) ?_
      refine any_y 2 rfl (by kernel_rfl) (by kernel_rfl) (by kernel_rfl) (ss (ss (ss (ss (ss (ss (ss (ss (sn))))))))) (wn rfl) rfl (y_move rfl) ?_
      refine any_y 3 rfl (by kernel_rfl) (by kernel_rfl) (by kernel_rfl) (ss (ss (ss (ss (ss (ss (ss (ss (sn))))))))) (wn rfl) rfl (y_load_box 4 Tryz.isAgg3 rfl rfl rfl) ?_
      obtain ⟨c54, hzc54, hlc54, hxc54, h⟩ := idx_some h
      refine any_y 4 rfl (by kernel_rfl) (by kernel_rfl) (by kernel_rfl) (ss (ss (ss (ss (ss (ss (ss (ss (sn))))))))) (wn rfl) rfl (y_index_strI (kd := .i64) (i := x_19) Tryz.runUnderlying9 rfl rfl hzc54 hxc54) ?_
      refine any_all [5] (by kernel_rfl) rfl (anyo_cons ?_ anyo_nil)
      obtain ⟨r55, hr56, h⟩ := obind_some h
      refine any_t rfl (wn rfl) rfl (t_callx (vs := [.int .u8 (c54.toNat : Int)]) (cs := []) [] rfl Tryz.call43 rfl (lexer_isDigit_ok  (c54.toNat : Int)  hr56) showsX_nil rfl (.inl rfl)) ?_
      rintro _ _ ⟨_, ⟨rfl, rfl⟩, rfl⟩
      refine ⟨(ss (ss (ss (ss (ss (ss (ss (ss (sn))))))))), ?_⟩
      refine any_nil (by kernel_rfl) ?_
      refine goes_calm hL53 ?_
      refine goes_code ?_
      refine run_cond r55 rfl (fun hc57 => ?_) (fun hc57 => ?_)
      ·replace h := cond_t h hc57
       refine run_seq ?_
       refine run_weak [(0, .string (bs s_0)), (2, boxP b1 0), (3, boxP b2 0), (4, boxP b4 0), (5, boxP b5 0), (6, v8), (8, boxP b51 0)] [0, 1, 2, 3, 4, 5, 6, 7] [box b1 [v21], row v21 3 (x_17.map S_api_Lexeme.enc), box b2 [.int .i64 0, .int .i64 0], box b4 [.string (bs x_18), .int .i64 x_19], box b5 [.int .i64 x_19], row v8 2 [[.func (.func 41) #[] #[], .func (.func 42) #[] #[]], [.func (.func 43) #[] #[], .func (.func 44) #[] #[]], [.func (.func 45) #[] #[], .func (.func 46) #[] #[]], [.func (.func 47) #[] #[], .func (.func 48) #[] #[]]], globA, box b51 [.func (.func 43) #[] #[], .func (.func 44) #[] #[]]] (qv7 rfl rfl rfl rfl rfl rfl rfl) (by decide) rfl ?_
       refine run_region' ?_
       refine oy rfl rfl (y_fieldAddr_box (sz := 0) Tryz.runUnderlying69 rfl Tryz.sizeOf68 rfl) ?_
       refine oy rfl rfl (y_load_box 7 Tryz.isAgg68 rfl rfl rfl) ?_
       refine oy rfl rfl (y_move rfl) ?_
       obtain ⟨r58, hr59, h⟩ := obind_some h
       rcases r58 with q60 | e61
       rotate_left
       ·replace h := pbind_pan h
        refine ops_tp (wn rfl) rfl (t_callp (vs := [boxP b4 0]) (cs := []) [(3, 2)] rfl Tryz.call44 rfl (weirgate_lexer_reader_number_44_ok n  (S_lexer_reader.mk x_18 x_19) b4 hr59) (showsX_lend 3 rfl showsX_nil) rfl (.inl rfl)) (by rintro _ _ ⟨_, ⟨_, hq, _⟩, _⟩; cases hq) ?_
        rintro _ ⟨_, he, rfl⟩
        obtain rfl := Pn.pan.inj he
        refine finP_rec Tryz.call26 (tokRec_pan b5 b1 b2 e61 x_19 4 0 2 rfl rfl rfl (by decide)) ?_
        refine fin_turn (nilrow 3) ?_
        refine fin_turn (retell 8 (g := row (.slice none 0 0) 3 (([] : List S_api_Lexeme).map S_api_Lexeme.enc)) rfl rfl) ?_
        obtain rfl := some_eq h
        obtain rfl := after_stop ho32
        skip
        obtain rfl := hstop24 _ rfl
        skip
        obtain rfl := after_stop ho12
        refine fin_resQ [.cell 2 23, .cell 3 26] [(.slice none 0 0), .agg #[.int .i64 x_19, .int .i64 e61]] [8] [row (.slice none 0 0) 3 (([] : List S_api_Lexeme).map S_api_Lexeme.enc)] Tryz.results10 rfl (rescons (res_boxs 0 Tryz.isAgg23 rfl rfl) (rescons (res_box 2 Tryz.isAgg26 Tryz.sizeOf26 rfl rfl rfl) resnil)) (by decide) rfl ?_
        exact ⟨_, rfl, rfl⟩
       replace h := pbind_ret h
       refine ot rfl rfl (t_callx (vs := [boxP b4 0]) (cs := []) [(3, 2)] rfl Tryz.call44 rfl (mp_ret (weirgate_lexer_reader_number_44_ok n  (S_lexer_reader.mk x_18 x_19) b4 hr59)) (showsX_lend 3 rfl showsX_nil) rfl (.inl rfl)) ?_
       rintro _ _ ⟨_, ⟨rfl, rfl⟩, rfl⟩
       refine ot rfl rfl (t_alloc Tryz.zeroValue44) ?_
       rintro _ _ ⟨b62, rfl, rfl⟩
       refine ot rfl rfl (t_store 9 Tryz.sizeOf44 rfl rfl rfl rfl (by simp [Value.cells, boxP]) (by simp [Value.cells, Value.oneCell', boxP])) ?_
       rintro _ _ ⟨rfl, rfl⟩
       refine ops_turn (retell 9 (g := box b62 [.int .i64 q60.1.Kind, .int .i64 q60.1.At, .string (bs q60.1.S)]) rfl rfl) ?_
       refine ops_nil ?_
       refine goes_code ?_
       refine run_seq ?_
       refine run_region' ?_
       refine oy rfl rfl (y_load_box 4 Tryz.isAgg3 rfl rfl rfl) ?_
       refine oy rfl rfl (y_fieldAddr_box (sz := 0) Tryz.runUnderlying44 rfl Tryz.sizeOf3 rfl) ?_
       refine ot rfl rfl (t_store 9 Tryz.sizeOf3 rfl rfl rfl rfl (by simp [Value.cells, boxP]) (by simp [Value.cells, Value.oneCell', boxP])) ?_
       rintro _ _ ⟨rfl, rfl⟩
       refine ops_turn (retell 9 (g := box b62 [.int .i64 q60.1.Kind, .int .i64 x_19, .string (bs q60.1.S)]) rfl rfl) ?_
       refine ops_nil ?_
       refine goes_code ?_
       refine run_seq ?_
       refine run_weak [(0, .string (bs s_0)), (2, boxP b1 0), (3, boxP b2 0), (4, boxP b4 0), (5, boxP b5 0), (6, v8), (9, boxP b62 0)] [0, 1, 2, 4, 5, 6, 8, 9] [box b1 [v21], row v21 3 (x_17.map S_api_Lexeme.enc), box b2 [.int .i64 0, .int .i64 0], box b5 [.int .i64 x_19], row v8 2 [[.func (.func 41) #[] #[], .func (.func 42) #[] #[]], [.func (.func 43) #[] #[], .func (.func 44) #[] #[]], [.func (.func 45) #[] #[], .func (.func 46) #[] #[]], [.func (.func 47) #[] #[], .func (.func 48) #[] #[]]], globA, box b4 [.string (bs q60.2.s_), .int .i64 q60.2.at_], box b62 [.int .i64 q60.1.Kind, .int .i64 x_19, .string (bs q60.1.S)]] (qv7 rfl rfl rfl rfl rfl rfl rfl) (by decide) rfl ?_
       refine run_region' ?_
       refine oy rfl rfl (y_load_box 0 Tryz.isAgg23 rfl rfl rfl) ?_
       refine oy rfl rfl (y_load_boxagg (c := [.int .i64 q60.1.Kind, .int .i64 x_19, .string (bs q60.1.S)]) 7 Tryz.isAgg44 Tryz.sizeOf44 rfl rfl rfl) ?_
       refine ot rfl rfl (t_lit [.agg #[.int .i64 q60.1.Kind, .int .i64 x_19, .string (bs q60.1.S)]] Tryz.runUnderlying23 Tryz.sizeOf44 Tryz.zeroValue44 rfl (by decide) (by decide) rfl (by simp [Value.cells, boxP])) ?_
       rintro v63 _ ⟨rfl, _⟩
       refine ops_turn (retell 8 (g := row v63 3 (([(S_api_Lexeme.mk q60.1.Kind x_19 q60.1.S)] : List S_api_Lexeme).map S_api_Lexeme.enc)) rfl rfl) ?_
       obtain ⟨hr65, h⟩ := need_some h
       refine ot rfl rfl (t_append (es := 3) 1 rfl Tryz.runUnderlying23 rfl Tryz.runUnderlying23 (.inr ⟨_, rfl⟩) Tryz.typeInfo44 rfl (by decide) Tryz.zeroValue44 rfl rfl rfl rfl (src_reads 8 rfl reads_row (map_ok S_api_Lexeme.enc_ok _)) (map_room hr65 (by decide)) (map_fit hr65)) ?_
       rintro v64 _ rfl
       refine ops_turn (retell 1 (g := row v64 3 ((x_17 ++ ([(S_api_Lexeme.mk q60.1.Kind x_19 q60.1.S)] : List S_api_Lexeme)).map S_api_Lexeme.enc)) rfl (congrArg (row _ _) List.map_append.symm)) ?_
       refine ops_slc 1 rfl reads_row (fun hs66 hs66o => ?_)
       refine ot rfl rfl (t_store 0 Tryz.sizeOf23 rfl rfl rfl (by rw [hs66]; rfl) (by simp [Value.cells, boxP]) (by rw [hs66]; exact allL_cons hs66o (allL_nil))) ?_
       rintro _ _ ⟨rfl, rfl⟩
       refine ops_turn (retell 0 (g := box b1 [v64]) rfl (by rw [hs66]; rfl)) ?_
       refine ops_nil ?_
       refine goes_code ?_
       refine run_exit _ rfl ?_
       refine goes_blk ?_
       obtain rfl := some_eq h
       exact goes_cut hL33 (((x_17 ++ ([(S_api_Lexeme.mk q60.1.Kind x_19 q60.1.S)] : List S_api_Lexeme)), q60.2.s_, q60.2.at_), v64) [0, 1, 2, 6, 3, 4, 5] (qv6 rfl rfl rfl rfl rfl rfl) (by decide) rfl rfl
      ·replace h := cond_f h hc57
       refine run_skip ?_
       refine goes_blk ?_
       refine goes_code ?_
       refine run_weak [(0, .string (bs s_0)), (2, boxP b1 0), (3, boxP b2 0), (4, boxP b4 0), (5, boxP b5 0), (6, v8), (34, v8), (35, .int .i64 4), (36, .int .i64 1)] [0, 1, 2, 3, 4, 5, 6] [box b1 [v21], row v21 3 (x_17.map S_api_Lexeme.enc), box b2 [.int .i64 0, .int .i64 0], box b4 [.string (bs x_18), .int .i64 x_19], box b5 [.int .i64 x_19], row v8 2 [[.func (.func 41) #[] #[], .func (.func 42) #[] #[]], [.func (.func 43) #[] #[], .func (.func 44) #[] #[]], [.func (.func 45) #[] #[], .func (.func 46) #[] #[]], [.func (.func 47) #[] #[], .func (.func 48) #[] #[]]], globA] (qv9 rfl rfl rfl rfl rfl rfl rfl rfl rfl) (by decide) rfl ?_
       refine run_region' ?_
       refine oy rfl rfl (y_add rfl rfl) ?_
       refine oy rfl rfl (y_move rfl) ?_
       refine ops_nil ?_
       refine goes_times ?_
       refine run_seq ?_
       refine run_region' ?_
       refine oy rfl rfl (y_lss rfl rfl) ?_
       refine ops_nil ?_
       refine goes_code ?_
       refine run_seq ?_
       refine run_cond_t rfl ?_
       refine run_skip ?_
       refine goes_code ?_
       refine run_seq ?_
       refine run_block ?_
       refine run_seq ?_
       refine run_region' ?_
       refine oy rfl rfl (y_indexAddrI (kd := .i64) (i := 2) 5 Tryz.runUnderlying65 Tryz.sizeOf69 rfl rfl rfl reads_row (by decide) (by decide)) ?_
       refine oy rfl rfl (y_load_agg (i := (2 : Int).toNat) (c := [.func (.func 45) #[] #[], .func (.func 46) #[] #[]]) 5 Tryz.isAgg69 Tryz.sizeOf69 rfl rfl reads_row rfl) ?_
       refine ot rfl rfl (t_alloc Tryz.zeroValue69) ?_
       rintro _ _ ⟨b67, rfl, rfl⟩
       refine ot rfl rfl (t_store 7 Tryz.sizeOf69 rfl rfl rfl rfl (by simp [Value.cells, boxP]) (by simp [Value.cells, Value.oneCell', boxP])) ?_
       rintro _ _ ⟨rfl, rfl⟩
       refine ops_turn (retell 7 (g := box b67 [.func (.func 45) #[] #[], .func (.func 46) #[] #[]]) rfl rfl) ?_
       refine ops_nil ?_
       refine goes_code ?_
       refine run_seq ?_
       refine run_calm (fun L68 hL69 => ?_)
       refine run_drawany [box b1 [v21], row v21 3 (x_17.map S_api_Lexeme.enc), box b2 [.int .i64 0, .int .i64 0], box b4 [.string (bs x_18), .int .i64 x_19], box b5 [.int .i64 x_19], row v8 2 [[.func (.func 41) #[] #[], .func (.func 42) #[] #[]], [.func (.func 43) #[] #[], .func (.func 44) #[] #[]], [.func (.func 45) #[] #[], .func (.func 46) #[] #[]], [.func (.func 47) #[] #[], .func (.func 48) #[] #[]]], globA, box b67 [.func (.func 45) #[] #[], .func (.func 46) #[] #[]]] (by kernel_rfl) ?_
       refine any_y 0 rfl (by kernel_rfl) (by kernel_rfl) (by kernel_rfl) (ss (ss (ss (ss (ss (ss (ss (ss (sn))))))))) (wn rfl) rfl (y_fieldAddr_box (sz := 0) Tryz.runUnderlying69 rfl Tryz.sizeOf67 rfl) ?_
       refine any_y 1 rfl (by kernel_rfl) (by kernel_rfl) (by kernel_rfl) (ss (ss (ss (ss (ss (ss (ss (ss (sn))))))))) (wn rfl) rfl (y_load_box 7 Tryz.isAgg67 rfl rfl rfl) ?_
       refine any_y 2 rfl (by kernel_rfl) (by kernel_rfl) (by kernel_rfl) (ss (ss (ss (ss (ss (ss (ss (ss (sn))))))))) (wn rfl) rfl (y_move rfl) ?_
       refine any_y 3 rfl (by kernel_rfl) (by kernel_rfl) (by kernel_rfl) (ss (ss (ss (ss (ss (ss (ss (ss (sn))))))))) (wn rfl) rfl (y_load_box 4 Tryz.isAgg3 rfl rfl rfl) ?_
       obtain ⟨c70, hzc70, hlc70, hxc70, h⟩ := idx_some h
       refine any_y 4 rfl (by kernel_rfl) (by kernel_rfl) (by kernel_rfl) (ss (ss (ss (ss (ss (ss (ss (ss (sn))))))))) (wn rfl) rfl (y_index_strI (kd := .i64) (i := x_19) Tryz.runUnderlying9 rfl rfl hzc70 hxc70) ?_
       refine any_all [5] (by kernel_rfl) rfl (anyo_cons ?_ anyo_nil)
       obtain ⟨r71, hr72, h⟩ := obind_some h
       refine any_t rfl (wn rfl) rfl (t_callx (vs := [.int .u8 (c70.toNat : Int)]) (cs := []) [] rfl Tryz.call45 rfl (lexer_forms_1_45_ok  (c70.toNat : Int)  hr72) showsX_nil rfl (.inl rfl)) ?_
       rintro _ _ ⟨_, ⟨rfl, rfl⟩, rfl⟩
       refine ⟨(ss (ss (ss (ss (ss (ss (ss (ss (sn))))))))), ?_⟩
       refine any_nil (by kernel_rfl) ?_
       refine goes_calm hL69 ?_
       refine goes_code ?_
       refine run_cond r71 rfl (fun hc73 => ?_) (fun hc73 => ?_)
       ·replace h := cond_t h hc73
        refine run_seq ?_
        refine run_weak [(0, .string (bs s_0)), (2, boxP b1 0), (3, boxP b2 0), (4, boxP b4 0), (5, boxP b5 0), (6, v8), (8, boxP b67 0)] [0, 1, 2, 3, 4, 5, 6, 7] [box b1 [v21], row v21 3 (x_17.map S_api_Lexeme.enc), box b2 [.int .i64 0, .int .i64 0], box b4 [.string (bs x_18), .int .i64 x_19], box b5 [.int .i64 x_19], row v8 2 [[.func (.func 41) #[] #[], .func (.func 42) #[] #[]], [.func (.func 43) #[] #[], .func (.func 44) #[] #[]], [.func (.func 45) #[] #[], .func (.func 46) #[] #[]], [.func (.func 47) #[] #[], .func (.func 48) #[] #[]]], globA, box b67 [.func (.func 45) #[] #[], .func (.func 46) #[] #[]]] (qv7 rfl rfl rfl rfl rfl rfl rfl) (by decide) rfl ?_
        refine run_region' ?_
        refine oy rfl rfl (y_fieldAddr_box (sz := 0) Tryz.runUnderlying69 rfl Tryz.sizeOf68 rfl) ?_
        refine oy rfl rfl (y_load_box 7 Tryz.isAgg68 rfl rfl rfl) ?_
        refine oy rfl rfl (y_move rfl) ?_
        obtain ⟨r74, hr75, h⟩ := obind_some h
        rcases r74 with q76 | e77
        rotate_left
        ·replace h := pbind_pan h
         refine ops_tp (wn rfl) rfl (t_callp (vs := [boxP b4 0]) (cs := []) [(3, 2)] rfl Tryz.call46 rfl (weirgate_lexer_reader_text_46_ok n  (S_lexer_reader.mk x_18 x_19) b4 hr75) (showsX_lend 3 rfl showsX_nil) rfl (.inl rfl)) (by rintro _ _ ⟨_, ⟨_, hq, _⟩, _⟩; cases hq) ?_
         rintro _ ⟨_, he, rfl⟩
         obtain rfl := Pn.pan.inj he
         refine finP_rec Tryz.call26 (tokRec_pan b5 b1 b2 e77 x_19 4 0 2 rfl rfl rfl (by decide)) ?_
         refine fin_turn (nilrow 3) ?_
         refine fin_turn (retell 8 (g := row (.slice none 0 0) 3 (([] : List S_api_Lexeme).map S_api_Lexeme.enc)) rfl rfl) ?_
         obtain rfl := some_eq h
         obtain rfl := after_stop ho32
         skip
         obtain rfl := hstop24 _ rfl
         skip
         obtain rfl := after_stop ho12
         refine fin_resQ [.cell 2 23, .cell 3 26] [(.slice none 0 0), .agg #[.int .i64 x_19, .int .i64 e77]] [8] [row (.slice none 0 0) 3 (([] : List S_api_Lexeme).map S_api_Lexeme.enc)] Tryz.results10 rfl (rescons (res_boxs 0 Tryz.isAgg23 rfl rfl) (rescons (res_box 2 Tryz.isAgg26 Tryz.sizeOf26 rfl rfl rfl) resnil)) (by decide) rfl ?_
         exact ⟨_, rfl, rfl⟩
        replace h := pbind_ret h
        refine ot rfl rfl (t_callx (vs := [boxP b4 0]) (cs := []) [(3, 2)] rfl Tryz.call46 rfl (mp_ret (weirgate_lexer_reader_text_46_ok n  (S_lexer_reader.mk x_18 x_19) b4 hr75)) (showsX_lend 3 rfl showsX_nil) rfl (.inl rfl)) ?_
        rintro _ _ ⟨_, ⟨rfl, rfl⟩, rfl⟩
        refine ot rfl rfl (t_alloc Tryz.zeroValue44) ?_
        rintro _ _ ⟨b78, rfl, rfl⟩
        refine ot rfl rfl (t_store 9 Tryz.sizeOf44 rfl rfl rfl rfl (by simp [Value.cells, boxP]) (by simp [Value.cells, Value.oneCell', boxP])) ?_
        rintro _ _ ⟨rfl, rfl⟩
        refine ops_turn (retell 9 (g := box b78 [.int .i64 q76.1.Kind, .int .i64 q76.1.At, .string (bs q76.1.S)]) rfl rfl) ?_
        refine ops_nil ?_
        refine goes_code ?_
        refine run_seq ?_
        refine run_region' ?_
        refine oy rfl rfl (y_load_box 4 Tryz.isAgg3 rfl rfl rfl) ?_
        refine oy rfl rfl (y_fieldAddr_box (sz := 0) Tryz.runUnderlying44 rfl Tryz.sizeOf3 rfl) ?_
        refine ot rfl rfl (t_store 9 Tryz.sizeOf3 rfl rfl rfl rfl (by simp [Value.cells, boxP]) (by simp [Value.cells, Value.oneCell', boxP])) ?_
        rintro _ _ ⟨rfl, rfl⟩
        refine ops_turn (retell 9 (g := box b78 [.int .i64 q76.1.Kind, .int .i64 x_19, .string (bs q76.1.S)]) rfl rfl) ?_
        refine ops_nil ?_
        refine goes_code ?_
        refine run_seq ?_
        refine run_weak [(0, .string (bs s_0)), (2, boxP b1 0), (3, boxP b2 0), (4, boxP b4 0), (5, boxP b5 0), (6, v8), (9, boxP b78 0)] [0, 1, 2, 4, 5, 6, 8, 9] [box b1 [v21], row v21 3 (x_17.map S_api_Lexeme.enc), box b2 [.int .i64 0, .int .i64 0], box b5 [.int .i64 x_19], row v8 2 [[.func (.func 41) #[] #[], .func (.func 42) #[] #[]], [.func (.func 43) #[] #[], .func (.func 44) #[] #[]], [.func (.func 45) #[] #[], .func (.func 46) #[] #[]], [.func (.func 47) #[] #[], .func (.func 48) #[] #[]]], globA, box b4 [.string (bs q76.2.s_), .int .i64 q76.2.at_], box b78 [.int .i64 q76.1.Kind, .int .i64 x_19, .string (bs q76.1.S)]] (qv7 rfl rfl rfl rfl rfl rfl rfl) (by decide) rfl ?_
        refine run_region' ?_
        refine oy rfl rfl (y_load_box 0 Tryz.isAgg23 rfl rfl rfl) ?_
        refine oy rfl rfl (y_load_boxagg (c := [.int .i64 q76.1.Kind, .int .i64 x_19, .string (bs q76.1.S)]) 7 Tryz.isAgg44 Tryz.sizeOf44 rfl rfl rfl) ?_
        refine ot rfl rfl (t_lit [.agg #[.int .i64 q76.1.Kind, .int .i64 x_19, .string (bs q76.1.S)]] Tryz.runUnderlying23 Tryz.sizeOf44 Tryz.zeroValue44 rfl (by decide) (by decide) rfl (by simp [Value.cells, boxP])) ?_
        rintro v79 _ ⟨rfl, _⟩
        refine ops_turn (retell 8 (g := row v79 3 (([(S_api_Lexeme.mk q76.1.Kind x_19 q76.1.S)] : List S_api_Lexeme).map S_api_Lexeme.enc)) rfl rfl) ?_
        obtain ⟨hr81, h⟩ := need_some h
        refine ot rfl rfl (t_append (es := 3) 1 rfl Tryz.runUnderlying23 rfl Tryz.runUnderlying23 (.inr ⟨_, rfl⟩) Tryz.typeInfo44 rfl (by decide) Tryz.zeroValue44 rfl rfl rfl rfl (src_reads 8 rfl reads_row (map_ok S_api_Lexeme.enc_ok _)) (map_room hr81 (by decide)) (map_fit hr81)) ?_
        rintro v80 _ rfl
        refine ops_turn (retell 1 (g := row v80 3 ((x_17 ++ ([(S_api_Lexeme.mk q76.1.Kind x_19 q76.1.S)] : List S_api_Lexeme)).map S_api_Lexeme.enc)) rfl (congrArg (row _ _) List.map_append.symm)) ?_
        refine ops_slc 1 rfl reads_row (fun hs82 hs82o => ?_)
        refine ot rfl rfl (t_store 0 Tryz.sizeOf23 rfl rfl rfl (by rw [hs82]; rfl) (by simp [Value.cells, boxP]) (by rw [hs82]; exact allL_cons hs82o (allL_nil))) ?_
        rintro _ _ ⟨rfl, rfl⟩
        refine ops_turn (retell 0 (g := box b1 [v80]) rfl (by rw [hs82]; rfl)) ?_
        refine ops_nil ?_
        refine goes_code ?_
        refine run_exit _ rfl ?_
        refine goes_blk ?_
        obtain rfl := some_eq h
        exact goes_cut hL33 (((x_17 ++ ([(S_api_Lexeme.mk q76.1.Kind x_19 q76.1.S)] : List S_api_Lexeme)), q76.2.s_, q76.2.at_), v80) [0, 1, 2, 6, 3, 4, 5] (qv6 rfl rfl rfl rfl rfl rfl) (by decide) rfl rfl
       ·replace h := cond_f h hc73
        refine run_skip ?_
        refine goes_blk ?_
        refine goes_code ?_
        refine run_weak [(0, .string (bs s_0)), (2, boxP b1 0), (3, boxP b2 0), (4, boxP b4 0), (5, boxP b5 0), (6, v8), (34, v8), (35, .int .i64 4), (36, .int .i64 2)] [0, 1, 2, 3, 4, 5, 6] [box b1 [v21], row v21 3 (x_17.map S_api_Lexeme.enc), box b2 [.int .i64 0, .int .i64 0], box b4 [.string (bs x_18), .int .i64 x_19], box b5 [.int .i64 x_19], row v8 2 [[.func (.func 41) #[] #[], .func (.func 42) #[] #[]], [.func (.func 43) #[] #[], .func (.func 44) #[] #[]], [.func (.func 45) #[] #[], .func (.func 46) #[] #[]], [.func (.func 47) #[] #[], .func (.func 48) #[] #[]]], globA] (qv9 rfl rfl rfl rfl rfl rfl rfl rfl rfl) (by decide) rfl ?_
        refine run_region' ?_
        refine oy rfl rfl (y_add rfl rfl) ?_
        refine oy rfl rfl (y_move rfl) ?_
        refine ops_nil ?_
        refine goes_times ?_
        refine run_seq ?_
        refine run_region' ?_
        refine oy rfl rfl (y_lss rfl rfl) ?_
        refine ops_nil ?_
        refine goes_code ?_
        refine run_seq ?_
        refine run_cond_t rfl ?_
        refine run_skip ?_
        refine goes_code ?_
        refine run_seq ?_
        refine run_block ?_
        refine run_seq ?_
        refine run_region' ?_
        refine oy rfl rfl (y_indexAddrI (kd := .i64) (i := 3) 5 Tryz.runUnderlying65 Tryz.sizeOf69 rfl rfl rfl reads_row (by decide) (by decide)) ?_
        refine oy rfl rfl (y_load_agg (i := (3 : Int).toNat) (c := [.func (.func 47) #[] #[], .func (.func 48) #[] #[]]) 5 Tryz.isAgg69 Tryz.sizeOf69 rfl rfl reads_row rfl) ?_
        refine ot rfl rfl (t_alloc Tryz.zeroValue69) ?_
        rintro _ _ ⟨b83, rfl, rfl⟩
        refine ot rfl rfl (t_store 7 Tryz.sizeOf69 rfl rfl rfl rfl (by simp [Value.cells, boxP]) (by simp [Value.cells, Value.oneCell', boxP])) ?_
        rintro _ _ ⟨rfl, rfl⟩
        refine ops_turn (retell 7 (g := box b83 [.func (.func 47) #[] #[], .func (.func 48) #[] #[]]) rfl rfl) ?_
        refine ops_nil ?_
        refine goes_code ?_
        refine run_seq ?_
        refine run_calm (fun L84 hL85 => ?_)
        refine run_drawany [box b1 [v21], row v21 3 (x_17.map S_api_Lexeme.enc), box b2 [.int .i64 0, .int .i64 0], box b4 [.string (bs x_18), .int .i64 x_19], box b5 [.int .i64 x_19], row v8 2 [[.func (.func 41) #[] #[], .func (.func 42) #[] #[]], [.func (.func 43) #[] #[], .func (.func 44) #[] #[]], [.func (.func 45) #[] #[], .func (.func 46) #[] #[]], [.func (.func 47) #[] #[], .func (.func 48) #[] #[]]], globA, box b83 [.func (.func 47) #[] #[], .func (.func 48) #[] #[]]] (by kernel_rfl) ?_
        refine any_y 0 rfl (by kernel_rfl) (by kernel_rfl) (by kernel_rfl) (ss (ss (ss (ss (ss (ss (ss (ss (sn))))))))) (wn rfl) rfl (y_fieldAddr_box (sz := 0) Tryz.runUnderlying69 rfl Tryz.sizeOf67 rfl) ?_
        refine any_y 1 rfl (by kernel_rfl) (by kernel_rfl) (by kernel_rfl) (ss (ss (ss (ss (ss (ss (ss (ss (sn))))))))) (wn rfl) rfl (y_load_box 7 Tryz.isAgg67 rfl rfl rfl) ?_
        refine any_y 2 rfl (by kernel_rfl) (by kernel_rfl) (by kernel_rfl) (ss (ss (ss (ss (ss (ss (ss (ss (sn))))))))) (wn rfl) rfl (y_move rfl) ?_
        refine any_y 3 rfl (by kernel_rfl) (by kernel_rfl) (by kernel_rfl) (ss (ss (ss (ss (ss (ss (ss (ss (sn))))))))) (wn rfl) rfl (y_load_box 4 Tryz.isAgg3 rfl rfl rfl) ?_
        obtain ⟨c86, hzc86, hlc86, hxc86, h⟩ := idx_some h
        refine any_y 4 rfl (by kernel_rfl) (by kernel_rfl) (by kernel_rfl) (ss (ss (ss (ss (ss (ss (ss (ss (sn))))))))) (wn rfl) rfl (y_index_strI (kd := .i64) (i := x_19) Tryz.runUnderlying9 rfl rfl hzc86 hxc86) ?_
        refine any_all [5] (by kernel_rfl) rfl (anyo_cons ?_ anyo_nil)
        obtain ⟨r87, hr88, h⟩ := obind_some h
        refine any_t rfl (wn rfl) rfl (t_callx (vs := [.int .u8 (c86.toNat : Int)]) (cs := []) [] rfl Tryz.call47 rfl (lexer_forms_2_47_ok  (c86.toNat : Int)  hr88) showsX_nil rfl (.inl rfl)) ?_
        rintro _ _ ⟨_, ⟨rfl, rfl⟩, rfl⟩
        refine ⟨(ss (ss (ss (ss (ss (ss (ss (ss (sn))))))))), ?_⟩
        refine any_nil (by kernel_rfl) ?_
        refine goes_calm hL85 ?_
        refine goes_code ?_
        refine run_cond r87 rfl (fun hc89 => ?_) (fun hc89 => ?_)
        ·replace h := cond_t h hc89
         refine run_seq ?_
         refine run_weak [(0, .string (bs s_0)), (2, boxP b1 0), (3, boxP b2 0), (4, boxP b4 0), (5, boxP b5 0), (6, v8), (8, boxP b83 0)] [0, 1, 2, 3, 4, 5, 6, 7] [box b1 [v21], row v21 3 (x_17.map S_api_Lexeme.enc), box b2 [.int .i64 0, .int .i64 0], box b4 [.string (bs x_18), .int .i64 x_19], box b5 [.int .i64 x_19], row v8 2 [[.func (.func 41) #[] #[], .func (.func 42) #[] #[]], [.func (.func 43) #[] #[], .func (.func 44) #[] #[]], [.func (.func 45) #[] #[], .func (.func 46) #[] #[]], [.func (.func 47) #[] #[], .func (.func 48) #[] #[]]], globA, box b83 [.func (.func 47) #[] #[], .func (.func 48) #[] #[]]] (qv7 rfl rfl rfl rfl rfl rfl rfl) (by decide) rfl ?_
         refine run_region' ?_
         refine oy rfl rfl (y_fieldAddr_box (sz := 0) Tryz.runUnderlying69 rfl Tryz.sizeOf68 rfl) ?_
         refine oy rfl rfl (y_load_box 7 Tryz.isAgg68 rfl rfl rfl) ?_
         refine oy rfl rfl (y_move rfl) ?_
         obtain ⟨r90, hr91, h⟩ := obind_some h
         rcases r90 with q92 | e93
         rotate_left
         ·replace h := pbind_pan h
          refine ops_tp (wn rfl) rfl (t_callp (vs := [boxP b4 0]) (cs := []) [(3, 2), (6, 0)] rfl Tryz.call48 rfl (weirgate_lexer_reader_sign_48_ok n  (S_lexer_reader.mk x_18 x_19) b4 hr91) (showsX_lend 3 rfl (showsX_view 6 rfl views_glob showsX_nil)) rfl (.inl rfl)) (by rintro _ _ ⟨_, ⟨_, hq, _⟩, _⟩; cases hq) ?_
          rintro _ ⟨_, he, rfl⟩
          obtain rfl := Pn.pan.inj he
          refine finP_rec Tryz.call26 (tokRec_pan b5 b1 b2 e93 x_19 4 0 2 rfl rfl rfl (by decide)) ?_
          refine fin_turn (nilrow 3) ?_
          refine fin_turn (retell 8 (g := row (.slice none 0 0) 3 (([] : List S_api_Lexeme).map S_api_Lexeme.enc)) rfl rfl) ?_
          obtain rfl := some_eq h
          obtain rfl := after_stop ho32
          skip
          obtain rfl := hstop24 _ rfl
          skip
          obtain rfl := after_stop ho12
          refine fin_resQ [.cell 2 23, .cell 3 26] [(.slice none 0 0), .agg #[.int .i64 x_19, .int .i64 e93]] [8] [row (.slice none 0 0) 3 (([] : List S_api_Lexeme).map S_api_Lexeme.enc)] Tryz.results10 rfl (rescons (res_boxs 0 Tryz.isAgg23 rfl rfl) (rescons (res_box 2 Tryz.isAgg26 Tryz.sizeOf26 rfl rfl rfl) resnil)) (by decide) rfl ?_
          exact ⟨_, rfl, rfl⟩
         replace h := pbind_ret h
         refine ot rfl rfl (t_callx (vs := [boxP b4 0]) (cs := []) [(3, 2), (6, 0)] rfl Tryz.call48 rfl (mp_ret (weirgate_lexer_reader_sign_48_ok n  (S_lexer_reader.mk x_18 x_19) b4 hr91)) (showsX_lend 3 rfl (showsX_view 6 rfl views_glob showsX_nil)) rfl (.inl rfl)) ?_
         rintro _ _ ⟨_, ⟨rfl, rfl⟩, rfl⟩
         refine ot rfl rfl (t_alloc Tryz.zeroValue44) ?_
         rintro _ _ ⟨b94, rfl, rfl⟩
         refine ot rfl rfl (t_store 9 Tryz.sizeOf44 rfl rfl rfl rfl (by simp [Value.cells, boxP]) (by simp [Value.cells, Value.oneCell', boxP])) ?_
         rintro _ _ ⟨rfl, rfl⟩
         refine ops_turn (retell 9 (g := box b94 [.int .i64 q92.1.Kind, .int .i64 q92.1.At, .string (bs q92.1.S)]) rfl rfl) ?_
         refine ops_nil ?_
         refine goes_code ?_
         refine run_seq ?_
         refine run_region' ?_
         refine oy rfl rfl (y_load_box 4 Tryz.isAgg3 rfl rfl rfl) ?_
         refine oy rfl rfl (y_fieldAddr_box (sz := 0) Tryz.runUnderlying44 rfl Tryz.sizeOf3 rfl) ?_
         refine ot rfl rfl (t_store 9 Tryz.sizeOf3 rfl rfl rfl rfl (by simp [Value.cells, boxP]) (by simp [Value.cells, Value.oneCell', boxP])) ?_
         rintro _ _ ⟨rfl, rfl⟩
         refine ops_turn (retell 9 (g := box b94 [.int .i64 q92.1.Kind, .int .i64 x_19, .string (bs q92.1.S)]) rfl rfl) ?_
         refine ops_nil ?_
         refine goes_code ?_
         refine run_seq ?_
         refine run_weak [(0, .string (bs s_0)), (2, boxP b1 0), (3, boxP b2 0), (4, boxP b4 0), (5, boxP b5 0), (6, v8), (9, boxP b94 0)] [0, 1, 2, 4, 5, 6, 8, 9] [box b1 [v21], row v21 3 (x_17.map S_api_Lexeme.enc), box b2 [.int .i64 0, .int .i64 0], box b5 [.int .i64 x_19], row v8 2 [[.func (.func 41) #[] #[], .func (.func 42) #[] #[]], [.func (.func 43) #[] #[], .func (.func 44) #[] #[]], [.func (.func 45) #[] #[], .func (.func 46) #[] #[]], [.func (.func 47) #[] #[], .func (.func 48) #[] #[]]], globA, box b4 [.string (bs q92.2.s_), .int .i64 q92.2.at_], box b94 [.int .i64 q92.1.Kind, .int .i64 x_19, .string (bs q92.1.S)]] (qv7 rfl rfl rfl rfl rfl rfl rfl) (by decide) rfl ?_
         refine run_region' ?_
         refine oy rfl rfl (y_load_box 0 Tryz.isAgg23 rfl rfl rfl) ?_
         refine oy rfl rfl (y_load_boxagg (c := [.int .i64 q92.1.Kind, .int .i64 x_19, .string (bs q92.1.S)]) 7 Tryz.isAgg44 Tryz.sizeOf44 rfl rfl rfl) ?_
         refine ot rfl rfl (t_lit [.agg #[.int .i64 q92.1.Kind, .int .i64 x_19, .string (bs q92.1.S)]] Tryz.runUnderlying23 Tryz.sizeOf44 Tryz.zeroValue44 rfl (by decide) (by decide) rfl (by simp [Value.cells, boxP])) ?_
         rintro v95 _ ⟨rfl, _⟩
         refine ops_turn (retell 8 (g := row v95 3 (([(S_api_Lexeme.mk q92.1.Kind x_19 q92.1.S)] : List S_api_Lexeme).map S_api_Lexeme.enc)) rfl rfl) ?_
         obtain ⟨hr97, h⟩ := need_some h
         refine ot rfl rfl (t_append (es := 3) 1 rfl Tryz.runUnderlying23 rfl Tryz.runUnderlying23 (.inr ⟨_, rfl⟩) Tryz.typeInfo44 rfl (by decide) Tryz.zeroValue44 rfl rfl rfl rfl (src_reads 8 rfl reads_row (map_ok S_api_Lexeme.enc_ok _)) (map_room hr97 (by decide)) (map_fit hr97)) ?_
         rintro v96 _ rfl
         refine ops_turn (retell 1 (g := row v96 3 ((x_17 ++ ([(S_api_Lexeme.mk q92.1.Kind x_19 q92.1.S)] : List S_api_Lexeme)).map S_api_Lexeme.enc)) rfl (congrArg (row _ _) List.map_append.symm)) ?_
         refine ops_slc 1 rfl reads_row (fun hs98 hs98o => ?_)
         refine ot rfl rfl (t_store 0 Tryz.sizeOf23 rfl rfl rfl (by rw [hs98]; rfl) (by simp [Value.cells, boxP]) (by rw [hs98]; exact allL_cons hs98o (allL_nil))) ?_
         rintro _ _ ⟨rfl, rfl⟩
         refine ops_turn (retell 0 (g := box b1 [v96]) rfl (by rw [hs98]; rfl)) ?_
         refine ops_nil ?_
         refine goes_code ?_
         refine run_exit _ rfl ?_
         refine goes_blk ?_
         obtain rfl := some_eq h
         exact goes_cut hL33 (((x_17 ++ ([(S_api_Lexeme.mk q92.1.Kind x_19 q92.1.S)] : List S_api_Lexeme)), q92.2.s_, q92.2.at_), v96) [0, 1, 2, 6, 3, 4, 5] (qv6 rfl rfl rfl rfl rfl rfl) (by decide) rfl rfl
        ·replace h := cond_f h hc89
         refine run_skip ?_
         refine goes_blk ?_
         refine goes_code ?_
         refine run_weak [(0, .string (bs s_0)), (2, boxP b1 0), (3, boxP b2 0), (4, boxP b4 0), (5, boxP b5 0), (6, v8), (34, v8), (35, .int .i64 4), (36, .int .i64 3)] [0, 1, 2, 3, 4, 5, 6] [box b1 [v21], row v21 3 (x_17.map S_api_Lexeme.enc), box b2 [.int .i64 0, .int .i64 0], box b4 [.string (bs x_18), .int .i64 x_19], box b5 [.int .i64 x_19], row v8 2 [[.func (.func 41) #[] #[], .func (.func 42) #[] #[]], [.func (.func 43) #[] #[], .func (.func 44) #[] #[]], [.func (.func 45) #[] #[], .func (.func 46) #[] #[]], [.func (.func 47) #[] #[], .func (.func 48) #[] #[]]], globA] (qv9 rfl rfl rfl rfl rfl rfl rfl rfl rfl) (by decide) rfl ?_
         refine run_region' ?_
         refine oy rfl rfl (y_add rfl rfl) ?_
         refine oy rfl rfl (y_move rfl) ?_
         refine ops_nil ?_
         refine goes_times ?_
         refine run_seq ?_
         refine run_region' ?_
         refine oy rfl rfl (y_lss rfl rfl) ?_
         refine ops_nil ?_
         refine goes_code ?_
         refine run_seq ?_
         refine run_cond_f rfl ?_
         refine run_exit _ rfl ?_
         refine goes_blk ?_
         obtain rfl := some_eq h
         exact goes_cut hL33 ((x_17, x_18, x_19), v21) [0, 1, 2, 3, 4, 5, 6] (qv6 rfl rfl rfl rfl rfl rfl) (by decide) rfl rfl
    rintro ⟨⟨x_27, x_28, x_29⟩, v30⟩ hj
    obtain rfl : o31 = _ := hj
    replace h := after_go ho32
    clear ho32
    change Run _ _ _ (VF.of [(0, .string (bs s_0)), (2, boxP b1 0), (3, boxP b2 0), (4, boxP b4 0), (5, boxP b5 0), (6, v8)]) [box b1 [v30], row v30 3 (x_27.map S_api_Lexeme.enc), box b2 [.int .i64 0, .int .i64 0], box b4 [.string (bs x_28), .int .i64 x_29], box b5 [.int .i64 x_19], row v8 2 [[.func (.func 41) #[] #[], .func (.func 42) #[] #[]], [.func (.func 43) #[] #[], .func (.func 44) #[] #[]], [.func (.func 45) #[] #[], .func (.func 46) #[] #[]], [.func (.func 47) #[] #[], .func (.func 48) #[] #[]]], globA]
    refine run_region' ?_
    refine oy rfl rfl (y_move rfl) ?_
    obtain ⟨r99, hr100, h⟩ := obind_some h
    refine ot rfl rfl (t_callx (vs := [boxP b4 0]) (cs := []) [(3, 2)] rfl Tryz.call28 rfl (weirgate_lexer_reader_space_28_ok n  (S_lexer_reader.mk x_28 x_29) b4 hr100) (showsX_lend 3 rfl showsX_nil) rfl (.inl rfl)) ?_
    rintro _ _ ⟨_, ⟨rfl, rfl⟩, rfl⟩
    refine ops_nil ?_
    obtain rfl := some_eq h
    exact goes_iter hgo23 (x_27, r99.s_, r99.at_, x_19) v30 [0, 1, 2, 7, 4, 5, 6] rfl (qv6 rfl rfl rfl rfl rfl rfl) (by decide) rfl
   ·replace h := cond_f h hc26
    refine run_exit _ rfl ?_
    obtain rfl := some_eq h
    obtain rfl := hstop24 _ rfl
    exact goes_cut hL13 (x_17, v21) [0, 1, 2, 6] (qv2 rfl rfl) (by decide) rfl rfl
  rintro ⟨x_9, v10⟩ hj
  obtain rfl : o11 = _ := hj
  replace h := after_go ho12
  clear ho12
  change Run _ _ _ (VF.of [(2, boxP b1 0), (3, boxP b2 0)]) [box b1 [v10], row v10 3 (x_9.map S_api_Lexeme.enc), box b2 [.int .i64 0, .int .i64 0], globA]
  refine run_seq ?_
  refine run_region' ?_
  refine oy rfl rfl (y_load_box 0 Tryz.isAgg23 rfl rfl rfl) ?_
  refine oy rfl rfl (y_build_struct (cells := #[.int .i64 0, .int .i64 0]) [] [] Tryz.zeroValue26 Tryz.runUnderlying26 (fs_cons Tryz.sizeOf3 (fs_cons Tryz.sizeOf24 fs_nil)) rfl rfl rfl) ?_
  refine ops_slc 1 rfl reads_row (fun hs101 hs101o => ?_)
  refine ot rfl rfl (t_store 0 Tryz.sizeOf23 rfl rfl rfl (by rw [hs101]; rfl) (by simp [Value.cells, boxP]) (by rw [hs101]; exact allL_cons hs101o (allL_nil))) ?_
  rintro _ _ ⟨rfl, rfl⟩
  refine ops_turn (retell 0 (g := box b1 [v10]) rfl (by rw [hs101]; rfl)) ?_
  refine ot rfl rfl (t_store 2 Tryz.sizeOf26 rfl rfl rfl rfl (by simp [Value.cells, boxP]) (by simp [Value.cells, Value.oneCell', boxP])) ?_
  rintro _ _ ⟨rfl, rfl⟩
  refine ops_turn (retell 2 (g := box b2 [.int .i64 0, .int .i64 0]) rfl rfl) ?_
  refine ops_nil ?_
  refine goes_code ?_
  refine run_ret ?_
  refine fin_rec Tryz.call26 (tokRec_ret b5 b1 b2 _) ?_
  obtain rfl := some_eq h
  refine fin_resQ [.cell 2 23, .cell 3 26] [v10, .agg #[.int .i64 0, .int .i64 0]] [1] [row v10 3 (x_9.map S_api_Lexeme.enc)] Tryz.results10 rfl (rescons (res_boxs 0 Tryz.isAgg23 rfl rfl) (rescons (res_box 2 Tryz.isAgg26 Tryz.sizeOf26 rfl rfl rfl) resnil)) (by decide) rfl ?_
  exact ⟨_, rfl, rfl⟩

def lexer_write (t_0 : S_api_Lexeme) : Option ((List UInt8)) :=
 cond (decide (t_0.Kind ≠ 4))
  (some t_0.S)
  (obind (newReplH ([[34], [92, 34], [92], [92, 92]] : List (List UInt8))) fun r4 =>
  obind (replaceH 0 0 0 ([[34], [92, 34], [92], [92, 92]] : List (List UInt8)) t_0.S) fun r8 =>
  need ([34].length + r8.length ≤ 4294967296) (
  need (([34] ++ r8).length + [34].length ≤ 4294967296) (
  some (([34] ++ r8) ++ [34]))))
theorem lexer_write_ok (t_0 : S_api_Lexeme)  {r : (List UInt8)} (h : lexer_write t_0 = some r) :
  Meets Tryz.prog 38 [.agg #[.int .i64 t_0.Kind, .int .i64 t_0.At, .string (bs t_0.S)]] [] (fun v G => v = .string (bs r) ∧ G = []) := by
 refine fn_of_run Tryz.func38 rfl Tryz.ntmps38 rfl (fun w0 o0 => ?_)
 refine run_seq ?_
 refine run_region' ?_
 refine ot rfl rfl (t_box rfl) ?_
 rintro _ _ ⟨b1, rfl, rfl⟩
 refine oy rfl rfl (y_assign rfl) ?_
 refine ops_nil ?_
 refine goes_code ?_
 refine run_seq ?_
 refine run_seq ?_
 refine run_region' ?_
 refine oy rfl rfl (y_fieldAddr_box (sz := 0) Tryz.runUnderlying44 rfl Tryz.sizeOf3 rfl) ?_
 refine oy rfl rfl (y_load_box 0 Tryz.isAgg3 rfl rfl rfl) ?_
 refine oy rfl rfl (y_neq rfl rfl) ?_
 refine ops_nil ?_
 refine goes_code ?_
 refine run_cond (decide (t_0.Kind ≠ 4)) rfl (fun hc2 => ?_) (fun hc2 => ?_)
 ·replace h := cond_t h hc2
  refine run_seq ?_
  refine run_region' ?_
  refine oy rfl rfl (y_fieldAddr_box (sz := 0) Tryz.runUnderlying44 rfl Tryz.sizeOf9 rfl) ?_
  refine oy rfl rfl (y_load_box 0 Tryz.isAgg9 rfl rfl rfl) ?_
  refine oy rfl rfl (y_assign rfl) ?_
  refine ops_nil ?_
  refine goes_code ?_
  refine run_ret ?_
  obtain rfl := some_eq h
  refine fin_slots [2] [.string (bs t_0.S)] [] [] Tryz.results38 rfl (by decide) rfl ?_
  exact ⟨rfl, rfl⟩
 ·replace h := cond_f h hc2
  refine run_skip ?_
  refine goes_code ?_
  refine run_seq ?_
  refine run_drawany [box b1 [.int .i64 t_0.Kind, .int .i64 t_0.At, .string (bs t_0.S)]] (by kernel_rfl) ?_
  refine any_y 2 rfl (by kernel_rfl) (by kernel_rfl) (by kernel_rfl) (ss (sn)) (wn rfl) rfl (y_fieldAddr_box (sz := 0) Tryz.runUnderlying44 rfl Tryz.sizeOf9 rfl) ?_
  refine any_y 3 rfl (by kernel_rfl) (by kernel_rfl) (by kernel_rfl) (ss (sn)) (wn rfl) rfl (y_load_box 0 Tryz.isAgg9 rfl rfl rfl) ?_
  refine any_all [0] (by kernel_rfl) rfl (anyo_cons ?_ anyo_nil)
  refine any_t rfl (wn rfl) rfl (t_lit [.string (bs [34]), .string (bs [92, 34]), .string (bs [92]), .string (bs [92, 92])] Tryz.runUnderlying39 Tryz.sizeOf9 Tryz.zeroValue9 rfl (by decide) (by decide) rfl (by simp [Value.cells, boxP])) ?_
  rintro v3 _ ⟨rfl, _⟩
  refine ⟨(ss (sn)), ?_⟩
  refine any_turn (retell 1 (g := row v3 1 (([[34], [92, 34], [92], [92, 92]] : List (List UInt8)).map eStr)) rfl rfl) ?_
  refine any_all [1] (by kernel_rfl) rfl (anyo_cons ?_ anyo_nil)
  obtain ⟨r4, hr5, h⟩ := obind_some h
  refine any_t rfl (wn rfl) rfl (t_callx (vs := [v3]) (cs := []) [(1, 1)] rfl Tryz.call67 rfl (newReplH_ok  ([[34], [92, 34], [92], [92, 92]] : List (List UInt8)) v3 hr5) (showsX_look 1 rfl views_row showsX_nil) rfl (.inr (by rintro _ _ ⟨_, _, rfl, rfl⟩ g hg; first | (cases hg; done) | (simp only [List.mem_cons, List.not_mem_nil, or_false] at hg; first | (subst hg; first | exact strict_row | exact strict_box) | (rcases hg with rfl | rfl <;> first | exact strict_row | exact strict_box) | (rcases hg with rfl | rfl | rfl <;> first | exact strict_row | exact strict_box))))) ?_
  rintro _ _ ⟨_, ⟨v6, v7, rfl, rfl⟩, rfl⟩
  refine ⟨(ss (sn)), ?_⟩
  refine any_all [4] (by kernel_rfl) rfl (anyo_cons ?_ anyo_nil)
  obtain ⟨r8, hr9, h⟩ := obind_some h
  refine any_t rfl (wn rfl) rfl (t_callx (vs := [boxP v7 0, .string (bs t_0.S)]) (cs := []) [(2, 2), (3, 2)] rfl Tryz.call68 rfl (replaceH_ok  0 0 0 ([[34], [92, 34], [92], [92, 92]] : List (List UInt8)) t_0.S v7 v6 hr9) (showsX_lend 2 rfl (showsX_lend 3 rfl showsX_nil)) rfl (.inl rfl)) ?_
  rintro _ _ ⟨_, ⟨rfl, rfl⟩, rfl⟩
  refine ⟨(ss (sn)), ?_⟩
  obtain ⟨hs10, h⟩ := need_some h
  refine any_y 5 rfl (by kernel_rfl) (by kernel_rfl) (by kernel_rfl) (ss (sn)) (wn rfl) rfl (y_sadd rfl rfl hs10) ?_
  obtain ⟨hs11, h⟩ := need_some h
  refine any_y 6 rfl (by kernel_rfl) (by kernel_rfl) (by kernel_rfl) (ss (sn)) (wn rfl) rfl (y_sadd rfl rfl hs11) ?_
  refine any_y 7 rfl (by kernel_rfl) (by kernel_rfl) (by kernel_rfl) (ss (sn)) (wn rfl) rfl (y_assign rfl) ?_
  refine any_nil (by kernel_rfl) ?_
  refine goes_code ?_
  refine run_ret ?_
  obtain rfl := some_eq h
  refine fin_slots [2] [.string (bs (([34] ++ r8) ++ [34]))] [] [] Tryz.results38 rfl (by decide) rfl ?_
  exact ⟨rfl, rfl⟩

def lexer_isToken (n : Nat) (t_0 : S_api_Lexeme) : Option (Bool) :=
 obind (lexer_write t_0) fun r2 =>
 obind (lexer_Tokens n r2) fun r4 =>
 bindJ (S := Bool)
  (cond (decide (r4.2.E = 0) && decide ((r4.1.length : Int) = 1))
   (idx r4.1 0 fun x17 =>
   some (.go (decide (x17.Kind = t_0.Kind) && (decide (x17.At = 0) && (decide (x17.S = t_0.S))))))
   (some (.go false)))
 (fun b11 =>
  some b11)
theorem lexer_isToken_ok (n : Nat) (t_0 : S_api_Lexeme)  {r : Bool} (h : lexer_isToken n t_0 = some r) :
  Meets Tryz.prog 35 [.agg #[.int .i64 t_0.Kind, .int .i64 t_0.At, .string (bs t_0.S)]] [globA] (fun v G => v = .bool r ∧ G = []) := by
 refine fn_of_run Tryz.func35 rfl Tryz.ntmps35 rfl (fun w0 o0 => ?_)
 refine run_seq ?_
 refine run_region' ?_
 refine ot rfl rfl (t_box rfl) ?_
 rintro _ _ ⟨b1, rfl, rfl⟩
 refine oy rfl rfl (y_assign rfl) ?_
 refine ops_nil ?_
 refine goes_code ?_
 refine run_seq ?_
 refine run_region' ?_
 refine oy rfl rfl (y_load_boxagg (c := [.int .i64 t_0.Kind, .int .i64 t_0.At, .string (bs t_0.S)]) 1 Tryz.isAgg44 Tryz.sizeOf44 rfl rfl rfl) ?_
 obtain ⟨r2, hr3, h⟩ := obind_some h
 refine ot rfl rfl (t_callx (vs := [.agg #[.int .i64 t_0.Kind, .int .i64 t_0.At, .string (bs t_0.S)]]) (cs := []) [] rfl Tryz.call38 rfl (lexer_write_ok  t_0  hr3) showsX_nil rfl (.inl rfl)) ?_
 rintro _ _ ⟨_, ⟨rfl, rfl⟩, rfl⟩
 obtain ⟨r4, hr5, h⟩ := obind_some h
 refine ot rfl rfl (t_callx (vs := [.string (bs r2)]) (cs := []) [(0, 0)] rfl Tryz.call10 rfl (lexer_Tokens_ok n  r2  hr5) (showsX_view 0 rfl views_glob showsX_nil) rfl (.inl rfl)) ?_
 rintro _ _ ⟨_, ⟨v6, rfl, rfl⟩, rfl⟩
 refine oy rfl rfl (y_move rfl) ?_
 refine oy rfl rfl (y_extract rfl rfl) ?_
 refine oy rfl rfl (y_extract rfl rfl) ?_
 refine ot rfl rfl (t_alloc Tryz.zeroValue26) ?_
 rintro _ _ ⟨b7, rfl, rfl⟩
 refine oy rfl rfl (y_assign rfl) ?_
 refine ot rfl rfl (t_store 3 Tryz.sizeOf26 rfl rfl rfl rfl (by simp [Value.cells, boxP]) (by simp [Value.cells, Value.oneCell', boxP])) ?_
 rintro _ _ ⟨rfl, rfl⟩
 refine ops_turn (retell 3 (g := box b7 [.int .i64 r4.2.At, .int .i64 r4.2.E]) rfl rfl) ?_
 refine ops_nil ?_
 refine goes_code ?_
 refine run_seq ?_
 refine run_weak [(1, boxP b1 0), (4, boxP b7 0), (3, v6)] [0, 1, 2, 3] [globA, box b1 [.int .i64 t_0.Kind, .int .i64 t_0.At, .string (bs t_0.S)], row v6 3 (r4.1.map S_api_Lexeme.enc), box b7 [.int .i64 r4.2.At, .int .i64 r4.2.E]] (qv3 rfl rfl rfl) (by decide) rfl ?_
 refine run_draw (by kernel_rfl) (by kernel_rfl) ?_
 refine sy rfl rfl (y_fieldAddr_box (sz := 0) Tryz.runUnderlying26 rfl Tryz.sizeOf24 rfl) ?_
 refine sy rfl rfl (y_load_box 3 Tryz.isAgg24 rfl rfl rfl) ?_
 refine sy rfl rfl (y_eql rfl rfl) ?_
 refine sy rfl rfl (y_move rfl) ?_
 refine still_cut 4 (Bool) (fun σ => [(1, boxP b1 0), (3, v6), (18, .bool σ)]) (fun σ => [globA, box b1 [.int .i64 t_0.Kind, .int .i64 t_0.At, .string (bs t_0.S)], row v6 3 (r4.1.map S_api_Lexeme.enc), box b7 [.int .i64 r4.2.At, .int .i64 r4.2.E]]) (fun σ => σ = (decide (r4.2.E = 0) && decide ((r4.1.length : Int) = 1))) (fun L8 hL9 => ?_) ?_
 ·refine still_split 14 (decide (r4.2.E = 0)) rfl (fun hg10 => ?_) (fun hg10 => ?_)
  ·skip
   refine still_y (wg 3 true 14 rfl rfl rfl rfl) rfl (y_move rfl) ?_
   refine still_y (wg 3 true 14 rfl rfl rfl rfl) rfl ((y_len 2 rfl Tryz.runUnderlying23 rfl rfl reads_row).to (v_len S_api_Lexeme.enc _)) ?_
   refine still_y (wg 3 true 14 rfl rfl rfl rfl) rfl (y_eql rfl rfl) ?_
   refine sy rfl rfl (y_pick (b := true) rfl rfl) ?_
   refine still_nil ?_
   exact goes_cut hL9 (decide ((r4.1.length : Int) = 1)) [0, 1, 2, 3] (qv3 rfl rfl rfl) (by decide) rfl (by rw [hg10]; simp)
  ·skip
   refine still_no 3 true 14 rfl rfl rfl rfl rfl ?_
   refine still_no 3 true 14 rfl rfl rfl rfl rfl ?_
   refine still_no 3 true 14 rfl rfl rfl rfl rfl ?_
   refine sy rfl rfl (y_pick (b := false) rfl rfl) ?_
   refine still_nil ?_
   exact goes_cut hL9 false [0, 1, 2, 3] (qv3 rfl rfl rfl) (by decide) rfl (by rw [hg10]; simp)
 rintro _ rfl
 refine sy rfl rfl (y_move rfl) ?_
 obtain ⟨o12, h, ho13⟩ := bindJ_some h
 refine still_cut 10 (Bool) (fun σ => [(29, .bool σ)]) (fun σ => [globA, box b1 [.int .i64 t_0.Kind, .int .i64 t_0.At, .string (bs t_0.S)], row v6 3 (r4.1.map S_api_Lexeme.enc), box b7 [.int .i64 r4.2.At, .int .i64 r4.2.E]]) (fun σ => o12 = .go σ) (fun L14 hL15 => ?_) ?_
 ·refine still_split 19 (decide (r4.2.E = 0) && decide ((r4.1.length : Int) = 1)) rfl (fun hg16 => ?_) (fun hg16 => ?_)
  ·replace h := cond_t h hg16
   refine still_y (wg 8 true 19 rfl rfl rfl rfl) rfl (y_move rfl) ?_
   obtain ⟨x17, hzx17, hlx17, hxx17, h⟩ := idx_some h
   refine still_y (wg 8 true 19 rfl rfl rfl rfl) rfl (y_indexAddrI (kd := .i64) (i := 0) 2 Tryz.runUnderlying23 Tryz.sizeOf44 rfl rfl rfl reads_row hzx17 (map_lt hlx17)) ?_
   refine still_y (wg 8 true 19 rfl rfl rfl rfl) rfl (y_load_agg (i := (0 : Int).toNat) (c := [.int .i64 x17.Kind, .int .i64 x17.At, .string (bs x17.S)]) 2 Tryz.isAgg44 Tryz.sizeOf44 rfl rfl reads_row (map_get hxx17)) ?_
   refine still_y (wg 8 true 19 rfl rfl rfl rfl) rfl (y_fieldAddr_box (sz := 0) Tryz.runUnderlying44 rfl Tryz.sizeOf3 rfl) ?_
   refine still_y (wg 8 true 19 rfl rfl rfl rfl) rfl (y_load_box 1 Tryz.isAgg3 rfl rfl rfl) ?_
   refine still_y (wg 8 true 19 rfl rfl rfl rfl) rfl (y_fieldAddr_box (sz := 0) Tryz.runUnderlying44 rfl Tryz.sizeOf9 rfl) ?_
   refine still_y (wg 8 true 19 rfl rfl rfl rfl) rfl (y_load_box 1 Tryz.isAgg9 rfl rfl rfl) ?_
   refine still_y (wg 8 true 19 rfl rfl rfl rfl) rfl (y_build_struct (cells := #[.int .i64 t_0.Kind, .int .i64 0, .string (bs t_0.S)]) [(0, .int .i64 t_0.Kind), (2, .string (bs t_0.S))] [(0, [.int .i64 t_0.Kind]), (2, [.string (bs t_0.S)])] Tryz.zeroValue44 Tryz.runUnderlying44 (fs_cons Tryz.sizeOf3 (fs_cons Tryz.sizeOf3 (fs_cons Tryz.sizeOf9 fs_nil))) rfl rfl rfl) ?_
   refine still_y (wg 8 true 19 rfl rfl rfl rfl) rfl (y_eqS (by kernel_rfl) (by kernel_rfl) Tryz.runUnderlying44 rfl rfl (.cons (eqf_int (by decide) Tryz.runUnderlying3 Tryz.isAgg3 rfl rfl) (.cons (eqf_int (by decide) Tryz.runUnderlying3 Tryz.isAgg3 rfl rfl) (.cons (eqf_str (by decide) Tryz.runUnderlying9 Tryz.isAgg9 rfl rfl) EqFs.nil)))) ?_
   refine sy rfl rfl (y_pick (b := true) rfl rfl) ?_
   refine still_nil ?_
   obtain rfl := some_eq h
   exact goes_cut hL15 (decide (x17.Kind = t_0.Kind) && (decide (x17.At = 0) && (decide (x17.S = t_0.S)))) [0, 1, 2, 3] (qv1 rfl) (by decide) rfl rfl
  ·replace h := cond_f h hg16
   refine still_no 8 true 19 rfl rfl rfl rfl rfl ?_
   refine still_no 8 true 19 rfl rfl rfl rfl rfl ?_
   refine still_no 8 true 19 rfl rfl rfl rfl rfl ?_
   refine still_no 8 true 19 rfl rfl rfl rfl rfl ?_
   refine still_no 8 true 19 rfl rfl rfl rfl rfl ?_
   refine still_no 8 true 19 rfl rfl rfl rfl rfl ?_
   refine still_no 8 true 19 rfl rfl rfl rfl rfl ?_
   refine still_no 8 true 19 rfl rfl rfl rfl rfl ?_
   refine still_no 8 true 19 rfl rfl rfl rfl rfl ?_
   refine sy rfl rfl (y_pick (b := false) rfl rfl) ?_
   refine still_nil ?_
   obtain rfl := some_eq h
   exact goes_cut hL15 false [0, 1, 2, 3] (qv1 rfl) (by decide) rfl rfl
 rintro b11 hj
 obtain rfl : o12 = _ := hj
 replace h := after_go ho13
 clear ho13
 refine sy rfl rfl (y_assign rfl) ?_
 refine still_nil ?_
 refine goes_code ?_
 refine run_ret ?_
 obtain rfl := some_eq h
 refine fin_slots [2] [.bool b11] [] [] Tryz.results35 rfl (by decide) rfl ?_
 exact ⟨rfl, rfl⟩

def lexer_Value (n : Nat) (t_0 : S_api_Lexeme) : Option (Int × Int) :=
 bindJ (S := Bool)
  (cond (decide (t_0.Kind ≠ 3))
   (some (.go true))
   (obind (lexer_isToken n t_0) fun r8 =>
   some (.go (!r8))))
 (fun b2 =>
  cond b2
   (some (0, 1))
   (obind (atoiH t_0.S) fun r11 =>
   some (r11.1, 0)))
theorem lexer_Value_ok (n : Nat) (t_0 : S_api_Lexeme)  {r : Int × Int} (h : lexer_Value n t_0 = some r) :
  Meets Tryz.prog 20 [.agg #[.int .i64 t_0.Kind, .int .i64 t_0.At, .string (bs t_0.S)]] [globA] (fun v G => v = .tuple #[.int .i64 r.1, .int .i64 r.2] ∧ G = []) := by
 refine fn_of_run Tryz.func20 rfl Tryz.ntmps20 rfl (fun w0 o0 => ?_)
 refine run_seq ?_
 refine run_region' ?_
 refine ot rfl rfl (t_box rfl) ?_
 rintro _ _ ⟨b1, rfl, rfl⟩
 refine oy rfl rfl (y_assign rfl) ?_
 refine oy rfl rfl (y_assign rfl) ?_
 refine ops_nil ?_
 refine goes_code ?_
 refine run_seq ?_
 refine run_seq ?_
 refine run_region' ?_
 refine oy rfl rfl (y_fieldAddr_box (sz := 0) Tryz.runUnderlying44 rfl Tryz.sizeOf3 rfl) ?_
 refine oy rfl rfl (y_load_box 1 Tryz.isAgg3 rfl rfl rfl) ?_
 refine oy rfl rfl (y_neq rfl rfl) ?_
 refine oy rfl rfl (y_move rfl) ?_
 obtain ⟨o3, h, ho4⟩ := bindJ_some h
 refine ops_cut 4 (Bool) (fun σ => [(1, boxP b1 0), (13, .bool σ)]) (fun σ => [globA, box b1 [.int .i64 t_0.Kind, .int .i64 t_0.At, .string (bs t_0.S)]]) (fun σ => o3 = .go σ) (fun L5 hL6 => ?_) ?_
 ·refine ops_split 9 (decide (t_0.Kind ≠ 3)) rfl (fun hg7 => ?_) (fun hg7 => ?_)
  ·replace h := cond_t h hg7
   refine ops_no 3 false 9 rfl rfl rfl rfl rfl ?_
   refine ops_no 3 false 9 rfl rfl rfl rfl rfl ?_
   refine ops_no 3 false 9 rfl rfl rfl rfl rfl ?_
   refine oy rfl rfl (y_pick (b := true) rfl rfl) ?_
   refine ops_nil ?_
   obtain rfl := some_eq h
   exact goes_cut hL6 true [0, 1] (qv2 rfl rfl) (by decide) rfl rfl
  ·replace h := cond_f h hg7
   refine ops_y (wg 3 false 9 rfl rfl rfl rfl) rfl (y_load_boxagg (c := [.int .i64 t_0.Kind, .int .i64 t_0.At, .string (bs t_0.S)]) 1 Tryz.isAgg44 Tryz.sizeOf44 rfl rfl rfl) ?_
   obtain ⟨r8, hr9, h⟩ := obind_some h
   refine ops_t (wg 3 false 9 rfl rfl rfl rfl) rfl (t_callx (vs := [.agg #[.int .i64 t_0.Kind, .int .i64 t_0.At, .string (bs t_0.S)]]) (cs := []) [(0, 0)] rfl Tryz.call35 rfl (lexer_isToken_ok n  t_0  hr9) (showsX_view 0 rfl views_glob showsX_nil) rfl (.inl rfl)) ?_
   rintro _ _ ⟨_, ⟨rfl, rfl⟩, rfl⟩
   refine ops_y (wg 3 false 9 rfl rfl rfl rfl) rfl (y_not rfl) ?_
   refine oy rfl rfl (y_pick (b := false) rfl rfl) ?_
   refine ops_nil ?_
   obtain rfl := some_eq h
   exact goes_cut hL6 (!r8) [0, 1] (qv2 rfl rfl) (by decide) rfl rfl
 rintro b2 hj
 obtain rfl : o3 = _ := hj
 replace h := after_go ho4
 clear ho4
 refine ops_nil ?_
 refine goes_code ?_
 refine run_cond b2 rfl (fun hc10 => ?_) (fun hc10 => ?_)
 ·replace h := cond_t h hc10
  refine run_seq ?_
  refine run_region' ?_
  refine oy rfl rfl (y_assign rfl) ?_
  refine oy rfl rfl (y_assign rfl) ?_
  refine ops_nil ?_
  refine goes_code ?_
  refine run_ret ?_
  obtain rfl := some_eq h
  refine fin_slots [2, 3] [.int .i64 0, .int .i64 1] [] [] Tryz.results20 rfl (by decide) rfl ?_
  exact ⟨rfl, rfl⟩
 ·replace h := cond_f h hc10
  refine run_skip ?_
  refine goes_code ?_
  refine run_seq ?_
  refine run_region' ?_
  refine oy rfl rfl (y_fieldAddr_box (sz := 0) Tryz.runUnderlying44 rfl Tryz.sizeOf9 rfl) ?_
  refine oy rfl rfl (y_load_box 1 Tryz.isAgg9 rfl rfl rfl) ?_
  obtain ⟨r11, hr12, h⟩ := obind_some h
  refine ot rfl rfl (t_callx (vs := [.string (bs t_0.S)]) (cs := []) [(0, 0)] rfl Tryz.call36 rfl (atoiH_ok  t_0.S  hr12) (showsX_view 0 rfl views_glob showsX_nil) rfl (.inl rfl)) ?_
  rintro _ _ ⟨_, ⟨v13, rfl, rfl⟩, rfl⟩
  refine oy rfl rfl (y_move rfl) ?_
  refine oy rfl rfl (y_extract rfl rfl) ?_
  refine oy rfl rfl (y_extract rfl rfl) ?_
  refine oy rfl rfl (y_assign rfl) ?_
  refine oy rfl rfl (y_assign rfl) ?_
  refine ops_nil ?_
  refine goes_code ?_
  refine run_seq ?_
  refine run_weak [(4, .int .i64 r11.1)] [0] [globA] (qv1 rfl) (by decide) rfl ?_
  refine run_region' ?_
  refine oy rfl rfl (y_move rfl) ?_
  refine oy rfl rfl (y_assign rfl) ?_
  refine oy rfl rfl (y_assign rfl) ?_
  refine ops_nil ?_
  refine goes_code ?_
  refine run_ret ?_
  obtain rfl := some_eq h
  refine fin_slots [2, 3] [.int .i64 r11.1, .int .i64 0] [] [] Tryz.results20 rfl (by decide) rfl ?_
  exact ⟨rfl, rfl⟩

def lexer_Place (s_0 : (List UInt8)) (at_1 : Int) : Option (Int × Int) :=
 cond (decide (at_1 < 0) || decide ((s_0.length : Int) < at_1))
  (some (0, 0))
  (need (0 ≤ (0 : Int) ∧ 0 ≤ at_1 ∧ at_1 ≤ (s_0.length : Int)) (
  need (0 ≤ (0 : Int) ∧ 0 ≤ at_1 ∧ at_1 ≤ (s_0.length : Int)) (
  obind (countH (s_0.take at_1.toNat) [10]) fun r7 =>
  obind (lastH (s_0.take at_1.toNat) 10) fun r9 =>
  some ((IntKind.i64.wrap (1 + r7)), (IntKind.i64.wrap (at_1 - r9))))))
theorem lexer_Place_ok (s_0 : (List UInt8)) (at_1 : Int)  {r : Int × Int} (h : lexer_Place s_0 at_1 = some r) :
  Meets Tryz.prog 12 [.string (bs s_0), .int .i64 at_1] [] (fun v G => v = .tuple #[.int .i64 r.1, .int .i64 r.2] ∧ G = []) := by
 refine fn_of_run Tryz.func12 rfl Tryz.ntmps12 rfl (fun w0 o0 => ?_)
 refine run_seq ?_
 refine run_region' ?_
 refine oy rfl rfl (y_assign rfl) ?_
 refine oy rfl rfl (y_assign rfl) ?_
 refine ops_nil ?_
 refine goes_code ?_
 refine run_seq ?_
 refine run_seq ?_
 refine run_region' ?_
 refine oy rfl rfl (y_move rfl) ?_
 refine oy rfl rfl (y_lss rfl rfl) ?_
 refine oy rfl rfl (y_move rfl) ?_
 refine ops_cut 5 (Bool) (fun σ => [(0, .string (bs s_0)), (1, .int .i64 at_1), (13, .bool σ)]) (fun σ => []) (fun σ => σ = (decide (at_1 < 0) || decide ((s_0.length : Int) < at_1))) (fun L1 hL2 => ?_) ?_
 ·refine ops_split 8 (decide (at_1 < 0)) rfl (fun hg3 => ?_) (fun hg3 => ?_)
  ·skip
   refine ops_no 2 false 8 rfl rfl rfl rfl rfl ?_
   refine ops_no 2 false 8 rfl rfl rfl rfl rfl ?_
   refine ops_no 2 false 8 rfl rfl rfl rfl rfl ?_
   refine ops_no 2 false 8 rfl rfl rfl rfl rfl ?_
   refine oy rfl rfl (y_pick (b := true) rfl rfl) ?_
   refine ops_nil ?_
   exact goes_cut hL2 true [] (qv3 rfl rfl rfl) (by decide) rfl (by rw [hg3]; simp)
  ·skip
   refine ops_y (wg 2 false 8 rfl rfl rfl rfl) rfl (y_move rfl) ?_
   refine ops_y (wg 2 false 8 rfl rfl rfl rfl) rfl (y_move rfl) ?_
   refine ops_y (wg 2 false 8 rfl rfl rfl rfl) rfl (y_len_str rfl Tryz.runUnderlying9 rfl) ?_
   refine ops_y (wg 2 false 8 rfl rfl rfl rfl) rfl (y_gtr rfl rfl) ?_
   refine oy rfl rfl (y_pick (b := false) rfl rfl) ?_
   refine ops_nil ?_
   exact goes_cut hL2 (decide ((s_0.length : Int) < at_1)) [] (qv3 rfl rfl rfl) (by decide) rfl (by rw [hg3]; simp)
 rintro _ rfl
 refine ops_nil ?_
 refine goes_code ?_
 refine run_cond (decide (at_1 < 0) || decide ((s_0.length : Int) < at_1)) rfl (fun hc4 => ?_) (fun hc4 => ?_)
 ·replace h := cond_t h hc4
  refine run_seq ?_
  refine run_region' ?_
  refine oy rfl rfl (y_assign rfl) ?_
  refine oy rfl rfl (y_assign rfl) ?_
  refine ops_nil ?_
  refine goes_code ?_
  refine run_ret ?_
  obtain rfl := some_eq h
  refine fin_slots [4, 5] [.int .i64 0, .int .i64 0] [] [] Tryz.results12 rfl (by decide) rfl ?_
  exact ⟨rfl, rfl⟩
 ·replace h := cond_f h hc4
  refine run_skip ?_
  refine goes_code ?_
  refine run_seq ?_
  refine run_drawany [] (by kernel_rfl) ?_
  refine any_y 0 rfl (by kernel_rfl) (by kernel_rfl) (by kernel_rfl) sn (wn rfl) rfl (y_move rfl) ?_
  refine any_y 1 rfl (by kernel_rfl) (by kernel_rfl) (by kernel_rfl) sn (wn rfl) rfl (y_move rfl) ?_
  obtain ⟨hb5, h⟩ := need_some h
  refine any_y 2 rfl (by kernel_rfl) (by kernel_rfl) (by kernel_rfl) sn (wn rfl) rfl (OpY.to (v' := .string (bs (s_0.take at_1.toNat))) (y_slice_str (l := 0) (r := at_1) Tryz.runUnderlying9 rfl bi0 (bi1 (kd := .i64) rfl) hb5.1 hb5.2.1 hb5.2.2) (by simp)) ?_
  refine any_y 5 rfl (by kernel_rfl) (by kernel_rfl) (by kernel_rfl) sn (wn rfl) rfl (y_move rfl) ?_
  refine any_y 6 rfl (by kernel_rfl) (by kernel_rfl) (by kernel_rfl) sn (wn rfl) rfl (y_move rfl) ?_
  refine any_y 7 rfl (by kernel_rfl) (by kernel_rfl) (by kernel_rfl) sn (wn rfl) rfl (y_move rfl) ?_
  obtain ⟨hb6, h⟩ := need_some h
  refine any_y 8 rfl (by kernel_rfl) (by kernel_rfl) (by kernel_rfl) sn (wn rfl) rfl (OpY.to (v' := .string (bs (s_0.take at_1.toNat))) (y_slice_str (l := 0) (r := at_1) Tryz.runUnderlying9 rfl bi0 (bi1 (kd := .i64) rfl) hb6.1 hb6.2.1 hb6.2.2) (by simp)) ?_
  refine any_all [3] (by kernel_rfl) rfl (anyo_cons ?_ anyo_nil)
  obtain ⟨r7, hr8, h⟩ := obind_some h
  refine any_t rfl (wn rfl) rfl (t_callx (vs := [.string (bs (s_0.take at_1.toNat)), .string (bs [10])]) (cs := []) [] rfl Tryz.call31 rfl (countH_ok  (s_0.take at_1.toNat) [10]  hr8) showsX_nil rfl (.inl rfl)) ?_
  rintro _ _ ⟨_, ⟨rfl, rfl⟩, rfl⟩
  refine ⟨sn, ?_⟩
  refine any_y 4 rfl (by kernel_rfl) (by kernel_rfl) (by kernel_rfl) sn (wn rfl) rfl (y_add rfl rfl) ?_
  refine any_all [9] (by kernel_rfl) rfl (anyo_cons ?_ anyo_nil)
  obtain ⟨r9, hr10, h⟩ := obind_some h
  refine any_t rfl (wn rfl) rfl (t_callx (vs := [.string (bs (s_0.take at_1.toNat)), .int .u8 10]) (cs := []) [] rfl Tryz.call32 rfl (lastH_ok  (s_0.take at_1.toNat) 10  hr10) showsX_nil rfl (.inl rfl)) ?_
  rintro _ _ ⟨_, ⟨rfl, rfl⟩, rfl⟩
  refine ⟨sn, ?_⟩
  refine any_y 10 rfl (by kernel_rfl) (by kernel_rfl) (by kernel_rfl) sn (wn rfl) rfl (y_sub rfl rfl) ?_
  refine any_y 11 rfl (by kernel_rfl) (by kernel_rfl) (by kernel_rfl) sn (wn rfl) rfl (y_assign rfl) ?_
  refine any_y 12 rfl (by kernel_rfl) (by kernel_rfl) (by kernel_rfl) sn (wn rfl) rfl (y_assign rfl) ?_
  refine any_nil (by kernel_rfl) ?_
  refine goes_code ?_
  refine run_ret ?_
  obtain rfl := some_eq h
  refine fin_slots [4, 5] [.int .i64 (IntKind.i64.wrap (1 + r7)), .int .i64 (IntKind.i64.wrap (at_1 - r9))] [] [] Tryz.results12 rfl (by decide) rfl ?_
  exact ⟨rfl, rfl⟩

def ref18_Same_L1 (a_0 : (List S_api_Lexeme)) (b_1 : (List S_api_Lexeme)) : (Int) → Option (Lp (Int) (Lp (Unit) (Bool))) :=
 fun i_6 =>
  cond (decide (i_6 < (a_0.length : Int)))
   (idx a_0 i_6 fun x12 =>
   idx b_1 i_6 fun x13 =>
   cond (decide (x12.Kind ≠ x13.Kind) || (!decide (x12.S = x13.S)))
    (some (.stop (.stop false)))
    (some (.go (IntKind.i64.wrap (i_6 + 1)))))
   (some (.stop (.go ())))
def ref18_Same (n : Nat) (a_0 : (List S_api_Lexeme)) (b_1 : (List S_api_Lexeme)) : Option (Bool) :=
 cond (decide ((a_0.length : Int) ≠ (b_1.length : Int)))
  (some false)
  (bindJ (S := Unit)
   (iter (ref18_Same_L1 a_0 b_1) n 0)
  (fun _ =>
   some true))
theorem ref18_Same_ok (n : Nat) (a_0 : (List S_api_Lexeme)) (b_1 : (List S_api_Lexeme)) (a_0v : Value) (b_1v : Value) {r : Bool} (h : ref18_Same n a_0 b_1 = some r) :
  Meets Tryz.prog 24 [a_0v, b_1v] [ro a_0v 3 (a_0.map S_api_Lexeme.enc), ro b_1v 3 (b_1.map S_api_Lexeme.enc)] (fun v G => v = .bool r ∧ G = []) := by
 refine fn_of_run Tryz.func24 rfl Tryz.ntmps24 rfl (fun w0 o0 => ?_)
 refine run_seq ?_
 refine run_region' ?_
 refine oy rfl rfl (y_assign rfl) ?_
 refine ops_nil ?_
 refine goes_code ?_
 refine run_seq ?_
 refine run_seq ?_
 refine run_region' ?_
 refine oy rfl rfl (y_move rfl) ?_
 refine oy rfl rfl ((y_len 0 rfl Tryz.runUnderlying23 rfl rfl reads_ro).to (v_len S_api_Lexeme.enc _)) ?_
 refine oy rfl rfl (y_move rfl) ?_
 refine oy rfl rfl ((y_len 1 rfl Tryz.runUnderlying23 rfl rfl reads_ro).to (v_len S_api_Lexeme.enc _)) ?_
 refine oy rfl rfl (y_neq rfl rfl) ?_
 refine ops_nil ?_
 refine goes_code ?_
 refine run_cond (decide ((a_0.length : Int) ≠ (b_1.length : Int))) rfl (fun hc1 => ?_) (fun hc1 => ?_)
 ·replace h := cond_t h hc1
  refine run_seq ?_
  refine run_region' ?_
  refine oy rfl rfl (y_assign rfl) ?_
  refine ops_nil ?_
  refine goes_code ?_
  refine run_ret ?_
  obtain rfl := some_eq h
  refine fin_slots [4] [.bool false] [] [] Tryz.results24 rfl (by decide) rfl ?_
  exact ⟨rfl, rfl⟩
 ·replace h := cond_f h hc1
  refine run_skip ?_
  refine goes_code ?_
  obtain ⟨o2, h, ho3⟩ := bindJ_some h
  refine run_cut ((Unit) × (Unit)) (fun σ => []) (fun σ => []) (fun σ => o2 = .go σ.1) (fun L5 hL4 => ?_) ?_
  ·
   refine run_seq ?_
   refine run_region' ?_
   refine oy rfl rfl (y_assign rfl) ?_
   refine ops_nil ?_
   refine goes_code ?_
   refine run_block ?_
   refine run_iter (step := ref18_Same_L1 a_0 b_1) (n := n) (s0 := 0) h (G := Unit) () (fun σ γ => [(5, .int .i64 σ), (0, a_0v), (1, b_1v)]) (fun σ γ => [ro a_0v 3 (a_0.map S_api_Lexeme.enc), ro b_1v 3 (b_1.map S_api_Lexeme.enc)]) [0, 1] (qv3 rfl rfl rfl) (by decide) rfl ?_
   rintro i_6 _ o7 h L10 hgo8 hstop9
   change Run _ _ _ (VF.of [(5, .int .i64 i_6), (0, a_0v), (1, b_1v)]) [ro a_0v 3 (a_0.map S_api_Lexeme.enc), ro b_1v 3 (b_1.map S_api_Lexeme.enc)]
   refine run_seq ?_
   refine run_seq ?_
   refine run_region' ?_
   refine oy rfl rfl (y_move rfl) ?_
   refine oy rfl rfl (y_move rfl) ?_
   refine oy rfl rfl ((y_len 0 rfl Tryz.runUnderlying23 rfl rfl reads_ro).to (v_len S_api_Lexeme.enc _)) ?_
   refine oy rfl rfl (y_lss rfl rfl) ?_
   refine ops_nil ?_
   refine goes_code ?_
   refine run_cond (decide (i_6 < (a_0.length : Int))) rfl (fun hc11 => ?_) (fun hc11 => ?_)
   ·replace h := cond_t h hc11
    refine run_skip ?_
    refine goes_code ?_
    refine run_seq ?_
    refine run_block ?_
    refine run_seq ?_
    refine run_draw (by kernel_rfl) (by kernel_rfl) ?_
    refine sy rfl rfl (y_move rfl) ?_
    refine sy rfl rfl (y_move rfl) ?_
    obtain ⟨x12, hzx12, hlx12, hxx12, h⟩ := idx_some h
    refine sy rfl rfl (y_indexAddrI (kd := .i64) (i := i_6) 0 Tryz.runUnderlying23 Tryz.sizeOf44 rfl rfl rfl reads_ro hzx12 (map_lt hlx12)) ?_
    refine sy rfl rfl (y_fieldAddr_elem (sz := 0) Tryz.runUnderlying44 rfl Tryz.sizeOf3 rfl) ?_
    refine sy rfl rfl (y_load_field (i := i_6.toNat) (j := 0) 0 Tryz.isAgg3 rfl rfl reads_ro (map_get hxx12) rfl) ?_
    refine sy rfl rfl (y_move rfl) ?_
    refine sy rfl rfl (y_move rfl) ?_
    obtain ⟨x13, hzx13, hlx13, hxx13, h⟩ := idx_some h
    refine sy rfl rfl (y_indexAddrI (kd := .i64) (i := i_6) 1 Tryz.runUnderlying23 Tryz.sizeOf44 rfl rfl rfl reads_ro hzx13 (map_lt hlx13)) ?_
    refine sy rfl rfl (y_fieldAddr_elem (sz := 0) Tryz.runUnderlying44 rfl Tryz.sizeOf3 rfl) ?_
    refine sy rfl rfl (y_load_field (i := i_6.toNat) (j := 0) 1 Tryz.isAgg3 rfl rfl reads_ro (map_get hxx13) rfl) ?_
    refine sy rfl rfl (y_neq rfl rfl) ?_
    refine sy rfl rfl (y_move rfl) ?_
    refine still_cut 12 (Bool) (fun σ => [(5, .int .i64 i_6), (0, a_0v), (1, b_1v), (40, .bool σ)]) (fun σ => [ro a_0v 3 (a_0.map S_api_Lexeme.enc), ro b_1v 3 (b_1.map S_api_Lexeme.enc)]) (fun σ => σ = (decide (x12.Kind ≠ x13.Kind) || (!decide (x12.S = x13.S)))) (fun L14 hL15 => ?_) ?_
    ·refine still_split 28 (decide (x12.Kind ≠ x13.Kind)) rfl (fun hg16 => ?_) (fun hg16 => ?_)
     ·skip
      refine still_no 11 false 28 rfl rfl rfl rfl rfl ?_
      refine still_no 11 false 28 rfl rfl rfl rfl rfl ?_
      refine still_no 11 false 28 rfl rfl rfl rfl rfl ?_
      refine still_no 11 false 28 rfl rfl rfl rfl rfl ?_
      refine still_no 11 false 28 rfl rfl rfl rfl rfl ?_
      refine still_no 11 false 28 rfl rfl rfl rfl rfl ?_
      refine still_no 11 false 28 rfl rfl rfl rfl rfl ?_
      refine still_no 11 false 28 rfl rfl rfl rfl rfl ?_
      refine still_no 11 false 28 rfl rfl rfl rfl rfl ?_
      refine still_no 11 false 28 rfl rfl rfl rfl rfl ?_
      refine still_no 11 false 28 rfl rfl rfl rfl rfl ?_
      refine sy rfl rfl (y_pick (b := true) rfl rfl) ?_
      refine still_nil ?_
      exact goes_cut hL15 true [0, 1] (qv4 rfl rfl rfl rfl) (by decide) rfl (by rw [hg16]; simp)
     ·skip
      refine still_y (wg 11 false 28 rfl rfl rfl rfl) rfl (y_move rfl) ?_
      refine still_y (wg 11 false 28 rfl rfl rfl rfl) rfl (y_move rfl) ?_
      refine still_y (wg 11 false 28 rfl rfl rfl rfl) rfl (y_indexAddrI (kd := .i64) (i := i_6) 0 Tryz.runUnderlying23 Tryz.sizeOf44 rfl rfl rfl reads_ro hzx12 (map_lt hlx12)) ?_
      refine still_y (wg 11 false 28 rfl rfl rfl rfl) rfl (y_fieldAddr_elem (sz := 0) Tryz.runUnderlying44 rfl Tryz.sizeOf9 rfl) ?_
      refine still_y (wg 11 false 28 rfl rfl rfl rfl) rfl (y_load_field (i := i_6.toNat) (j := 2) 0 Tryz.isAgg9 rfl rfl reads_ro (map_get hxx12) rfl) ?_
      refine still_y (wg 11 false 28 rfl rfl rfl rfl) rfl (y_move rfl) ?_
      refine still_y (wg 11 false 28 rfl rfl rfl rfl) rfl (y_move rfl) ?_
      refine still_y (wg 11 false 28 rfl rfl rfl rfl) rfl (y_indexAddrI (kd := .i64) (i := i_6) 1 Tryz.runUnderlying23 Tryz.sizeOf44 rfl rfl rfl reads_ro hzx13 (map_lt hlx13)) ?_
      refine still_y (wg 11 false 28 rfl rfl rfl rfl) rfl (y_fieldAddr_elem (sz := 0) Tryz.runUnderlying44 rfl Tryz.sizeOf9 rfl) ?_
      refine still_y (wg 11 false 28 rfl rfl rfl rfl) rfl (y_load_field (i := i_6.toNat) (j := 2) 1 Tryz.isAgg9 rfl rfl reads_ro (map_get hxx13) rfl) ?_
      refine still_y (wg 11 false 28 rfl rfl rfl rfl) rfl (y_sneq rfl rfl) ?_
      refine sy rfl rfl (y_pick (b := false) rfl rfl) ?_
      refine still_nil ?_
      exact goes_cut hL15 (!decide (x12.S = x13.S)) [0, 1] (qv4 rfl rfl rfl rfl) (by decide) rfl (by rw [hg16]; simp)
    rintro _ rfl
    refine still_nil ?_
    refine goes_code ?_
    refine run_cond (decide (x12.Kind ≠ x13.Kind) || (!decide (x12.S = x13.S))) rfl (fun hc17 => ?_) (fun hc17 => ?_)
    ·replace h := cond_t h hc17
     refine run_seq ?_
     refine run_region' ?_
     refine oy rfl rfl (y_assign rfl) ?_
     refine ops_nil ?_
     refine goes_code ?_
     refine run_ret ?_
     obtain rfl := some_eq h
     obtain rfl := hstop9 _ rfl
     skip
     obtain rfl := after_stop ho3
     refine fin_slots [4] [.bool false] [] [] Tryz.results24 rfl (by decide) rfl ?_
     exact ⟨rfl, rfl⟩
    ·replace h := cond_f h hc17
     refine run_skip ?_
     refine goes_blk ?_
     refine goes_code ?_
     refine run_region' ?_
     refine oy rfl rfl (y_move rfl) ?_
     refine oy rfl rfl (y_add rfl rfl) ?_
     refine oy rfl rfl (y_assign rfl) ?_
     refine ops_nil ?_
     obtain rfl := some_eq h
     exact goes_iter hgo8 (IntKind.i64.wrap (i_6 + 1)) () [0, 1] rfl (qv3 rfl rfl rfl) (by decide) rfl
   ·replace h := cond_f h hc11
    refine run_exit _ rfl ?_
    obtain rfl := some_eq h
    obtain rfl := hstop9 _ rfl
    exact goes_cut hL4 ((), ()) [] vnil (by decide) rfl rfl
  rintro ⟨_, _⟩ hj
  obtain rfl : o2 = _ := hj
  replace h := after_go ho3
  clear ho3
  change Run _ _ _ (VF.of []) []
  refine run_seq ?_
  refine run_region' ?_
  refine oy rfl rfl (y_assign rfl) ?_
  refine ops_nil ?_
  refine goes_code ?_
  refine run_ret ?_
  obtain rfl := some_eq h
  refine fin_slots [4] [.bool true] [] [] Tryz.results24 rfl (by decide) rfl ?_
  exact ⟨rfl, rfl⟩

def law18_sanity (n : Nat) : Option (Bool) :=
 obind (lexer_Tokens n [102, 114, 101, 115, 104, 32, 54, 48, 32, 115, 59, 32, 35, 32, 97, 32, 109, 105, 110, 117, 116, 101]) fun r1 =>
 obind (lexer_Tokens n [97, 60, 61, 98, 46, 46, 99]) fun r5 =>
 obind (lexer_Tokens n [34, 115, 97, 121, 32, 92, 34, 120, 92, 34, 34]) fun r9 =>
 obind (lexer_Tokens n [48, 48, 55]) fun r13 =>
 obind (lexer_Tokens n [51, 109]) fun r17 =>
 obind (lexer_Tokens n [120, 32, 63]) fun r21 =>
 obind (lexer_Tokens n [34, 97]) fun r25 =>
 cond ((((decide (r1.2.E ≠ 0) || decide (r5.2.E ≠ 0)) || decide (r9.2.E ≠ 0)) || decide ((r1.1.length : Int) ≠ 4)) || decide ((r9.1.length : Int) ≠ 1))
  (some false)
  (idx r1.1 1 fun x42 =>
  obind (lexer_Value n x42) fun r43 =>
  obind (lexer_Place [97, 10, 98, 99] 3) fun r45 =>
  obind (ref18_Same n r1.1 ([(S_api_Lexeme.mk 2 0 [102, 114, 101, 115, 104]), (S_api_Lexeme.mk 3 0 [54, 48]), (S_api_Lexeme.mk 1 0 [115]), (S_api_Lexeme.mk 5 0 [59])] : List S_api_Lexeme)) fun r48 =>
  bindJ (S := Bool)
   (cond r48
    (idx r1.1 2 fun x56 =>
    some (.go (decide (x56.At = 9))))
    (some (.go false)))
  (fun b50 =>
   bindJ (S := Bool)
    (cond b50
     (idx r9.1 0 fun x63 =>
     some (.go (decide (x63.S = [115, 97, 121, 32, 34, 120, 34]))))
     (some (.go false)))
   (fun b57 =>
    obind (ref18_Same n r5.1 ([(S_api_Lexeme.mk 1 0 [97]), (S_api_Lexeme.mk 5 0 [60, 61]), (S_api_Lexeme.mk 1 0 [98]), (S_api_Lexeme.mk 5 0 [46, 46]), (S_api_Lexeme.mk 1 0 [99])] : List S_api_Lexeme)) fun r65 =>
    bindJ (S := Bool)
     (cond ((((((b57 && r65) && ((((decide (r13.2.At = 0) && (decide (r13.2.E = 181))) && (decide (r17.2.At = 0) && (decide (r17.2.E = 181)))) && (decide (r21.2.At = 2) && (decide (r21.2.E = 180)))) && (decide (r25.2.At = 0) && (decide (r25.2.E = 182))))) && decide (r43.1 = 60)) && decide (r43.2 = 0)) && decide (r45.1 = 2)) && decide (r45.2 = 2))
      (obind (lexer_Word n [114, 117, 108, 101]) fun r100 =>
      some (.go r100))
      (some (.go false)))
    (fun b94 =>
     bindJ (S := Bool)
      (cond b94
       (obind (lexer_Word n [114, 117, 108, 101, 115]) fun r108 =>
       some (.go (!r108)))
       (some (.go false)))
     (fun b102 =>
      some b102)))))
theorem law18_sanity_ok (n : Nat)  {r : Bool} (h : law18_sanity n = some r) :
  Meets Tryz.prog 9 [] [globA] (fun v G => v = .bool r ∧ G = []) := by
 refine fn_of_run Tryz.func9 rfl Tryz.ntmps9 rfl (fun w0 o0 => ?_)
 refine run_seq ?_
 refine run_region' ?_
 refine oy rfl rfl (y_assign rfl) ?_
 refine ops_nil ?_
 refine goes_code ?_
 refine run_seq ?_
 refine run_region' ?_
 obtain ⟨r1, hr2, h⟩ := obind_some h
 refine ot rfl rfl (t_callx (vs := [.string (bs [102, 114, 101, 115, 104, 32, 54, 48, 32, 115, 59, 32, 35, 32, 97, 32, 109, 105, 110, 117, 116, 101])]) (cs := []) [(0, 0)] rfl Tryz.call10 rfl (lexer_Tokens_ok n  [102, 114, 101, 115, 104, 32, 54, 48, 32, 115, 59, 32, 35, 32, 97, 32, 109, 105, 110, 117, 116, 101]  hr2) (showsX_view 0 rfl views_glob showsX_nil) rfl (.inl rfl)) ?_
 rintro _ _ ⟨_, ⟨v3, rfl, rfl⟩, rfl⟩
 refine oy rfl rfl (y_move rfl) ?_
 refine oy rfl rfl (y_extract rfl rfl) ?_
 refine oy rfl rfl (y_extract rfl rfl) ?_
 refine ot rfl rfl (t_alloc Tryz.zeroValue26) ?_
 rintro _ _ ⟨b4, rfl, rfl⟩
 refine oy rfl rfl (y_assign rfl) ?_
 refine ot rfl rfl (t_store 2 Tryz.sizeOf26 rfl rfl rfl rfl (by simp [Value.cells, boxP]) (by simp [Value.cells, Value.oneCell', boxP])) ?_
 rintro _ _ ⟨rfl, rfl⟩
 refine ops_turn (retell 2 (g := box b4 [.int .i64 r1.2.At, .int .i64 r1.2.E]) rfl rfl) ?_
 refine ops_nil ?_
 refine goes_code ?_
 refine run_seq ?_
 refine run_weak [(2, boxP b4 0), (1, v3)] [0, 1, 2] [globA, row v3 3 (r1.1.map S_api_Lexeme.enc), box b4 [.int .i64 r1.2.At, .int .i64 r1.2.E]] (qv2 rfl rfl) (by decide) rfl ?_
 refine run_region' ?_
 obtain ⟨r5, hr6, h⟩ := obind_some h
 refine ot rfl rfl (t_callx (vs := [.string (bs [97, 60, 61, 98, 46, 46, 99])]) (cs := []) [(0, 0)] rfl Tryz.call10 rfl (lexer_Tokens_ok n  [97, 60, 61, 98, 46, 46, 99]  hr6) (showsX_view 0 rfl views_glob showsX_nil) rfl (.inl rfl)) ?_
 rintro _ _ ⟨_, ⟨v7, rfl, rfl⟩, rfl⟩
 refine oy rfl rfl (y_move rfl) ?_
 refine oy rfl rfl (y_extract rfl rfl) ?_
 refine oy rfl rfl (y_extract rfl rfl) ?_
 refine ot rfl rfl (t_alloc Tryz.zeroValue26) ?_
 rintro _ _ ⟨b8, rfl, rfl⟩
 refine oy rfl rfl (y_assign rfl) ?_
 refine ot rfl rfl (t_store 4 Tryz.sizeOf26 rfl rfl rfl rfl (by simp [Value.cells, boxP]) (by simp [Value.cells, Value.oneCell', boxP])) ?_
 rintro _ _ ⟨rfl, rfl⟩
 refine ops_turn (retell 4 (g := box b8 [.int .i64 r5.2.At, .int .i64 r5.2.E]) rfl rfl) ?_
 refine ops_nil ?_
 refine goes_code ?_
 refine run_seq ?_
 refine run_region' ?_
 obtain ⟨r9, hr10, h⟩ := obind_some h
 refine ot rfl rfl (t_callx (vs := [.string (bs [34, 115, 97, 121, 32, 92, 34, 120, 92, 34, 34])]) (cs := []) [(0, 0)] rfl Tryz.call10 rfl (lexer_Tokens_ok n  [34, 115, 97, 121, 32, 92, 34, 120, 92, 34, 34]  hr10) (showsX_view 0 rfl views_glob showsX_nil) rfl (.inl rfl)) ?_
 rintro _ _ ⟨_, ⟨v11, rfl, rfl⟩, rfl⟩
 refine oy rfl rfl (y_move rfl) ?_
 refine oy rfl rfl (y_extract rfl rfl) ?_
 refine oy rfl rfl (y_extract rfl rfl) ?_
 refine ot rfl rfl (t_alloc Tryz.zeroValue26) ?_
 rintro _ _ ⟨b12, rfl, rfl⟩
 refine oy rfl rfl (y_assign rfl) ?_
 refine ot rfl rfl (t_store 6 Tryz.sizeOf26 rfl rfl rfl rfl (by simp [Value.cells, boxP]) (by simp [Value.cells, Value.oneCell', boxP])) ?_
 rintro _ _ ⟨rfl, rfl⟩
 refine ops_turn (retell 6 (g := box b12 [.int .i64 r9.2.At, .int .i64 r9.2.E]) rfl rfl) ?_
 refine ops_nil ?_
 refine goes_code ?_
 refine run_seq ?_
 refine run_weak [(2, boxP b4 0), (1, v3), (4, boxP b8 0), (3, v7), (6, boxP b12 0), (5, v11)] [0, 1, 2, 3, 4, 5, 6] [globA, row v3 3 (r1.1.map S_api_Lexeme.enc), box b4 [.int .i64 r1.2.At, .int .i64 r1.2.E], row v7 3 (r5.1.map S_api_Lexeme.enc), box b8 [.int .i64 r5.2.At, .int .i64 r5.2.E], row v11 3 (r9.1.map S_api_Lexeme.enc), box b12 [.int .i64 r9.2.At, .int .i64 r9.2.E]] (qv6 rfl rfl rfl rfl rfl rfl) (by decide) rfl ?_
 refine run_region' ?_
 obtain ⟨r13, hr14, h⟩ := obind_some h
 refine ot rfl rfl (t_callx (vs := [.string (bs [48, 48, 55])]) (cs := []) [(0, 0)] rfl Tryz.call10 rfl (lexer_Tokens_ok n  [48, 48, 55]  hr14) (showsX_view 0 rfl views_glob showsX_nil) rfl (.inl rfl)) ?_
 rintro _ _ ⟨_, ⟨v15, rfl, rfl⟩, rfl⟩
 refine oy rfl rfl (y_move rfl) ?_
 refine oy rfl rfl (y_extract rfl rfl) ?_
 refine oy rfl rfl (y_extract rfl rfl) ?_
 refine ot rfl rfl (t_alloc Tryz.zeroValue26) ?_
 rintro _ _ ⟨b16, rfl, rfl⟩
 refine oy rfl rfl (y_assign rfl) ?_
 refine ot rfl rfl (t_store 8 Tryz.sizeOf26 rfl rfl rfl rfl (by simp [Value.cells, boxP]) (by simp [Value.cells, Value.oneCell', boxP])) ?_
 rintro _ _ ⟨rfl, rfl⟩
 refine ops_turn (retell 8 (g := box b16 [.int .i64 r13.2.At, .int .i64 r13.2.E]) rfl rfl) ?_
 refine ops_nil ?_
 refine goes_code ?_
 refine run_seq ?_
 refine run_region' ?_
 obtain ⟨r17, hr18, h⟩ := obind_some h
 refine ot rfl rfl (t_callx (vs := [.string (bs [51, 109])]) (cs := []) [(0, 0)] rfl Tryz.call10 rfl (lexer_Tokens_ok n  [51, 109]  hr18) (showsX_view 0 rfl views_glob showsX_nil) rfl (.inl rfl)) ?_
 rintro _ _ ⟨_, ⟨v19, rfl, rfl⟩, rfl⟩
 refine oy rfl rfl (y_move rfl) ?_
 refine oy rfl rfl (y_extract rfl rfl) ?_
 refine oy rfl rfl (y_extract rfl rfl) ?_
 refine ot rfl rfl (t_alloc Tryz.zeroValue26) ?_
 rintro _ _ ⟨b20, rfl, rfl⟩
 refine oy rfl rfl (y_assign rfl) ?_
 refine ot rfl rfl (t_store 10 Tryz.sizeOf26 rfl rfl rfl rfl (by simp [Value.cells, boxP]) (by simp [Value.cells, Value.oneCell', boxP])) ?_
 rintro _ _ ⟨rfl, rfl⟩
 refine ops_turn (retell 10 (g := box b20 [.int .i64 r17.2.At, .int .i64 r17.2.E]) rfl rfl) ?_
 refine ops_nil ?_
 refine goes_code ?_
 refine run_seq ?_
 refine run_weak [(2, boxP b4 0), (1, v3), (4, boxP b8 0), (3, v7), (6, boxP b12 0), (5, v11), (8, boxP b16 0), (10, boxP b20 0)] [0, 1, 2, 3, 4, 5, 6, 8, 10] [globA, row v3 3 (r1.1.map S_api_Lexeme.enc), box b4 [.int .i64 r1.2.At, .int .i64 r1.2.E], row v7 3 (r5.1.map S_api_Lexeme.enc), box b8 [.int .i64 r5.2.At, .int .i64 r5.2.E], row v11 3 (r9.1.map S_api_Lexeme.enc), box b12 [.int .i64 r9.2.At, .int .i64 r9.2.E], box b16 [.int .i64 r13.2.At, .int .i64 r13.2.E], box b20 [.int .i64 r17.2.At, .int .i64 r17.2.E]] (qv8 rfl rfl rfl rfl rfl rfl rfl rfl) (by decide) rfl ?_
 refine run_region' ?_
 obtain ⟨r21, hr22, h⟩ := obind_some h
 refine ot rfl rfl (t_callx (vs := [.string (bs [120, 32, 63])]) (cs := []) [(0, 0)] rfl Tryz.call10 rfl (lexer_Tokens_ok n  [120, 32, 63]  hr22) (showsX_view 0 rfl views_glob showsX_nil) rfl (.inl rfl)) ?_
 rintro _ _ ⟨_, ⟨v23, rfl, rfl⟩, rfl⟩
 refine oy rfl rfl (y_move rfl) ?_
 refine oy rfl rfl (y_extract rfl rfl) ?_
 refine oy rfl rfl (y_extract rfl rfl) ?_
 refine ot rfl rfl (t_alloc Tryz.zeroValue26) ?_
 rintro _ _ ⟨b24, rfl, rfl⟩
 refine oy rfl rfl (y_assign rfl) ?_
 refine ot rfl rfl (t_store 10 Tryz.sizeOf26 rfl rfl rfl rfl (by simp [Value.cells, boxP]) (by simp [Value.cells, Value.oneCell', boxP])) ?_
 rintro _ _ ⟨rfl, rfl⟩
 refine ops_turn (retell 10 (g := box b24 [.int .i64 r21.2.At, .int .i64 r21.2.E]) rfl rfl) ?_
 refine ops_nil ?_
 refine goes_code ?_
 refine run_seq ?_
 refine run_region' ?_
 obtain ⟨r25, hr26, h⟩ := obind_some h
 refine ot rfl rfl (t_callx (vs := [.string (bs [34, 97])]) (cs := []) [(0, 0)] rfl Tryz.call10 rfl (lexer_Tokens_ok n  [34, 97]  hr26) (showsX_view 0 rfl views_glob showsX_nil) rfl (.inl rfl)) ?_
 rintro _ _ ⟨_, ⟨v27, rfl, rfl⟩, rfl⟩
 refine oy rfl rfl (y_move rfl) ?_
 refine oy rfl rfl (y_extract rfl rfl) ?_
 refine oy rfl rfl (y_extract rfl rfl) ?_
 refine ot rfl rfl (t_alloc Tryz.zeroValue26) ?_
 rintro _ _ ⟨b28, rfl, rfl⟩
 refine oy rfl rfl (y_assign rfl) ?_
 refine ot rfl rfl (t_store 12 Tryz.sizeOf26 rfl rfl rfl rfl (by simp [Value.cells, boxP]) (by simp [Value.cells, Value.oneCell', boxP])) ?_
 rintro _ _ ⟨rfl, rfl⟩
 refine ops_turn (retell 12 (g := box b28 [.int .i64 r25.2.At, .int .i64 r25.2.E]) rfl rfl) ?_
 refine ops_nil ?_
 refine goes_code ?_
 refine run_seq ?_
 refine run_seq ?_
 refine run_weak [(2, boxP b4 0), (1, v3), (4, boxP b8 0), (3, v7), (6, boxP b12 0), (5, v11), (8, boxP b16 0), (10, boxP b20 0), (12, boxP b24 0), (14, boxP b28 0)] [0, 1, 2, 3, 4, 5, 6, 7, 8, 10, 12] [globA, row v3 3 (r1.1.map S_api_Lexeme.enc), box b4 [.int .i64 r1.2.At, .int .i64 r1.2.E], row v7 3 (r5.1.map S_api_Lexeme.enc), box b8 [.int .i64 r5.2.At, .int .i64 r5.2.E], row v11 3 (r9.1.map S_api_Lexeme.enc), box b12 [.int .i64 r9.2.At, .int .i64 r9.2.E], box b16 [.int .i64 r13.2.At, .int .i64 r13.2.E], box b20 [.int .i64 r17.2.At, .int .i64 r17.2.E], box b24 [.int .i64 r21.2.At, .int .i64 r21.2.E], box b28 [.int .i64 r25.2.At, .int .i64 r25.2.E]] (qv10 rfl rfl rfl rfl rfl rfl rfl rfl rfl rfl) (by decide) rfl ?_
 refine run_region' ?_
 refine oy rfl rfl (y_fieldAddr_box (sz := 0) Tryz.runUnderlying26 rfl Tryz.sizeOf24 rfl) ?_
 refine oy rfl rfl (y_load_box 2 Tryz.isAgg24 rfl rfl rfl) ?_
 refine oy rfl rfl (y_neq rfl rfl) ?_
 refine oy rfl rfl (y_move rfl) ?_
 refine ops_cut 4 (Bool) (fun σ => [(1, v3), (3, v7), (6, boxP b12 0), (5, v11), (8, boxP b16 0), (10, boxP b20 0), (12, boxP b24 0), (14, boxP b28 0), (57, .bool σ)]) (fun σ => [globA, row v3 3 (r1.1.map S_api_Lexeme.enc), row v7 3 (r5.1.map S_api_Lexeme.enc), row v11 3 (r9.1.map S_api_Lexeme.enc), box b12 [.int .i64 r9.2.At, .int .i64 r9.2.E], box b16 [.int .i64 r13.2.At, .int .i64 r13.2.E], box b20 [.int .i64 r17.2.At, .int .i64 r17.2.E], box b24 [.int .i64 r21.2.At, .int .i64 r21.2.E], box b28 [.int .i64 r25.2.At, .int .i64 r25.2.E]]) (fun σ => σ = (decide (r1.2.E ≠ 0) || decide (r5.2.E ≠ 0))) (fun L29 hL30 => ?_) ?_
 ·refine ops_split 53 (decide (r1.2.E ≠ 0)) rfl (fun hg31 => ?_) (fun hg31 => ?_)
  ·skip
   refine ops_no 3 false 53 rfl rfl rfl rfl rfl ?_
   refine ops_no 3 false 53 rfl rfl rfl rfl rfl ?_
   refine ops_no 3 false 53 rfl rfl rfl rfl rfl ?_
   refine oy rfl rfl (y_pick (b := true) rfl rfl) ?_
   refine ops_nil ?_
   exact goes_cut hL30 true [0, 1, 3, 5, 6, 7, 8, 9, 10] (qv9 rfl rfl rfl rfl rfl rfl rfl rfl rfl) (by decide) rfl (by rw [hg31]; simp)
  ·skip
   refine ops_y (wg 3 false 53 rfl rfl rfl rfl) rfl (y_fieldAddr_box (sz := 0) Tryz.runUnderlying26 rfl Tryz.sizeOf24 rfl) ?_
   refine ops_y (wg 3 false 53 rfl rfl rfl rfl) rfl (y_load_box 4 Tryz.isAgg24 rfl rfl rfl) ?_
   refine ops_y (wg 3 false 53 rfl rfl rfl rfl) rfl (y_neq rfl rfl) ?_
   refine oy rfl rfl (y_pick (b := false) rfl rfl) ?_
   refine ops_nil ?_
   exact goes_cut hL30 (decide (r5.2.E ≠ 0)) [0, 1, 3, 5, 6, 7, 8, 9, 10] (qv9 rfl rfl rfl rfl rfl rfl rfl rfl rfl) (by decide) rfl (by rw [hg31]; simp)
 rintro _ rfl
 refine oy rfl rfl (y_move rfl) ?_
 refine ops_cut 4 (Bool) (fun σ => [(1, v3), (3, v7), (5, v11), (8, boxP b16 0), (10, boxP b20 0), (12, boxP b24 0), (14, boxP b28 0), (62, .bool σ)]) (fun σ => [globA, row v3 3 (r1.1.map S_api_Lexeme.enc), row v7 3 (r5.1.map S_api_Lexeme.enc), row v11 3 (r9.1.map S_api_Lexeme.enc), box b16 [.int .i64 r13.2.At, .int .i64 r13.2.E], box b20 [.int .i64 r17.2.At, .int .i64 r17.2.E], box b24 [.int .i64 r21.2.At, .int .i64 r21.2.E], box b28 [.int .i64 r25.2.At, .int .i64 r25.2.E]]) (fun σ => σ = ((decide (r1.2.E ≠ 0) || decide (r5.2.E ≠ 0)) || decide (r9.2.E ≠ 0))) (fun L32 hL33 => ?_) ?_
 ·refine ops_split 58 (decide (r1.2.E ≠ 0) || decide (r5.2.E ≠ 0)) rfl (fun hg34 => ?_) (fun hg34 => ?_)
  ·skip
   refine ops_no 8 false 58 rfl rfl rfl rfl rfl ?_
   refine ops_no 8 false 58 rfl rfl rfl rfl rfl ?_
   refine ops_no 8 false 58 rfl rfl rfl rfl rfl ?_
   refine oy rfl rfl (y_pick (b := true) rfl rfl) ?_
   refine ops_nil ?_
   exact goes_cut hL33 true [0, 1, 2, 3, 5, 6, 7, 8] (qv8 rfl rfl rfl rfl rfl rfl rfl rfl) (by decide) rfl (by rw [hg34]; simp)
  ·skip
   refine ops_y (wg 8 false 58 rfl rfl rfl rfl) rfl (y_fieldAddr_box (sz := 0) Tryz.runUnderlying26 rfl Tryz.sizeOf24 rfl) ?_
   refine ops_y (wg 8 false 58 rfl rfl rfl rfl) rfl (y_load_box 4 Tryz.isAgg24 rfl rfl rfl) ?_
   refine ops_y (wg 8 false 58 rfl rfl rfl rfl) rfl (y_neq rfl rfl) ?_
   refine oy rfl rfl (y_pick (b := false) rfl rfl) ?_
   refine ops_nil ?_
   exact goes_cut hL33 (decide (r9.2.E ≠ 0)) [0, 1, 2, 3, 5, 6, 7, 8] (qv8 rfl rfl rfl rfl rfl rfl rfl rfl) (by decide) rfl (by rw [hg34]; simp)
 rintro _ rfl
 refine oy rfl rfl (y_move rfl) ?_
 refine ops_cut 4 (Bool) (fun σ => [(1, v3), (3, v7), (5, v11), (8, boxP b16 0), (10, boxP b20 0), (12, boxP b24 0), (14, boxP b28 0), (67, .bool σ)]) (fun σ => [globA, row v3 3 (r1.1.map S_api_Lexeme.enc), row v7 3 (r5.1.map S_api_Lexeme.enc), row v11 3 (r9.1.map S_api_Lexeme.enc), box b16 [.int .i64 r13.2.At, .int .i64 r13.2.E], box b20 [.int .i64 r17.2.At, .int .i64 r17.2.E], box b24 [.int .i64 r21.2.At, .int .i64 r21.2.E], box b28 [.int .i64 r25.2.At, .int .i64 r25.2.E]]) (fun σ => σ = (((decide (r1.2.E ≠ 0) || decide (r5.2.E ≠ 0)) || decide (r9.2.E ≠ 0)) || decide ((r1.1.length : Int) ≠ 4))) (fun L35 hL36 => ?_) ?_
 ·refine ops_split 63 ((decide (r1.2.E ≠ 0) || decide (r5.2.E ≠ 0)) || decide (r9.2.E ≠ 0)) rfl (fun hg37 => ?_) (fun hg37 => ?_)
  ·skip
   refine ops_no 13 false 63 rfl rfl rfl rfl rfl ?_
   refine ops_no 13 false 63 rfl rfl rfl rfl rfl ?_
   refine ops_no 13 false 63 rfl rfl rfl rfl rfl ?_
   refine oy rfl rfl (y_pick (b := true) rfl rfl) ?_
   refine ops_nil ?_
   exact goes_cut hL36 true [0, 1, 2, 3, 4, 5, 6, 7] (qv8 rfl rfl rfl rfl rfl rfl rfl rfl) (by decide) rfl (by rw [hg37]; simp)
  ·skip
   refine ops_y (wg 13 false 63 rfl rfl rfl rfl) rfl (y_move rfl) ?_
   refine ops_y (wg 13 false 63 rfl rfl rfl rfl) rfl ((y_len 1 rfl Tryz.runUnderlying23 rfl rfl reads_row).to (v_len S_api_Lexeme.enc _)) ?_
   refine ops_y (wg 13 false 63 rfl rfl rfl rfl) rfl (y_neq rfl rfl) ?_
   refine oy rfl rfl (y_pick (b := false) rfl rfl) ?_
   refine ops_nil ?_
   exact goes_cut hL36 (decide ((r1.1.length : Int) ≠ 4)) [0, 1, 2, 3, 4, 5, 6, 7] (qv8 rfl rfl rfl rfl rfl rfl rfl rfl) (by decide) rfl (by rw [hg37]; simp)
 rintro _ rfl
 refine oy rfl rfl (y_move rfl) ?_
 refine ops_cut 4 (Bool) (fun σ => [(1, v3), (3, v7), (5, v11), (8, boxP b16 0), (10, boxP b20 0), (12, boxP b24 0), (14, boxP b28 0), (72, .bool σ)]) (fun σ => [globA, row v3 3 (r1.1.map S_api_Lexeme.enc), row v7 3 (r5.1.map S_api_Lexeme.enc), row v11 3 (r9.1.map S_api_Lexeme.enc), box b16 [.int .i64 r13.2.At, .int .i64 r13.2.E], box b20 [.int .i64 r17.2.At, .int .i64 r17.2.E], box b24 [.int .i64 r21.2.At, .int .i64 r21.2.E], box b28 [.int .i64 r25.2.At, .int .i64 r25.2.E]]) (fun σ => σ = ((((decide (r1.2.E ≠ 0) || decide (r5.2.E ≠ 0)) || decide (r9.2.E ≠ 0)) || decide ((r1.1.length : Int) ≠ 4)) || decide ((r9.1.length : Int) ≠ 1))) (fun L38 hL39 => ?_) ?_
 ·refine ops_split 68 (((decide (r1.2.E ≠ 0) || decide (r5.2.E ≠ 0)) || decide (r9.2.E ≠ 0)) || decide ((r1.1.length : Int) ≠ 4)) rfl (fun hg40 => ?_) (fun hg40 => ?_)
  ·skip
   refine ops_no 18 false 68 rfl rfl rfl rfl rfl ?_
   refine ops_no 18 false 68 rfl rfl rfl rfl rfl ?_
   refine ops_no 18 false 68 rfl rfl rfl rfl rfl ?_
   refine oy rfl rfl (y_pick (b := true) rfl rfl) ?_
   refine ops_nil ?_
   exact goes_cut hL39 true [0, 1, 2, 3, 4, 5, 6, 7] (qv8 rfl rfl rfl rfl rfl rfl rfl rfl) (by decide) rfl (by rw [hg40]; simp)
  ·skip
   refine ops_y (wg 18 false 68 rfl rfl rfl rfl) rfl (y_move rfl) ?_
   refine ops_y (wg 18 false 68 rfl rfl rfl rfl) rfl ((y_len 3 rfl Tryz.runUnderlying23 rfl rfl reads_row).to (v_len S_api_Lexeme.enc _)) ?_
   refine ops_y (wg 18 false 68 rfl rfl rfl rfl) rfl (y_neq rfl rfl) ?_
   refine oy rfl rfl (y_pick (b := false) rfl rfl) ?_
   refine ops_nil ?_
   exact goes_cut hL39 (decide ((r9.1.length : Int) ≠ 1)) [0, 1, 2, 3, 4, 5, 6, 7] (qv8 rfl rfl rfl rfl rfl rfl rfl rfl) (by decide) rfl (by rw [hg40]; simp)
 rintro _ rfl
 refine ops_nil ?_
 refine goes_code ?_
 refine run_cond ((((decide (r1.2.E ≠ 0) || decide (r5.2.E ≠ 0)) || decide (r9.2.E ≠ 0)) || decide ((r1.1.length : Int) ≠ 4)) || decide ((r9.1.length : Int) ≠ 1)) rfl (fun hc41 => ?_) (fun hc41 => ?_)
 ·replace h := cond_t h hc41
  refine run_seq ?_
  refine run_region' ?_
  refine oy rfl rfl (y_assign rfl) ?_
  refine ops_nil ?_
  refine goes_code ?_
  refine run_ret ?_
  obtain rfl := some_eq h
  refine fin_slots [0] [.bool false] [] [] Tryz.results9 rfl (by decide) rfl ?_
  exact ⟨rfl, rfl⟩
 ·replace h := cond_f h hc41
  refine run_skip ?_
  refine goes_code ?_
  refine run_seq ?_
  refine run_region' ?_
  refine oy rfl rfl (y_move rfl) ?_
  obtain ⟨x42, hzx42, hlx42, hxx42, h⟩ := idx_some h
  refine oy rfl rfl (y_indexAddrI (kd := .i64) (i := 1) 1 Tryz.runUnderlying23 Tryz.sizeOf44 rfl rfl rfl reads_row hzx42 (map_lt hlx42)) ?_
  refine oy rfl rfl (y_load_agg (i := (1 : Int).toNat) (c := [.int .i64 x42.Kind, .int .i64 x42.At, .string (bs x42.S)]) 1 Tryz.isAgg44 Tryz.sizeOf44 rfl rfl reads_row (map_get hxx42)) ?_
  obtain ⟨r43, hr44, h⟩ := obind_some h
  refine ot rfl rfl (t_callx (vs := [.agg #[.int .i64 x42.Kind, .int .i64 x42.At, .string (bs x42.S)]]) (cs := []) [(0, 0)] rfl Tryz.call20 rfl (lexer_Value_ok n  x42  hr44) (showsX_view 0 rfl views_glob showsX_nil) rfl (.inl rfl)) ?_
  rintro _ _ ⟨_, ⟨rfl, rfl⟩, rfl⟩
  refine oy rfl rfl (y_move rfl) ?_
  refine oy rfl rfl (y_extract rfl rfl) ?_
  refine oy rfl rfl (y_extract rfl rfl) ?_
  refine oy rfl rfl (y_assign rfl) ?_
  refine oy rfl rfl (y_assign rfl) ?_
  refine ops_nil ?_
  refine goes_code ?_
  refine run_seq ?_
  refine run_weak [(1, v3), (3, v7), (5, v11), (8, boxP b16 0), (10, boxP b20 0), (12, boxP b24 0), (14, boxP b28 0), (15, .int .i64 r43.1), (16, .int .i64 r43.2)] [0, 1, 2, 3, 4, 5, 6, 7] [globA, row v3 3 (r1.1.map S_api_Lexeme.enc), row v7 3 (r5.1.map S_api_Lexeme.enc), row v11 3 (r9.1.map S_api_Lexeme.enc), box b16 [.int .i64 r13.2.At, .int .i64 r13.2.E], box b20 [.int .i64 r17.2.At, .int .i64 r17.2.E], box b24 [.int .i64 r21.2.At, .int .i64 r21.2.E], box b28 [.int .i64 r25.2.At, .int .i64 r25.2.E]] (qv9 rfl rfl rfl rfl rfl rfl rfl rfl rfl) (by decide) rfl ?_
  refine run_region' ?_
  obtain ⟨r45, hr46, h⟩ := obind_some h
  refine ot rfl rfl (t_callx (vs := [.string (bs [97, 10, 98, 99]), .int .i64 3]) (cs := []) [] rfl Tryz.call12 rfl (lexer_Place_ok  [97, 10, 98, 99] 3  hr46) showsX_nil rfl (.inl rfl)) ?_
  rintro _ _ ⟨_, ⟨rfl, rfl⟩, rfl⟩
  refine oy rfl rfl (y_move rfl) ?_
  refine oy rfl rfl (y_extract rfl rfl) ?_
  refine oy rfl rfl (y_extract rfl rfl) ?_
  refine oy rfl rfl (y_assign rfl) ?_
  refine oy rfl rfl (y_assign rfl) ?_
  refine ops_nil ?_
  refine goes_code ?_
  refine run_seq ?_
  refine run_region' ?_
  refine oy rfl rfl (y_move rfl) ?_
  refine oy rfl rfl (y_build_struct (cells := #[.int .i64 2, .int .i64 0, .string (bs [102, 114, 101, 115, 104])]) [(0, .int .i64 2), (2, .string (bs [102, 114, 101, 115, 104]))] [(0, [.int .i64 2]), (2, [.string (bs [102, 114, 101, 115, 104])])] Tryz.zeroValue44 Tryz.runUnderlying44 (fs_cons Tryz.sizeOf3 (fs_cons Tryz.sizeOf3 (fs_cons Tryz.sizeOf9 fs_nil))) rfl rfl rfl) ?_
  refine oy rfl rfl (y_build_struct (cells := #[.int .i64 3, .int .i64 0, .string (bs [54, 48])]) [(0, .int .i64 3), (2, .string (bs [54, 48]))] [(0, [.int .i64 3]), (2, [.string (bs [54, 48])])] Tryz.zeroValue44 Tryz.runUnderlying44 (fs_cons Tryz.sizeOf3 (fs_cons Tryz.sizeOf3 (fs_cons Tryz.sizeOf9 fs_nil))) rfl rfl rfl) ?_
  refine oy rfl rfl (y_build_struct (cells := #[.int .i64 1, .int .i64 0, .string (bs [115])]) [(0, .int .i64 1), (2, .string (bs [115]))] [(0, [.int .i64 1]), (2, [.string (bs [115])])] Tryz.zeroValue44 Tryz.runUnderlying44 (fs_cons Tryz.sizeOf3 (fs_cons Tryz.sizeOf3 (fs_cons Tryz.sizeOf9 fs_nil))) rfl rfl rfl) ?_
  refine oy rfl rfl (y_build_struct (cells := #[.int .i64 5, .int .i64 0, .string (bs [59])]) [(0, .int .i64 5), (2, .string (bs [59]))] [(0, [.int .i64 5]), (2, [.string (bs [59])])] Tryz.zeroValue44 Tryz.runUnderlying44 (fs_cons Tryz.sizeOf3 (fs_cons Tryz.sizeOf3 (fs_cons Tryz.sizeOf9 fs_nil))) rfl rfl rfl) ?_
  refine ot rfl rfl (t_lit [.agg #[.int .i64 2, .int .i64 0, .string (bs [102, 114, 101, 115, 104])], .agg #[.int .i64 3, .int .i64 0, .string (bs [54, 48])], .agg #[.int .i64 1, .int .i64 0, .string (bs [115])], .agg #[.int .i64 5, .int .i64 0, .string (bs [59])]] Tryz.runUnderlying23 Tryz.sizeOf44 Tryz.zeroValue44 rfl (by decide) (by decide) rfl (by simp [Value.cells, boxP])) ?_
  rintro v47 _ ⟨rfl, _⟩
  refine ops_turn (retell 8 (g := row v47 3 (([(S_api_Lexeme.mk 2 0 [102, 114, 101, 115, 104]), (S_api_Lexeme.mk 3 0 [54, 48]), (S_api_Lexeme.mk 1 0 [115]), (S_api_Lexeme.mk 5 0 [59])] : List S_api_Lexeme).map S_api_Lexeme.enc)) rfl rfl) ?_
  obtain ⟨r48, hr49, h⟩ := obind_some h
  refine ot rfl rfl (t_callx (vs := [v3, v47]) (cs := []) [(1, 1), (8, 1)] rfl Tryz.call24 rfl (ref18_Same_ok n  r1.1 ([(S_api_Lexeme.mk 2 0 [102, 114, 101, 115, 104]), (S_api_Lexeme.mk 3 0 [54, 48]), (S_api_Lexeme.mk 1 0 [115]), (S_api_Lexeme.mk 5 0 [59])] : List S_api_Lexeme) v3 v47 hr49) (showsX_look 1 rfl views_row (showsX_look 8 rfl views_row showsX_nil)) rfl (.inr (by rintro _ _ ⟨rfl, rfl⟩ g hg; first | (cases hg; done) | (simp only [List.mem_cons, List.not_mem_nil, or_false] at hg; first | (subst hg; first | exact strict_row | exact strict_box) | (rcases hg with rfl | rfl <;> first | exact strict_row | exact strict_box) | (rcases hg with rfl | rfl | rfl <;> first | exact strict_row | exact strict_box))))) ?_
  rintro _ _ ⟨_, ⟨rfl, rfl⟩, rfl⟩
  refine oy rfl rfl (y_move rfl) ?_
  obtain ⟨o51, h, ho52⟩ := bindJ_some h
  refine ops_cut 6 (Bool) (fun σ => [(3, v7), (5, v11), (8, boxP b16 0), (10, boxP b20 0), (12, boxP b24 0), (14, boxP b28 0), (15, .int .i64 r43.1), (16, .int .i64 r43.2), (17, .int .i64 r45.1), (18, .int .i64 r45.2), (97, .bool σ)]) (fun σ => [globA, row v7 3 (r5.1.map S_api_Lexeme.enc), row v11 3 (r9.1.map S_api_Lexeme.enc), box b16 [.int .i64 r13.2.At, .int .i64 r13.2.E], box b20 [.int .i64 r17.2.At, .int .i64 r17.2.E], box b24 [.int .i64 r21.2.At, .int .i64 r21.2.E], box b28 [.int .i64 r25.2.At, .int .i64 r25.2.E]]) (fun σ => o51 = .go σ) (fun L53 hL54 => ?_) ?_
  ·refine ops_split 91 r48 rfl (fun hg55 => ?_) (fun hg55 => ?_)
   ·replace h := cond_t h hg55
    refine ops_y (wg 7 true 91 rfl rfl rfl rfl) rfl (y_move rfl) ?_
    refine ops_weak [(3, v7), (5, v11), (8, boxP b16 0), (10, boxP b20 0), (12, boxP b24 0), (14, boxP b28 0), (15, .int .i64 r43.1), (16, .int .i64 r43.2), (17, .int .i64 r45.1), (18, .int .i64 r45.2), (91, .bool true), (92, v3)] [0, 1, 2, 3, 4, 5, 6, 7] [globA, row v3 3 (r1.1.map S_api_Lexeme.enc), row v7 3 (r5.1.map S_api_Lexeme.enc), row v11 3 (r9.1.map S_api_Lexeme.enc), box b16 [.int .i64 r13.2.At, .int .i64 r13.2.E], box b20 [.int .i64 r17.2.At, .int .i64 r17.2.E], box b24 [.int .i64 r21.2.At, .int .i64 r21.2.E], box b28 [.int .i64 r25.2.At, .int .i64 r25.2.E]] (qv12 rfl rfl rfl rfl rfl rfl rfl rfl rfl rfl rfl rfl) (by decide) rfl ?_
    obtain ⟨x56, hzx56, hlx56, hxx56, h⟩ := idx_some h
    refine ops_y (wg 7 true 91 rfl rfl rfl rfl) rfl (y_indexAddrI (kd := .i64) (i := 2) 1 Tryz.runUnderlying23 Tryz.sizeOf44 rfl rfl rfl reads_row hzx56 (map_lt hlx56)) ?_
    refine ops_y (wg 7 true 91 rfl rfl rfl rfl) rfl (y_fieldAddr_elem (sz := 0) Tryz.runUnderlying44 rfl Tryz.sizeOf3 rfl) ?_
    refine ops_y (wg 7 true 91 rfl rfl rfl rfl) rfl (y_load_field (i := (2 : Int).toNat) (j := 1) 1 Tryz.isAgg3 rfl rfl reads_row (map_get hxx56) rfl) ?_
    refine ops_y (wg 7 true 91 rfl rfl rfl rfl) rfl (y_eql rfl rfl) ?_
    refine oy rfl rfl (y_pick (b := true) rfl rfl) ?_
    refine ops_nil ?_
    obtain rfl := some_eq h
    exact goes_cut hL54 (decide (x56.At = 9)) [0, 2, 3, 4, 5, 6, 7] (qv11 rfl rfl rfl rfl rfl rfl rfl rfl rfl rfl rfl) (by decide) rfl rfl
   ·replace h := cond_f h hg55
    refine ops_no 7 true 91 rfl rfl rfl rfl rfl ?_
    refine ops_weak [(3, v7), (5, v11), (8, boxP b16 0), (10, boxP b20 0), (12, boxP b24 0), (14, boxP b28 0), (15, .int .i64 r43.1), (16, .int .i64 r43.2), (17, .int .i64 r45.1), (18, .int .i64 r45.2), (91, .bool false), (92, undef)] [0, 2, 3, 4, 5, 6, 7] [globA, row v7 3 (r5.1.map S_api_Lexeme.enc), row v11 3 (r9.1.map S_api_Lexeme.enc), box b16 [.int .i64 r13.2.At, .int .i64 r13.2.E], box b20 [.int .i64 r17.2.At, .int .i64 r17.2.E], box b24 [.int .i64 r21.2.At, .int .i64 r21.2.E], box b28 [.int .i64 r25.2.At, .int .i64 r25.2.E]] (qv12 rfl rfl rfl rfl rfl rfl rfl rfl rfl rfl rfl rfl) (by decide) rfl ?_
    refine ops_no 7 true 91 rfl rfl rfl rfl rfl ?_
    refine ops_no 7 true 91 rfl rfl rfl rfl rfl ?_
    refine ops_no 7 true 91 rfl rfl rfl rfl rfl ?_
    refine ops_no 7 true 91 rfl rfl rfl rfl rfl ?_
    refine oy rfl rfl (y_pick (b := false) rfl rfl) ?_
    refine ops_nil ?_
    obtain rfl := some_eq h
    exact goes_cut hL54 false [0, 1, 2, 3, 4, 5, 6] (qv11 rfl rfl rfl rfl rfl rfl rfl rfl rfl rfl rfl) (by decide) rfl rfl
  rintro b50 hj
  obtain rfl : o51 = _ := hj
  replace h := after_go ho52
  clear ho52
  refine oy rfl rfl (y_move rfl) ?_
  obtain ⟨o58, h, ho59⟩ := bindJ_some h
  refine ops_cut 6 (Bool) (fun σ => [(3, v7), (8, boxP b16 0), (10, boxP b20 0), (12, boxP b24 0), (14, boxP b28 0), (15, .int .i64 r43.1), (16, .int .i64 r43.2), (17, .int .i64 r45.1), (18, .int .i64 r45.2), (104, .bool σ)]) (fun σ => [globA, row v7 3 (r5.1.map S_api_Lexeme.enc), box b16 [.int .i64 r13.2.At, .int .i64 r13.2.E], box b20 [.int .i64 r17.2.At, .int .i64 r17.2.E], box b24 [.int .i64 r21.2.At, .int .i64 r21.2.E], box b28 [.int .i64 r25.2.At, .int .i64 r25.2.E]]) (fun σ => o58 = .go σ) (fun L60 hL61 => ?_) ?_
  ·refine ops_split 98 b50 rfl (fun hg62 => ?_) (fun hg62 => ?_)
   ·replace h := cond_t h hg62
    refine ops_y (wg 14 true 98 rfl rfl rfl rfl) rfl (y_move rfl) ?_
    obtain ⟨x63, hzx63, hlx63, hxx63, h⟩ := idx_some h
    refine ops_y (wg 14 true 98 rfl rfl rfl rfl) rfl (y_indexAddrI (kd := .i64) (i := 0) 2 Tryz.runUnderlying23 Tryz.sizeOf44 rfl rfl rfl reads_row hzx63 (map_lt hlx63)) ?_
    refine ops_y (wg 14 true 98 rfl rfl rfl rfl) rfl (y_fieldAddr_elem (sz := 0) Tryz.runUnderlying44 rfl Tryz.sizeOf9 rfl) ?_
    refine ops_y (wg 14 true 98 rfl rfl rfl rfl) rfl (y_load_field (i := (0 : Int).toNat) (j := 2) 2 Tryz.isAgg9 rfl rfl reads_row (map_get hxx63) rfl) ?_
    refine ops_y (wg 14 true 98 rfl rfl rfl rfl) rfl (y_seql rfl rfl) ?_
    refine oy rfl rfl (y_pick (b := true) rfl rfl) ?_
    refine ops_nil ?_
    obtain rfl := some_eq h
    exact goes_cut hL61 (decide (x63.S = [115, 97, 121, 32, 34, 120, 34])) [0, 1, 3, 4, 5, 6] (qv10 rfl rfl rfl rfl rfl rfl rfl rfl rfl rfl) (by decide) rfl rfl
   ·replace h := cond_f h hg62
    refine ops_no 14 true 98 rfl rfl rfl rfl rfl ?_
    refine ops_no 14 true 98 rfl rfl rfl rfl rfl ?_
    refine ops_no 14 true 98 rfl rfl rfl rfl rfl ?_
    refine ops_no 14 true 98 rfl rfl rfl rfl rfl ?_
    refine ops_no 14 true 98 rfl rfl rfl rfl rfl ?_
    refine oy rfl rfl (y_pick (b := false) rfl rfl) ?_
    refine ops_nil ?_
    obtain rfl := some_eq h
    exact goes_cut hL61 false [0, 1, 3, 4, 5, 6] (qv10 rfl rfl rfl rfl rfl rfl rfl rfl rfl rfl) (by decide) rfl rfl
  rintro b57 hj
  obtain rfl : o58 = _ := hj
  replace h := after_go ho59
  clear ho59
  refine oy rfl rfl (y_assign rfl) ?_
  refine ops_nil ?_
  refine goes_code ?_
  refine run_seq ?_
  refine run_region' ?_
  refine oy rfl rfl (y_move rfl) ?_
  refine oy rfl rfl (y_build_struct (cells := #[.int .i64 1, .int .i64 0, .string (bs [97])]) [(0, .int .i64 1), (2, .string (bs [97]))] [(0, [.int .i64 1]), (2, [.string (bs [97])])] Tryz.zeroValue44 Tryz.runUnderlying44 (fs_cons Tryz.sizeOf3 (fs_cons Tryz.sizeOf3 (fs_cons Tryz.sizeOf9 fs_nil))) rfl rfl rfl) ?_
  refine oy rfl rfl (y_build_struct (cells := #[.int .i64 5, .int .i64 0, .string (bs [60, 61])]) [(0, .int .i64 5), (2, .string (bs [60, 61]))] [(0, [.int .i64 5]), (2, [.string (bs [60, 61])])] Tryz.zeroValue44 Tryz.runUnderlying44 (fs_cons Tryz.sizeOf3 (fs_cons Tryz.sizeOf3 (fs_cons Tryz.sizeOf9 fs_nil))) rfl rfl rfl) ?_
  refine oy rfl rfl (y_build_struct (cells := #[.int .i64 1, .int .i64 0, .string (bs [98])]) [(0, .int .i64 1), (2, .string (bs [98]))] [(0, [.int .i64 1]), (2, [.string (bs [98])])] Tryz.zeroValue44 Tryz.runUnderlying44 (fs_cons Tryz.sizeOf3 (fs_cons Tryz.sizeOf3 (fs_cons Tryz.sizeOf9 fs_nil))) rfl rfl rfl) ?_
  refine oy rfl rfl (y_build_struct (cells := #[.int .i64 5, .int .i64 0, .string (bs [46, 46])]) [(0, .int .i64 5), (2, .string (bs [46, 46]))] [(0, [.int .i64 5]), (2, [.string (bs [46, 46])])] Tryz.zeroValue44 Tryz.runUnderlying44 (fs_cons Tryz.sizeOf3 (fs_cons Tryz.sizeOf3 (fs_cons Tryz.sizeOf9 fs_nil))) rfl rfl rfl) ?_
  refine oy rfl rfl (y_build_struct (cells := #[.int .i64 1, .int .i64 0, .string (bs [99])]) [(0, .int .i64 1), (2, .string (bs [99]))] [(0, [.int .i64 1]), (2, [.string (bs [99])])] Tryz.zeroValue44 Tryz.runUnderlying44 (fs_cons Tryz.sizeOf3 (fs_cons Tryz.sizeOf3 (fs_cons Tryz.sizeOf9 fs_nil))) rfl rfl rfl) ?_
  refine ot rfl rfl (t_lit [.agg #[.int .i64 1, .int .i64 0, .string (bs [97])], .agg #[.int .i64 5, .int .i64 0, .string (bs [60, 61])], .agg #[.int .i64 1, .int .i64 0, .string (bs [98])], .agg #[.int .i64 5, .int .i64 0, .string (bs [46, 46])], .agg #[.int .i64 1, .int .i64 0, .string (bs [99])]] Tryz.runUnderlying23 Tryz.sizeOf44 Tryz.zeroValue44 rfl (by decide) (by decide) rfl (by simp [Value.cells, boxP])) ?_
  rintro v64 _ ⟨rfl, _⟩
  refine ops_turn (retell 6 (g := row v64 3 (([(S_api_Lexeme.mk 1 0 [97]), (S_api_Lexeme.mk 5 0 [60, 61]), (S_api_Lexeme.mk 1 0 [98]), (S_api_Lexeme.mk 5 0 [46, 46]), (S_api_Lexeme.mk 1 0 [99])] : List S_api_Lexeme).map S_api_Lexeme.enc)) rfl rfl) ?_
  obtain ⟨r65, hr66, h⟩ := obind_some h
  refine ot rfl rfl (t_callx (vs := [v7, v64]) (cs := []) [(1, 1), (6, 1)] rfl Tryz.call24 rfl (ref18_Same_ok n  r5.1 ([(S_api_Lexeme.mk 1 0 [97]), (S_api_Lexeme.mk 5 0 [60, 61]), (S_api_Lexeme.mk 1 0 [98]), (S_api_Lexeme.mk 5 0 [46, 46]), (S_api_Lexeme.mk 1 0 [99])] : List S_api_Lexeme) v7 v64 hr66) (showsX_look 1 rfl views_row (showsX_look 6 rfl views_row showsX_nil)) rfl (.inr (by rintro _ _ ⟨rfl, rfl⟩ g hg; first | (cases hg; done) | (simp only [List.mem_cons, List.not_mem_nil, or_false] at hg; first | (subst hg; first | exact strict_row | exact strict_box) | (rcases hg with rfl | rfl <;> first | exact strict_row | exact strict_box) | (rcases hg with rfl | rfl | rfl <;> first | exact strict_row | exact strict_box))))) ?_
  rintro _ _ ⟨_, ⟨rfl, rfl⟩, rfl⟩
  refine oy rfl rfl (y_assign rfl) ?_
  refine ops_nil ?_
  refine goes_code ?_
  refine run_seq ?_
  refine run_weak [(8, boxP b16 0), (10, boxP b20 0), (12, boxP b24 0), (14, boxP b28 0), (15, .int .i64 r43.1), (16, .int .i64 r43.2), (17, .int .i64 r45.1), (18, .int .i64 r45.2), (19, .bool b57), (20, .bool r65)] [0, 2, 3, 4, 5] [globA, box b16 [.int .i64 r13.2.At, .int .i64 r13.2.E], box b20 [.int .i64 r17.2.At, .int .i64 r17.2.E], box b24 [.int .i64 r21.2.At, .int .i64 r21.2.E], box b28 [.int .i64 r25.2.At, .int .i64 r25.2.E]] (qv10 rfl rfl rfl rfl rfl rfl rfl rfl rfl rfl) (by decide) rfl ?_
  refine run_region' ?_
  refine oy rfl rfl (y_load_boxagg (c := [.int .i64 r13.2.At, .int .i64 r13.2.E]) 1 Tryz.isAgg26 Tryz.sizeOf26 rfl rfl rfl) ?_
  refine oy rfl rfl (y_build_struct (cells := #[.int .i64 0, .int .i64 181]) [(1, .int .i64 181)] [(1, [.int .i64 181])] Tryz.zeroValue26 Tryz.runUnderlying26 (fs_cons Tryz.sizeOf3 (fs_cons Tryz.sizeOf24 fs_nil)) rfl rfl rfl) ?_
  refine oy rfl rfl (y_eqS (by kernel_rfl) (by kernel_rfl) Tryz.runUnderlying26 rfl rfl (.cons (eqf_int (by decide) Tryz.runUnderlying3 Tryz.isAgg3 rfl rfl) (.cons (eqf_int (by decide) Tryz.runUnderlying24 Tryz.isAgg24 rfl rfl) EqFs.nil))) ?_
  refine oy rfl rfl (y_move rfl) ?_
  refine ops_cut 4 (Bool) (fun σ => [(12, boxP b24 0), (14, boxP b28 0), (15, .int .i64 r43.1), (16, .int .i64 r43.2), (17, .int .i64 r45.1), (18, .int .i64 r45.2), (19, .bool b57), (20, .bool r65), (120, .bool σ)]) (fun σ => [globA, box b24 [.int .i64 r21.2.At, .int .i64 r21.2.E], box b28 [.int .i64 r25.2.At, .int .i64 r25.2.E]]) (fun σ => σ = ((decide (r13.2.At = 0) && (decide (r13.2.E = 181))) && (decide (r17.2.At = 0) && (decide (r17.2.E = 181))))) (fun L67 hL68 => ?_) ?_
  ·refine ops_split 116 (decide (r13.2.At = 0) && (decide (r13.2.E = 181))) rfl (fun hg69 => ?_) (fun hg69 => ?_)
   ·skip
    refine ops_y (wg 3 true 116 rfl rfl rfl rfl) rfl (y_load_boxagg (c := [.int .i64 r17.2.At, .int .i64 r17.2.E]) 2 Tryz.isAgg26 Tryz.sizeOf26 rfl rfl rfl) ?_
    refine ops_y (wg 3 true 116 rfl rfl rfl rfl) rfl (y_build_struct (cells := #[.int .i64 0, .int .i64 181]) [(1, .int .i64 181)] [(1, [.int .i64 181])] Tryz.zeroValue26 Tryz.runUnderlying26 (fs_cons Tryz.sizeOf3 (fs_cons Tryz.sizeOf24 fs_nil)) rfl rfl rfl) ?_
    refine ops_y (wg 3 true 116 rfl rfl rfl rfl) rfl (y_eqS (by kernel_rfl) (by kernel_rfl) Tryz.runUnderlying26 rfl rfl (.cons (eqf_int (by decide) Tryz.runUnderlying3 Tryz.isAgg3 rfl rfl) (.cons (eqf_int (by decide) Tryz.runUnderlying24 Tryz.isAgg24 rfl rfl) EqFs.nil))) ?_
    refine oy rfl rfl (y_pick (b := true) rfl rfl) ?_
    refine ops_nil ?_
    exact goes_cut hL68 (decide (r17.2.At = 0) && (decide (r17.2.E = 181))) [0, 3, 4] (qv9 rfl rfl rfl rfl rfl rfl rfl rfl rfl) (by decide) rfl (by rw [hg69]; simp)
   ·skip
    refine ops_no 3 true 116 rfl rfl rfl rfl rfl ?_
    refine ops_no 3 true 116 rfl rfl rfl rfl rfl ?_
    refine ops_no 3 true 116 rfl rfl rfl rfl rfl ?_
    refine oy rfl rfl (y_pick (b := false) rfl rfl) ?_
    refine ops_nil ?_
    exact goes_cut hL68 false [0, 3, 4] (qv9 rfl rfl rfl rfl rfl rfl rfl rfl rfl) (by decide) rfl (by rw [hg69]; simp)
  rintro _ rfl
  refine oy rfl rfl (y_move rfl) ?_
  refine ops_cut 4 (Bool) (fun σ => [(14, boxP b28 0), (15, .int .i64 r43.1), (16, .int .i64 r43.2), (17, .int .i64 r45.1), (18, .int .i64 r45.2), (19, .bool b57), (20, .bool r65), (125, .bool σ)]) (fun σ => [globA, box b28 [.int .i64 r25.2.At, .int .i64 r25.2.E]]) (fun σ => σ = (((decide (r13.2.At = 0) && (decide (r13.2.E = 181))) && (decide (r17.2.At = 0) && (decide (r17.2.E = 181)))) && (decide (r21.2.At = 2) && (decide (r21.2.E = 180))))) (fun L70 hL71 => ?_) ?_
  ·refine ops_split 121 ((decide (r13.2.At = 0) && (decide (r13.2.E = 181))) && (decide (r17.2.At = 0) && (decide (r17.2.E = 181)))) rfl (fun hg72 => ?_) (fun hg72 => ?_)
   ·skip
    refine ops_y (wg 8 true 121 rfl rfl rfl rfl) rfl (y_load_boxagg (c := [.int .i64 r21.2.At, .int .i64 r21.2.E]) 1 Tryz.isAgg26 Tryz.sizeOf26 rfl rfl rfl) ?_
    refine ops_y (wg 8 true 121 rfl rfl rfl rfl) rfl (y_build_struct (cells := #[.int .i64 2, .int .i64 180]) [(0, .int .i64 2), (1, .int .i64 180)] [(0, [.int .i64 2]), (1, [.int .i64 180])] Tryz.zeroValue26 Tryz.runUnderlying26 (fs_cons Tryz.sizeOf3 (fs_cons Tryz.sizeOf24 fs_nil)) rfl rfl rfl) ?_
    refine ops_y (wg 8 true 121 rfl rfl rfl rfl) rfl (y_eqS (by kernel_rfl) (by kernel_rfl) Tryz.runUnderlying26 rfl rfl (.cons (eqf_int (by decide) Tryz.runUnderlying3 Tryz.isAgg3 rfl rfl) (.cons (eqf_int (by decide) Tryz.runUnderlying24 Tryz.isAgg24 rfl rfl) EqFs.nil))) ?_
    refine oy rfl rfl (y_pick (b := true) rfl rfl) ?_
    refine ops_nil ?_
    exact goes_cut hL71 (decide (r21.2.At = 2) && (decide (r21.2.E = 180))) [0, 2] (qv8 rfl rfl rfl rfl rfl rfl rfl rfl) (by decide) rfl (by rw [hg72]; simp)
   ·skip
    refine ops_no 8 true 121 rfl rfl rfl rfl rfl ?_
    refine ops_no 8 true 121 rfl rfl rfl rfl rfl ?_
    refine ops_no 8 true 121 rfl rfl rfl rfl rfl ?_
    refine oy rfl rfl (y_pick (b := false) rfl rfl) ?_
    refine ops_nil ?_
    exact goes_cut hL71 false [0, 2] (qv8 rfl rfl rfl rfl rfl rfl rfl rfl) (by decide) rfl (by rw [hg72]; simp)
  rintro _ rfl
  refine oy rfl rfl (y_move rfl) ?_
  refine ops_cut 4 (Bool) (fun σ => [(15, .int .i64 r43.1), (16, .int .i64 r43.2), (17, .int .i64 r45.1), (18, .int .i64 r45.2), (19, .bool b57), (20, .bool r65), (130, .bool σ)]) (fun σ => [globA]) (fun σ => σ = ((((decide (r13.2.At = 0) && (decide (r13.2.E = 181))) && (decide (r17.2.At = 0) && (decide (r17.2.E = 181)))) && (decide (r21.2.At = 2) && (decide (r21.2.E = 180)))) && (decide (r25.2.At = 0) && (decide (r25.2.E = 182))))) (fun L73 hL74 => ?_) ?_
  ·refine ops_split 126 (((decide (r13.2.At = 0) && (decide (r13.2.E = 181))) && (decide (r17.2.At = 0) && (decide (r17.2.E = 181)))) && (decide (r21.2.At = 2) && (decide (r21.2.E = 180)))) rfl (fun hg75 => ?_) (fun hg75 => ?_)
   ·skip
    refine ops_y (wg 13 true 126 rfl rfl rfl rfl) rfl (y_load_boxagg (c := [.int .i64 r25.2.At, .int .i64 r25.2.E]) 1 Tryz.isAgg26 Tryz.sizeOf26 rfl rfl rfl) ?_
    refine ops_y (wg 13 true 126 rfl rfl rfl rfl) rfl (y_build_struct (cells := #[.int .i64 0, .int .i64 182]) [(1, .int .i64 182)] [(1, [.int .i64 182])] Tryz.zeroValue26 Tryz.runUnderlying26 (fs_cons Tryz.sizeOf3 (fs_cons Tryz.sizeOf24 fs_nil)) rfl rfl rfl) ?_
    refine ops_y (wg 13 true 126 rfl rfl rfl rfl) rfl (y_eqS (by kernel_rfl) (by kernel_rfl) Tryz.runUnderlying26 rfl rfl (.cons (eqf_int (by decide) Tryz.runUnderlying3 Tryz.isAgg3 rfl rfl) (.cons (eqf_int (by decide) Tryz.runUnderlying24 Tryz.isAgg24 rfl rfl) EqFs.nil))) ?_
    refine oy rfl rfl (y_pick (b := true) rfl rfl) ?_
    refine ops_nil ?_
    exact goes_cut hL74 (decide (r25.2.At = 0) && (decide (r25.2.E = 182))) [0] (qv7 rfl rfl rfl rfl rfl rfl rfl) (by decide) rfl (by rw [hg75]; simp)
   ·skip
    refine ops_no 13 true 126 rfl rfl rfl rfl rfl ?_
    refine ops_no 13 true 126 rfl rfl rfl rfl rfl ?_
    refine ops_no 13 true 126 rfl rfl rfl rfl rfl ?_
    refine oy rfl rfl (y_pick (b := false) rfl rfl) ?_
    refine ops_nil ?_
    exact goes_cut hL74 false [0] (qv7 rfl rfl rfl rfl rfl rfl rfl) (by decide) rfl (by rw [hg75]; simp)
  rintro _ rfl
  refine oy rfl rfl (y_assign rfl) ?_
  refine ops_nil ?_
  refine goes_code ?_
  refine run_seq ?_
  refine run_region' ?_
  refine oy rfl rfl (y_move rfl) ?_
  refine oy rfl rfl (y_move rfl) ?_
  refine ops_cut 2 (Bool) (fun σ => [(15, .int .i64 r43.1), (16, .int .i64 r43.2), (17, .int .i64 r45.1), (18, .int .i64 r45.2), (21, .bool ((((decide (r13.2.At = 0) && (decide (r13.2.E = 181))) && (decide (r17.2.At = 0) && (decide (r17.2.E = 181)))) && (decide (r21.2.At = 2) && (decide (r21.2.E = 180)))) && (decide (r25.2.At = 0) && (decide (r25.2.E = 182))))), (134, .bool σ)]) (fun σ => [globA]) (fun σ => σ = (b57 && r65)) (fun L76 hL77 => ?_) ?_
  ·refine ops_split 132 b57 rfl (fun hg78 => ?_) (fun hg78 => ?_)
   ·skip
    refine ops_y (wg 1 true 132 rfl rfl rfl rfl) rfl (y_move rfl) ?_
    refine oy rfl rfl (y_pick (b := true) rfl rfl) ?_
    refine ops_nil ?_
    exact goes_cut hL77 r65 [0] (qv6 rfl rfl rfl rfl rfl rfl) (by decide) rfl (by rw [hg78]; simp)
   ·skip
    refine ops_no 1 true 132 rfl rfl rfl rfl rfl ?_
    refine oy rfl rfl (y_pick (b := false) rfl rfl) ?_
    refine ops_nil ?_
    exact goes_cut hL77 false [0] (qv6 rfl rfl rfl rfl rfl rfl) (by decide) rfl (by rw [hg78]; simp)
  rintro _ rfl
  refine oy rfl rfl (y_move rfl) ?_
  refine ops_cut 2 (Bool) (fun σ => [(15, .int .i64 r43.1), (16, .int .i64 r43.2), (17, .int .i64 r45.1), (18, .int .i64 r45.2), (137, .bool σ)]) (fun σ => [globA]) (fun σ => σ = ((b57 && r65) && ((((decide (r13.2.At = 0) && (decide (r13.2.E = 181))) && (decide (r17.2.At = 0) && (decide (r17.2.E = 181)))) && (decide (r21.2.At = 2) && (decide (r21.2.E = 180)))) && (decide (r25.2.At = 0) && (decide (r25.2.E = 182)))))) (fun L79 hL80 => ?_) ?_
  ·refine ops_split 135 (b57 && r65) rfl (fun hg81 => ?_) (fun hg81 => ?_)
   ·skip
    refine ops_y (wg 4 true 135 rfl rfl rfl rfl) rfl (y_move rfl) ?_
    refine oy rfl rfl (y_pick (b := true) rfl rfl) ?_
    refine ops_nil ?_
    exact goes_cut hL80 ((((decide (r13.2.At = 0) && (decide (r13.2.E = 181))) && (decide (r17.2.At = 0) && (decide (r17.2.E = 181)))) && (decide (r21.2.At = 2) && (decide (r21.2.E = 180)))) && (decide (r25.2.At = 0) && (decide (r25.2.E = 182)))) [0] (qv5 rfl rfl rfl rfl rfl) (by decide) rfl (by rw [hg81]; simp)
   ·skip
    refine ops_no 4 true 135 rfl rfl rfl rfl rfl ?_
    refine oy rfl rfl (y_pick (b := false) rfl rfl) ?_
    refine ops_nil ?_
    exact goes_cut hL80 false [0] (qv5 rfl rfl rfl rfl rfl) (by decide) rfl (by rw [hg81]; simp)
  rintro _ rfl
  refine oy rfl rfl (y_move rfl) ?_
  refine ops_cut 3 (Bool) (fun σ => [(16, .int .i64 r43.2), (17, .int .i64 r45.1), (18, .int .i64 r45.2), (141, .bool σ)]) (fun σ => [globA]) (fun σ => σ = (((b57 && r65) && ((((decide (r13.2.At = 0) && (decide (r13.2.E = 181))) && (decide (r17.2.At = 0) && (decide (r17.2.E = 181)))) && (decide (r21.2.At = 2) && (decide (r21.2.E = 180)))) && (decide (r25.2.At = 0) && (decide (r25.2.E = 182))))) && decide (r43.1 = 60))) (fun L82 hL83 => ?_) ?_
  ·refine ops_split 138 ((b57 && r65) && ((((decide (r13.2.At = 0) && (decide (r13.2.E = 181))) && (decide (r17.2.At = 0) && (decide (r17.2.E = 181)))) && (decide (r21.2.At = 2) && (decide (r21.2.E = 180)))) && (decide (r25.2.At = 0) && (decide (r25.2.E = 182))))) rfl (fun hg84 => ?_) (fun hg84 => ?_)
   ·skip
    refine ops_y (wg 7 true 138 rfl rfl rfl rfl) rfl (y_move rfl) ?_
    refine ops_y (wg 7 true 138 rfl rfl rfl rfl) rfl (y_eql rfl rfl) ?_
    refine oy rfl rfl (y_pick (b := true) rfl rfl) ?_
    refine ops_nil ?_
    exact goes_cut hL83 (decide (r43.1 = 60)) [0] (qv4 rfl rfl rfl rfl) (by decide) rfl (by rw [hg84]; simp)
   ·skip
    refine ops_no 7 true 138 rfl rfl rfl rfl rfl ?_
    refine ops_no 7 true 138 rfl rfl rfl rfl rfl ?_
    refine oy rfl rfl (y_pick (b := false) rfl rfl) ?_
    refine ops_nil ?_
    exact goes_cut hL83 false [0] (qv4 rfl rfl rfl rfl) (by decide) rfl (by rw [hg84]; simp)
  rintro _ rfl
  refine oy rfl rfl (y_move rfl) ?_
  refine ops_cut 3 (Bool) (fun σ => [(17, .int .i64 r45.1), (18, .int .i64 r45.2), (145, .bool σ)]) (fun σ => [globA]) (fun σ => σ = ((((b57 && r65) && ((((decide (r13.2.At = 0) && (decide (r13.2.E = 181))) && (decide (r17.2.At = 0) && (decide (r17.2.E = 181)))) && (decide (r21.2.At = 2) && (decide (r21.2.E = 180)))) && (decide (r25.2.At = 0) && (decide (r25.2.E = 182))))) && decide (r43.1 = 60)) && decide (r43.2 = 0))) (fun L85 hL86 => ?_) ?_
  ·refine ops_split 142 (((b57 && r65) && ((((decide (r13.2.At = 0) && (decide (r13.2.E = 181))) && (decide (r17.2.At = 0) && (decide (r17.2.E = 181)))) && (decide (r21.2.At = 2) && (decide (r21.2.E = 180)))) && (decide (r25.2.At = 0) && (decide (r25.2.E = 182))))) && decide (r43.1 = 60)) rfl (fun hg87 => ?_) (fun hg87 => ?_)
   ·skip
    refine ops_y (wg 11 true 142 rfl rfl rfl rfl) rfl (y_move rfl) ?_
    refine ops_y (wg 11 true 142 rfl rfl rfl rfl) rfl (y_eql rfl rfl) ?_
    refine oy rfl rfl (y_pick (b := true) rfl rfl) ?_
    refine ops_nil ?_
    exact goes_cut hL86 (decide (r43.2 = 0)) [0] (qv3 rfl rfl rfl) (by decide) rfl (by rw [hg87]; simp)
   ·skip
    refine ops_no 11 true 142 rfl rfl rfl rfl rfl ?_
    refine ops_no 11 true 142 rfl rfl rfl rfl rfl ?_
    refine oy rfl rfl (y_pick (b := false) rfl rfl) ?_
    refine ops_nil ?_
    exact goes_cut hL86 false [0] (qv3 rfl rfl rfl) (by decide) rfl (by rw [hg87]; simp)
  rintro _ rfl
  refine oy rfl rfl (y_move rfl) ?_
  refine ops_cut 3 (Bool) (fun σ => [(18, .int .i64 r45.2), (149, .bool σ)]) (fun σ => [globA]) (fun σ => σ = (((((b57 && r65) && ((((decide (r13.2.At = 0) && (decide (r13.2.E = 181))) && (decide (r17.2.At = 0) && (decide (r17.2.E = 181)))) && (decide (r21.2.At = 2) && (decide (r21.2.E = 180)))) && (decide (r25.2.At = 0) && (decide (r25.2.E = 182))))) && decide (r43.1 = 60)) && decide (r43.2 = 0)) && decide (r45.1 = 2))) (fun L88 hL89 => ?_) ?_
  ·refine ops_split 146 ((((b57 && r65) && ((((decide (r13.2.At = 0) && (decide (r13.2.E = 181))) && (decide (r17.2.At = 0) && (decide (r17.2.E = 181)))) && (decide (r21.2.At = 2) && (decide (r21.2.E = 180)))) && (decide (r25.2.At = 0) && (decide (r25.2.E = 182))))) && decide (r43.1 = 60)) && decide (r43.2 = 0)) rfl (fun hg90 => ?_) (fun hg90 => ?_)
   ·skip
    refine ops_y (wg 15 true 146 rfl rfl rfl rfl) rfl (y_move rfl) ?_
    refine ops_y (wg 15 true 146 rfl rfl rfl rfl) rfl (y_eql rfl rfl) ?_
    refine oy rfl rfl (y_pick (b := true) rfl rfl) ?_
    refine ops_nil ?_
    exact goes_cut hL89 (decide (r45.1 = 2)) [0] (qv2 rfl rfl) (by decide) rfl (by rw [hg90]; simp)
   ·skip
    refine ops_no 15 true 146 rfl rfl rfl rfl rfl ?_
    refine ops_no 15 true 146 rfl rfl rfl rfl rfl ?_
    refine oy rfl rfl (y_pick (b := false) rfl rfl) ?_
    refine ops_nil ?_
    exact goes_cut hL89 false [0] (qv2 rfl rfl) (by decide) rfl (by rw [hg90]; simp)
  rintro _ rfl
  refine oy rfl rfl (y_move rfl) ?_
  refine ops_cut 3 (Bool) (fun σ => [(153, .bool σ)]) (fun σ => [globA]) (fun σ => σ = ((((((b57 && r65) && ((((decide (r13.2.At = 0) && (decide (r13.2.E = 181))) && (decide (r17.2.At = 0) && (decide (r17.2.E = 181)))) && (decide (r21.2.At = 2) && (decide (r21.2.E = 180)))) && (decide (r25.2.At = 0) && (decide (r25.2.E = 182))))) && decide (r43.1 = 60)) && decide (r43.2 = 0)) && decide (r45.1 = 2)) && decide (r45.2 = 2))) (fun L91 hL92 => ?_) ?_
  ·refine ops_split 150 (((((b57 && r65) && ((((decide (r13.2.At = 0) && (decide (r13.2.E = 181))) && (decide (r17.2.At = 0) && (decide (r17.2.E = 181)))) && (decide (r21.2.At = 2) && (decide (r21.2.E = 180)))) && (decide (r25.2.At = 0) && (decide (r25.2.E = 182))))) && decide (r43.1 = 60)) && decide (r43.2 = 0)) && decide (r45.1 = 2)) rfl (fun hg93 => ?_) (fun hg93 => ?_)
   ·skip
    refine ops_y (wg 19 true 150 rfl rfl rfl rfl) rfl (y_move rfl) ?_
    refine ops_y (wg 19 true 150 rfl rfl rfl rfl) rfl (y_eql rfl rfl) ?_
    refine oy rfl rfl (y_pick (b := true) rfl rfl) ?_
    refine ops_nil ?_
    exact goes_cut hL92 (decide (r45.2 = 2)) [0] (qv1 rfl) (by decide) rfl (by rw [hg93]; simp)
   ·skip
    refine ops_no 19 true 150 rfl rfl rfl rfl rfl ?_
    refine ops_no 19 true 150 rfl rfl rfl rfl rfl ?_
    refine oy rfl rfl (y_pick (b := false) rfl rfl) ?_
    refine ops_nil ?_
    exact goes_cut hL92 false [0] (qv1 rfl) (by decide) rfl (by rw [hg93]; simp)
  rintro _ rfl
  refine oy rfl rfl (y_move rfl) ?_
  obtain ⟨o95, h, ho96⟩ := bindJ_some h
  refine ops_cut 2 (Bool) (fun σ => [(156, .bool σ)]) (fun σ => [globA]) (fun σ => o95 = .go σ) (fun L97 hL98 => ?_) ?_
  ·refine ops_split 154 ((((((b57 && r65) && ((((decide (r13.2.At = 0) && (decide (r13.2.E = 181))) && (decide (r17.2.At = 0) && (decide (r17.2.E = 181)))) && (decide (r21.2.At = 2) && (decide (r21.2.E = 180)))) && (decide (r25.2.At = 0) && (decide (r25.2.E = 182))))) && decide (r43.1 = 60)) && decide (r43.2 = 0)) && decide (r45.1 = 2)) && decide (r45.2 = 2)) rfl (fun hg99 => ?_) (fun hg99 => ?_)
   ·replace h := cond_t h hg99
    obtain ⟨r100, hr101, h⟩ := obind_some h
    refine ops_t (wg 23 true 154 rfl rfl rfl rfl) rfl (t_callx (vs := [.string (bs [114, 117, 108, 101])]) (cs := []) [(0, 0)] rfl Tryz.call18 rfl (lexer_Word_ok n  [114, 117, 108, 101]  hr101) (showsX_view 0 rfl views_glob showsX_nil) rfl (.inl rfl)) ?_
    rintro _ _ ⟨_, ⟨rfl, rfl⟩, rfl⟩
    refine oy rfl rfl (y_pick (b := true) rfl rfl) ?_
    refine ops_nil ?_
    obtain rfl := some_eq h
    exact goes_cut hL98 r100 [0] (qv1 rfl) (by decide) rfl rfl
   ·replace h := cond_f h hg99
    refine ops_no 23 true 154 rfl rfl rfl rfl rfl ?_
    refine oy rfl rfl (y_pick (b := false) rfl rfl) ?_
    refine ops_nil ?_
    obtain rfl := some_eq h
    exact goes_cut hL98 false [0] (qv1 rfl) (by decide) rfl rfl
  rintro b94 hj
  obtain rfl : o95 = _ := hj
  replace h := after_go ho96
  clear ho96
  refine oy rfl rfl (y_move rfl) ?_
  obtain ⟨o103, h, ho104⟩ := bindJ_some h
  refine ops_cut 3 (Bool) (fun σ => [(160, .bool σ)]) (fun σ => [globA]) (fun σ => o103 = .go σ) (fun L105 hL106 => ?_) ?_
  ·refine ops_split 157 b94 rfl (fun hg107 => ?_) (fun hg107 => ?_)
   ·replace h := cond_t h hg107
    obtain ⟨r108, hr109, h⟩ := obind_some h
    refine ops_t (wg 26 true 157 rfl rfl rfl rfl) rfl (t_callx (vs := [.string (bs [114, 117, 108, 101, 115])]) (cs := []) [(0, 0)] rfl Tryz.call18 rfl (lexer_Word_ok n  [114, 117, 108, 101, 115]  hr109) (showsX_view 0 rfl views_glob showsX_nil) rfl (.inl rfl)) ?_
    rintro _ _ ⟨_, ⟨rfl, rfl⟩, rfl⟩
    refine ops_y (wg 26 true 157 rfl rfl rfl rfl) rfl (y_not rfl) ?_
    refine oy rfl rfl (y_pick (b := true) rfl rfl) ?_
    refine ops_nil ?_
    obtain rfl := some_eq h
    exact goes_cut hL106 (!r108) [0] (qv1 rfl) (by decide) rfl rfl
   ·replace h := cond_f h hg107
    refine ops_no 26 true 157 rfl rfl rfl rfl rfl ?_
    refine ops_no 26 true 157 rfl rfl rfl rfl rfl ?_
    refine oy rfl rfl (y_pick (b := false) rfl rfl) ?_
    refine ops_nil ?_
    obtain rfl := some_eq h
    exact goes_cut hL106 false [0] (qv1 rfl) (by decide) rfl rfl
  rintro b102 hj
  obtain rfl : o103 = _ := hj
  replace h := after_go ho104
  clear ho104
  refine oy rfl rfl (y_assign rfl) ?_
  refine ops_nil ?_
  refine goes_code ?_
  refine run_ret ?_
  obtain rfl := some_eq h
  refine fin_slots [0] [.bool b102] [] [] Tryz.results9 rfl (by decide) rfl ?_
  exact ⟨rfl, rfl⟩

end Go.Proofs.YtgibkdldfnlglaaGreatDoor
