/-
  Functions of the program, lifted: part 7.
-/
import Derived.Test.YtgjdaamkfpbgpaaFf
namespace Go.Proofs.Ytgjdaamkfpbgpaa
open Go.Abs
set_option linter.unusedVariables false
set_option linter.unusedSimpArgs false
set_option maxRecDepth 20000
set_option maxHeartbeats 4000000

def compile_Encode_L1 (m_0 : S_api_Module) : ((List (List UInt8)) × (List Int) × Int) → Option (Lp ((List (List UInt8)) × (List Int) × Int) (Lp ((List (List UInt8)) × (List Int)) ((List UInt8)))) :=
 fun (texts_11, numbers_12, s_13) =>
  cond (decide (s_13 < (m_0.Code.length : Int)))
   (idx m_0.Code s_13 fun x21 =>
   need (texts_11.length + ([x21.S] : List (List UInt8)).length ≤ 4294967296) (
   need (numbers_12.length + ([x21.Op, x21.A] : List Int).length ≤ 4294967296) (
   some (.go ((texts_11 ++ ([x21.S] : List (List UInt8))), (numbers_12 ++ ([x21.Op, x21.A] : List Int)), (IntKind.i64.wrap (s_13 + 1)))))))
   (some (.stop (.go (texts_11, numbers_12))))
def compile_Encode (n : Nat) (m_0 : S_api_Module) : Option ((List UInt8)) :=
 bindJ (S := (List (List UInt8)) × (List Int))
  (iter (compile_Encode_L1 m_0) n (([m_0.Name] : List (List UInt8)), ([] : List Int), 0))
 (fun (texts_3, numbers_4) =>
  obind (wire_Strings n texts_3) fun r49 =>
  obind (wire_Ints n m_0.Effects) fun r52 =>
  obind (wire_Ints n numbers_4) fun r55 =>
  obind (slices_Concat_byte_byte_26 n ([r49, r52, r55] : List (List UInt8))) fun r62 =>
  some r62)
theorem compile_Encode_ok (n : Nat) (m_0 : S_api_Module) (m_0_Effectsv : Value) (m_0_Codev : Value) {r : (List UInt8)} (h : compile_Encode n m_0 = some r) :
  Meets Try.prog 13 [.agg #[.string (bs m_0.Name), m_0_Effectsv, m_0_Codev]] [ro m_0_Effectsv 1 (m_0.Effects.map (eInt .i64)), ro m_0_Codev 3 (m_0.Code.map S_api_Instr.enc)] (fun v G => ∃ v0, v = v0 ∧ G = [row v0 1 (r.map eB8)]) := by
 refine fn_of_run Try.func13 rfl Try.ntmps13 rfl (fun w0 o0 => ?_)
 refine run_seq ?_
 refine run_region' ?_
 refine ot rfl rfl (t_box rfl) ?_
 rintro _ _ ⟨b1, rfl, rfl⟩
 refine oy rfl rfl (y_assign rfl) ?_
 refine ops_nil ?_
 refine goes_code ?_
 refine run_seq ?_
 refine run_region' ?_
 refine oy rfl rfl (y_fieldAddr_box (sz := 0) Try.runUnderlying31 rfl Try.sizeOf9 rfl) ?_
 refine oy rfl rfl (y_load_box 2 Try.isAgg9 rfl rfl rfl) ?_
 refine ot rfl rfl (t_lit [.string (bs m_0.Name)] Try.runUnderlying62 Try.sizeOf9 Try.zeroValue9 rfl (by decide) (by decide) rfl (by simp [Value.cells, boxP])) ?_
 rintro v2 _ ⟨rfl, _⟩
 refine ops_turn (retell 3 (g := row v2 1 (([m_0.Name] : List (List UInt8)).map eStr)) rfl rfl) ?_
 refine oy rfl rfl (y_assign rfl) ?_
 refine oy rfl rfl (y_assign rfl) ?_
 refine ops_nil ?_
 refine goes_code ?_
 obtain ⟨o7, h, ho8⟩ := bindJ_some h
 refine run_cut (((List (List UInt8)) × (List Int)) × (Value × Value)) (fun σ => [(3, σ.2.1), (4, σ.2.2), (1, boxP b1 0)]) (fun σ => [row σ.2.1 1 (σ.1.1.map eStr), row σ.2.2 1 (σ.1.2.map (eInt .i64)), box b1 [.string (bs m_0.Name), m_0_Effectsv, m_0_Codev], ro m_0_Effectsv 1 (m_0.Effects.map (eInt .i64)), ro m_0_Codev 3 (m_0.Code.map S_api_Instr.enc)]) (fun σ => o7 = .go σ.1) (fun L10 hL9 => ?_) ?_
 ·
  refine run_seq ?_
  refine run_region' ?_
  refine oy rfl rfl (y_fieldAddr_box (sz := 0) Try.runUnderlying31 rfl Try.sizeOf29 rfl) ?_
  refine oy rfl rfl (y_load_box 2 Try.isAgg29 rfl rfl rfl) ?_
  refine oy rfl rfl ((y_len 1 rfl Try.runUnderlying29 rfl rfl reads_ro).to (v_len S_api_Instr.enc _)) ?_
  refine oy rfl rfl (y_move rfl) ?_
  refine ops_nil ?_
  refine goes_code ?_
  refine run_block ?_
  refine run_turn (nilrow 1) ?_
  refine run_turn (retell 4 (g := row (.slice none 0 0) 1 (([] : List Int).map (eInt .i64))) rfl rfl) ?_
  refine run_iter (step := compile_Encode_L1 m_0) (n := n) (s0 := (([m_0.Name] : List (List UInt8)), ([] : List Int), 0)) h (G := Value × Value) (v2, (.slice none 0 0)) (fun σ γ => [(3, γ.1), (4, γ.2), (13, .int .i64 σ.2.2), (1, boxP b1 0), (11, m_0_Codev), (12, .int .i64 (m_0.Code.length : Int))]) (fun σ γ => [row γ.1 1 (σ.1.map eStr), row γ.2 1 (σ.2.1.map (eInt .i64)), box b1 [.string (bs m_0.Name), m_0_Effectsv, m_0_Codev], ro m_0_Effectsv 1 (m_0.Effects.map (eInt .i64)), ro m_0_Codev 3 (m_0.Code.map S_api_Instr.enc)]) [3, 4, 2, 0, 1] (qv6 rfl rfl rfl rfl rfl rfl) (by decide) rfl ?_
  rintro ⟨texts_11, numbers_12, s_13⟩ ⟨v14, v15⟩ o16 h L19 hgo17 hstop18
  change Run _ _ _ (VF.of [(3, v14), (4, v15), (13, .int .i64 s_13), (1, boxP b1 0), (11, m_0_Codev), (12, .int .i64 (m_0.Code.length : Int))]) [row v14 1 (texts_11.map eStr), row v15 1 (numbers_12.map (eInt .i64)), box b1 [.string (bs m_0.Name), m_0_Effectsv, m_0_Codev], ro m_0_Effectsv 1 (m_0.Effects.map (eInt .i64)), ro m_0_Codev 3 (m_0.Code.map S_api_Instr.enc)]
  refine run_seq ?_
  refine run_region' ?_
  refine oy rfl rfl (y_lss rfl rfl) ?_
  refine ops_nil ?_
  refine goes_code ?_
  refine run_seq ?_
  refine run_cond (decide (s_13 < (m_0.Code.length : Int))) rfl (fun hc20 => ?_) (fun hc20 => ?_)
  ·replace h := cond_t h hc20
   refine run_skip ?_
   refine goes_code ?_
   refine run_seq ?_
   refine run_block ?_
   refine run_seq ?_
   refine run_region' ?_
   obtain ⟨x21, hzx21, hlx21, hxx21, h⟩ := idx_some h
   refine oy rfl rfl (y_indexAddrI (kd := .i64) (i := s_13) 4 Try.runUnderlying29 Try.sizeOf55 rfl rfl rfl reads_ro hzx21 (map_lt hlx21)) ?_
   refine oy rfl rfl (y_load_agg (i := s_13.toNat) (c := [.int .i64 x21.Op, .int .i64 x21.A, .string (bs x21.S)]) 4 Try.isAgg55 Try.sizeOf55 rfl rfl reads_ro (map_get hxx21)) ?_
   refine ot rfl rfl (t_alloc Try.zeroValue55) ?_
   rintro _ _ ⟨b22, rfl, rfl⟩
   refine ot rfl rfl (t_store 5 Try.sizeOf55 rfl rfl rfl rfl (by simp [Value.cells, boxP]) (by simp [Value.cells, Value.oneCell', boxP])) ?_
   rintro _ _ ⟨rfl, rfl⟩
   refine ops_turn (retell 5 (g := box b22 [.int .i64 x21.Op, .int .i64 x21.A, .string (bs x21.S)]) rfl rfl) ?_
   refine ops_nil ?_
   refine goes_code ?_
   obtain ⟨hr25, h⟩ := need_some h
   obtain ⟨hr28, h⟩ := need_some h
   refine run_drawany [HA.emp, HA.emp, box b1 [.string (bs m_0.Name), m_0_Effectsv, m_0_Codev], ro m_0_Effectsv 1 (m_0.Effects.map (eInt .i64)), ro m_0_Codev 3 (m_0.Code.map S_api_Instr.enc), box b22 [.int .i64 x21.Op, .int .i64 x21.A, .string (bs x21.S)]] (by kernel_rfl) ?_
   refine any_y 0 rfl (by kernel_rfl) (by kernel_rfl) (by kernel_rfl) (se (se (ss (ss (ss (ss (sn))))))) (wn rfl) rfl (y_move rfl) ?_
   refine any_y 1 rfl (by kernel_rfl) (by kernel_rfl) (by kernel_rfl) (se (se (ss (ss (ss (ss (sn))))))) (wn rfl) rfl (y_fieldAddr_box (sz := 0) Try.runUnderlying55 rfl Try.sizeOf9 rfl) ?_
   refine any_y 2 rfl (by kernel_rfl) (by kernel_rfl) (by kernel_rfl) (se (se (ss (ss (ss (ss (sn))))))) (wn rfl) rfl (y_load_box 5 Try.isAgg9 rfl rfl rfl) ?_
   refine any_y 5 rfl (by kernel_rfl) (by kernel_rfl) (by kernel_rfl) (se (se (ss (ss (ss (ss (sn))))))) (wn rfl) rfl (y_move rfl) ?_
   refine any_y 6 rfl (by kernel_rfl) (by kernel_rfl) (by kernel_rfl) (se (se (ss (ss (ss (ss (sn))))))) (wn rfl) rfl (y_fieldAddr_box (sz := 0) Try.runUnderlying55 rfl Try.sizeOf3 rfl) ?_
   refine any_y 7 rfl (by kernel_rfl) (by kernel_rfl) (by kernel_rfl) (se (se (ss (ss (ss (ss (sn))))))) (wn rfl) rfl (y_load_box 5 Try.isAgg3 rfl rfl rfl) ?_
   refine any_y 8 rfl (by kernel_rfl) (by kernel_rfl) (by kernel_rfl) (se (se (ss (ss (ss (ss (sn))))))) (wn rfl) rfl (y_fieldAddr_box (sz := 0) Try.runUnderlying55 rfl Try.sizeOf3 rfl) ?_
   refine any_y 9 rfl (by kernel_rfl) (by kernel_rfl) (by kernel_rfl) (se (se (ss (ss (ss (ss (sn))))))) (wn rfl) rfl (y_load_box 5 Try.isAgg3 rfl rfl rfl) ?_
   refine any_cut2 #[true, true, true, true, true, true, true, true, true, true, true, true, true, true] 0 (Value × Value × Value × Value) (fun σ => [(3, σ.1), (4, σ.2.1), (13, .int .i64 s_13), (1, boxP b1 0), (11, m_0_Codev), (12, .int .i64 (m_0.Code.length : Int))]) (fun σ => [row σ.1 1 ((texts_11 ++ ([x21.S] : List (List UInt8))).map eStr), row σ.2.1 1 ((numbers_12 ++ ([x21.Op, x21.A] : List Int)).map (eInt .i64)), box b1 [.string (bs m_0.Name), m_0_Effectsv, m_0_Codev], ro m_0_Effectsv 1 (m_0.Effects.map (eInt .i64)), ro m_0_Codev 3 (m_0.Code.map S_api_Instr.enc), box b22 [.int .i64 x21.Op, .int .i64 x21.A, .string (bs x21.S)], row σ.2.2.1 1 (([x21.S] : List (List UInt8)).map eStr), row σ.2.2.2 1 (([x21.Op, x21.A] : List Int).map (eInt .i64))]) ?_ (fun hK35 => ?_)
   ·rintro ⟨v31, v34, v29, v33⟩
    change AnyL _ _ _ _ _ (VF.of [(3, v31), (4, v34), (13, .int .i64 s_13), (1, boxP b1 0), (11, m_0_Codev), (12, .int .i64 (m_0.Code.length : Int))]) [row v31 1 ((texts_11 ++ ([x21.S] : List (List UInt8))).map eStr), row v34 1 ((numbers_12 ++ ([x21.Op, x21.A] : List Int)).map (eInt .i64)), box b1 [.string (bs m_0.Name), m_0_Effectsv, m_0_Codev], ro m_0_Effectsv 1 (m_0.Effects.map (eInt .i64)), ro m_0_Codev 3 (m_0.Code.map S_api_Instr.enc), box b22 [.int .i64 x21.Op, .int .i64 x21.A, .string (bs x21.S)], row v29 1 (([x21.S] : List (List UInt8)).map eStr), row v33 1 (([x21.Op, x21.A] : List Int).map (eInt .i64))] _
    refine any_nil (by kernel_rfl) ?_
    refine goes_blk ?_
    refine goes_code ?_
    refine run_region' ?_
    refine oy rfl rfl (y_add rfl rfl) ?_
    refine oy rfl rfl (y_move rfl) ?_
    refine ops_nil ?_
    obtain rfl := some_eq h
    exact goes_iter hgo17 ((texts_11 ++ ([x21.S] : List (List UInt8))), (numbers_12 ++ ([x21.Op, x21.A] : List Int)), (IntKind.i64.wrap (s_13 + 1))) (v31, v34) [0, 1, 2, 3, 4] rfl (qv6 rfl rfl rfl rfl rfl rfl) (by decide) rfl
   refine any_cut2 #[true, true, true, true, true, true, true, true, true, true, true, false, false, false] 3 (Value × Value × Value) (fun σ => [(3, v14), (4, v15), (13, .int .i64 s_13), (1, boxP b1 0), (11, m_0_Codev), (12, .int .i64 (m_0.Code.length : Int)), (22, v15), (21, σ.1), (27, σ.2.1)]) (fun σ => [row σ.1 1 ((texts_11 ++ ([x21.S] : List (List UInt8))).map eStr), row v15 1 (numbers_12.map (eInt .i64)), box b1 [.string (bs m_0.Name), m_0_Effectsv, m_0_Codev], ro m_0_Effectsv 1 (m_0.Effects.map (eInt .i64)), ro m_0_Codev 3 (m_0.Code.map S_api_Instr.enc), box b22 [.int .i64 x21.Op, .int .i64 x21.A, .string (bs x21.S)], row σ.2.2 1 (([x21.S] : List (List UInt8)).map eStr), row σ.2.1 1 (([x21.Op, x21.A] : List Int).map (eInt .i64))]) ?_ (fun hK36 => ?_)
   ·rintro ⟨v31, v33, v29⟩
    change AnyL _ _ _ _ _ (VF.of [(3, v14), (4, v15), (13, .int .i64 s_13), (1, boxP b1 0), (11, m_0_Codev), (12, .int .i64 (m_0.Code.length : Int)), (22, v15), (21, v31), (27, v33)]) [row v31 1 ((texts_11 ++ ([x21.S] : List (List UInt8))).map eStr), row v15 1 (numbers_12.map (eInt .i64)), box b1 [.string (bs m_0.Name), m_0_Effectsv, m_0_Codev], ro m_0_Effectsv 1 (m_0.Effects.map (eInt .i64)), ro m_0_Codev 3 (m_0.Code.map S_api_Instr.enc), box b22 [.int .i64 x21.Op, .int .i64 x21.A, .string (bs x21.S)], row v29 1 (([x21.S] : List (List UInt8)).map eStr), row v33 1 (([x21.Op, x21.A] : List Int).map (eInt .i64))] _
    refine any_all [11] (by kernel_rfl) rfl ?_
    refine anyo_cons ?_ ?_
    ·
     refine any_t rfl (wn rfl) rfl (t_append (es := 1) 1 rfl Try.runUnderlying22 rfl Try.runUnderlying22 (.inr ⟨_, rfl⟩) Try.typeInfo3 rfl (by decide) Try.zeroValue3 rfl rfl rfl rfl (src_reads 7 rfl reads_row (map_ok (eInt_ok _) _)) (map_room hr28 (by decide)) (map_fit hr28)) ?_
     rintro v37 _ rfl
     refine ⟨(se (se (ss (ss (ss (ss (sn))))))), ?_⟩
     refine any_turn (retell 1 (g := row v37 1 ((numbers_12 ++ ([x21.Op, x21.A] : List Int)).map (eInt .i64))) rfl (congrArg (row _ _) List.map_append.symm)) ?_
     refine any_y 12 rfl (by kernel_rfl) (by kernel_rfl) (by kernel_rfl) (se (se (ss (ss (ss (ss (sn))))))) (wn rfl) rfl (y_assign rfl) ?_
     refine any_y 13 rfl (by kernel_rfl) (by kernel_rfl) (by kernel_rfl) (se (se (ss (ss (ss (ss (sn))))))) (wn rfl) rfl (y_assign rfl) ?_
     exact any_weak2 (hK35 (v31, v37, v29, v33)) [0, 1, 2, 3, 4, 5, 6, 7] (by kernel_rfl) (qv6 rfl rfl rfl rfl rfl rfl) (by decide) rfl
    exact anyo_nil
   refine any_cut2 #[true, true, true, true, true, true, true, true, true, true, false, false, false, false] 4 (Value × Value) (fun σ => [(3, v14), (4, v15), (13, .int .i64 s_13), (1, boxP b1 0), (11, m_0_Codev), (12, .int .i64 (m_0.Code.length : Int)), (22, v15), (24, .int .i64 x21.Op), (26, .int .i64 x21.A), (21, σ.1)]) (fun σ => [row σ.1 1 ((texts_11 ++ ([x21.S] : List (List UInt8))).map eStr), row v15 1 (numbers_12.map (eInt .i64)), box b1 [.string (bs m_0.Name), m_0_Effectsv, m_0_Codev], ro m_0_Effectsv 1 (m_0.Effects.map (eInt .i64)), ro m_0_Codev 3 (m_0.Code.map S_api_Instr.enc), box b22 [.int .i64 x21.Op, .int .i64 x21.A, .string (bs x21.S)], row σ.2 1 (([x21.S] : List (List UInt8)).map eStr)]) ?_ (fun hK38 => ?_)
   ·rintro ⟨v31, v29⟩
    change AnyL _ _ _ _ _ (VF.of [(3, v14), (4, v15), (13, .int .i64 s_13), (1, boxP b1 0), (11, m_0_Codev), (12, .int .i64 (m_0.Code.length : Int)), (22, v15), (24, .int .i64 x21.Op), (26, .int .i64 x21.A), (21, v31)]) [row v31 1 ((texts_11 ++ ([x21.S] : List (List UInt8))).map eStr), row v15 1 (numbers_12.map (eInt .i64)), box b1 [.string (bs m_0.Name), m_0_Effectsv, m_0_Codev], ro m_0_Effectsv 1 (m_0.Effects.map (eInt .i64)), ro m_0_Codev 3 (m_0.Code.map S_api_Instr.enc), box b22 [.int .i64 x21.Op, .int .i64 x21.A, .string (bs x21.S)], row v29 1 (([x21.S] : List (List UInt8)).map eStr)] _
    refine any_all [10] (by kernel_rfl) rfl ?_
    refine anyo_cons ?_ ?_
    ·
     refine any_t rfl (wn rfl) rfl (t_lit [.int .i64 x21.Op, .int .i64 x21.A] Try.runUnderlying22 Try.sizeOf3 Try.zeroValue3 rfl (by decide) (by decide) rfl (by simp [Value.cells, boxP])) ?_
     rintro v39 _ ⟨rfl, _⟩
     refine ⟨(se (se (ss (ss (ss (ss (sn))))))), ?_⟩
     refine any_turn (retell 7 (g := row v39 1 (([x21.Op, x21.A] : List Int).map (eInt .i64))) rfl rfl) ?_
     exact any_weak2 (hK36 (v31, v39, v29)) [0, 1, 2, 3, 4, 5, 6, 7] (by kernel_rfl) (qv9 rfl rfl rfl rfl rfl rfl rfl rfl rfl) (by decide) rfl
    exact anyo_nil
   refine any_cut2 #[true, true, true, true, false, true, true, true, true, true, true, false, false, false] 4 (Value × Value) (fun σ => [(3, v14), (4, v15), (13, .int .i64 s_13), (1, boxP b1 0), (11, m_0_Codev), (12, .int .i64 (m_0.Code.length : Int)), (17, v14), (22, v15), (20, σ.1), (27, σ.2)]) (fun σ => [row v14 1 (texts_11.map eStr), row v15 1 (numbers_12.map (eInt .i64)), box b1 [.string (bs m_0.Name), m_0_Effectsv, m_0_Codev], ro m_0_Effectsv 1 (m_0.Effects.map (eInt .i64)), ro m_0_Codev 3 (m_0.Code.map S_api_Instr.enc), box b22 [.int .i64 x21.Op, .int .i64 x21.A, .string (bs x21.S)], row σ.1 1 (([x21.S] : List (List UInt8)).map eStr), row σ.2 1 (([x21.Op, x21.A] : List Int).map (eInt .i64))]) ?_ (fun hK40 => ?_)
   ·rintro ⟨v29, v32⟩
    change AnyL _ _ _ _ _ (VF.of [(3, v14), (4, v15), (13, .int .i64 s_13), (1, boxP b1 0), (11, m_0_Codev), (12, .int .i64 (m_0.Code.length : Int)), (17, v14), (22, v15), (20, v29), (27, v32)]) [row v14 1 (texts_11.map eStr), row v15 1 (numbers_12.map (eInt .i64)), box b1 [.string (bs m_0.Name), m_0_Effectsv, m_0_Codev], ro m_0_Effectsv 1 (m_0.Effects.map (eInt .i64)), ro m_0_Codev 3 (m_0.Code.map S_api_Instr.enc), box b22 [.int .i64 x21.Op, .int .i64 x21.A, .string (bs x21.S)], row v29 1 (([x21.S] : List (List UInt8)).map eStr), row v32 1 (([x21.Op, x21.A] : List Int).map (eInt .i64))] _
    refine any_all [4] (by kernel_rfl) rfl ?_
    refine anyo_cons ?_ ?_
    ·
     refine any_t rfl (wn rfl) rfl (t_append (es := 1) 0 rfl Try.runUnderlying62 rfl Try.runUnderlying62 (.inr ⟨_, rfl⟩) Try.typeInfo9 rfl (by decide) Try.zeroValue9 rfl rfl rfl rfl (src_reads 6 rfl reads_row (map_ok eStr_ok _)) (map_room hr25 (by decide)) (map_fit hr25)) ?_
     rintro v41 _ rfl
     refine ⟨(se (se (ss (ss (ss (ss (sn))))))), ?_⟩
     refine any_turn (retell 0 (g := row v41 1 ((texts_11 ++ ([x21.S] : List (List UInt8))).map eStr)) rfl (congrArg (row _ _) List.map_append.symm)) ?_
     exact any_weak2 (hK36 (v41, v32, v29)) [0, 1, 2, 3, 4, 5, 6, 7] (by kernel_rfl) (qv9 rfl rfl rfl rfl rfl rfl rfl rfl rfl) (by decide) rfl
    exact anyo_nil
   refine any_cut2 #[true, true, true, true, false, true, true, true, true, true, false, false, false, false] 5 (Value) (fun σ => [(3, v14), (4, v15), (13, .int .i64 s_13), (1, boxP b1 0), (11, m_0_Codev), (12, .int .i64 (m_0.Code.length : Int)), (17, v14), (22, v15), (24, .int .i64 x21.Op), (26, .int .i64 x21.A), (20, σ)]) (fun σ => [row v14 1 (texts_11.map eStr), row v15 1 (numbers_12.map (eInt .i64)), box b1 [.string (bs m_0.Name), m_0_Effectsv, m_0_Codev], ro m_0_Effectsv 1 (m_0.Effects.map (eInt .i64)), ro m_0_Codev 3 (m_0.Code.map S_api_Instr.enc), box b22 [.int .i64 x21.Op, .int .i64 x21.A, .string (bs x21.S)], row σ 1 (([x21.S] : List (List UInt8)).map eStr)]) ?_ (fun hK42 => ?_)
   ·rintro v29
    change AnyL _ _ _ _ _ (VF.of [(3, v14), (4, v15), (13, .int .i64 s_13), (1, boxP b1 0), (11, m_0_Codev), (12, .int .i64 (m_0.Code.length : Int)), (17, v14), (22, v15), (24, .int .i64 x21.Op), (26, .int .i64 x21.A), (20, v29)]) [row v14 1 (texts_11.map eStr), row v15 1 (numbers_12.map (eInt .i64)), box b1 [.string (bs m_0.Name), m_0_Effectsv, m_0_Codev], ro m_0_Effectsv 1 (m_0.Effects.map (eInt .i64)), ro m_0_Codev 3 (m_0.Code.map S_api_Instr.enc), box b22 [.int .i64 x21.Op, .int .i64 x21.A, .string (bs x21.S)], row v29 1 (([x21.S] : List (List UInt8)).map eStr)] _
    refine any_all [4, 10] (by kernel_rfl) rfl ?_
    refine anyo_cons ?_ ?_
    ·
     refine any_t rfl (wn rfl) rfl (t_append (es := 1) 0 rfl Try.runUnderlying62 rfl Try.runUnderlying62 (.inr ⟨_, rfl⟩) Try.typeInfo9 rfl (by decide) Try.zeroValue9 rfl rfl rfl rfl (src_reads 6 rfl reads_row (map_ok eStr_ok _)) (map_room hr25 (by decide)) (map_fit hr25)) ?_
     rintro v43 _ rfl
     refine ⟨(se (se (ss (ss (ss (ss (sn))))))), ?_⟩
     refine any_turn (retell 0 (g := row v43 1 ((texts_11 ++ ([x21.S] : List (List UInt8))).map eStr)) rfl (congrArg (row _ _) List.map_append.symm)) ?_
     exact any_weak2 (hK38 (v43, v29)) [0, 1, 2, 3, 4, 5, 6] (by kernel_rfl) (qv10 rfl rfl rfl rfl rfl rfl rfl rfl rfl rfl) (by decide) rfl
    refine anyo_cons ?_ ?_
    ·
     refine any_t rfl (wn rfl) rfl (t_lit [.int .i64 x21.Op, .int .i64 x21.A] Try.runUnderlying22 Try.sizeOf3 Try.zeroValue3 rfl (by decide) (by decide) rfl (by simp [Value.cells, boxP])) ?_
     rintro v44 _ ⟨rfl, _⟩
     refine ⟨(se (se (ss (ss (ss (ss (sn))))))), ?_⟩
     refine any_turn (retell 7 (g := row v44 1 (([x21.Op, x21.A] : List Int).map (eInt .i64))) rfl rfl) ?_
     exact any_weak2 (hK40 (v29, v44)) [0, 1, 2, 3, 4, 5, 6, 7] (by kernel_rfl) (qv10 rfl rfl rfl rfl rfl rfl rfl rfl rfl rfl) (by decide) rfl
    exact anyo_nil
   refine any_cut2 #[true, true, true, false, false, true, true, true, true, true, true, false, false, false] 5 (Value) (fun σ => [(3, v14), (4, v15), (13, .int .i64 s_13), (1, boxP b1 0), (11, m_0_Codev), (12, .int .i64 (m_0.Code.length : Int)), (17, v14), (19, .string (bs x21.S)), (22, v15), (27, σ)]) (fun σ => [row v14 1 (texts_11.map eStr), row v15 1 (numbers_12.map (eInt .i64)), box b1 [.string (bs m_0.Name), m_0_Effectsv, m_0_Codev], ro m_0_Effectsv 1 (m_0.Effects.map (eInt .i64)), ro m_0_Codev 3 (m_0.Code.map S_api_Instr.enc), box b22 [.int .i64 x21.Op, .int .i64 x21.A, .string (bs x21.S)], row σ 1 (([x21.Op, x21.A] : List Int).map (eInt .i64))]) ?_ (fun hK45 => ?_)
   ·rintro v30
    change AnyL _ _ _ _ _ (VF.of [(3, v14), (4, v15), (13, .int .i64 s_13), (1, boxP b1 0), (11, m_0_Codev), (12, .int .i64 (m_0.Code.length : Int)), (17, v14), (19, .string (bs x21.S)), (22, v15), (27, v30)]) [row v14 1 (texts_11.map eStr), row v15 1 (numbers_12.map (eInt .i64)), box b1 [.string (bs m_0.Name), m_0_Effectsv, m_0_Codev], ro m_0_Effectsv 1 (m_0.Effects.map (eInt .i64)), ro m_0_Codev 3 (m_0.Code.map S_api_Instr.enc), box b22 [.int .i64 x21.Op, .int .i64 x21.A, .string (bs x21.S)], row v30 1 (([x21.Op, x21.A] : List Int).map (eInt .i64))] _
    refine any_all [3] (by kernel_rfl) rfl ?_
    refine anyo_cons ?_ ?_
    ·
     refine any_t rfl (wn rfl) rfl (t_lit [.string (bs x21.S)] Try.runUnderlying62 Try.sizeOf9 Try.zeroValue9 rfl (by decide) (by decide) rfl (by simp [Value.cells, boxP])) ?_
     rintro v46 _ ⟨rfl, _⟩
     refine ⟨(se (se (ss (ss (ss (ss (sn))))))), ?_⟩
     refine any_turn (retell 7 (g := row v46 1 (([x21.S] : List (List UInt8)).map eStr)) rfl rfl) ?_
     exact any_weak2 (hK40 (v46, v30)) [0, 1, 2, 3, 4, 5, 7, 6] (by kernel_rfl) (qv10 rfl rfl rfl rfl rfl rfl rfl rfl rfl rfl) (by decide) rfl
    exact anyo_nil
   refine any_all [3, 10] (by kernel_rfl) rfl ?_
   refine anyo_cons ?_ ?_
   ·
    refine any_t rfl (wn rfl) rfl (t_lit [.string (bs x21.S)] Try.runUnderlying62 Try.sizeOf9 Try.zeroValue9 rfl (by decide) (by decide) rfl (by simp [Value.cells, boxP])) ?_
    rintro v47 _ ⟨rfl, _⟩
    refine ⟨(se (se (ss (ss (ss (ss (sn))))))), ?_⟩
    refine any_turn (retell 6 (g := row v47 1 (([x21.S] : List (List UInt8)).map eStr)) rfl rfl) ?_
    exact any_weak2 (hK42 v47) [0, 1, 2, 3, 4, 5, 6] (by kernel_rfl) (qv11 rfl rfl rfl rfl rfl rfl rfl rfl rfl rfl rfl) (by decide) rfl
   refine anyo_cons ?_ ?_
   ·
    refine any_t rfl (wn rfl) rfl (t_lit [.int .i64 x21.Op, .int .i64 x21.A] Try.runUnderlying22 Try.sizeOf3 Try.zeroValue3 rfl (by decide) (by decide) rfl (by simp [Value.cells, boxP])) ?_
    rintro v48 _ ⟨rfl, _⟩
    refine ⟨(se (se (ss (ss (ss (ss (sn))))))), ?_⟩
    refine any_turn (retell 6 (g := row v48 1 (([x21.Op, x21.A] : List Int).map (eInt .i64))) rfl rfl) ?_
    exact any_weak2 (hK45 v48) [0, 1, 2, 3, 4, 5, 6] (by kernel_rfl) (qv10 rfl rfl rfl rfl rfl rfl rfl rfl rfl rfl) (by decide) rfl
   exact anyo_nil
  ·replace h := cond_f h hc20
   refine run_exit _ rfl ?_
   obtain rfl := some_eq h
   obtain rfl := hstop18 _ rfl
   exact goes_cut hL9 ((texts_11, numbers_12), (v14, v15)) [0, 1, 2, 3, 4] (qv3 rfl rfl rfl) (by decide) rfl rfl
 rintro ⟨⟨texts_3, numbers_4⟩, ⟨v5, v6⟩⟩ hj
 obtain rfl : o7 = _ := hj
 replace h := after_go ho8
 clear ho8
 change Run _ _ _ (VF.of [(3, v5), (4, v6), (1, boxP b1 0)]) [row v5 1 (texts_3.map eStr), row v6 1 (numbers_4.map (eInt .i64)), box b1 [.string (bs m_0.Name), m_0_Effectsv, m_0_Codev], ro m_0_Effectsv 1 (m_0.Effects.map (eInt .i64)), ro m_0_Codev 3 (m_0.Code.map S_api_Instr.enc)]
 refine run_seq ?_
 refine run_drawany [row v5 1 (texts_3.map eStr), row v6 1 (numbers_4.map (eInt .i64)), box b1 [.string (bs m_0.Name), m_0_Effectsv, m_0_Codev], ro m_0_Effectsv 1 (m_0.Effects.map (eInt .i64)), ro m_0_Codev 3 (m_0.Code.map S_api_Instr.enc)] (by kernel_rfl) ?_
 refine any_y 0 rfl (by kernel_rfl) (by kernel_rfl) (by kernel_rfl) (ss (ss (ss (ss (ss (sn)))))) (wn rfl) rfl (y_move rfl) ?_
 refine any_y 2 rfl (by kernel_rfl) (by kernel_rfl) (by kernel_rfl) (ss (ss (ss (ss (ss (sn)))))) (wn rfl) rfl (y_fieldAddr_box (sz := 0) Try.runUnderlying31 rfl Try.sizeOf22 rfl) ?_
 refine any_y 3 rfl (by kernel_rfl) (by kernel_rfl) (by kernel_rfl) (ss (ss (ss (ss (ss (sn)))))) (wn rfl) rfl (y_load_box 2 Try.isAgg22 rfl rfl rfl) ?_
 refine any_y 5 rfl (by kernel_rfl) (by kernel_rfl) (by kernel_rfl) (ss (ss (ss (ss (ss (sn)))))) (wn rfl) rfl (y_move rfl) ?_
 refine any_all [1] (by kernel_rfl) rfl (anyo_cons ?_ anyo_nil)
 obtain ⟨r49, hr50, h⟩ := obind_some h
 refine any_t rfl (wn rfl) rfl (t_callx (vs := [v5]) (cs := []) [(0, 1)] rfl Try.call27 rfl (wire_Strings_ok n  texts_3 v5 hr50) (showsX_look 0 rfl views_row showsX_nil) rfl (.inr (by rintro _ _ ⟨_, rfl, rfl⟩ g hg; first | (cases hg; done) | (simp only [List.mem_cons, List.not_mem_nil, or_false] at hg; first | (subst hg; first | exact strict_row | exact strict_box) | (rcases hg with rfl | rfl <;> first | exact strict_row | exact strict_box) | (rcases hg with rfl | rfl | rfl <;> first | exact strict_row | exact strict_box))))) ?_
 rintro v51 _ ⟨_, ⟨_, rfl, rfl⟩, rfl⟩
 refine ⟨(ss (ss (ss (ss (ss (sn)))))), ?_⟩
 refine any_all [4] (by kernel_rfl) rfl (anyo_cons ?_ anyo_nil)
 obtain ⟨r52, hr53, h⟩ := obind_some h
 refine any_t rfl (wn rfl) rfl (t_callx (vs := [m_0_Effectsv]) (cs := []) [(3, 0)] rfl Try.call28 rfl (wire_Ints_ok n  m_0.Effects m_0_Effectsv hr53) (showsX_view 3 rfl views_ro showsX_nil) rfl (.inl rfl)) ?_
 rintro v54 _ ⟨_, ⟨_, rfl, rfl⟩, rfl⟩
 refine ⟨(ss (ss (ss (ss (ss (sn)))))), ?_⟩
 refine any_all [6] (by kernel_rfl) rfl (anyo_cons ?_ anyo_nil)
 obtain ⟨r55, hr56, h⟩ := obind_some h
 refine any_t rfl (wn rfl) rfl (t_callx (vs := [v6]) (cs := []) [(1, 1)] rfl Try.call28 rfl (wire_Ints_ok n  numbers_4 v6 hr56) (showsX_look 1 rfl views_row showsX_nil) rfl (.inr (by rintro _ _ ⟨_, rfl, rfl⟩ g hg; first | (cases hg; done) | (simp only [List.mem_cons, List.not_mem_nil, or_false] at hg; first | (subst hg; first | exact strict_row | exact strict_box) | (rcases hg with rfl | rfl <;> first | exact strict_row | exact strict_box) | (rcases hg with rfl | rfl | rfl <;> first | exact strict_row | exact strict_box))))) ?_
 rintro v57 _ ⟨_, ⟨_, rfl, rfl⟩, rfl⟩
 refine ⟨(ss (ss (ss (ss (ss (sn)))))), ?_⟩
 refine any_all [7] (by kernel_rfl) rfl (anyo_cons ?_ anyo_nil)
 refine anyo_turn (Go.Abs.freeze 5 rfl) ?_
 refine anyo_turn (Go.Abs.freeze 6 rfl) ?_
 refine anyo_turn (Go.Abs.freeze 7 rfl) ?_
 refine anyo_slc 5 rfl reads_ro (fun hs59 hs59o => ?_)
 refine anyo_slc 6 rfl reads_ro (fun hs60 hs60o => ?_)
 refine anyo_slc 7 rfl reads_ro (fun hs61 hs61o => ?_)
 refine any_t rfl (wn rfl) rfl (t_lit [v51, v54, v57] Try.runUnderlying90 Try.sizeOf40 Try.zeroValue40 rfl (by decide) (by decide) rfl (by intro q hq; simp only [List.mem_cons, List.not_mem_nil, or_false] at hq; rcases hq with rfl | rfl | rfl <;> first | rfl | (rw [hs59]; rfl) | (rw [hs60]; rfl) | (rw [hs61]; rfl))) ?_
 rintro v58 _ ⟨rfl, _⟩
 refine ⟨(ss (ss (ss (ss (ss (sn)))))), ?_⟩
 refine any_turn (turn_closeR (C := NC_L_uint8_40) (l := ([r49, r52, r55] : List (List UInt8))) 8 [(r49, v51), (r52, v54), (r55, v57)] rfl (by simp only [List.map_cons, List.map_nil, hs59, hs60, hs61]; rfl) rfl (hasall_cons (has_cons 5 rfl has_nil) (hasall_cons (has_cons 6 rfl has_nil) (hasall_cons (has_cons 7 rfl has_nil) hasall_nil)))) ?_
 refine any_all [8] (by kernel_rfl) rfl (anyo_cons ?_ anyo_nil)
 obtain ⟨r62, hr63, h⟩ := obind_some h
 refine any_t rfl (wn rfl) rfl (t_callx (vs := [v58]) (cs := []) [(8, 1)] rfl Try.call26 rfl (slices_Concat_byte_byte_26_ok n  ([r49, r52, r55] : List (List UInt8)) v58 hr63) (showsX_look 8 rfl views_nrow showsX_nil) rfl (.inr (by rintro _ _ ⟨_, rfl, rfl⟩ g hg; first | (cases hg; done) | (simp only [List.mem_cons, List.not_mem_nil, or_false] at hg; first | (subst hg; first | exact strict_row | exact strict_box) | (rcases hg with rfl | rfl <;> first | exact strict_row | exact strict_box) | (rcases hg with rfl | rfl | rfl <;> first | exact strict_row | exact strict_box))))) ?_
 rintro v64 _ ⟨_, ⟨_, rfl, rfl⟩, rfl⟩
 refine ⟨(ss (ss (ss (ss (ss (sn)))))), ?_⟩
 refine any_y 9 rfl (by kernel_rfl) (by kernel_rfl) (by kernel_rfl) (ss (ss (ss (ss (ss (sn)))))) (wn rfl) rfl (y_assign rfl) ?_
 refine any_nil (by kernel_rfl) ?_
 refine goes_code ?_
 refine run_ret ?_
 obtain rfl := some_eq h
 refine fin_slots [2] [v64] [9] [row v64 1 (r62.map eB8)] Try.results13 rfl (by decide) rfl ?_
 exact ⟨_, rfl, rfl⟩

def wire_GetInt_L1 (b_0 : (List UInt8)) : (Int × Int) → Option (Lp (Int × Int) (Lp (Int × Int) (Int × Int × Int))) :=
 fun (z_7, s_8) =>
  cond (decide (s_8 < (b_0.length : Int)))
   (idx b_0 s_8 fun x14 =>
   bindJ (S := Bool)
    (cond (decide (s_8 = 9) && decide (1 < ((x14).toNat : Int)))
     (some (.go (decide (s_8 = 9) && decide (1 < ((x14).toNat : Int)))))
     (some (.go (decide (0 < s_8) && decide (((x14).toNat : Int) = 0)))))
   (fun s_15 =>
    cond s_15
     (some (.stop (.stop (0, 0, 11))))
     (need (0 ≤ (IntKind.i64.wrap (7 * s_8))) (
     cond (decide (((x14).toNat : Int) < 128))
      (some (.stop (.go ((bitOr .u64 z_7 (IntKind.u64.wrap ((IntKind.u64.wrap (bitAnd .u8 ((x14).toNat : Int) 127)) * 2 ^ (min (((IntKind.i64.wrap (7 * s_8))).toNat) IntKind.u64.bits)))), (IntKind.i64.wrap (s_8 + 1))))))
      (some (.go ((bitOr .u64 z_7 (IntKind.u64.wrap ((IntKind.u64.wrap (bitAnd .u8 ((x14).toNat : Int) 127)) * 2 ^ (min (((IntKind.i64.wrap (7 * s_8))).toNat) IntKind.u64.bits)))), (IntKind.i64.wrap (s_8 + 1)))))))))
   (some (.stop (.go (z_7, 0))))
def wire_GetInt (n : Nat) (b_0 : (List UInt8)) : Option (Int × Int × Int) :=
 bindJ (S := Int × Int)
  (iter (wire_GetInt_L1 b_0) n (0, 0))
 (fun (z_1, used_2) =>
  cond (decide (used_2 = 0))
   (some (0, 0, 10))
   (some ((bitXor .i64 (IntKind.i64.wrap (Int.fdiv z_1 (2 ^ (min ((1 : Int).toNat) IntKind.u64.bits)))) (IntKind.i64.wrap (0 - (IntKind.i64.wrap (bitAnd .u64 z_1 1))))), used_2, 0)))
theorem wire_GetInt_ok (n : Nat) (b_0 : (List UInt8)) (b_0v : Value) {r : Int × Int × Int} (h : wire_GetInt n b_0 = some r) :
  Meets Try.prog 47 [b_0v] [ro b_0v 1 (b_0.map eB8)] (fun v G => v = .tuple #[.int .i64 r.1, .int .i64 r.2.1, .int .i64 r.2.2] ∧ G = []) := by
 refine fn_of_run Try.func47 rfl Try.ntmps47 rfl (fun w0 o0 => ?_)
 refine run_seq ?_
 refine run_region' ?_
 refine oy rfl rfl (y_assign rfl) ?_
 refine oy rfl rfl (y_assign rfl) ?_
 refine oy rfl rfl (y_assign rfl) ?_
 refine ops_nil ?_
 refine goes_code ?_
 refine run_scope ?_
 refine run_seq ?_
 refine run_region' ?_
 refine oy rfl rfl (y_assign rfl) ?_
 refine ops_nil ?_
 refine goes_code ?_
 refine run_seq ?_
 refine run_region' ?_
 refine oy rfl rfl (y_assign rfl) ?_
 refine ops_nil ?_
 refine goes_code ?_
 refine run_seq ?_
 refine run_label ?_
 refine goes_code ?_
 obtain ⟨o3, h, ho4⟩ := bindJ_some h
 refine run_cut ((Int × Int) × (Unit)) (fun σ => [(5, .int .u64 σ.1.1), (6, .int .i64 σ.1.2)]) (fun σ => []) (fun σ => o3 = .go σ.1) (fun L6 hL5 => ?_) ?_
 ·
  refine run_seq ?_
  refine run_region' ?_
  refine oy rfl rfl (y_move rfl) ?_
  refine oy rfl rfl ((y_len 0 rfl Try.runUnderlying40 rfl rfl reads_ro).to (v_len eB8 _)) ?_
  refine oy rfl rfl (y_move rfl) ?_
  refine ops_nil ?_
  refine goes_code ?_
  refine run_block ?_
  refine run_iter (step := wire_GetInt_L1 b_0) (n := n) (s0 := (0, 0)) h (G := Unit) () (fun σ γ => [(5, .int .u64 σ.1), (11, .int .i64 σ.2), (6, .int .i64 0), (9, b_0v), (10, .int .i64 (b_0.length : Int))]) (fun σ γ => [ro b_0v 1 (b_0.map eB8)]) [0] (qv5 rfl rfl rfl rfl rfl) (by decide) rfl ?_
  rintro ⟨z_7, s_8⟩ _ o9 h L12 hgo10 hstop11
  change Run _ _ _ (VF.of [(5, .int .u64 z_7), (11, .int .i64 s_8), (6, .int .i64 0), (9, b_0v), (10, .int .i64 (b_0.length : Int))]) [ro b_0v 1 (b_0.map eB8)]
  refine run_seq ?_
  refine run_region' ?_
  refine oy rfl rfl (y_lss rfl rfl) ?_
  refine ops_nil ?_
  refine goes_code ?_
  refine run_seq ?_
  refine run_cond (decide (s_8 < (b_0.length : Int))) rfl (fun hc13 => ?_) (fun hc13 => ?_)
  ·replace h := cond_t h hc13
   refine run_skip ?_
   refine goes_code ?_
   refine run_seq ?_
   refine run_block ?_
   refine run_seq ?_
   refine run_region' ?_
   refine oy rfl rfl (y_move rfl) ?_
   obtain ⟨x14, hzx14, hlx14, hxx14, h⟩ := idx_some h
   refine oy rfl rfl (y_indexAddrI (kd := .i64) (i := s_8) 0 Try.runUnderlying40 Try.sizeOf5 rfl rfl rfl reads_ro hzx14 (map_lt hlx14)) ?_
   refine oy rfl rfl (y_load_elem (i := s_8.toNat) 0 Try.isAgg5 rfl rfl reads_ro (map_get hxx14)) ?_
   refine oy rfl rfl (y_assign rfl) ?_
   refine oy rfl rfl (y_assign rfl) ?_
   refine ops_nil ?_
   refine goes_code ?_
   refine run_seq ?_
   refine run_block ?_
   obtain ⟨o16, h, ho17⟩ := bindJ_some h
   refine run_cut ((Bool) × (Unit)) (fun σ => [(24, .bool σ.1), (5, .int .u64 z_7), (6, .int .i64 0), (7, .int .i64 s_8), (8, .int .u8 ((x14).toNat : Int)), (9, b_0v), (10, .int .i64 (b_0.length : Int)), (11, .int .i64 s_8)]) (fun σ => [ro b_0v 1 (b_0.map eB8)]) (fun σ => o16 = .go σ.1) (fun L19 hL18 => ?_) ?_
   ·
    refine run_seq ?_
    refine run_region' ?_
    refine oy rfl rfl (y_move rfl) ?_
    refine oy rfl rfl (y_eql rfl rfl) ?_
    refine oy rfl rfl (y_move rfl) ?_
    refine ops_cut 3 (Bool) (fun σ => [(5, .int .u64 z_7), (11, .int .i64 s_8), (6, .int .i64 0), (9, b_0v), (10, .int .i64 (b_0.length : Int)), (7, .int .i64 s_8), (8, .int .u8 ((x14).toNat : Int)), (30, .bool σ)]) (fun σ => [ro b_0v 1 (b_0.map eB8)]) (fun σ => σ = (decide (s_8 = 9) && decide (1 < ((x14).toNat : Int)))) (fun L20 hL21 => ?_) ?_
    ·refine ops_split 27 (decide (s_8 = 9)) rfl (fun hg22 => ?_) (fun hg22 => ?_)
     ·skip
      refine ops_y (wg 2 true 27 rfl rfl rfl rfl) rfl (y_move rfl) ?_
      refine ops_y (wg 2 true 27 rfl rfl rfl rfl) rfl (y_gtr rfl rfl) ?_
      refine oy rfl rfl (y_pick (b := true) rfl rfl) ?_
      refine ops_nil ?_
      exact goes_cut hL21 (decide (1 < ((x14).toNat : Int))) [0] (qv8 rfl rfl rfl rfl rfl rfl rfl rfl) (by decide) rfl (by rw [hg22]; simp)
     ·skip
      refine ops_no 2 true 27 rfl rfl rfl rfl rfl ?_
      refine ops_no 2 true 27 rfl rfl rfl rfl rfl ?_
      refine oy rfl rfl (y_pick (b := false) rfl rfl) ?_
      refine ops_nil ?_
      exact goes_cut hL21 false [0] (qv8 rfl rfl rfl rfl rfl rfl rfl rfl) (by decide) rfl (by rw [hg22]; simp)
    rintro _ rfl
    refine oy rfl rfl (y_assign rfl) ?_
    refine ops_nil ?_
    refine goes_code ?_
    refine run_cond (decide (s_8 = 9) && decide (1 < ((x14).toNat : Int))) rfl (fun hc23 => ?_) (fun hc23 => ?_)
    ·replace h := cond_t h hc23
     refine run_skip ?_
     obtain rfl := some_eq h
     exact goes_cut hL18 ((decide (s_8 = 9) && decide (1 < ((x14).toNat : Int))), ()) [0] (qv8 rfl rfl rfl rfl rfl rfl rfl rfl) (by decide) rfl rfl
    ·replace h := cond_f h hc23
     refine run_region' ?_
     refine oy rfl rfl (y_move rfl) ?_
     refine oy rfl rfl (y_gtr rfl rfl) ?_
     refine oy rfl rfl (y_move rfl) ?_
     refine ops_cut 3 (Bool) (fun σ => [(5, .int .u64 z_7), (11, .int .i64 s_8), (6, .int .i64 0), (9, b_0v), (10, .int .i64 (b_0.length : Int)), (7, .int .i64 s_8), (8, .int .u8 ((x14).toNat : Int)), (36, .bool σ)]) (fun σ => [ro b_0v 1 (b_0.map eB8)]) (fun σ => σ = (decide (0 < s_8) && decide (((x14).toNat : Int) = 0))) (fun L24 hL25 => ?_) ?_
     ·refine ops_split 33 (decide (0 < s_8)) rfl (fun hg26 => ?_) (fun hg26 => ?_)
      ·skip
       refine ops_y (wg 2 true 33 rfl rfl rfl rfl) rfl (y_move rfl) ?_
       refine ops_y (wg 2 true 33 rfl rfl rfl rfl) rfl (y_eql rfl rfl) ?_
       refine oy rfl rfl (y_pick (b := true) rfl rfl) ?_
       refine ops_nil ?_
       exact goes_cut hL25 (decide (((x14).toNat : Int) = 0)) [0] (qv8 rfl rfl rfl rfl rfl rfl rfl rfl) (by decide) rfl (by rw [hg26]; simp)
      ·skip
       refine ops_no 2 true 33 rfl rfl rfl rfl rfl ?_
       refine ops_no 2 true 33 rfl rfl rfl rfl rfl ?_
       refine oy rfl rfl (y_pick (b := false) rfl rfl) ?_
       refine ops_nil ?_
       exact goes_cut hL25 false [0] (qv8 rfl rfl rfl rfl rfl rfl rfl rfl) (by decide) rfl (by rw [hg26]; simp)
     rintro _ rfl
     refine oy rfl rfl (y_assign rfl) ?_
     refine ops_nil ?_
     obtain rfl := some_eq h
     exact goes_cut hL18 ((decide (0 < s_8) && decide (((x14).toNat : Int) = 0)), ()) [0] (qv8 rfl rfl rfl rfl rfl rfl rfl rfl) (by decide) rfl rfl
   rintro ⟨s_15, _⟩ hj
   obtain rfl : o16 = _ := hj
   replace h := after_go ho17
   clear ho17
   change Run _ _ _ (VF.of [(24, .bool s_15), (5, .int .u64 z_7), (6, .int .i64 0), (7, .int .i64 s_8), (8, .int .u8 ((x14).toNat : Int)), (9, b_0v), (10, .int .i64 (b_0.length : Int)), (11, .int .i64 s_8)]) [ro b_0v 1 (b_0.map eB8)]
   refine run_cond s_15 rfl (fun hc27 => ?_) (fun hc27 => ?_)
   ·replace h := cond_t h hc27
    refine run_seq ?_
    refine run_region' ?_
    refine oy rfl rfl (y_assign rfl) ?_
    refine oy rfl rfl (y_assign rfl) ?_
    refine oy rfl rfl (y_assign rfl) ?_
    refine ops_nil ?_
    refine goes_code ?_
    refine run_ret ?_
    obtain rfl := some_eq h
    obtain rfl := hstop11 _ rfl
    skip
    obtain rfl := after_stop ho4
    refine fin_slots [2, 3, 4] [.int .i64 0, .int .i64 0, .int .i64 11] [] [] Try.results47 rfl (by decide) rfl ?_
    exact ⟨rfl, rfl⟩
   ·replace h := cond_f h hc27
    refine run_region' ?_
    refine oy rfl rfl (y_move rfl) ?_
    refine oy rfl rfl (y_move rfl) ?_
    refine oy rfl rfl (y_and rfl rfl) ?_
    refine oy rfl rfl (y_conv Try.runUnderlying5 Try.runUnderlying115 rfl) ?_
    refine oy rfl rfl (y_move rfl) ?_
    refine oy rfl rfl (y_mul rfl rfl) ?_
    obtain ⟨hd28, h⟩ := need_some h
    refine oy rfl rfl (y_shl rfl rfl hd28) ?_
    refine oy rfl rfl (y_or rfl rfl) ?_
    refine oy rfl rfl (y_assign rfl) ?_
    refine ops_nil ?_
    refine goes_blk ?_
    refine goes_code ?_
    refine run_seq ?_
    refine run_weak [(5, .int .u64 (bitOr .u64 z_7 (IntKind.u64.wrap ((IntKind.u64.wrap (bitAnd .u8 ((x14).toNat : Int) 127)) * 2 ^ (min (((IntKind.i64.wrap (7 * s_8))).toNat) IntKind.u64.bits))))), (6, .int .i64 0), (7, .int .i64 s_8), (8, .int .u8 ((x14).toNat : Int)), (9, b_0v), (10, .int .i64 (b_0.length : Int)), (11, .int .i64 s_8)] [0] [ro b_0v 1 (b_0.map eB8)] (qv7 rfl rfl rfl rfl rfl rfl rfl) (by decide) rfl ?_
    refine run_region' ?_
    refine oy rfl rfl (y_move rfl) ?_
    refine oy rfl rfl (y_lss rfl rfl) ?_
    refine ops_nil ?_
    refine goes_code ?_
    refine run_cond (decide (((x14).toNat : Int) < 128)) rfl (fun hc29 => ?_) (fun hc29 => ?_)
    ·replace h := cond_t h hc29
     refine run_seq ?_
     refine run_region' ?_
     refine oy rfl rfl (y_move rfl) ?_
     refine oy rfl rfl (y_add rfl rfl) ?_
     refine oy rfl rfl (y_assign rfl) ?_
     refine ops_nil ?_
     refine goes_code ?_
     refine run_exit _ rfl ?_
     obtain rfl := some_eq h
     obtain rfl := hstop11 _ rfl
     exact goes_cut hL5 (((bitOr .u64 z_7 (IntKind.u64.wrap ((IntKind.u64.wrap (bitAnd .u8 ((x14).toNat : Int) 127)) * 2 ^ (min (((IntKind.i64.wrap (7 * s_8))).toNat) IntKind.u64.bits)))), (IntKind.i64.wrap (s_8 + 1))), ()) [] (qv2 rfl rfl) (by decide) rfl rfl
    ·replace h := cond_f h hc29
     refine run_skip ?_
     refine goes_blk ?_
     refine goes_code ?_
     refine run_region' ?_
     refine oy rfl rfl (y_add rfl rfl) ?_
     refine oy rfl rfl (y_move rfl) ?_
     refine ops_nil ?_
     obtain rfl := some_eq h
     exact goes_iter hgo10 ((bitOr .u64 z_7 (IntKind.u64.wrap ((IntKind.u64.wrap (bitAnd .u8 ((x14).toNat : Int) 127)) * 2 ^ (min (((IntKind.i64.wrap (7 * s_8))).toNat) IntKind.u64.bits)))), (IntKind.i64.wrap (s_8 + 1))) () [0] rfl (qv5 rfl rfl rfl rfl rfl) (by decide) rfl
  ·replace h := cond_f h hc13
   refine run_exit _ rfl ?_
   obtain rfl := some_eq h
   obtain rfl := hstop11 _ rfl
   exact goes_cut hL5 ((z_7, 0), ()) [] (qv2 rfl rfl) (by decide) rfl rfl
 rintro ⟨⟨z_1, used_2⟩, _⟩ hj
 obtain rfl : o3 = _ := hj
 replace h := after_go ho4
 clear ho4
 change Run _ _ _ (VF.of [(5, .int .u64 z_1), (6, .int .i64 used_2)]) []
 refine run_seq ?_
 refine run_seq ?_
 refine run_region' ?_
 refine oy rfl rfl (y_move rfl) ?_
 refine oy rfl rfl (y_eql rfl rfl) ?_
 refine ops_nil ?_
 refine goes_code ?_
 refine run_cond (decide (used_2 = 0)) rfl (fun hc30 => ?_) (fun hc30 => ?_)
 ·replace h := cond_t h hc30
  refine run_seq ?_
  refine run_region' ?_
  refine oy rfl rfl (y_assign rfl) ?_
  refine oy rfl rfl (y_assign rfl) ?_
  refine oy rfl rfl (y_assign rfl) ?_
  refine ops_nil ?_
  refine goes_code ?_
  refine run_ret ?_
  obtain rfl := some_eq h
  refine fin_slots [2, 3, 4] [.int .i64 0, .int .i64 0, .int .i64 10] [] [] Try.results47 rfl (by decide) rfl ?_
  exact ⟨rfl, rfl⟩
 ·replace h := cond_f h hc30
  refine run_skip ?_
  refine goes_code ?_
  refine run_seq ?_
  refine run_region' ?_
  refine oy rfl rfl (y_move rfl) ?_
  refine oy rfl rfl (y_shr rfl rfl (by decide)) ?_
  refine oy rfl rfl (y_conv Try.runUnderlying115 Try.runUnderlying3 rfl) ?_
  refine oy rfl rfl (y_move rfl) ?_
  refine oy rfl rfl (y_and rfl rfl) ?_
  refine oy rfl rfl (y_conv Try.runUnderlying115 Try.runUnderlying3 rfl) ?_
  refine oy rfl rfl (y_neg rfl) ?_
  refine oy rfl rfl (y_xor rfl rfl) ?_
  refine oy rfl rfl (y_move rfl) ?_
  refine oy rfl rfl (y_assign rfl) ?_
  refine oy rfl rfl (y_assign rfl) ?_
  refine oy rfl rfl (y_assign rfl) ?_
  refine ops_nil ?_
  refine goes_code ?_
  refine run_ret ?_
  obtain rfl := some_eq h
  refine fin_slots [2, 3, 4] [.int .i64 (bitXor .i64 (IntKind.i64.wrap (Int.fdiv z_1 (2 ^ (min ((1 : Int).toNat) IntKind.u64.bits)))) (IntKind.i64.wrap (0 - (IntKind.i64.wrap (bitAnd .u64 z_1 1))))), .int .i64 used_2, .int .i64 0] [] [] Try.results47 rfl (by decide) rfl ?_
  exact ⟨rfl, rfl⟩

def wire_length (n : Nat) (b_0 : (List UInt8)) (least_1 : Int) : Option (Int × Int × Int) :=
 obind (wire_GetInt n b_0) fun r1 =>
 cond (decide (r1.2.2 ≠ 0))
  (some (0, 0, r1.2.2))
  (cond (decide (r1.1 < 0))
   (some (0, 0, 11))
   (need (least_1 ≠ 0) (
   cond (decide ((IntKind.i64.wrap ((IntKind.i64.wrap ((b_0.length : Int) - r1.2.1)).tdiv least_1)) < r1.1))
    (some (0, 0, 10))
    (some (r1.1, r1.2.1, 0)))))
theorem wire_length_ok (n : Nat) (b_0 : (List UInt8)) (least_1 : Int) (b_0v : Value) {r : Int × Int × Int} (h : wire_length n b_0 least_1 = some r) :
  Meets Try.prog 63 [b_0v, .int .i64 least_1] [ro b_0v 1 (b_0.map eB8)] (fun v G => v = .tuple #[.int .i64 r.1, .int .i64 r.2.1, .int .i64 r.2.2] ∧ G = []) := by
 refine fn_of_run Try.func63 rfl Try.ntmps63 rfl (fun w0 o0 => ?_)
 refine run_seq ?_
 refine run_region' ?_
 refine oy rfl rfl (y_assign rfl) ?_
 refine oy rfl rfl (y_assign rfl) ?_
 refine oy rfl rfl (y_assign rfl) ?_
 refine ops_nil ?_
 refine goes_code ?_
 refine run_seq ?_
 refine run_region' ?_
 refine oy rfl rfl (y_move rfl) ?_
 obtain ⟨r1, hr2, h⟩ := obind_some h
 refine ot rfl rfl (t_callx (vs := [b_0v]) (cs := []) [(0, 0)] rfl Try.call47 rfl (wire_GetInt_ok n  b_0 b_0v hr2) (showsX_view 0 rfl views_ro showsX_nil) rfl (.inl rfl)) ?_
 rintro _ _ ⟨_, ⟨rfl, rfl⟩, rfl⟩
 refine oy rfl rfl (y_move rfl) ?_
 refine oy rfl rfl (y_extract rfl rfl) ?_
 refine oy rfl rfl (y_extract rfl rfl) ?_
 refine oy rfl rfl (y_extract rfl rfl) ?_
 refine oy rfl rfl (y_assign rfl) ?_
 refine oy rfl rfl (y_assign rfl) ?_
 refine oy rfl rfl (y_assign rfl) ?_
 refine ops_nil ?_
 refine goes_code ?_
 refine run_seq ?_
 refine run_block ?_
 refine run_seq ?_
 refine run_weak [(0, b_0v), (1, .int .i64 least_1), (7, .int .i64 r1.1), (8, .int .i64 r1.2.1), (9, .int .i64 r1.2.2)] [0] [ro b_0v 1 (b_0.map eB8)] (qv5 rfl rfl rfl rfl rfl) (by decide) rfl ?_
 refine run_region' ?_
 refine oy rfl rfl (y_move rfl) ?_
 refine oy rfl rfl (y_neq rfl rfl) ?_
 refine oy rfl rfl (y_assign rfl) ?_
 refine ops_nil ?_
 refine goes_code ?_
 refine run_cond (decide (r1.2.2 ≠ 0)) rfl (fun hc3 => ?_) (fun hc3 => ?_)
 ·replace h := cond_t h hc3
  refine run_seq ?_
  refine run_region' ?_
  refine oy rfl rfl (y_move rfl) ?_
  refine oy rfl rfl (y_assign rfl) ?_
  refine oy rfl rfl (y_assign rfl) ?_
  refine oy rfl rfl (y_assign rfl) ?_
  refine ops_nil ?_
  refine goes_code ?_
  refine run_ret ?_
  obtain rfl := some_eq h
  refine fin_slots [4, 5, 6] [.int .i64 0, .int .i64 0, .int .i64 r1.2.2] [] [] Try.results63 rfl (by decide) rfl ?_
  exact ⟨rfl, rfl⟩
 ·replace h := cond_f h hc3
  refine run_seq ?_
  refine run_region' ?_
  refine oy rfl rfl (y_move rfl) ?_
  refine oy rfl rfl (y_lss rfl rfl) ?_
  refine oy rfl rfl (y_assign rfl) ?_
  refine ops_nil ?_
  refine goes_code ?_
  refine run_cond (decide (r1.1 < 0)) rfl (fun hc4 => ?_) (fun hc4 => ?_)
  ·replace h := cond_t h hc4
   refine run_seq ?_
   refine run_region' ?_
   refine oy rfl rfl (y_assign rfl) ?_
   refine oy rfl rfl (y_assign rfl) ?_
   refine oy rfl rfl (y_assign rfl) ?_
   refine ops_nil ?_
   refine goes_code ?_
   refine run_ret ?_
   obtain rfl := some_eq h
   refine fin_slots [4, 5, 6] [.int .i64 0, .int .i64 0, .int .i64 11] [] [] Try.results63 rfl (by decide) rfl ?_
   exact ⟨rfl, rfl⟩
  ·replace h := cond_f h hc4
   refine run_seq ?_
   refine run_region' ?_
   refine oy rfl rfl (y_move rfl) ?_
   refine oy rfl rfl (y_move rfl) ?_
   refine oy rfl rfl ((y_len 0 rfl Try.runUnderlying40 rfl rfl reads_ro).to (v_len eB8 _)) ?_
   refine oy rfl rfl (y_move rfl) ?_
   refine oy rfl rfl (y_sub rfl rfl) ?_
   refine oy rfl rfl (y_move rfl) ?_
   obtain ⟨hd5, h⟩ := need_some h
   refine oy rfl rfl (y_quo rfl rfl hd5) ?_
   refine oy rfl rfl (y_gtr rfl rfl) ?_
   refine oy rfl rfl (y_assign rfl) ?_
   refine ops_nil ?_
   refine goes_code ?_
   refine run_cond (decide ((IntKind.i64.wrap ((IntKind.i64.wrap ((b_0.length : Int) - r1.2.1)).tdiv least_1)) < r1.1)) rfl (fun hc6 => ?_) (fun hc6 => ?_)
   ·replace h := cond_t h hc6
    refine run_seq ?_
    refine run_weak [] [] [] vnil (by decide) rfl ?_
    refine run_region' ?_
    refine oy rfl rfl (y_assign rfl) ?_
    refine oy rfl rfl (y_assign rfl) ?_
    refine oy rfl rfl (y_assign rfl) ?_
    refine ops_nil ?_
    refine goes_code ?_
    refine run_ret ?_
    obtain rfl := some_eq h
    refine fin_slots [4, 5, 6] [.int .i64 0, .int .i64 0, .int .i64 10] [] [] Try.results63 rfl (by decide) rfl ?_
    exact ⟨rfl, rfl⟩
   ·replace h := cond_f h hc6
    refine run_skip ?_
    refine goes_blk ?_
    refine goes_code ?_
    refine run_seq ?_
    refine run_weak [(7, .int .i64 r1.1), (8, .int .i64 r1.2.1)] [] [] (qv2 rfl rfl) (by decide) rfl ?_
    refine run_region' ?_
    refine oy rfl rfl (y_move rfl) ?_
    refine oy rfl rfl (y_move rfl) ?_
    refine oy rfl rfl (y_assign rfl) ?_
    refine oy rfl rfl (y_assign rfl) ?_
    refine oy rfl rfl (y_assign rfl) ?_
    refine ops_nil ?_
    refine goes_code ?_
    refine run_ret ?_
    obtain rfl := some_eq h
    refine fin_slots [4, 5, 6] [.int .i64 r1.1, .int .i64 r1.2.1, .int .i64 0] [] [] Try.results63 rfl (by decide) rfl ?_
    exact ⟨rfl, rfl⟩

def wire_GetBytes (n : Nat) (b_0 : (List UInt8)) : Option ((List UInt8) × Int × Int) :=
 obind (wire_length n b_0 1) fun r1 =>
 cond (decide (r1.2.2 ≠ 0))
  (some ([], 0, r1.2.2))
  (need (0 ≤ r1.2.1 ∧ r1.2.1 ≤ (IntKind.i64.wrap (r1.2.1 + r1.1)) ∧ (IntKind.i64.wrap (r1.2.1 + r1.1)) ≤ (b_0.length : Int)) (
  some (((b_0.take (((IntKind.i64.wrap (r1.2.1 + r1.1))).toNat)).drop ((r1.2.1).toNat)), (IntKind.i64.wrap (r1.2.1 + r1.1)), 0)))
theorem wire_GetBytes_ok (n : Nat) (b_0 : (List UInt8)) (b_0v : Value) {r : (List UInt8) × Int × Int} (h : wire_GetBytes n b_0 = some r) :
  Meets Try.prog 45 [b_0v] [ro b_0v 1 (b_0.map eB8)] (fun v G => v = .tuple #[.string (bs r.1), .int .i64 r.2.1, .int .i64 r.2.2] ∧ G = []) := by
 refine fn_of_run Try.func45 rfl Try.ntmps45 rfl (fun w0 o0 => ?_)
 refine run_seq ?_
 refine run_region' ?_
 refine oy rfl rfl (y_assign rfl) ?_
 refine oy rfl rfl (y_assign rfl) ?_
 refine oy rfl rfl (y_assign rfl) ?_
 refine ops_nil ?_
 refine goes_code ?_
 refine run_seq ?_
 refine run_region' ?_
 refine oy rfl rfl (y_move rfl) ?_
 obtain ⟨r1, hr2, h⟩ := obind_some h
 refine ot rfl rfl (t_callx (vs := [b_0v, .int .i64 1]) (cs := []) [(0, 0)] rfl Try.call63 rfl (wire_length_ok n  b_0 1 b_0v hr2) (showsX_view 0 rfl views_ro showsX_nil) rfl (.inl rfl)) ?_
 rintro _ _ ⟨_, ⟨rfl, rfl⟩, rfl⟩
 refine oy rfl rfl (y_move rfl) ?_
 refine oy rfl rfl (y_extract rfl rfl) ?_
 refine oy rfl rfl (y_extract rfl rfl) ?_
 refine oy rfl rfl (y_extract rfl rfl) ?_
 refine oy rfl rfl (y_assign rfl) ?_
 refine oy rfl rfl (y_assign rfl) ?_
 refine oy rfl rfl (y_assign rfl) ?_
 refine ops_nil ?_
 refine goes_code ?_
 refine run_seq ?_
 refine run_seq ?_
 refine run_weak [(0, b_0v), (5, .int .i64 r1.1), (6, .int .i64 r1.2.1), (7, .int .i64 r1.2.2)] [0] [ro b_0v 1 (b_0.map eB8)] (qv4 rfl rfl rfl rfl) (by decide) rfl ?_
 refine run_region' ?_
 refine oy rfl rfl (y_move rfl) ?_
 refine oy rfl rfl (y_neq rfl rfl) ?_
 refine ops_nil ?_
 refine goes_code ?_
 refine run_cond (decide (r1.2.2 ≠ 0)) rfl (fun hc3 => ?_) (fun hc3 => ?_)
 ·replace h := cond_t h hc3
  refine run_seq ?_
  refine run_region' ?_
  refine oy rfl rfl (y_move rfl) ?_
  refine oy rfl rfl (y_assign rfl) ?_
  refine oy rfl rfl (y_assign rfl) ?_
  refine oy rfl rfl (y_assign rfl) ?_
  refine ops_nil ?_
  refine goes_code ?_
  refine run_ret ?_
  obtain rfl := some_eq h
  refine fin_slots [2, 3, 4] [.string (bs []), .int .i64 0, .int .i64 r1.2.2] [] [] Try.results45 rfl (by decide) rfl ?_
  exact ⟨rfl, rfl⟩
 ·replace h := cond_f h hc3
  refine run_skip ?_
  refine goes_code ?_
  refine run_seq ?_
  refine run_region' ?_
  refine oy rfl rfl (y_move rfl) ?_
  refine oy rfl rfl (y_move rfl) ?_
  refine oy rfl rfl (y_move rfl) ?_
  refine oy rfl rfl (y_move rfl) ?_
  refine oy rfl rfl (y_add rfl rfl) ?_
  obtain ⟨hb4, h⟩ := need_some h
  refine oy rfl rfl (y_slice (l := r1.2.1) (r := (IntKind.i64.wrap (r1.2.1 + r1.1))) 0 Try.runUnderlying40 Try.sizeOf5 rfl rfl reads_ro (bi1 (kd := .i64) rfl) (bi1 (kd := .i64) rfl) hb4.1 hb4.2.1 (map_len_le hb4.2.2)) ?_
  refine ops_turn (turn_sub (l := (r1.2.1).toNat) (r := ((IntKind.i64.wrap (r1.2.1 + r1.1))).toNat) 0 rfl (by first | omega | exact Int.toNat_le_toNat hb4.2.1) (map_toNat_le hb4.2.2)) ?_
  refine ops_turn (retell 1 (g := ro (subS b_0v 1 ((r1.2.1).toNat) (((IntKind.i64.wrap (r1.2.1 + r1.1))).toNat)) 1 (((b_0.take (((IntKind.i64.wrap (r1.2.1 + r1.1))).toNat)).drop ((r1.2.1).toNat)).map eB8)) rfl (congrArg (ro _ _) (map_sub _ _ _))) ?_
  refine oy rfl rfl (y_b2s (l := ((b_0.take (((IntKind.i64.wrap (r1.2.1 + r1.1))).toNat)).drop ((r1.2.1).toNat))) 1 Try.runUnderlying40 Try.runUnderlying5 Try.runUnderlying9 rfl rfl reads_ro) ?_
  refine oy rfl rfl (y_move rfl) ?_
  refine oy rfl rfl (y_move rfl) ?_
  refine oy rfl rfl (y_add rfl rfl) ?_
  refine oy rfl rfl (y_assign rfl) ?_
  refine oy rfl rfl (y_assign rfl) ?_
  refine oy rfl rfl (y_assign rfl) ?_
  refine ops_nil ?_
  refine goes_code ?_
  refine run_ret ?_
  obtain rfl := some_eq h
  refine fin_slots [2, 3, 4] [.string (bs ((b_0.take (((IntKind.i64.wrap (r1.2.1 + r1.1))).toNat)).drop ((r1.2.1).toNat))), .int .i64 (IntKind.i64.wrap (r1.2.1 + r1.1)), .int .i64 0] [] [] Try.results45 rfl (by decide) rfl ?_
  exact ⟨rfl, rfl⟩

def wire_get_string_44_L1 (n : Nat) (b_0 : (List UInt8)) (r1 : Int × Int × Int) : (Int × (List (List UInt8)) × Int) → Option (Lp (Int × (List (List UInt8)) × Int) (Lp (Int × (List (List UInt8))) ((List (List UInt8)) × Int × Int))) :=
 fun (at_11, out_12, s_13) =>
  cond (decide (s_13 < r1.1))
   (need (0 ≤ at_11 ∧ at_11 ≤ (b_0.length : Int) ∧ (b_0.length : Int) ≤ (b_0.length : Int)) (
   obind (wire_GetBytes n (b_0.drop at_11.toNat)) fun r21 =>
   cond (decide (r21.2.2 ≠ 0))
    (some (.stop (.stop (([] : List (List UInt8)), 0, r21.2.2))))
    (need (out_12.length + ([r21.1] : List (List UInt8)).length ≤ 4294967296) (
    some (.go ((IntKind.i64.wrap (at_11 + r21.2.1)), (out_12 ++ ([r21.1] : List (List UInt8))), (IntKind.i64.wrap (s_13 + 1))))))))
   (some (.stop (.go (at_11, out_12))))
def wire_get_string_44 (n : Nat) (b_0 : (List UInt8)) (least_1 : Int) : Option ((List (List UInt8)) × Int × Int) :=
 obind (wire_length n b_0 least_1) fun r1 =>
 cond (decide (r1.2.2 ≠ 0))
  (some (([] : List (List UInt8)), 0, r1.2.2))
  (bindJ (S := Int × (List (List UInt8)))
   (iter (wire_get_string_44_L1 n b_0 r1) n (r1.2.1, ([] : List (List UInt8)), 0))
  (fun (at_4, out_5) =>
   some (out_5, at_4, 0)))
theorem wire_get_string_44_ok (n : Nat) (b_0 : (List UInt8)) (least_1 : Int) (b_0v : Value) {r : (List (List UInt8)) × Int × Int} (h : wire_get_string_44 n b_0 least_1 = some r) :
  Meets Try.prog 44 [b_0v, .int .i64 least_1, .func (.func 45) #[] #[]] [ro b_0v 1 (b_0.map eB8)] (fun v G => ∃ v0, v = .tuple #[v0, .int .i64 r.2.1, .int .i64 r.2.2] ∧ G = [row v0 1 (r.1.map eStr)]) := by
 refine fn_of_run Try.func44 rfl Try.ntmps44 rfl (fun w0 o0 => ?_)
 refine run_seq ?_
 refine run_region' ?_
 refine oy rfl rfl (y_assign rfl) ?_
 refine oy rfl rfl (y_assign rfl) ?_
 refine oy rfl rfl (y_assign rfl) ?_
 refine ops_nil ?_
 refine goes_code ?_
 refine run_seq ?_
 refine run_region' ?_
 refine oy rfl rfl (y_move rfl) ?_
 refine oy rfl rfl (y_move rfl) ?_
 obtain ⟨r1, hr2, h⟩ := obind_some h
 refine ot rfl rfl (t_callx (vs := [b_0v, .int .i64 least_1]) (cs := []) [(0, 0)] rfl Try.call63 rfl (wire_length_ok n  b_0 least_1 b_0v hr2) (showsX_view 0 rfl views_ro showsX_nil) rfl (.inl rfl)) ?_
 rintro _ _ ⟨_, ⟨rfl, rfl⟩, rfl⟩
 refine oy rfl rfl (y_move rfl) ?_
 refine oy rfl rfl (y_extract rfl rfl) ?_
 refine oy rfl rfl (y_extract rfl rfl) ?_
 refine oy rfl rfl (y_extract rfl rfl) ?_
 refine oy rfl rfl (y_assign rfl) ?_
 refine oy rfl rfl (y_assign rfl) ?_
 refine oy rfl rfl (y_assign rfl) ?_
 refine ops_nil ?_
 refine goes_code ?_
 refine run_seq ?_
 refine run_seq ?_
 refine run_weak [(0, b_0v), (2, .func (.func 45) #[] #[]), (9, .int .i64 r1.1), (10, .int .i64 r1.2.1), (11, .int .i64 r1.2.2)] [0] [ro b_0v 1 (b_0.map eB8)] (qv5 rfl rfl rfl rfl rfl) (by decide) rfl ?_
 refine run_region' ?_
 refine oy rfl rfl (y_move rfl) ?_
 refine oy rfl rfl (y_neq rfl rfl) ?_
 refine ops_nil ?_
 refine goes_code ?_
 refine run_cond (decide (r1.2.2 ≠ 0)) rfl (fun hc3 => ?_) (fun hc3 => ?_)
 ·replace h := cond_t h hc3
  refine run_seq ?_
  refine run_region' ?_
  refine oy rfl rfl (y_move rfl) ?_
  refine oy rfl rfl (y_assign rfl) ?_
  refine oy rfl rfl (y_assign rfl) ?_
  refine oy rfl rfl (y_assign rfl) ?_
  refine ops_nil ?_
  refine goes_code ?_
  refine run_ret ?_
  refine fin_turn (nilrow 1) ?_
  refine fin_turn (retell 1 (g := row (.slice none 0 0) 1 (([] : List (List UInt8)).map eStr)) rfl rfl) ?_
  obtain rfl := some_eq h
  refine fin_slots [6, 7, 8] [(.slice none 0 0), .int .i64 0, .int .i64 r1.2.2] [1] [row (.slice none 0 0) 1 (([] : List (List UInt8)).map eStr)] Try.results44 rfl (by decide) rfl ?_
  exact ⟨_, rfl, rfl⟩
 ·replace h := cond_f h hc3
  refine run_skip ?_
  refine goes_code ?_
  refine run_seq ?_
  refine run_region' ?_
  refine oy rfl rfl (y_assign rfl) ?_
  refine ops_nil ?_
  refine goes_code ?_
  obtain ⟨o7, h, ho8⟩ := bindJ_some h
  refine run_cut ((Int × (List (List UInt8))) × (Value)) (fun σ => [(10, .int .i64 σ.1.1), (12, σ.2)]) (fun σ => [row σ.2 1 (σ.1.2.map eStr)]) (fun σ => o7 = .go σ.1) (fun L10 hL9 => ?_) ?_
  ·
   refine run_seq ?_
   refine run_region' ?_
   refine oy rfl rfl (y_move rfl) ?_
   refine oy rfl rfl (y_move rfl) ?_
   refine ops_nil ?_
   refine goes_code ?_
   refine run_block ?_
   refine run_turn (nilrow 1) ?_
   refine run_turn (retell 1 (g := row (.slice none 0 0) 1 (([] : List (List UInt8)).map eStr)) rfl rfl) ?_
   refine run_iter (step := wire_get_string_44_L1 n b_0 r1) (n := n) (s0 := (r1.2.1, ([] : List (List UInt8)), 0)) h (G := Value) (.slice none 0 0) (fun σ γ => [(10, .int .i64 σ.1), (12, γ), (27, .int .i64 σ.2.2), (0, b_0v), (2, .func (.func 45) #[] #[]), (26, .int .i64 r1.1)]) (fun σ γ => [row γ 1 (σ.2.1.map eStr), ro b_0v 1 (b_0.map eB8)]) [1, 0] (qv6 rfl rfl rfl rfl rfl rfl) (by decide) rfl ?_
   rintro ⟨at_11, out_12, s_13⟩ v14 o15 h L18 hgo16 hstop17
   change Run _ _ _ (VF.of [(10, .int .i64 at_11), (12, v14), (27, .int .i64 s_13), (0, b_0v), (2, .func (.func 45) #[] #[]), (26, .int .i64 r1.1)]) [row v14 1 (out_12.map eStr), ro b_0v 1 (b_0.map eB8)]
   refine run_seq ?_
   refine run_region' ?_
   refine oy rfl rfl (y_lss rfl rfl) ?_
   refine ops_nil ?_
   refine goes_code ?_
   refine run_seq ?_
   refine run_cond (decide (s_13 < r1.1)) rfl (fun hc19 => ?_) (fun hc19 => ?_)
   ·replace h := cond_t h hc19
    refine run_skip ?_
    refine goes_code ?_
    refine run_seq ?_
    refine run_block ?_
    refine run_seq ?_
    refine run_region' ?_
    refine oy rfl rfl (y_move rfl) ?_
    refine oy rfl rfl (y_move rfl) ?_
    refine oy rfl rfl (y_move rfl) ?_
    obtain ⟨hb20, h⟩ := need_some h
    refine oy rfl rfl (y_slice (l := at_11) (r := (b_0.length : Int)) 1 Try.runUnderlying40 Try.sizeOf5 rfl rfl reads_ro (bi1 (kd := .i64) rfl) bi0m hb20.1 hb20.2.1 (map_len_le hb20.2.2)) ?_
    refine ops_turn (turn_sub (l := at_11.toNat) (r := ((b_0.length : Int)).toNat) 1 rfl (by first | omega | exact Int.toNat_le_toNat hb20.2.1) (map_toNat_le hb20.2.2)) ?_
    refine ops_turn (retell 2 (g := ro (subS b_0v 1 at_11.toNat (((b_0.length : Int)).toNat)) 1 ((b_0.drop at_11.toNat).map eB8)) rfl (congrArg (ro _ _) (sub_lo _ _ _))) ?_
    obtain ⟨r21, hr22, h⟩ := obind_some h
    refine ot rfl rfl (t_callx (vs := [(subS b_0v 1 at_11.toNat (((b_0.length : Int)).toNat))]) (cs := []) [(2, 0)] rfl Try.call45 rfl (wire_GetBytes_ok n  (b_0.drop at_11.toNat) (subS b_0v 1 at_11.toNat (((b_0.length : Int)).toNat)) hr22) (showsX_view 2 rfl views_ro showsX_nil) rfl (.inl rfl)) ?_
    rintro _ _ ⟨_, ⟨rfl, rfl⟩, rfl⟩
    refine oy rfl rfl (y_move rfl) ?_
    refine oy rfl rfl (y_extract rfl rfl) ?_
    refine oy rfl rfl (y_extract rfl rfl) ?_
    refine oy rfl rfl (y_extract rfl rfl) ?_
    refine oy rfl rfl (y_assign rfl) ?_
    refine oy rfl rfl (y_assign rfl) ?_
    refine oy rfl rfl (y_assign rfl) ?_
    refine ops_nil ?_
    refine goes_code ?_
    refine run_seq ?_
    refine run_seq ?_
    refine run_weak [(10, .int .i64 at_11), (12, v14), (27, .int .i64 s_13), (0, b_0v), (2, .func (.func 45) #[] #[]), (26, .int .i64 r1.1), (13, .string (bs r21.1)), (14, .int .i64 r21.2.1), (15, .int .i64 r21.2.2)] [0, 1] [row v14 1 (out_12.map eStr), ro b_0v 1 (b_0.map eB8)] (qv9 rfl rfl rfl rfl rfl rfl rfl rfl rfl) (by decide) rfl ?_
    refine run_region' ?_
    refine oy rfl rfl (y_move rfl) ?_
    refine oy rfl rfl (y_neq rfl rfl) ?_
    refine ops_nil ?_
    refine goes_code ?_
    refine run_cond (decide (r21.2.2 ≠ 0)) rfl (fun hc23 => ?_) (fun hc23 => ?_)
    ·replace h := cond_t h hc23
     refine run_seq ?_
     refine run_region' ?_
     refine oy rfl rfl (y_move rfl) ?_
     refine oy rfl rfl (y_assign rfl) ?_
     refine oy rfl rfl (y_assign rfl) ?_
     refine oy rfl rfl (y_assign rfl) ?_
     refine ops_nil ?_
     refine goes_code ?_
     refine run_ret ?_
     refine fin_turn (nilrow 1) ?_
     refine fin_turn (retell 2 (g := row (.slice none 0 0) 1 (([] : List (List UInt8)).map eStr)) rfl rfl) ?_
     obtain rfl := some_eq h
     obtain rfl := hstop17 _ rfl
     skip
     obtain rfl := after_stop ho8
     refine fin_slots [6, 7, 8] [(.slice none 0 0), .int .i64 0, .int .i64 r21.2.2] [2] [row (.slice none 0 0) 1 (([] : List (List UInt8)).map eStr)] Try.results44 rfl (by decide) rfl ?_
     exact ⟨_, rfl, rfl⟩
    ·replace h := cond_f h hc23
     refine run_skip ?_
     refine goes_code ?_
     refine run_region' ?_
     refine oy rfl rfl (y_move rfl) ?_
     refine oy rfl rfl (y_move rfl) ?_
     refine ot rfl rfl (t_lit [.string (bs r21.1)] Try.runUnderlying62 Try.sizeOf9 Try.zeroValue9 rfl (by decide) (by decide) rfl (by simp [Value.cells, boxP])) ?_
     rintro v24 _ ⟨rfl, _⟩
     refine ops_turn (retell 2 (g := row v24 1 (([r21.1] : List (List UInt8)).map eStr)) rfl rfl) ?_
     obtain ⟨hr26, h⟩ := need_some h
     refine ot rfl rfl (t_append (es := 1) 0 rfl Try.runUnderlying62 rfl Try.runUnderlying62 (.inr ⟨_, rfl⟩) Try.typeInfo9 rfl (by decide) Try.zeroValue9 rfl rfl rfl rfl (src_reads 2 rfl reads_row (map_ok eStr_ok _)) (map_room hr26 (by decide)) (map_fit hr26)) ?_
     rintro v25 _ rfl
     refine ops_turn (retell 0 (g := row v25 1 ((out_12 ++ ([r21.1] : List (List UInt8))).map eStr)) rfl (congrArg (row _ _) List.map_append.symm)) ?_
     refine oy rfl rfl (y_move rfl) ?_
     refine oy rfl rfl (y_move rfl) ?_
     refine oy rfl rfl (y_add rfl rfl) ?_
     refine oy rfl rfl (y_assign rfl) ?_
     refine oy rfl rfl (y_assign rfl) ?_
     refine ops_nil ?_
     refine goes_blk ?_
     refine goes_code ?_
     refine run_weak [(10, .int .i64 (IntKind.i64.wrap (at_11 + r21.2.1))), (12, v25), (27, .int .i64 s_13), (0, b_0v), (2, .func (.func 45) #[] #[]), (26, .int .i64 r1.1)] [0, 1] [row v25 1 ((out_12 ++ ([r21.1] : List (List UInt8))).map eStr), ro b_0v 1 (b_0.map eB8)] (qv6 rfl rfl rfl rfl rfl rfl) (by decide) rfl ?_
     refine run_region' ?_
     refine oy rfl rfl (y_add rfl rfl) ?_
     refine oy rfl rfl (y_move rfl) ?_
     refine ops_nil ?_
     obtain rfl := some_eq h
     exact goes_iter hgo16 ((IntKind.i64.wrap (at_11 + r21.2.1)), (out_12 ++ ([r21.1] : List (List UInt8))), (IntKind.i64.wrap (s_13 + 1))) v25 [0, 1] rfl (qv6 rfl rfl rfl rfl rfl rfl) (by decide) rfl
   ·replace h := cond_f h hc19
    refine run_exit _ rfl ?_
    obtain rfl := some_eq h
    obtain rfl := hstop17 _ rfl
    exact goes_cut hL9 ((at_11, out_12), v14) [0] (qv2 rfl rfl) (by decide) rfl rfl
  rintro ⟨⟨at_4, out_5⟩, v6⟩ hj
  obtain rfl : o7 = _ := hj
  replace h := after_go ho8
  clear ho8
  change Run _ _ _ (VF.of [(10, .int .i64 at_4), (12, v6)]) [row v6 1 (out_5.map eStr)]
  refine run_seq ?_
  refine run_region' ?_
  refine oy rfl rfl (y_move rfl) ?_
  refine oy rfl rfl (y_move rfl) ?_
  refine oy rfl rfl (y_assign rfl) ?_
  refine oy rfl rfl (y_assign rfl) ?_
  refine oy rfl rfl (y_assign rfl) ?_
  refine ops_nil ?_
  refine goes_code ?_
  refine run_ret ?_
  obtain rfl := some_eq h
  refine fin_slots [6, 7, 8] [v6, .int .i64 at_4, .int .i64 0] [0] [row v6 1 (out_5.map eStr)] Try.results44 rfl (by decide) rfl ?_
  exact ⟨_, rfl, rfl⟩

def wire_GetStrings (n : Nat) (b_0 : (List UInt8)) : Option ((List (List UInt8)) × Int × Int) :=
 obind (wire_get_string_44 n b_0 1) fun r1 =>
 some (r1.1, r1.2.1, r1.2.2)
theorem wire_GetStrings_ok (n : Nat) (b_0 : (List UInt8)) (b_0v : Value) {r : (List (List UInt8)) × Int × Int} (h : wire_GetStrings n b_0 = some r) :
  Meets Try.prog 24 [b_0v] [ro b_0v 1 (b_0.map eB8)] (fun v G => ∃ v0, v = .tuple #[v0, .int .i64 r.2.1, .int .i64 r.2.2] ∧ G = [row v0 1 (r.1.map eStr)]) := by
 refine fn_of_run Try.func24 rfl Try.ntmps24 rfl (fun w0 o0 => ?_)
 refine run_seq ?_
 refine run_region' ?_
 refine oy rfl rfl (y_assign rfl) ?_
 refine oy rfl rfl (y_assign rfl) ?_
 refine oy rfl rfl (y_assign rfl) ?_
 refine ops_nil ?_
 refine goes_code ?_
 refine run_seq ?_
 refine run_region' ?_
 refine oy rfl rfl (y_move rfl) ?_
 obtain ⟨r1, hr2, h⟩ := obind_some h
 refine ot rfl rfl (t_callx (vs := [b_0v, .int .i64 1, .func (.func 45) #[] #[]]) (cs := []) [(0, 0)] rfl Try.call44 rfl (wire_get_string_44_ok n  b_0 1 b_0v hr2) (showsX_view 0 rfl views_ro showsX_nil) rfl (.inl rfl)) ?_
 rintro _ _ ⟨_, ⟨v3, rfl, rfl⟩, rfl⟩
 refine oy rfl rfl (y_extract rfl rfl) ?_
 refine oy rfl rfl (y_extract rfl rfl) ?_
 refine oy rfl rfl (y_extract rfl rfl) ?_
 refine oy rfl rfl (y_assign rfl) ?_
 refine oy rfl rfl (y_assign rfl) ?_
 refine oy rfl rfl (y_assign rfl) ?_
 refine ops_nil ?_
 refine goes_code ?_
 refine run_ret ?_
 obtain rfl := some_eq h
 refine fin_slots [2, 3, 4] [v3, .int .i64 r1.2.1, .int .i64 r1.2.2] [1] [row v3 1 (r1.1.map eStr)] Try.results24 rfl (by decide) rfl ?_
 exact ⟨_, rfl, rfl⟩

def wire_get_int_46_L1 (n : Nat) (b_0 : (List UInt8)) (r1 : Int × Int × Int) : (Int × (List Int) × Int) → Option (Lp (Int × (List Int) × Int) (Lp (Int × (List Int)) ((List Int) × Int × Int))) :=
 fun (at_11, out_12, s_13) =>
  cond (decide (s_13 < r1.1))
   (need (0 ≤ at_11 ∧ at_11 ≤ (b_0.length : Int) ∧ (b_0.length : Int) ≤ (b_0.length : Int)) (
   obind (wire_GetInt n (b_0.drop at_11.toNat)) fun r21 =>
   cond (decide (r21.2.2 ≠ 0))
    (some (.stop (.stop (([] : List Int), 0, r21.2.2))))
    (need (out_12.length + ([r21.1] : List Int).length ≤ 4294967296) (
    some (.go ((IntKind.i64.wrap (at_11 + r21.2.1)), (out_12 ++ ([r21.1] : List Int)), (IntKind.i64.wrap (s_13 + 1))))))))
   (some (.stop (.go (at_11, out_12))))
def wire_get_int_46 (n : Nat) (b_0 : (List UInt8)) (least_1 : Int) : Option ((List Int) × Int × Int) :=
 obind (wire_length n b_0 least_1) fun r1 =>
 cond (decide (r1.2.2 ≠ 0))
  (some (([] : List Int), 0, r1.2.2))
  (bindJ (S := Int × (List Int))
   (iter (wire_get_int_46_L1 n b_0 r1) n (r1.2.1, ([] : List Int), 0))
  (fun (at_4, out_5) =>
   some (out_5, at_4, 0)))
theorem wire_get_int_46_ok (n : Nat) (b_0 : (List UInt8)) (least_1 : Int) (b_0v : Value) {r : (List Int) × Int × Int} (h : wire_get_int_46 n b_0 least_1 = some r) :
  Meets Try.prog 46 [b_0v, .int .i64 least_1, .func (.func 47) #[] #[]] [ro b_0v 1 (b_0.map eB8)] (fun v G => ∃ v0, v = .tuple #[v0, .int .i64 r.2.1, .int .i64 r.2.2] ∧ G = [row v0 1 (r.1.map (eInt .i64))]) := by
 refine fn_of_run Try.func46 rfl Try.ntmps46 rfl (fun w0 o0 => ?_)
 refine run_seq ?_
 refine run_region' ?_
 refine oy rfl rfl (y_assign rfl) ?_
 refine oy rfl rfl (y_assign rfl) ?_
 refine oy rfl rfl (y_assign rfl) ?_
 refine ops_nil ?_
 refine goes_code ?_
 refine run_seq ?_
 refine run_region' ?_
 refine oy rfl rfl (y_move rfl) ?_
 refine oy rfl rfl (y_move rfl) ?_
 obtain ⟨r1, hr2, h⟩ := obind_some h
 refine ot rfl rfl (t_callx (vs := [b_0v, .int .i64 least_1]) (cs := []) [(0, 0)] rfl Try.call63 rfl (wire_length_ok n  b_0 least_1 b_0v hr2) (showsX_view 0 rfl views_ro showsX_nil) rfl (.inl rfl)) ?_
 rintro _ _ ⟨_, ⟨rfl, rfl⟩, rfl⟩
 refine oy rfl rfl (y_move rfl) ?_
 refine oy rfl rfl (y_extract rfl rfl) ?_
 refine oy rfl rfl (y_extract rfl rfl) ?_
 refine oy rfl rfl (y_extract rfl rfl) ?_
 refine oy rfl rfl (y_assign rfl) ?_
 refine oy rfl rfl (y_assign rfl) ?_
 refine oy rfl rfl (y_assign rfl) ?_
 refine ops_nil ?_
 refine goes_code ?_
 refine run_seq ?_
 refine run_seq ?_
 refine run_weak [(0, b_0v), (2, .func (.func 47) #[] #[]), (9, .int .i64 r1.1), (10, .int .i64 r1.2.1), (11, .int .i64 r1.2.2)] [0] [ro b_0v 1 (b_0.map eB8)] (qv5 rfl rfl rfl rfl rfl) (by decide) rfl ?_
 refine run_region' ?_
 refine oy rfl rfl (y_move rfl) ?_
 refine oy rfl rfl (y_neq rfl rfl) ?_
 refine ops_nil ?_
 refine goes_code ?_
 refine run_cond (decide (r1.2.2 ≠ 0)) rfl (fun hc3 => ?_) (fun hc3 => ?_)
 ·replace h := cond_t h hc3
  refine run_seq ?_
  refine run_region' ?_
  refine oy rfl rfl (y_move rfl) ?_
  refine oy rfl rfl (y_assign rfl) ?_
  refine oy rfl rfl (y_assign rfl) ?_
  refine oy rfl rfl (y_assign rfl) ?_
  refine ops_nil ?_
  refine goes_code ?_
  refine run_ret ?_
  refine fin_turn (nilrow 1) ?_
  refine fin_turn (retell 1 (g := row (.slice none 0 0) 1 (([] : List Int).map (eInt .i64))) rfl rfl) ?_
  obtain rfl := some_eq h
  refine fin_slots [6, 7, 8] [(.slice none 0 0), .int .i64 0, .int .i64 r1.2.2] [1] [row (.slice none 0 0) 1 (([] : List Int).map (eInt .i64))] Try.results46 rfl (by decide) rfl ?_
  exact ⟨_, rfl, rfl⟩
 ·replace h := cond_f h hc3
  refine run_skip ?_
  refine goes_code ?_
  refine run_seq ?_
  refine run_region' ?_
  refine oy rfl rfl (y_assign rfl) ?_
  refine ops_nil ?_
  refine goes_code ?_
  obtain ⟨o7, h, ho8⟩ := bindJ_some h
  refine run_cut ((Int × (List Int)) × (Value)) (fun σ => [(10, .int .i64 σ.1.1), (12, σ.2)]) (fun σ => [row σ.2 1 (σ.1.2.map (eInt .i64))]) (fun σ => o7 = .go σ.1) (fun L10 hL9 => ?_) ?_
  ·
   refine run_seq ?_
   refine run_region' ?_
   refine oy rfl rfl (y_move rfl) ?_
   refine oy rfl rfl (y_move rfl) ?_
   refine ops_nil ?_
   refine goes_code ?_
   refine run_block ?_
   refine run_turn (nilrow 1) ?_
   refine run_turn (retell 1 (g := row (.slice none 0 0) 1 (([] : List Int).map (eInt .i64))) rfl rfl) ?_
   refine run_iter (step := wire_get_int_46_L1 n b_0 r1) (n := n) (s0 := (r1.2.1, ([] : List Int), 0)) h (G := Value) (.slice none 0 0) (fun σ γ => [(10, .int .i64 σ.1), (12, γ), (27, .int .i64 σ.2.2), (0, b_0v), (2, .func (.func 47) #[] #[]), (26, .int .i64 r1.1)]) (fun σ γ => [row γ 1 (σ.2.1.map (eInt .i64)), ro b_0v 1 (b_0.map eB8)]) [1, 0] (qv6 rfl rfl rfl rfl rfl rfl) (by decide) rfl ?_
   rintro ⟨at_11, out_12, s_13⟩ v14 o15 h L18 hgo16 hstop17
   change Run _ _ _ (VF.of [(10, .int .i64 at_11), (12, v14), (27, .int .i64 s_13), (0, b_0v), (2, .func (.func 47) #[] #[]), (26, .int .i64 r1.1)]) [row v14 1 (out_12.map (eInt .i64)), ro b_0v 1 (b_0.map eB8)]
   refine run_seq ?_
   refine run_region' ?_
   refine oy rfl rfl (y_lss rfl rfl) ?_
   refine ops_nil ?_
   refine goes_code ?_
   refine run_seq ?_
   refine run_cond (decide (s_13 < r1.1)) rfl (fun hc19 => ?_) (fun hc19 => ?_)
   ·replace h := cond_t h hc19
    refine run_skip ?_
    refine goes_code ?_
    refine run_seq ?_
    refine run_block ?_
    refine run_seq ?_
    refine run_region' ?_
    refine oy rfl rfl (y_move rfl) ?_
    refine oy rfl rfl (y_move rfl) ?_
    refine oy rfl rfl (y_move rfl) ?_
    obtain ⟨hb20, h⟩ := need_some h
    refine oy rfl rfl (y_slice (l := at_11) (r := (b_0.length : Int)) 1 Try.runUnderlying40 Try.sizeOf5 rfl rfl reads_ro (bi1 (kd := .i64) rfl) bi0m hb20.1 hb20.2.1 (map_len_le hb20.2.2)) ?_
    refine ops_turn (turn_sub (l := at_11.toNat) (r := ((b_0.length : Int)).toNat) 1 rfl (by first | omega | exact Int.toNat_le_toNat hb20.2.1) (map_toNat_le hb20.2.2)) ?_
    refine ops_turn (retell 2 (g := ro (subS b_0v 1 at_11.toNat (((b_0.length : Int)).toNat)) 1 ((b_0.drop at_11.toNat).map eB8)) rfl (congrArg (ro _ _) (sub_lo _ _ _))) ?_
    obtain ⟨r21, hr22, h⟩ := obind_some h
    refine ot rfl rfl (t_callx (vs := [(subS b_0v 1 at_11.toNat (((b_0.length : Int)).toNat))]) (cs := []) [(2, 0)] rfl Try.call47 rfl (wire_GetInt_ok n  (b_0.drop at_11.toNat) (subS b_0v 1 at_11.toNat (((b_0.length : Int)).toNat)) hr22) (showsX_view 2 rfl views_ro showsX_nil) rfl (.inl rfl)) ?_
    rintro _ _ ⟨_, ⟨rfl, rfl⟩, rfl⟩
    refine oy rfl rfl (y_move rfl) ?_
    refine oy rfl rfl (y_extract rfl rfl) ?_
    refine oy rfl rfl (y_extract rfl rfl) ?_
    refine oy rfl rfl (y_extract rfl rfl) ?_
    refine oy rfl rfl (y_assign rfl) ?_
    refine oy rfl rfl (y_assign rfl) ?_
    refine oy rfl rfl (y_assign rfl) ?_
    refine ops_nil ?_
    refine goes_code ?_
    refine run_seq ?_
    refine run_seq ?_
    refine run_weak [(10, .int .i64 at_11), (12, v14), (27, .int .i64 s_13), (0, b_0v), (2, .func (.func 47) #[] #[]), (26, .int .i64 r1.1), (13, .int .i64 r21.1), (14, .int .i64 r21.2.1), (15, .int .i64 r21.2.2)] [0, 1] [row v14 1 (out_12.map (eInt .i64)), ro b_0v 1 (b_0.map eB8)] (qv9 rfl rfl rfl rfl rfl rfl rfl rfl rfl) (by decide) rfl ?_
    refine run_region' ?_
    refine oy rfl rfl (y_move rfl) ?_
    refine oy rfl rfl (y_neq rfl rfl) ?_
    refine ops_nil ?_
    refine goes_code ?_
    refine run_cond (decide (r21.2.2 ≠ 0)) rfl (fun hc23 => ?_) (fun hc23 => ?_)
    ·replace h := cond_t h hc23
     refine run_seq ?_
     refine run_region' ?_
     refine oy rfl rfl (y_move rfl) ?_
     refine oy rfl rfl (y_assign rfl) ?_
     refine oy rfl rfl (y_assign rfl) ?_
     refine oy rfl rfl (y_assign rfl) ?_
     refine ops_nil ?_
     refine goes_code ?_
     refine run_ret ?_
     refine fin_turn (nilrow 1) ?_
     refine fin_turn (retell 2 (g := row (.slice none 0 0) 1 (([] : List Int).map (eInt .i64))) rfl rfl) ?_
     obtain rfl := some_eq h
     obtain rfl := hstop17 _ rfl
     skip
     obtain rfl := after_stop ho8
     refine fin_slots [6, 7, 8] [(.slice none 0 0), .int .i64 0, .int .i64 r21.2.2] [2] [row (.slice none 0 0) 1 (([] : List Int).map (eInt .i64))] Try.results46 rfl (by decide) rfl ?_
     exact ⟨_, rfl, rfl⟩
    ·replace h := cond_f h hc23
     refine run_skip ?_
     refine goes_code ?_
     refine run_region' ?_
     refine oy rfl rfl (y_move rfl) ?_
     refine oy rfl rfl (y_move rfl) ?_
     refine ot rfl rfl (t_lit [.int .i64 r21.1] Try.runUnderlying22 Try.sizeOf3 Try.zeroValue3 rfl (by decide) (by decide) rfl (by simp [Value.cells, boxP])) ?_
     rintro v24 _ ⟨rfl, _⟩
     refine ops_turn (retell 2 (g := row v24 1 (([r21.1] : List Int).map (eInt .i64))) rfl rfl) ?_
     obtain ⟨hr26, h⟩ := need_some h
     refine ot rfl rfl (t_append (es := 1) 0 rfl Try.runUnderlying22 rfl Try.runUnderlying22 (.inr ⟨_, rfl⟩) Try.typeInfo3 rfl (by decide) Try.zeroValue3 rfl rfl rfl rfl (src_reads 2 rfl reads_row (map_ok (eInt_ok _) _)) (map_room hr26 (by decide)) (map_fit hr26)) ?_
     rintro v25 _ rfl
     refine ops_turn (retell 0 (g := row v25 1 ((out_12 ++ ([r21.1] : List Int)).map (eInt .i64))) rfl (congrArg (row _ _) List.map_append.symm)) ?_
     refine oy rfl rfl (y_move rfl) ?_
     refine oy rfl rfl (y_move rfl) ?_
     refine oy rfl rfl (y_add rfl rfl) ?_
     refine oy rfl rfl (y_assign rfl) ?_
     refine oy rfl rfl (y_assign rfl) ?_
     refine ops_nil ?_
     refine goes_blk ?_
     refine goes_code ?_
     refine run_weak [(10, .int .i64 (IntKind.i64.wrap (at_11 + r21.2.1))), (12, v25), (27, .int .i64 s_13), (0, b_0v), (2, .func (.func 47) #[] #[]), (26, .int .i64 r1.1)] [0, 1] [row v25 1 ((out_12 ++ ([r21.1] : List Int)).map (eInt .i64)), ro b_0v 1 (b_0.map eB8)] (qv6 rfl rfl rfl rfl rfl rfl) (by decide) rfl ?_
     refine run_region' ?_
     refine oy rfl rfl (y_add rfl rfl) ?_
     refine oy rfl rfl (y_move rfl) ?_
     refine ops_nil ?_
     obtain rfl := some_eq h
     exact goes_iter hgo16 ((IntKind.i64.wrap (at_11 + r21.2.1)), (out_12 ++ ([r21.1] : List Int)), (IntKind.i64.wrap (s_13 + 1))) v25 [0, 1] rfl (qv6 rfl rfl rfl rfl rfl rfl) (by decide) rfl
   ·replace h := cond_f h hc19
    refine run_exit _ rfl ?_
    obtain rfl := some_eq h
    obtain rfl := hstop17 _ rfl
    exact goes_cut hL9 ((at_11, out_12), v14) [0] (qv2 rfl rfl) (by decide) rfl rfl
  rintro ⟨⟨at_4, out_5⟩, v6⟩ hj
  obtain rfl : o7 = _ := hj
  replace h := after_go ho8
  clear ho8
  change Run _ _ _ (VF.of [(10, .int .i64 at_4), (12, v6)]) [row v6 1 (out_5.map (eInt .i64))]
  refine run_seq ?_
  refine run_region' ?_
  refine oy rfl rfl (y_move rfl) ?_
  refine oy rfl rfl (y_move rfl) ?_
  refine oy rfl rfl (y_assign rfl) ?_
  refine oy rfl rfl (y_assign rfl) ?_
  refine oy rfl rfl (y_assign rfl) ?_
  refine ops_nil ?_
  refine goes_code ?_
  refine run_ret ?_
  obtain rfl := some_eq h
  refine fin_slots [6, 7, 8] [v6, .int .i64 at_4, .int .i64 0] [0] [row v6 1 (out_5.map (eInt .i64))] Try.results46 rfl (by decide) rfl ?_
  exact ⟨_, rfl, rfl⟩

def wire_GetInts (n : Nat) (b_0 : (List UInt8)) : Option ((List Int) × Int × Int) :=
 obind (wire_get_int_46 n b_0 1) fun r1 =>
 some (r1.1, r1.2.1, r1.2.2)
theorem wire_GetInts_ok (n : Nat) (b_0 : (List UInt8)) (b_0v : Value) {r : (List Int) × Int × Int} (h : wire_GetInts n b_0 = some r) :
  Meets Try.prog 25 [b_0v] [ro b_0v 1 (b_0.map eB8)] (fun v G => ∃ v0, v = .tuple #[v0, .int .i64 r.2.1, .int .i64 r.2.2] ∧ G = [row v0 1 (r.1.map (eInt .i64))]) := by
 refine fn_of_run Try.func25 rfl Try.ntmps25 rfl (fun w0 o0 => ?_)
 refine run_seq ?_
 refine run_region' ?_
 refine oy rfl rfl (y_assign rfl) ?_
 refine oy rfl rfl (y_assign rfl) ?_
 refine oy rfl rfl (y_assign rfl) ?_
 refine ops_nil ?_
 refine goes_code ?_
 refine run_seq ?_
 refine run_region' ?_
 refine oy rfl rfl (y_move rfl) ?_
 obtain ⟨r1, hr2, h⟩ := obind_some h
 refine ot rfl rfl (t_callx (vs := [b_0v, .int .i64 1, .func (.func 47) #[] #[]]) (cs := []) [(0, 0)] rfl Try.call46 rfl (wire_get_int_46_ok n  b_0 1 b_0v hr2) (showsX_view 0 rfl views_ro showsX_nil) rfl (.inl rfl)) ?_
 rintro _ _ ⟨_, ⟨v3, rfl, rfl⟩, rfl⟩
 refine oy rfl rfl (y_extract rfl rfl) ?_
 refine oy rfl rfl (y_extract rfl rfl) ?_
 refine oy rfl rfl (y_extract rfl rfl) ?_
 refine oy rfl rfl (y_assign rfl) ?_
 refine oy rfl rfl (y_assign rfl) ?_
 refine oy rfl rfl (y_assign rfl) ?_
 refine ops_nil ?_
 refine goes_code ?_
 refine run_ret ?_
 obtain rfl := some_eq h
 refine fin_slots [2, 3, 4] [v3, .int .i64 r1.2.1, .int .i64 r1.2.2] [1] [row v3 1 (r1.1.map (eInt .i64))] Try.results25 rfl (by decide) rfl ?_
 exact ⟨_, rfl, rfl⟩

end Go.Proofs.Ytgjdaamkfpbgpaa
