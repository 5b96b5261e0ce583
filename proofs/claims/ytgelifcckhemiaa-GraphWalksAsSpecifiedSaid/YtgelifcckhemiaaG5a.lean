/-
  Functions that the law GraphTreesMatchSpec needs, lifted.
-/
import Derived.Test.YtgelifcckhemiaaFe
namespace Go.Proofs.Ytgelifcckhemiaa
open Go.Abs
set_option linter.unusedVariables false
set_option linter.unusedSimpArgs false
set_option maxRecDepth 20000
set_option maxHeartbeats 4000000


def ref09_Formed_L1 (p_0 : (List Int)) : (Int) → Option (Lp (Int) (Lp (Unit) (Bool))) :=
 fun i_6 =>
  cond (decide (i_6 < (p_0.length : Int)))
   (idx p_0 i_6 fun x12 =>
   cond (decide (x12 < (-1)) || decide ((p_0.length : Int) ≤ x12))
    (some (.stop (.stop false)))
    (some (.go (IntKind.i64.wrap (i_6 + 1)))))
   (some (.stop (.go ())))
def ref09_Formed_L3 (p_0 : (List Int)) : (Int × Int) → Option (Lp (Int × Int) (Lp (Int) (Lp (Int) (Lp (Unit) (Bool))))) :=
 fun (v_32, k_33) =>
  cond (decide (k_33 ≤ (p_0.length : Int)) && decide (0 ≤ v_32))
   (idx p_0 v_32 fun x42 =>
   some (.go (x42, (IntKind.i64.wrap (k_33 + 1)))))
   (some (.stop (.go v_32)))
def ref09_Formed_L2 (n : Nat) (p_0 : (List Int)) : (Int) → Option (Lp (Int) (Lp (Unit) (Bool))) :=
 fun i_21 =>
  cond (decide (i_21 < (p_0.length : Int)))
   (bindJ (S := Int)
    (iter (ref09_Formed_L3 p_0) n (i_21, 0))
   (fun v_27 =>
    cond (decide (0 ≤ v_27))
     (some (.stop (.stop false)))
     (some (.go (IntKind.i64.wrap (i_21 + 1))))))
   (some (.stop (.go ())))
def ref09_Formed (n : Nat) (p_0 : (List Int)) : Option (Bool) :=
 cond (decide (256 < (p_0.length : Int)))
  (some false)
  (bindJ (S := Unit)
   (iter (ref09_Formed_L1 p_0) n 0)
  (fun _ =>
   bindJ (S := Unit)
    (iter (ref09_Formed_L2 n p_0) n 0)
   (fun _ =>
    some true)))
theorem ref09_Formed_ok (n : Nat) (p_0 : (List Int)) (p_0v : Value) {r : Bool} (h : ref09_Formed n p_0 = some r) :
  Meets Try.prog 55 [p_0v] [ro p_0v 1 (p_0.map (eInt .i64))] (fun v G => v = .bool r ∧ G = []) := by
 refine fn_of_run Try.func55 rfl Try.ntmps55 rfl (fun w0 o0 => ?_)
 refine run_seq ?_
 refine run_region' ?_
 refine oy rfl rfl (y_assign rfl) ?_
 refine ops_nil ?_
 refine goes_code ?_
 refine run_seq ?_
 refine run_seq ?_
 refine run_region' ?_
 refine oy rfl rfl (y_move rfl) ?_
 refine oy rfl rfl ((y_len 0 rfl Try.runUnderlying34 rfl rfl reads_ro).to (v_len (eInt .i64) _)) ?_
 refine oy rfl rfl (y_gtr rfl rfl) ?_
 refine ops_nil ?_
 refine goes_code ?_
 refine run_cond (decide (256 < (p_0.length : Int))) rfl (fun hc1 => ?_) (fun hc1 => ?_)
 ·replace h := cond_t h hc1
  refine run_seq ?_
  refine run_region' ?_
  refine oy rfl rfl (y_assign rfl) ?_
  refine ops_nil ?_
  refine goes_code ?_
  refine run_ret ?_
  obtain rfl := some_eq h
  refine fin_slots [2] [.bool false] [] [] Try.results55 rfl (by decide) rfl ?_
  exact ⟨rfl, rfl⟩
 ·replace h := cond_f h hc1
  refine run_skip ?_
  refine goes_code ?_
  obtain ⟨o2, h, ho3⟩ := bindJ_some h
  refine run_cut ((Unit) × (Unit)) (fun σ => [(0, p_0v)]) (fun σ => [ro p_0v 1 (p_0.map (eInt .i64))]) (fun σ => o2 = .go σ.1) (fun L5 hL4 => ?_) ?_
  ·
   refine run_seq ?_
   refine run_region' ?_
   refine oy rfl rfl (y_assign rfl) ?_
   refine ops_nil ?_
   refine goes_code ?_
   refine run_block ?_
   refine run_iter (step := ref09_Formed_L1 p_0) (n := n) (s0 := 0) h (G := Unit) () (fun σ γ => [(0, p_0v), (3, .int .i64 σ)]) (fun σ γ => [ro p_0v 1 (p_0.map (eInt .i64))]) [0] (vcons rfl (vcons rfl (vnil))) (by decide) rfl ?_
   rintro i_6 _ o7 h L10 hgo8 hstop9
   change Run _ _ _ (VF.of [(0, p_0v), (3, .int .i64 i_6)]) [ro p_0v 1 (p_0.map (eInt .i64))]
   refine run_seq ?_
   refine run_seq ?_
   refine run_region' ?_
   refine oy rfl rfl (y_move rfl) ?_
   refine oy rfl rfl (y_move rfl) ?_
   refine oy rfl rfl ((y_len 0 rfl Try.runUnderlying34 rfl rfl reads_ro).to (v_len (eInt .i64) _)) ?_
   refine oy rfl rfl (y_lss rfl rfl) ?_
   refine ops_nil ?_
   refine goes_code ?_
   refine run_cond (decide (i_6 < (p_0.length : Int))) rfl (fun hc11 => ?_) (fun hc11 => ?_)
   ·replace h := cond_t h hc11
    refine run_skip ?_
    refine goes_code ?_
    refine run_seq ?_
    refine run_block ?_
    refine run_seq ?_
    refine run_region' ?_
    refine oy rfl rfl (y_move rfl) ?_
    refine oy rfl rfl (y_move rfl) ?_
    obtain ⟨x12, hzx12, hlx12, hxx12, h⟩ := idx_some h
    refine oy rfl rfl (y_indexAddrI (kd := .i64) (i := i_6) 0 Try.runUnderlying34 Try.sizeOf3 rfl rfl rfl reads_ro hzx12 (map_lt hlx12)) ?_
    refine oy rfl rfl (y_load_elem (i := i_6.toNat) 0 Try.isAgg3 rfl rfl reads_ro (map_get hxx12)) ?_
    refine oy rfl rfl (y_lss rfl rfl) ?_
    refine oy rfl rfl (y_move rfl) ?_
    refine ops_cut 8 (Bool) (fun σ => [(0, p_0v), (3, .int .i64 i_6), (29, .bool σ)]) (fun σ => [ro p_0v 1 (p_0.map (eInt .i64))]) (fun σ => σ = (decide (x12 < (-1)) || decide ((p_0.length : Int) ≤ x12))) (fun L13 hL14 => ?_) ?_
    ·refine ops_split 21 (decide (x12 < (-1))) rfl (fun hg15 => ?_) (fun hg15 => ?_)
     ·skip
      refine ops_no 5 false 21 rfl rfl rfl rfl rfl ?_
      refine ops_no 5 false 21 rfl rfl rfl rfl rfl ?_
      refine ops_no 5 false 21 rfl rfl rfl rfl rfl ?_
      refine ops_no 5 false 21 rfl rfl rfl rfl rfl ?_
      refine ops_no 5 false 21 rfl rfl rfl rfl rfl ?_
      refine ops_weak [(0, p_0v), (3, .int .i64 i_6), (21, .bool true)] [0] [ro p_0v 1 (p_0.map (eInt .i64))] (vcons rfl (vcons rfl (vcons rfl (vnil)))) (by decide) rfl ?_
      refine ops_no 5 false 21 rfl rfl rfl rfl rfl ?_
      refine ops_no 5 false 21 rfl rfl rfl rfl rfl ?_
      refine oy rfl rfl (y_pick (b := true) rfl rfl) ?_
      refine ops_nil ?_
      exact goes_cut hL14 true [0] (vcons rfl (vcons rfl (vcons rfl (vnil)))) (by decide) rfl (by rw [hg15]; simp)
     ·skip
      refine ops_y (wg 5 false 21 rfl rfl rfl rfl) rfl (y_move rfl) ?_
      refine ops_y (wg 5 false 21 rfl rfl rfl rfl) rfl (y_move rfl) ?_
      refine ops_y (wg 5 false 21 rfl rfl rfl rfl) rfl (y_indexAddrI (kd := .i64) (i := i_6) 0 Try.runUnderlying34 Try.sizeOf3 rfl rfl rfl reads_ro hzx12 (map_lt hlx12)) ?_
      refine ops_y (wg 5 false 21 rfl rfl rfl rfl) rfl (y_load_elem (i := i_6.toNat) 0 Try.isAgg3 rfl rfl reads_ro (map_get hxx12)) ?_
      refine ops_y (wg 5 false 21 rfl rfl rfl rfl) rfl (y_move rfl) ?_
      refine ops_weak [(0, p_0v), (3, .int .i64 i_6), (21, .bool false), (25, .int .i64 x12), (26, p_0v)] [0] [ro p_0v 1 (p_0.map (eInt .i64))] (vcons rfl (vcons rfl (vcons rfl (vcons rfl (vcons rfl (vnil)))))) (by decide) rfl ?_
      refine ops_y (wg 5 false 21 rfl rfl rfl rfl) rfl ((y_len 0 rfl Try.runUnderlying34 rfl rfl reads_ro).to (v_len (eInt .i64) _)) ?_
      refine ops_y (wg 5 false 21 rfl rfl rfl rfl) rfl (y_geq rfl rfl) ?_
      refine oy rfl rfl (y_pick (b := false) rfl rfl) ?_
      refine ops_nil ?_
      exact goes_cut hL14 (decide ((p_0.length : Int) ≤ x12)) [0] (vcons rfl (vcons rfl (vcons rfl (vnil)))) (by decide) rfl (by rw [hg15]; simp)
    rintro _ rfl
    refine ops_nil ?_
    refine goes_code ?_
    refine run_cond (decide (x12 < (-1)) || decide ((p_0.length : Int) ≤ x12)) rfl (fun hc16 => ?_) (fun hc16 => ?_)
    ·replace h := cond_t h hc16
     refine run_seq ?_
     refine run_region' ?_
     refine oy rfl rfl (y_assign rfl) ?_
     refine ops_nil ?_
     refine goes_code ?_
     refine run_ret ?_
     obtain rfl := some_eq h
     obtain rfl := hstop9 _ rfl
     skip
     obtain rfl := after_stop ho3
     refine fin_slots [2] [.bool false] [] [] Try.results55 rfl (by decide) rfl ?_
     exact ⟨rfl, rfl⟩
    ·replace h := cond_f h hc16
     refine run_skip ?_
     refine goes_blk ?_
     refine goes_code ?_
     refine run_region' ?_
     refine oy rfl rfl (y_move rfl) ?_
     refine oy rfl rfl (y_add rfl rfl) ?_
     refine oy rfl rfl (y_assign rfl) ?_
     refine ops_nil ?_
     obtain rfl := some_eq h
     exact goes_iter hgo8 (IntKind.i64.wrap (i_6 + 1)) () [0] rfl (vcons rfl (vcons rfl (vnil))) (by decide) rfl
   ·replace h := cond_f h hc11
    refine run_exit _ rfl ?_
    obtain rfl := some_eq h
    obtain rfl := hstop9 _ rfl
    exact goes_cut hL4 ((), ()) [0] (vcons rfl (vnil)) (by decide) rfl rfl
  rintro ⟨_, _⟩ hj
  obtain rfl : o2 = _ := hj
  replace h := after_go ho3
  clear ho3
  change Run _ _ _ (VF.of [(0, p_0v)]) [ro p_0v 1 (p_0.map (eInt .i64))]
  obtain ⟨o17, h, ho18⟩ := bindJ_some h
  refine run_cut ((Unit) × (Unit)) (fun σ => []) (fun σ => []) (fun σ => o17 = .go σ.1) (fun L20 hL19 => ?_) ?_
  ·
   refine run_seq ?_
   refine run_region' ?_
   refine oy rfl rfl (y_assign rfl) ?_
   refine ops_nil ?_
   refine goes_code ?_
   refine run_block ?_
   refine run_iter (step := ref09_Formed_L2 n p_0) (n := n) (s0 := 0) h (G := Unit) () (fun σ γ => [(0, p_0v), (4, .int .i64 σ)]) (fun σ γ => [ro p_0v 1 (p_0.map (eInt .i64))]) [0] (vcons rfl (vcons rfl (vnil))) (by decide) rfl ?_
   rintro i_21 _ o22 h L25 hgo23 hstop24
   change Run _ _ _ (VF.of [(0, p_0v), (4, .int .i64 i_21)]) [ro p_0v 1 (p_0.map (eInt .i64))]
   refine run_seq ?_
   refine run_seq ?_
   refine run_region' ?_
   refine oy rfl rfl (y_move rfl) ?_
   refine oy rfl rfl (y_move rfl) ?_
   refine oy rfl rfl ((y_len 0 rfl Try.runUnderlying34 rfl rfl reads_ro).to (v_len (eInt .i64) _)) ?_
   refine oy rfl rfl (y_lss rfl rfl) ?_
   refine ops_nil ?_
   refine goes_code ?_
   refine run_cond (decide (i_21 < (p_0.length : Int))) rfl (fun hc26 => ?_) (fun hc26 => ?_)
   ·replace h := cond_t h hc26
    refine run_skip ?_
    refine goes_code ?_
    refine run_seq ?_
    refine run_block ?_
    refine run_seq ?_
    refine run_region' ?_
    refine oy rfl rfl (y_move rfl) ?_
    refine oy rfl rfl (y_assign rfl) ?_
    refine ops_nil ?_
    refine goes_code ?_
    obtain ⟨o28, h, ho29⟩ := bindJ_some h
    refine run_cut ((Int) × (Unit)) (fun σ => [(0, p_0v), (4, .int .i64 i_21), (5, .int .i64 σ.1)]) (fun σ => [ro p_0v 1 (p_0.map (eInt .i64))]) (fun σ => o28 = .go σ.1) (fun L31 hL30 => ?_) ?_
    ·
     refine run_seq ?_
     refine run_region' ?_
     refine oy rfl rfl (y_assign rfl) ?_
     refine ops_nil ?_
     refine goes_code ?_
     refine run_block ?_
     refine run_iter (step := ref09_Formed_L3 p_0) (n := n) (s0 := (i_21, 0)) h (G := Unit) () (fun σ γ => [(0, p_0v), (4, .int .i64 i_21), (5, .int .i64 σ.1), (6, .int .i64 σ.2)]) (fun σ γ => [ro p_0v 1 (p_0.map (eInt .i64))]) [0] (vcons rfl (vcons rfl (vcons rfl (vcons rfl (vnil))))) (by decide) rfl ?_
     rintro ⟨v_32, k_33⟩ _ o34 h L37 hgo35 hstop36
     change Run _ _ _ (VF.of [(0, p_0v), (4, .int .i64 i_21), (5, .int .i64 v_32), (6, .int .i64 k_33)]) [ro p_0v 1 (p_0.map (eInt .i64))]
     refine run_seq ?_
     refine run_seq ?_
     refine run_region' ?_
     refine oy rfl rfl (y_move rfl) ?_
     refine oy rfl rfl (y_move rfl) ?_
     refine oy rfl rfl ((y_len 0 rfl Try.runUnderlying34 rfl rfl reads_ro).to (v_len (eInt .i64) _)) ?_
     refine oy rfl rfl (y_leq rfl rfl) ?_
     refine oy rfl rfl (y_move rfl) ?_
     refine ops_cut 3 (Bool) (fun σ => [(0, p_0v), (4, .int .i64 i_21), (5, .int .i64 v_32), (6, .int .i64 k_33), (44, .bool σ)]) (fun σ => [ro p_0v 1 (p_0.map (eInt .i64))]) (fun σ => σ = (decide (k_33 ≤ (p_0.length : Int)) && decide (0 ≤ v_32))) (fun L38 hL39 => ?_) ?_
     ·refine ops_split 41 (decide (k_33 ≤ (p_0.length : Int))) rfl (fun hg40 => ?_) (fun hg40 => ?_)
      ·skip
       refine ops_y (wg 4 true 41 rfl rfl rfl rfl) rfl (y_move rfl) ?_
       refine ops_y (wg 4 true 41 rfl rfl rfl rfl) rfl (y_geq rfl rfl) ?_
       refine oy rfl rfl (y_pick (b := true) rfl rfl) ?_
       refine ops_nil ?_
       exact goes_cut hL39 (decide (0 ≤ v_32)) [0] (vcons rfl (vcons rfl (vcons rfl (vcons rfl (vcons rfl (vnil)))))) (by decide) rfl (by rw [hg40]; simp)
      ·skip
       refine ops_no 4 true 41 rfl rfl rfl rfl rfl ?_
       refine ops_no 4 true 41 rfl rfl rfl rfl rfl ?_
       refine oy rfl rfl (y_pick (b := false) rfl rfl) ?_
       refine ops_nil ?_
       exact goes_cut hL39 false [0] (vcons rfl (vcons rfl (vcons rfl (vcons rfl (vcons rfl (vnil)))))) (by decide) rfl (by rw [hg40]; simp)
     rintro _ rfl
     refine ops_nil ?_
     refine goes_code ?_
     refine run_cond (decide (k_33 ≤ (p_0.length : Int)) && decide (0 ≤ v_32)) rfl (fun hc41 => ?_) (fun hc41 => ?_)
     ·replace h := cond_t h hc41
      refine run_skip ?_
      refine goes_code ?_
      refine run_seq ?_
      refine run_block ?_
      refine run_region' ?_
      refine oy rfl rfl (y_move rfl) ?_
      refine oy rfl rfl (y_move rfl) ?_
      obtain ⟨x42, hzx42, hlx42, hxx42, h⟩ := idx_some h
      refine oy rfl rfl (y_indexAddrI (kd := .i64) (i := v_32) 0 Try.runUnderlying34 Try.sizeOf3 rfl rfl rfl reads_ro hzx42 (map_lt hlx42)) ?_
      refine oy rfl rfl (y_load_elem (i := v_32.toNat) 0 Try.isAgg3 rfl rfl reads_ro (map_get hxx42)) ?_
      refine oy rfl rfl (y_assign rfl) ?_
      refine ops_nil ?_
      refine goes_blk ?_
      refine goes_code ?_
      refine run_region' ?_
      refine oy rfl rfl (y_move rfl) ?_
      refine oy rfl rfl (y_add rfl rfl) ?_
      refine oy rfl rfl (y_assign rfl) ?_
      refine ops_nil ?_
      obtain rfl := some_eq h
      exact goes_iter hgo35 (x42, (IntKind.i64.wrap (k_33 + 1))) () [0] rfl (vcons rfl (vcons rfl (vcons rfl (vcons rfl (vnil))))) (by decide) rfl
     ·replace h := cond_f h hc41
      refine run_exit _ rfl ?_
      obtain rfl := some_eq h
      obtain rfl := hstop36 _ rfl
      exact goes_cut hL30 (v_32, ()) [0] (vcons rfl (vcons rfl (vcons rfl (vnil)))) (by decide) rfl rfl
    rintro ⟨v_27, _⟩ hj
    obtain rfl : o28 = _ := hj
    replace h := after_go ho29
    clear ho29
    change Run _ _ _ (VF.of [(0, p_0v), (4, .int .i64 i_21), (5, .int .i64 v_27)]) [ro p_0v 1 (p_0.map (eInt .i64))]
    refine run_seq ?_
    refine run_region' ?_
    refine oy rfl rfl (y_move rfl) ?_
    refine oy rfl rfl (y_geq rfl rfl) ?_
    refine ops_nil ?_
    refine goes_code ?_
    refine run_cond (decide (0 ≤ v_27)) rfl (fun hc43 => ?_) (fun hc43 => ?_)
    ·replace h := cond_t h hc43
     refine run_seq ?_
     refine run_region' ?_
     refine oy rfl rfl (y_assign rfl) ?_
     refine ops_nil ?_
     refine goes_code ?_
     refine run_ret ?_
     obtain rfl := some_eq h
     obtain rfl := hstop24 _ rfl
     skip
     obtain rfl := after_stop ho18
     refine fin_slots [2] [.bool false] [] [] Try.results55 rfl (by decide) rfl ?_
     exact ⟨rfl, rfl⟩
    ·replace h := cond_f h hc43
     refine run_skip ?_
     refine goes_blk ?_
     refine goes_code ?_
     refine run_region' ?_
     refine oy rfl rfl (y_move rfl) ?_
     refine oy rfl rfl (y_add rfl rfl) ?_
     refine oy rfl rfl (y_assign rfl) ?_
     refine ops_nil ?_
     obtain rfl := some_eq h
     exact goes_iter hgo23 (IntKind.i64.wrap (i_21 + 1)) () [0] rfl (vcons rfl (vcons rfl (vnil))) (by decide) rfl
   ·replace h := cond_f h hc26
    refine run_exit _ rfl ?_
    obtain rfl := some_eq h
    obtain rfl := hstop24 _ rfl
    exact goes_cut hL19 ((), ()) [] vnil (by decide) rfl rfl
  rintro ⟨_, _⟩ hj
  obtain rfl : o17 = _ := hj
  replace h := after_go ho18
  clear ho18
  change Run _ _ _ (VF.of []) []
  refine run_seq ?_
  refine run_region' ?_
  refine oy rfl rfl (y_assign rfl) ?_
  refine ops_nil ?_
  refine goes_code ?_
  refine run_ret ?_
  obtain rfl := some_eq h
  refine fin_slots [2] [.bool true] [] [] Try.results55 rfl (by decide) rfl ?_
  exact ⟨rfl, rfl⟩

def ref09_climb_L1 (p_0 : (List Int)) : (Int × (List Int)) → Option (Lp (Int × (List Int)) (Lp ((List Int)) ((List Int)))) :=
 fun (v_7, out_8) =>
  cond (decide (0 ≤ v_7))
   (need (out_8.length + ([v_7] : List Int).length ≤ 4294967296) (
   idx p_0 v_7 fun x18 =>
   some (.go (x18, (out_8 ++ ([v_7] : List Int))))))
   (some (.stop (.go out_8)))
def ref09_climb (n : Nat) (p_0 : (List Int)) (v_1 : Int) : Option ((List Int)) :=
 bindJ (S := (List Int))
  (iter (ref09_climb_L1 p_0) n (v_1, ([] : List Int)))
 (fun out_1 =>
  some out_1)
theorem ref09_climb_ok (n : Nat) (p_0 : (List Int)) (v_1 : Int) (p_0v : Value) {r : (List Int)} (h : ref09_climb n p_0 v_1 = some r) :
  Meets Try.prog 56 [p_0v, .int .i64 v_1] [ro p_0v 1 (p_0.map (eInt .i64))] (fun v G => ∃ v0, v = v0 ∧ G = [row v0 1 (r.map (eInt .i64))]) := by
 refine fn_of_run Try.func56 rfl Try.ntmps56 rfl (fun w0 o0 => ?_)
 refine run_seq ?_
 refine run_region' ?_
 refine oy rfl rfl (y_assign rfl) ?_
 refine ops_nil ?_
 refine goes_code ?_
 refine run_seq ?_
 refine run_region' ?_
 refine oy rfl rfl (y_assign rfl) ?_
 refine ops_nil ?_
 refine goes_code ?_
 obtain ⟨o3, h, ho4⟩ := bindJ_some h
 refine run_cut (((List Int)) × (Value)) (fun σ => [(5, σ.2)]) (fun σ => [row σ.2 1 (σ.1.map (eInt .i64))]) (fun σ => o3 = .go σ.1) (fun L6 hL5 => ?_) ?_
 ·
  refine run_block ?_
  refine run_turn (nilrow 1) ?_
  refine run_turn (retell 1 (g := row (.slice none 0 0) 1 (([] : List Int).map (eInt .i64))) rfl rfl) ?_
  refine run_iter (step := ref09_climb_L1 p_0) (n := n) (s0 := (v_1, ([] : List Int))) h (G := Value) (.slice none 0 0) (fun σ γ => [(0, p_0v), (1, .int .i64 σ.1), (5, γ)]) (fun σ γ => [ro p_0v 1 (p_0.map (eInt .i64)), row γ 1 (σ.2.map (eInt .i64))]) [0, 1] (vcons rfl (vcons rfl (vcons rfl (vnil)))) (by decide) rfl ?_
  rintro ⟨v_7, out_8⟩ v9 o10 h L13 hgo11 hstop12
  change Run _ _ _ (VF.of [(0, p_0v), (1, .int .i64 v_7), (5, v9)]) [ro p_0v 1 (p_0.map (eInt .i64)), row v9 1 (out_8.map (eInt .i64))]
  refine run_seq ?_
  refine run_seq ?_
  refine run_region' ?_
  refine oy rfl rfl (y_move rfl) ?_
  refine oy rfl rfl (y_geq rfl rfl) ?_
  refine ops_nil ?_
  refine goes_code ?_
  refine run_cond (decide (0 ≤ v_7)) rfl (fun hc14 => ?_) (fun hc14 => ?_)
  ·replace h := cond_t h hc14
   refine run_skip ?_
   refine goes_code ?_
   refine run_block ?_
   refine run_seq ?_
   refine run_region' ?_
   refine oy rfl rfl (y_move rfl) ?_
   refine oy rfl rfl (y_move rfl) ?_
   refine ot rfl rfl (t_lit [.int .i64 v_7] Try.runUnderlying34 Try.sizeOf3 Try.zeroValue3 rfl (by decide) (by decide) rfl (by simp [Value.cells, boxP])) ?_
   rintro v15 _ ⟨rfl, _⟩
   refine ops_turn (retell 2 (g := row v15 1 (([v_7] : List Int).map (eInt .i64))) rfl rfl) ?_
   obtain ⟨hr17, h⟩ := need_some h
   refine ot rfl rfl (t_append (es := 1) 1 rfl Try.runUnderlying34 rfl Try.runUnderlying34 (.inr ⟨_, rfl⟩) Try.typeInfo3 rfl (by decide) Try.zeroValue3 rfl rfl rfl rfl (src_reads 2 rfl reads_row (map_ok (eInt_ok _) _)) (map_room hr17 (by decide)) (map_fit hr17)) ?_
   rintro v16 _ rfl
   refine ops_turn (retell 1 (g := row v16 1 ((out_8 ++ ([v_7] : List Int)).map (eInt .i64))) rfl (congrArg (row _ _) List.map_append.symm)) ?_
   refine oy rfl rfl (y_assign rfl) ?_
   refine ops_nil ?_
   refine goes_code ?_
   refine run_region' ?_
   refine oy rfl rfl (y_move rfl) ?_
   refine oy rfl rfl (y_move rfl) ?_
   obtain ⟨x18, hzx18, hlx18, hxx18, h⟩ := idx_some h
   refine oy rfl rfl (y_indexAddrI (kd := .i64) (i := v_7) 0 Try.runUnderlying34 Try.sizeOf3 rfl rfl rfl reads_ro hzx18 (map_lt hlx18)) ?_
   refine oy rfl rfl (y_load_elem (i := v_7.toNat) 0 Try.isAgg3 rfl rfl reads_ro (map_get hxx18)) ?_
   refine oy rfl rfl (y_assign rfl) ?_
   refine ops_nil ?_
   refine goes_blk ?_
   obtain rfl := some_eq h
   exact goes_iter hgo11 (x18, (out_8 ++ ([v_7] : List Int))) v16 [0, 1] rfl (vcons rfl (vcons rfl (vcons rfl (vnil)))) (by decide) rfl
  ·replace h := cond_f h hc14
   refine run_exit _ rfl ?_
   obtain rfl := some_eq h
   obtain rfl := hstop12 _ rfl
   exact goes_cut hL5 (out_8, v9) [1] (vcons rfl (vnil)) (by decide) rfl rfl
 rintro ⟨out_1, v2⟩ hj
 obtain rfl : o3 = _ := hj
 replace h := after_go ho4
 clear ho4
 change Run _ _ _ (VF.of [(5, v2)]) [row v2 1 (out_1.map (eInt .i64))]
 refine run_seq ?_
 refine run_region' ?_
 refine oy rfl rfl (y_move rfl) ?_
 refine oy rfl rfl (y_assign rfl) ?_
 refine ops_nil ?_
 refine goes_code ?_
 refine run_ret ?_
 obtain rfl := some_eq h
 refine fin_slots [4] [v2] [0] [row v2 1 (out_1.map (eInt .i64))] Try.results56 rfl (by decide) rfl ?_
 exact ⟨_, rfl, rfl⟩

def ref09_Depths_L1 (n : Nat) (p_0 : (List Int)) : ((List Int) × Int) → Option (Lp ((List Int) × Int) (Lp ((List Int)) (S_ref09_List))) :=
 fun (out_11, i_12) =>
  cond (decide (i_12 < (p_0.length : Int)))
   (obind (ref09_climb n p_0 i_12) fun r19 =>
   need (out_11.length + ([(IntKind.i64.wrap ((r19.length : Int) - 1))] : List Int).length ≤ 4294967296) (
   some (.go ((out_11 ++ ([(IntKind.i64.wrap ((r19.length : Int) - 1))] : List Int)), (IntKind.i64.wrap (i_12 + 1))))))
   (some (.stop (.go out_11)))
def ref09_Depths (n : Nat) (p_0 : (List Int)) : Option (S_ref09_List) :=
 obind (ref09_Formed n p_0) fun r2 =>
 cond (!r2)
  (some (S_ref09_List.mk ([] : List Int) 3))
  (bindJ (S := (List Int))
   (iter (ref09_Depths_L1 n p_0) n (([] : List Int), 0))
  (fun out_5 =>
   some (S_ref09_List.mk out_5 0)))
theorem ref09_Depths_ok (n : Nat) (p_0 : (List Int)) (p_0v : Value) {r : S_ref09_List} (h : ref09_Depths n p_0 = some r) :
  Meets Try.prog 29 [p_0v] [ro p_0v 1 (p_0.map (eInt .i64))] (fun v G => ∃ v0, v = .agg #[v0, .int .i64 r.E] ∧ G = [row v0 1 (r.L.map (eInt .i64))]) := by
 refine fn_of_run Try.func29 rfl Try.ntmps29 rfl (fun w0 o0 => ?_)
 refine run_seq ?_
 refine run_region' ?_
 refine ot rfl rfl (t_alloc Try.zeroValue62) ?_
 rintro _ _ ⟨b1, rfl, rfl⟩
 refine ops_nil ?_
 refine goes_code ?_
 refine run_seq ?_
 refine run_region' ?_
 refine oy rfl rfl (y_move rfl) ?_
 obtain ⟨r2, hr3, h⟩ := obind_some h
 refine ot rfl rfl (t_callx (vs := [p_0v]) (cs := []) [(0, 0)] rfl Try.call55 rfl (ref09_Formed_ok n p_0 p_0v hr3) (showsX_view 0 rfl views_ro showsX_nil) rfl (.inl rfl)) ?_
 rintro _ _ ⟨_, ⟨rfl, rfl⟩, rfl⟩
 refine oy rfl rfl (y_assign rfl) ?_
 refine ops_nil ?_
 refine goes_code ?_
 refine run_seq ?_
 refine run_seq ?_
 refine run_region' ?_
 refine oy rfl rfl (y_move rfl) ?_
 refine oy rfl rfl (y_not rfl) ?_
 refine ops_nil ?_
 refine goes_code ?_
 refine run_cond (!r2) rfl (fun hc4 => ?_) (fun hc4 => ?_)
 ·replace h := cond_t h hc4
  refine run_seq ?_
  refine run_region' ?_
  refine oy rfl rfl (y_build_struct (cells := #[.slice none 0 0, .int .i64 3]) [(1, .int .i64 3)] [(1, [.int .i64 3])] Try.zeroValue62 Try.runUnderlying62 (fs_cons Try.sizeOf34 (fs_cons Try.sizeOf28 fs_nil)) rfl rfl rfl) ?_
  refine ot rfl rfl (t_store 1 Try.sizeOf62 rfl rfl rfl rfl (by simp [Value.cells, boxP]) (by simp [Value.cells, Value.oneCell', boxP])) ?_
  rintro _ _ ⟨rfl, rfl⟩
  refine ops_turn (retell 1 (g := box b1 [.slice none 0 0, .int .i64 3]) rfl rfl) ?_
  refine ops_nil ?_
  refine goes_code ?_
  refine run_ret ?_
  refine fin_turn (nilrow 1) ?_
  refine fin_turn (retell 2 (g := row (.slice none 0 0) 1 (([] : List Int).map (eInt .i64))) rfl rfl) ?_
  obtain rfl := some_eq h
  refine fin_res [.cell 2 62] [.agg #[(.slice none 0 0), .int .i64 3]] [2] [row (.slice none 0 0) 1 (([] : List Int).map (eInt .i64))] Try.results29 rfl (rescons (res_box 1 Try.isAgg62 Try.sizeOf62 rfl rfl rfl) resnil) (by decide) rfl ?_
  exact ⟨_, rfl, rfl⟩
 ·replace h := cond_f h hc4
  refine run_skip ?_
  refine goes_code ?_
  refine run_seq ?_
  refine run_region' ?_
  refine oy rfl rfl (y_assign rfl) ?_
  refine ops_nil ?_
  refine goes_code ?_
  obtain ⟨o7, h, ho8⟩ := bindJ_some h
  refine run_cut (((List Int)) × (Value)) (fun σ => [(2, boxP b1 0), (4, σ.2)]) (fun σ => [box b1 [.slice none 0 0, .int .i64 0], row σ.2 1 (σ.1.map (eInt .i64))]) (fun σ => o7 = .go σ.1) (fun L10 hL9 => ?_) ?_
  ·
   refine run_seq ?_
   refine run_region' ?_
   refine oy rfl rfl (y_assign rfl) ?_
   refine ops_nil ?_
   refine goes_code ?_
   refine run_block ?_
   refine run_turn (nilrow 1) ?_
   refine run_turn (retell 2 (g := row (.slice none 0 0) 1 (([] : List Int).map (eInt .i64))) rfl rfl) ?_
   refine run_iter (step := ref09_Depths_L1 n p_0) (n := n) (s0 := (([] : List Int), 0)) h (G := Value) (.slice none 0 0) (fun σ γ => [(0, p_0v), (2, boxP b1 0), (4, γ), (5, .int .i64 σ.2)]) (fun σ γ => [ro p_0v 1 (p_0.map (eInt .i64)), box b1 [.slice none 0 0, .int .i64 0], row γ 1 (σ.1.map (eInt .i64))]) [0, 1, 2] (vcons rfl (vcons rfl (vcons rfl (vcons rfl (vnil))))) (by decide) rfl ?_
   rintro ⟨out_11, i_12⟩ v13 o14 h L17 hgo15 hstop16
   change Run _ _ _ (VF.of [(0, p_0v), (2, boxP b1 0), (4, v13), (5, .int .i64 i_12)]) [ro p_0v 1 (p_0.map (eInt .i64)), box b1 [.slice none 0 0, .int .i64 0], row v13 1 (out_11.map (eInt .i64))]
   refine run_seq ?_
   refine run_seq ?_
   refine run_region' ?_
   refine oy rfl rfl (y_move rfl) ?_
   refine oy rfl rfl (y_move rfl) ?_
   refine oy rfl rfl ((y_len 0 rfl Try.runUnderlying34 rfl rfl reads_ro).to (v_len (eInt .i64) _)) ?_
   refine oy rfl rfl (y_lss rfl rfl) ?_
   refine ops_nil ?_
   refine goes_code ?_
   refine run_cond (decide (i_12 < (p_0.length : Int))) rfl (fun hc18 => ?_) (fun hc18 => ?_)
   ·replace h := cond_t h hc18
    refine run_skip ?_
    refine goes_code ?_
    refine run_seq ?_
    refine run_block ?_
    refine run_region' ?_
    refine oy rfl rfl (y_move rfl) ?_
    refine oy rfl rfl (y_move rfl) ?_
    refine oy rfl rfl (y_move rfl) ?_
    obtain ⟨r19, hr20, h⟩ := obind_some h
    refine ot rfl rfl (t_callx (vs := [p_0v, .int .i64 i_12]) (cs := []) [(0, 0)] rfl Try.call56 rfl (ref09_climb_ok n p_0 i_12 p_0v hr20) (showsX_view 0 rfl views_ro showsX_nil) rfl (.inl rfl)) ?_
    rintro v21 _ ⟨_, ⟨_, rfl, rfl⟩, rfl⟩
    refine oy rfl rfl ((y_len 3 rfl Try.runUnderlying34 rfl rfl reads_row).to (v_len (eInt .i64) _)) ?_
    refine oy rfl rfl (y_sub rfl rfl) ?_
    refine ot rfl rfl (t_lit [.int .i64 (IntKind.i64.wrap ((r19.length : Int) - 1))] Try.runUnderlying34 Try.sizeOf3 Try.zeroValue3 rfl (by decide) (by decide) rfl (by simp [Value.cells, boxP])) ?_
    rintro v22 _ ⟨rfl, _⟩
    refine ops_turn (retell 4 (g := row v22 1 (([(IntKind.i64.wrap ((r19.length : Int) - 1))] : List Int).map (eInt .i64))) rfl rfl) ?_
    obtain ⟨hr24, h⟩ := need_some h
    refine ot rfl rfl (t_append (es := 1) 2 rfl Try.runUnderlying34 rfl Try.runUnderlying34 (.inr ⟨_, rfl⟩) Try.typeInfo3 rfl (by decide) Try.zeroValue3 rfl rfl rfl rfl (src_reads 4 rfl reads_row (map_ok (eInt_ok _) _)) (map_room hr24 (by decide)) (map_fit hr24)) ?_
    rintro v23 _ rfl
    refine ops_turn (retell 2 (g := row v23 1 ((out_11 ++ ([(IntKind.i64.wrap ((r19.length : Int) - 1))] : List Int)).map (eInt .i64))) rfl (congrArg (row _ _) List.map_append.symm)) ?_
    refine oy rfl rfl (y_assign rfl) ?_
    refine ops_nil ?_
    refine goes_blk ?_
    refine goes_code ?_
    refine run_weak [(0, p_0v), (2, boxP b1 0), (4, v23), (5, .int .i64 i_12)] [0, 1, 2] [ro p_0v 1 (p_0.map (eInt .i64)), box b1 [.slice none 0 0, .int .i64 0], row v23 1 ((out_11 ++ ([(IntKind.i64.wrap ((r19.length : Int) - 1))] : List Int)).map (eInt .i64))] (vcons rfl (vcons rfl (vcons rfl (vcons rfl (vnil))))) (by decide) rfl ?_
    refine run_region' ?_
    refine oy rfl rfl (y_move rfl) ?_
    refine oy rfl rfl (y_add rfl rfl) ?_
    refine oy rfl rfl (y_assign rfl) ?_
    refine ops_nil ?_
    obtain rfl := some_eq h
    exact goes_iter hgo15 ((out_11 ++ ([(IntKind.i64.wrap ((r19.length : Int) - 1))] : List Int)), (IntKind.i64.wrap (i_12 + 1))) v23 [0, 1, 2] rfl (vcons rfl (vcons rfl (vcons rfl (vcons rfl (vnil))))) (by decide) rfl
   ·replace h := cond_f h hc18
    refine run_exit _ rfl ?_
    obtain rfl := some_eq h
    obtain rfl := hstop16 _ rfl
    exact goes_cut hL9 (out_11, v13) [1, 2] (vcons rfl (vcons rfl (vnil))) (by decide) rfl rfl
  rintro ⟨out_5, v6⟩ hj
  obtain rfl : o7 = _ := hj
  replace h := after_go ho8
  clear ho8
  change Run _ _ _ (VF.of [(2, boxP b1 0), (4, v6)]) [box b1 [.slice none 0 0, .int .i64 0], row v6 1 (out_5.map (eInt .i64))]
  refine run_seq ?_
  refine run_region' ?_
  refine oy rfl rfl (y_move rfl) ?_
  refine ops_slc 1 rfl reads_row (fun hs25 hs25o => ?_)
  refine oy rfl rfl (y_build_struct (cells := #[v6, .int .i64 0]) [(0, v6)] [(0, [v6])] Try.zeroValue62 Try.runUnderlying62 (fs_cons Try.sizeOf34 (fs_cons Try.sizeOf28 fs_nil)) rfl (by first | (simp only [List.map_cons, List.map_nil, hs25]; done) | (simp only [List.map_cons, List.map_nil, hs25]; rfl)) rfl) ?_
  refine ops_slc 1 rfl reads_row (fun hs26 hs26o => ?_)
  refine ot rfl rfl (t_store 0 Try.sizeOf62 rfl rfl rfl rfl (by simp [Value.cells, boxP]) (by intro u hu; replace hu : u ∈ ([v6, .int .i64 0] : List Value) := hu; simp only [List.mem_cons, List.not_mem_nil, or_false] at hu; rcases hu with rfl | rfl <;> first | rfl | assumption)) ?_
  rintro _ _ ⟨rfl, rfl⟩
  refine ops_turn (retell 0 (g := box b1 [v6, .int .i64 0]) rfl rfl) ?_
  refine ops_nil ?_
  refine goes_code ?_
  refine run_ret ?_
  obtain rfl := some_eq h
  refine fin_res [.cell 2 62] [.agg #[v6, .int .i64 0]] [1] [row v6 1 (out_5.map (eInt .i64))] Try.results29 rfl (rescons (res_box 0 Try.isAgg62 Try.sizeOf62 rfl rfl rfl) resnil) (by decide) rfl ?_
  exact ⟨_, rfl, rfl⟩

def ref09_Climb (n : Nat) (p_0 : (List Int)) (v_1 : Int) : Option (S_ref09_List) :=
 obind (ref09_Formed n p_0) fun r2 =>
 cond (!r2)
  (some (S_ref09_List.mk ([] : List Int) 3))
  (cond (decide (v_1 < 0) || decide ((p_0.length : Int) ≤ v_1))
   (some (S_ref09_List.mk ([] : List Int) 1))
   (obind (ref09_climb n p_0 v_1) fun r9 =>
   some (S_ref09_List.mk r9 0)))
theorem ref09_Climb_ok (n : Nat) (p_0 : (List Int)) (v_1 : Int) (p_0v : Value) {r : S_ref09_List} (h : ref09_Climb n p_0 v_1 = some r) :
  Meets Try.prog 30 [p_0v, .int .i64 v_1] [ro p_0v 1 (p_0.map (eInt .i64))] (fun v G => ∃ v0, v = .agg #[v0, .int .i64 r.E] ∧ G = [row v0 1 (r.L.map (eInt .i64))]) := by
 refine fn_of_run Try.func30 rfl Try.ntmps30 rfl (fun w0 o0 => ?_)
 refine run_seq ?_
 refine run_region' ?_
 refine ot rfl rfl (t_alloc Try.zeroValue62) ?_
 rintro _ _ ⟨b1, rfl, rfl⟩
 refine ops_nil ?_
 refine goes_code ?_
 refine run_seq ?_
 refine run_region' ?_
 refine oy rfl rfl (y_move rfl) ?_
 obtain ⟨r2, hr3, h⟩ := obind_some h
 refine ot rfl rfl (t_callx (vs := [p_0v]) (cs := []) [(0, 0)] rfl Try.call55 rfl (ref09_Formed_ok n p_0 p_0v hr3) (showsX_view 0 rfl views_ro showsX_nil) rfl (.inl rfl)) ?_
 rintro _ _ ⟨_, ⟨rfl, rfl⟩, rfl⟩
 refine oy rfl rfl (y_assign rfl) ?_
 refine ops_nil ?_
 refine goes_code ?_
 refine run_seq ?_
 refine run_seq ?_
 refine run_region' ?_
 refine oy rfl rfl (y_move rfl) ?_
 refine oy rfl rfl (y_not rfl) ?_
 refine ops_nil ?_
 refine goes_code ?_
 refine run_cond (!r2) rfl (fun hc4 => ?_) (fun hc4 => ?_)
 ·replace h := cond_t h hc4
  refine run_seq ?_
  refine run_region' ?_
  refine oy rfl rfl (y_build_struct (cells := #[.slice none 0 0, .int .i64 3]) [(1, .int .i64 3)] [(1, [.int .i64 3])] Try.zeroValue62 Try.runUnderlying62 (fs_cons Try.sizeOf34 (fs_cons Try.sizeOf28 fs_nil)) rfl rfl rfl) ?_
  refine ot rfl rfl (t_store 1 Try.sizeOf62 rfl rfl rfl rfl (by simp [Value.cells, boxP]) (by simp [Value.cells, Value.oneCell', boxP])) ?_
  rintro _ _ ⟨rfl, rfl⟩
  refine ops_turn (retell 1 (g := box b1 [.slice none 0 0, .int .i64 3]) rfl rfl) ?_
  refine ops_nil ?_
  refine goes_code ?_
  refine run_ret ?_
  refine fin_turn (nilrow 1) ?_
  refine fin_turn (retell 2 (g := row (.slice none 0 0) 1 (([] : List Int).map (eInt .i64))) rfl rfl) ?_
  obtain rfl := some_eq h
  refine fin_res [.cell 4 62] [.agg #[(.slice none 0 0), .int .i64 3]] [2] [row (.slice none 0 0) 1 (([] : List Int).map (eInt .i64))] Try.results30 rfl (rescons (res_box 1 Try.isAgg62 Try.sizeOf62 rfl rfl rfl) resnil) (by decide) rfl ?_
  exact ⟨_, rfl, rfl⟩
 ·replace h := cond_f h hc4
  refine run_skip ?_
  refine goes_code ?_
  refine run_seq ?_
  refine run_seq ?_
  refine run_region' ?_
  refine oy rfl rfl (y_move rfl) ?_
  refine oy rfl rfl (y_lss rfl rfl) ?_
  refine oy rfl rfl (y_move rfl) ?_
  refine ops_cut 5 (Bool) (fun σ => [(0, p_0v), (1, .int .i64 v_1), (4, boxP b1 0), (18, .bool σ)]) (fun σ => [ro p_0v 1 (p_0.map (eInt .i64)), box b1 [.slice none 0 0, .int .i64 0]]) (fun σ => σ = (decide (v_1 < 0) || decide ((p_0.length : Int) ≤ v_1))) (fun L5 hL6 => ?_) ?_
  ·refine ops_split 13 (decide (v_1 < 0)) rfl (fun hg7 => ?_) (fun hg7 => ?_)
   ·skip
    refine ops_no 2 false 13 rfl rfl rfl rfl rfl ?_
    refine ops_no 2 false 13 rfl rfl rfl rfl rfl ?_
    refine ops_no 2 false 13 rfl rfl rfl rfl rfl ?_
    refine ops_no 2 false 13 rfl rfl rfl rfl rfl ?_
    refine oy rfl rfl (y_pick (b := true) rfl rfl) ?_
    refine ops_nil ?_
    exact goes_cut hL6 true [0, 1] (vcons rfl (vcons rfl (vcons rfl (vcons rfl (vnil))))) (by decide) rfl (by rw [hg7]; simp)
   ·skip
    refine ops_y (wg 2 false 13 rfl rfl rfl rfl) rfl (y_move rfl) ?_
    refine ops_y (wg 2 false 13 rfl rfl rfl rfl) rfl (y_move rfl) ?_
    refine ops_y (wg 2 false 13 rfl rfl rfl rfl) rfl ((y_len 0 rfl Try.runUnderlying34 rfl rfl reads_ro).to (v_len (eInt .i64) _)) ?_
    refine ops_y (wg 2 false 13 rfl rfl rfl rfl) rfl (y_geq rfl rfl) ?_
    refine oy rfl rfl (y_pick (b := false) rfl rfl) ?_
    refine ops_nil ?_
    exact goes_cut hL6 (decide ((p_0.length : Int) ≤ v_1)) [0, 1] (vcons rfl (vcons rfl (vcons rfl (vcons rfl (vnil))))) (by decide) rfl (by rw [hg7]; simp)
  rintro _ rfl
  refine ops_nil ?_
  refine goes_code ?_
  refine run_cond (decide (v_1 < 0) || decide ((p_0.length : Int) ≤ v_1)) rfl (fun hc8 => ?_) (fun hc8 => ?_)
  ·replace h := cond_t h hc8
   refine run_seq ?_
   refine run_region' ?_
   refine oy rfl rfl (y_build_struct (cells := #[.slice none 0 0, .int .i64 1]) [(1, .int .i64 1)] [(1, [.int .i64 1])] Try.zeroValue62 Try.runUnderlying62 (fs_cons Try.sizeOf34 (fs_cons Try.sizeOf28 fs_nil)) rfl rfl rfl) ?_
   refine ot rfl rfl (t_store 1 Try.sizeOf62 rfl rfl rfl rfl (by simp [Value.cells, boxP]) (by simp [Value.cells, Value.oneCell', boxP])) ?_
   rintro _ _ ⟨rfl, rfl⟩
   refine ops_turn (retell 1 (g := box b1 [.slice none 0 0, .int .i64 1]) rfl rfl) ?_
   refine ops_nil ?_
   refine goes_code ?_
   refine run_ret ?_
   refine fin_turn (nilrow 1) ?_
   refine fin_turn (retell 2 (g := row (.slice none 0 0) 1 (([] : List Int).map (eInt .i64))) rfl rfl) ?_
   obtain rfl := some_eq h
   refine fin_res [.cell 4 62] [.agg #[(.slice none 0 0), .int .i64 1]] [2] [row (.slice none 0 0) 1 (([] : List Int).map (eInt .i64))] Try.results30 rfl (rescons (res_box 1 Try.isAgg62 Try.sizeOf62 rfl rfl rfl) resnil) (by decide) rfl ?_
   exact ⟨_, rfl, rfl⟩
  ·replace h := cond_f h hc8
   refine run_skip ?_
   refine goes_code ?_
   refine run_seq ?_
   refine run_region' ?_
   refine oy rfl rfl (y_move rfl) ?_
   refine oy rfl rfl (y_move rfl) ?_
   obtain ⟨r9, hr10, h⟩ := obind_some h
   refine ot rfl rfl (t_callx (vs := [p_0v, .int .i64 v_1]) (cs := []) [(0, 0)] rfl Try.call56 rfl (ref09_climb_ok n p_0 v_1 p_0v hr10) (showsX_view 0 rfl views_ro showsX_nil) rfl (.inl rfl)) ?_
   rintro v11 _ ⟨_, ⟨_, rfl, rfl⟩, rfl⟩
   refine ops_slc 2 rfl reads_row (fun hs12 hs12o => ?_)
   refine oy rfl rfl (y_build_struct (cells := #[v11, .int .i64 0]) [(0, v11)] [(0, [v11])] Try.zeroValue62 Try.runUnderlying62 (fs_cons Try.sizeOf34 (fs_cons Try.sizeOf28 fs_nil)) rfl (by first | (simp only [List.map_cons, List.map_nil, hs12]; done) | (simp only [List.map_cons, List.map_nil, hs12]; rfl)) rfl) ?_
   refine ops_slc 2 rfl reads_row (fun hs13 hs13o => ?_)
   refine ot rfl rfl (t_store 1 Try.sizeOf62 rfl rfl rfl rfl (by simp [Value.cells, boxP]) (by intro u hu; replace hu : u ∈ ([v11, .int .i64 0] : List Value) := hu; simp only [List.mem_cons, List.not_mem_nil, or_false] at hu; rcases hu with rfl | rfl <;> first | rfl | assumption)) ?_
   rintro _ _ ⟨rfl, rfl⟩
   refine ops_turn (retell 1 (g := box b1 [v11, .int .i64 0]) rfl rfl) ?_
   refine ops_nil ?_
   refine goes_code ?_
   refine run_ret ?_
   obtain rfl := some_eq h
   refine fin_res [.cell 4 62] [.agg #[v11, .int .i64 0]] [2] [row v11 1 (r9.map (eInt .i64))] Try.results30 rfl (rescons (res_box 1 Try.isAgg62 Try.sizeOf62 rfl rfl rfl) resnil) (by decide) rfl ?_
   exact ⟨_, rfl, rfl⟩

def ref09_Has_L1 (l_0 : (List Int)) (n_1 : Int) : (Int) → Option (Lp (Int) (Lp (Unit) (Bool))) :=
 fun i_5 =>
  cond (decide (i_5 < (l_0.length : Int)))
   (idx l_0 i_5 fun x11 =>
   cond (decide (x11 = n_1))
    (some (.stop (.stop true)))
    (some (.go (IntKind.i64.wrap (i_5 + 1)))))
   (some (.stop (.go ())))
def ref09_Has (n : Nat) (l_0 : (List Int)) (n_1 : Int) : Option (Bool) :=
 bindJ (S := Unit)
  (iter (ref09_Has_L1 l_0 n_1) n 0)
 (fun _ =>
  some false)
theorem ref09_Has_ok (n : Nat) (l_0 : (List Int)) (n_1 : Int) (l_0v : Value) {r : Bool} (h : ref09_Has n l_0 n_1 = some r) :
  Meets Try.prog 32 [l_0v, .int .i64 n_1] [ro l_0v 1 (l_0.map (eInt .i64))] (fun v G => v = .bool r ∧ G = []) := by
 refine fn_of_run Try.func32 rfl Try.ntmps32 rfl (fun w0 o0 => ?_)
 refine run_seq ?_
 refine run_region' ?_
 refine oy rfl rfl (y_assign rfl) ?_
 refine ops_nil ?_
 refine goes_code ?_
 obtain ⟨o1, h, ho2⟩ := bindJ_some h
 refine run_cut ((Unit) × (Unit)) (fun σ => []) (fun σ => []) (fun σ => o1 = .go σ.1) (fun L4 hL3 => ?_) ?_
 ·
  refine run_seq ?_
  refine run_region' ?_
  refine oy rfl rfl (y_assign rfl) ?_
  refine ops_nil ?_
  refine goes_code ?_
  refine run_block ?_
  refine run_iter (step := ref09_Has_L1 l_0 n_1) (n := n) (s0 := 0) h (G := Unit) () (fun σ γ => [(0, l_0v), (1, .int .i64 n_1), (5, .int .i64 σ)]) (fun σ γ => [ro l_0v 1 (l_0.map (eInt .i64))]) [0] (vcons rfl (vcons rfl (vcons rfl (vnil)))) (by decide) rfl ?_
  rintro i_5 _ o6 h L9 hgo7 hstop8
  change Run _ _ _ (VF.of [(0, l_0v), (1, .int .i64 n_1), (5, .int .i64 i_5)]) [ro l_0v 1 (l_0.map (eInt .i64))]
  refine run_seq ?_
  refine run_seq ?_
  refine run_region' ?_
  refine oy rfl rfl (y_move rfl) ?_
  refine oy rfl rfl (y_move rfl) ?_
  refine oy rfl rfl ((y_len 0 rfl Try.runUnderlying34 rfl rfl reads_ro).to (v_len (eInt .i64) _)) ?_
  refine oy rfl rfl (y_lss rfl rfl) ?_
  refine ops_nil ?_
  refine goes_code ?_
  refine run_cond (decide (i_5 < (l_0.length : Int))) rfl (fun hc10 => ?_) (fun hc10 => ?_)
  ·replace h := cond_t h hc10
   refine run_skip ?_
   refine goes_code ?_
   refine run_seq ?_
   refine run_block ?_
   refine run_seq ?_
   refine run_region' ?_
   refine oy rfl rfl (y_move rfl) ?_
   refine oy rfl rfl (y_move rfl) ?_
   obtain ⟨x11, hzx11, hlx11, hxx11, h⟩ := idx_some h
   refine oy rfl rfl (y_indexAddrI (kd := .i64) (i := i_5) 0 Try.runUnderlying34 Try.sizeOf3 rfl rfl rfl reads_ro hzx11 (map_lt hlx11)) ?_
   refine oy rfl rfl (y_load_elem (i := i_5.toNat) 0 Try.isAgg3 rfl rfl reads_ro (map_get hxx11)) ?_
   refine oy rfl rfl (y_move rfl) ?_
   refine oy rfl rfl (y_eql rfl rfl) ?_
   refine ops_nil ?_
   refine goes_code ?_
   refine run_cond (decide (x11 = n_1)) rfl (fun hc12 => ?_) (fun hc12 => ?_)
   ·replace h := cond_t h hc12
    refine run_seq ?_
    refine run_weak [] [] [] vnil (by decide) rfl ?_
    refine run_region' ?_
    refine oy rfl rfl (y_assign rfl) ?_
    refine ops_nil ?_
    refine goes_code ?_
    refine run_ret ?_
    obtain rfl := some_eq h
    obtain rfl := hstop8 _ rfl
    skip
    obtain rfl := after_stop ho2
    refine fin_slots [4] [.bool true] [] [] Try.results32 rfl (by decide) rfl ?_
    exact ⟨rfl, rfl⟩
   ·replace h := cond_f h hc12
    refine run_skip ?_
    refine goes_blk ?_
    refine goes_code ?_
    refine run_weak [(0, l_0v), (1, .int .i64 n_1), (5, .int .i64 i_5)] [0] [ro l_0v 1 (l_0.map (eInt .i64))] (vcons rfl (vcons rfl (vcons rfl (vnil)))) (by decide) rfl ?_
    refine run_region' ?_
    refine oy rfl rfl (y_move rfl) ?_
    refine oy rfl rfl (y_add rfl rfl) ?_
    refine oy rfl rfl (y_assign rfl) ?_
    refine ops_nil ?_
    obtain rfl := some_eq h
    exact goes_iter hgo7 (IntKind.i64.wrap (i_5 + 1)) () [0] rfl (vcons rfl (vcons rfl (vcons rfl (vnil)))) (by decide) rfl
  ·replace h := cond_f h hc10
   refine run_exit _ rfl ?_
   obtain rfl := some_eq h
   obtain rfl := hstop8 _ rfl
   exact goes_cut hL3 ((), ()) [] vnil (by decide) rfl rfl
 rintro ⟨_, _⟩ hj
 obtain rfl : o1 = _ := hj
 replace h := after_go ho2
 clear ho2
 change Run _ _ _ (VF.of []) []
 refine run_seq ?_
 refine run_region' ?_
 refine oy rfl rfl (y_assign rfl) ?_
 refine ops_nil ?_
 refine goes_code ?_
 refine run_ret ?_
 obtain rfl := some_eq h
 refine fin_slots [4] [.bool false] [] [] Try.results32 rfl (by decide) rfl ?_
 exact ⟨rfl, rfl⟩

def ref09_Below_L1 (n : Nat) (p_0 : (List Int)) (v_1 : Int) : ((List Int) × Int) → Option (Lp ((List Int) × Int) (Lp ((List Int)) (S_ref09_List))) :=
 fun (out_15, i_16) =>
  cond (decide (i_16 < (p_0.length : Int)))
   (bindJ (S := (List Int))
    (obind (ref09_climb n p_0 i_16) fun r29 =>
    obind (ref09_Has n r29 v_1) fun r32 =>
    cond r32
     (need (out_15.length + ([i_16] : List Int).length ≤ 4294967296) (
     some (.go (out_15 ++ ([i_16] : List Int)))))
     (some (.go out_15)))
   (fun out_23 =>
    some (.go (out_23, (IntKind.i64.wrap (i_16 + 1))))))
   (some (.stop (.go out_15)))
def ref09_Below (n : Nat) (p_0 : (List Int)) (v_1 : Int) : Option (S_ref09_List) :=
 obind (ref09_Formed n p_0) fun r2 =>
 cond (!r2)
  (some (S_ref09_List.mk ([] : List Int) 3))
  (cond (decide (v_1 < 0) || decide ((p_0.length : Int) ≤ v_1))
   (some (S_ref09_List.mk ([] : List Int) 1))
   (bindJ (S := (List Int))
    (iter (ref09_Below_L1 n p_0 v_1) n (([] : List Int), 0))
   (fun out_9 =>
    some (S_ref09_List.mk out_9 0))))
theorem ref09_Below_ok (n : Nat) (p_0 : (List Int)) (v_1 : Int) (p_0v : Value) {r : S_ref09_List} (h : ref09_Below n p_0 v_1 = some r) :
  Meets Try.prog 31 [p_0v, .int .i64 v_1] [ro p_0v 1 (p_0.map (eInt .i64))] (fun v G => ∃ v0, v = .agg #[v0, .int .i64 r.E] ∧ G = [row v0 1 (r.L.map (eInt .i64))]) := by
 refine fn_of_run Try.func31 rfl Try.ntmps31 rfl (fun w0 o0 => ?_)
 refine run_seq ?_
 refine run_region' ?_
 refine ot rfl rfl (t_alloc Try.zeroValue62) ?_
 rintro _ _ ⟨b1, rfl, rfl⟩
 refine ops_nil ?_
 refine goes_code ?_
 refine run_seq ?_
 refine run_region' ?_
 refine oy rfl rfl (y_move rfl) ?_
 obtain ⟨r2, hr3, h⟩ := obind_some h
 refine ot rfl rfl (t_callx (vs := [p_0v]) (cs := []) [(0, 0)] rfl Try.call55 rfl (ref09_Formed_ok n p_0 p_0v hr3) (showsX_view 0 rfl views_ro showsX_nil) rfl (.inl rfl)) ?_
 rintro _ _ ⟨_, ⟨rfl, rfl⟩, rfl⟩
 refine oy rfl rfl (y_assign rfl) ?_
 refine ops_nil ?_
 refine goes_code ?_
 refine run_seq ?_
 refine run_seq ?_
 refine run_region' ?_
 refine oy rfl rfl (y_move rfl) ?_
 refine oy rfl rfl (y_not rfl) ?_
 refine ops_nil ?_
 refine goes_code ?_
 refine run_cond (!r2) rfl (fun hc4 => ?_) (fun hc4 => ?_)
 ·replace h := cond_t h hc4
  refine run_seq ?_
  refine run_region' ?_
  refine oy rfl rfl (y_build_struct (cells := #[.slice none 0 0, .int .i64 3]) [(1, .int .i64 3)] [(1, [.int .i64 3])] Try.zeroValue62 Try.runUnderlying62 (fs_cons Try.sizeOf34 (fs_cons Try.sizeOf28 fs_nil)) rfl rfl rfl) ?_
  refine ot rfl rfl (t_store 1 Try.sizeOf62 rfl rfl rfl rfl (by simp [Value.cells, boxP]) (by simp [Value.cells, Value.oneCell', boxP])) ?_
  rintro _ _ ⟨rfl, rfl⟩
  refine ops_turn (retell 1 (g := box b1 [.slice none 0 0, .int .i64 3]) rfl rfl) ?_
  refine ops_nil ?_
  refine goes_code ?_
  refine run_ret ?_
  refine fin_turn (nilrow 1) ?_
  refine fin_turn (retell 2 (g := row (.slice none 0 0) 1 (([] : List Int).map (eInt .i64))) rfl rfl) ?_
  obtain rfl := some_eq h
  refine fin_res [.cell 4 62] [.agg #[(.slice none 0 0), .int .i64 3]] [2] [row (.slice none 0 0) 1 (([] : List Int).map (eInt .i64))] Try.results31 rfl (rescons (res_box 1 Try.isAgg62 Try.sizeOf62 rfl rfl rfl) resnil) (by decide) rfl ?_
  exact ⟨_, rfl, rfl⟩
 ·replace h := cond_f h hc4
  refine run_skip ?_
  refine goes_code ?_
  refine run_seq ?_
  refine run_seq ?_
  refine run_region' ?_
  refine oy rfl rfl (y_move rfl) ?_
  refine oy rfl rfl (y_lss rfl rfl) ?_
  refine oy rfl rfl (y_move rfl) ?_
  refine ops_cut 5 (Bool) (fun σ => [(0, p_0v), (1, .int .i64 v_1), (4, boxP b1 0), (20, .bool σ)]) (fun σ => [ro p_0v 1 (p_0.map (eInt .i64)), box b1 [.slice none 0 0, .int .i64 0]]) (fun σ => σ = (decide (v_1 < 0) || decide ((p_0.length : Int) ≤ v_1))) (fun L5 hL6 => ?_) ?_
  ·refine ops_split 15 (decide (v_1 < 0)) rfl (fun hg7 => ?_) (fun hg7 => ?_)
   ·skip
    refine ops_no 2 false 15 rfl rfl rfl rfl rfl ?_
    refine ops_no 2 false 15 rfl rfl rfl rfl rfl ?_
    refine ops_no 2 false 15 rfl rfl rfl rfl rfl ?_
    refine ops_no 2 false 15 rfl rfl rfl rfl rfl ?_
    refine oy rfl rfl (y_pick (b := true) rfl rfl) ?_
    refine ops_nil ?_
    exact goes_cut hL6 true [0, 1] (vcons rfl (vcons rfl (vcons rfl (vcons rfl (vnil))))) (by decide) rfl (by rw [hg7]; simp)
   ·skip
    refine ops_y (wg 2 false 15 rfl rfl rfl rfl) rfl (y_move rfl) ?_
    refine ops_y (wg 2 false 15 rfl rfl rfl rfl) rfl (y_move rfl) ?_
    refine ops_y (wg 2 false 15 rfl rfl rfl rfl) rfl ((y_len 0 rfl Try.runUnderlying34 rfl rfl reads_ro).to (v_len (eInt .i64) _)) ?_
    refine ops_y (wg 2 false 15 rfl rfl rfl rfl) rfl (y_geq rfl rfl) ?_
    refine oy rfl rfl (y_pick (b := false) rfl rfl) ?_
    refine ops_nil ?_
    exact goes_cut hL6 (decide ((p_0.length : Int) ≤ v_1)) [0, 1] (vcons rfl (vcons rfl (vcons rfl (vcons rfl (vnil))))) (by decide) rfl (by rw [hg7]; simp)
  rintro _ rfl
  refine ops_nil ?_
  refine goes_code ?_
  refine run_cond (decide (v_1 < 0) || decide ((p_0.length : Int) ≤ v_1)) rfl (fun hc8 => ?_) (fun hc8 => ?_)
  ·replace h := cond_t h hc8
   refine run_seq ?_
   refine run_region' ?_
   refine oy rfl rfl (y_build_struct (cells := #[.slice none 0 0, .int .i64 1]) [(1, .int .i64 1)] [(1, [.int .i64 1])] Try.zeroValue62 Try.runUnderlying62 (fs_cons Try.sizeOf34 (fs_cons Try.sizeOf28 fs_nil)) rfl rfl rfl) ?_
   refine ot rfl rfl (t_store 1 Try.sizeOf62 rfl rfl rfl rfl (by simp [Value.cells, boxP]) (by simp [Value.cells, Value.oneCell', boxP])) ?_
   rintro _ _ ⟨rfl, rfl⟩
   refine ops_turn (retell 1 (g := box b1 [.slice none 0 0, .int .i64 1]) rfl rfl) ?_
   refine ops_nil ?_
   refine goes_code ?_
   refine run_ret ?_
   refine fin_turn (nilrow 1) ?_
   refine fin_turn (retell 2 (g := row (.slice none 0 0) 1 (([] : List Int).map (eInt .i64))) rfl rfl) ?_
   obtain rfl := some_eq h
   refine fin_res [.cell 4 62] [.agg #[(.slice none 0 0), .int .i64 1]] [2] [row (.slice none 0 0) 1 (([] : List Int).map (eInt .i64))] Try.results31 rfl (rescons (res_box 1 Try.isAgg62 Try.sizeOf62 rfl rfl rfl) resnil) (by decide) rfl ?_
   exact ⟨_, rfl, rfl⟩
  ·replace h := cond_f h hc8
   refine run_skip ?_
   refine goes_code ?_
   refine run_seq ?_
   refine run_region' ?_
   refine oy rfl rfl (y_assign rfl) ?_
   refine ops_nil ?_
   refine goes_code ?_
   obtain ⟨o11, h, ho12⟩ := bindJ_some h
   refine run_cut (((List Int)) × (Value)) (fun σ => [(4, boxP b1 0), (6, σ.2)]) (fun σ => [box b1 [.slice none 0 0, .int .i64 0], row σ.2 1 (σ.1.map (eInt .i64))]) (fun σ => o11 = .go σ.1) (fun L14 hL13 => ?_) ?_
   ·
    refine run_seq ?_
    refine run_region' ?_
    refine oy rfl rfl (y_assign rfl) ?_
    refine ops_nil ?_
    refine goes_code ?_
    refine run_block ?_
    refine run_turn (nilrow 1) ?_
    refine run_turn (retell 2 (g := row (.slice none 0 0) 1 (([] : List Int).map (eInt .i64))) rfl rfl) ?_
    refine run_iter (step := ref09_Below_L1 n p_0 v_1) (n := n) (s0 := (([] : List Int), 0)) h (G := Value) (.slice none 0 0) (fun σ γ => [(0, p_0v), (1, .int .i64 v_1), (4, boxP b1 0), (6, γ), (7, .int .i64 σ.2)]) (fun σ γ => [ro p_0v 1 (p_0.map (eInt .i64)), box b1 [.slice none 0 0, .int .i64 0], row γ 1 (σ.1.map (eInt .i64))]) [0, 1, 2] (vcons rfl (vcons rfl (vcons rfl (vcons rfl (vcons rfl (vnil)))))) (by decide) rfl ?_
    rintro ⟨out_15, i_16⟩ v17 o18 h L21 hgo19 hstop20
    change Run _ _ _ (VF.of [(0, p_0v), (1, .int .i64 v_1), (4, boxP b1 0), (6, v17), (7, .int .i64 i_16)]) [ro p_0v 1 (p_0.map (eInt .i64)), box b1 [.slice none 0 0, .int .i64 0], row v17 1 (out_15.map (eInt .i64))]
    refine run_seq ?_
    refine run_seq ?_
    refine run_region' ?_
    refine oy rfl rfl (y_move rfl) ?_
    refine oy rfl rfl (y_move rfl) ?_
    refine oy rfl rfl ((y_len 0 rfl Try.runUnderlying34 rfl rfl reads_ro).to (v_len (eInt .i64) _)) ?_
    refine oy rfl rfl (y_lss rfl rfl) ?_
    refine ops_nil ?_
    refine goes_code ?_
    refine run_cond (decide (i_16 < (p_0.length : Int))) rfl (fun hc22 => ?_) (fun hc22 => ?_)
    ·replace h := cond_t h hc22
     refine run_skip ?_
     refine goes_code ?_
     obtain ⟨o25, h, ho26⟩ := bindJ_some h
     refine run_cut (((List Int)) × (Value)) (fun σ => [(0, p_0v), (1, .int .i64 v_1), (4, boxP b1 0), (6, σ.2), (7, .int .i64 i_16)]) (fun σ => [ro p_0v 1 (p_0.map (eInt .i64)), box b1 [.slice none 0 0, .int .i64 0], row σ.2 1 (σ.1.map (eInt .i64))]) (fun σ => o25 = .go σ.1) (fun L28 hL27 => ?_) ?_
     ·
      refine run_block ?_
      refine run_seq ?_
      refine run_region' ?_
      refine oy rfl rfl (y_move rfl) ?_
      refine oy rfl rfl (y_move rfl) ?_
      obtain ⟨r29, hr30, h⟩ := obind_some h
      refine ot rfl rfl (t_callx (vs := [p_0v, .int .i64 i_16]) (cs := []) [(0, 0)] rfl Try.call56 rfl (ref09_climb_ok n p_0 i_16 p_0v hr30) (showsX_view 0 rfl views_ro showsX_nil) rfl (.inl rfl)) ?_
      rintro v31 _ ⟨_, ⟨_, rfl, rfl⟩, rfl⟩
      refine oy rfl rfl (y_move rfl) ?_
      obtain ⟨r32, hr33, h⟩ := obind_some h
      refine ot rfl rfl (t_callx (vs := [v31, .int .i64 v_1]) (cs := []) [(3, 1)] rfl Try.call32 rfl (ref09_Has_ok n r29 v_1 v31 hr33) (showsX_look 3 rfl views_row showsX_nil) rfl (.inr (by rintro _ _ ⟨rfl, rfl⟩ g hg; first | (cases hg; done) | (simp only [List.mem_cons, List.not_mem_nil, or_false] at hg; first | (subst hg; first | exact strict_row | exact strict_box) | (rcases hg with rfl | rfl <;> first | exact strict_row | exact strict_box) | (rcases hg with rfl | rfl | rfl <;> first | exact strict_row | exact strict_box))))) ?_
      rintro _ _ ⟨_, ⟨rfl, rfl⟩, rfl⟩
      refine ops_nil ?_
      refine goes_code ?_
      refine run_cond r32 rfl (fun hc34 => ?_) (fun hc34 => ?_)
      ·replace h := cond_t h hc34
       refine run_weak [(0, p_0v), (1, .int .i64 v_1), (4, boxP b1 0), (6, v17), (7, .int .i64 i_16)] [0, 1, 2] [ro p_0v 1 (p_0.map (eInt .i64)), box b1 [.slice none 0 0, .int .i64 0], row v17 1 (out_15.map (eInt .i64))] (vcons rfl (vcons rfl (vcons rfl (vcons rfl (vcons rfl (vnil)))))) (by decide) rfl ?_
       refine run_region' ?_
       refine oy rfl rfl (y_move rfl) ?_
       refine oy rfl rfl (y_move rfl) ?_
       refine ot rfl rfl (t_lit [.int .i64 i_16] Try.runUnderlying34 Try.sizeOf3 Try.zeroValue3 rfl (by decide) (by decide) rfl (by simp [Value.cells, boxP])) ?_
       rintro v35 _ ⟨rfl, _⟩
       refine ops_turn (retell 3 (g := row v35 1 (([i_16] : List Int).map (eInt .i64))) rfl rfl) ?_
       obtain ⟨hr37, h⟩ := need_some h
       refine ot rfl rfl (t_append (es := 1) 2 rfl Try.runUnderlying34 rfl Try.runUnderlying34 (.inr ⟨_, rfl⟩) Try.typeInfo3 rfl (by decide) Try.zeroValue3 rfl rfl rfl rfl (src_reads 3 rfl reads_row (map_ok (eInt_ok _) _)) (map_room hr37 (by decide)) (map_fit hr37)) ?_
       rintro v36 _ rfl
       refine ops_turn (retell 2 (g := row v36 1 ((out_15 ++ ([i_16] : List Int)).map (eInt .i64))) rfl (congrArg (row _ _) List.map_append.symm)) ?_
       refine oy rfl rfl (y_assign rfl) ?_
       refine ops_nil ?_
       refine goes_blk ?_
       obtain rfl := some_eq h
       exact goes_cut hL27 ((out_15 ++ ([i_16] : List Int)), v36) [0, 1, 2] (vcons rfl (vcons rfl (vcons rfl (vcons rfl (vcons rfl (vnil)))))) (by decide) rfl rfl
      ·replace h := cond_f h hc34
       refine run_skip ?_
       refine goes_blk ?_
       obtain rfl := some_eq h
       exact goes_cut hL27 (out_15, v17) [0, 1, 2] (vcons rfl (vcons rfl (vcons rfl (vcons rfl (vcons rfl (vnil)))))) (by decide) rfl rfl
     rintro ⟨out_23, v24⟩ hj
     obtain rfl : o25 = _ := hj
     replace h := after_go ho26
     clear ho26
     change Run _ _ _ (VF.of [(0, p_0v), (1, .int .i64 v_1), (4, boxP b1 0), (6, v24), (7, .int .i64 i_16)]) [ro p_0v 1 (p_0.map (eInt .i64)), box b1 [.slice none 0 0, .int .i64 0], row v24 1 (out_23.map (eInt .i64))]
     refine run_region' ?_
     refine oy rfl rfl (y_move rfl) ?_
     refine oy rfl rfl (y_add rfl rfl) ?_
     refine oy rfl rfl (y_assign rfl) ?_
     refine ops_nil ?_
     obtain rfl := some_eq h
     exact goes_iter hgo19 (out_23, (IntKind.i64.wrap (i_16 + 1))) v24 [0, 1, 2] rfl (vcons rfl (vcons rfl (vcons rfl (vcons rfl (vcons rfl (vnil)))))) (by decide) rfl
    ·replace h := cond_f h hc22
     refine run_exit _ rfl ?_
     obtain rfl := some_eq h
     obtain rfl := hstop20 _ rfl
     exact goes_cut hL13 (out_15, v17) [1, 2] (vcons rfl (vcons rfl (vnil))) (by decide) rfl rfl
   rintro ⟨out_9, v10⟩ hj
   obtain rfl : o11 = _ := hj
   replace h := after_go ho12
   clear ho12
   change Run _ _ _ (VF.of [(4, boxP b1 0), (6, v10)]) [box b1 [.slice none 0 0, .int .i64 0], row v10 1 (out_9.map (eInt .i64))]
   refine run_seq ?_
   refine run_region' ?_
   refine oy rfl rfl (y_move rfl) ?_
   refine ops_slc 1 rfl reads_row (fun hs38 hs38o => ?_)
   refine oy rfl rfl (y_build_struct (cells := #[v10, .int .i64 0]) [(0, v10)] [(0, [v10])] Try.zeroValue62 Try.runUnderlying62 (fs_cons Try.sizeOf34 (fs_cons Try.sizeOf28 fs_nil)) rfl (by first | (simp only [List.map_cons, List.map_nil, hs38]; done) | (simp only [List.map_cons, List.map_nil, hs38]; rfl)) rfl) ?_
   refine ops_slc 1 rfl reads_row (fun hs39 hs39o => ?_)
   refine ot rfl rfl (t_store 0 Try.sizeOf62 rfl rfl rfl rfl (by simp [Value.cells, boxP]) (by intro u hu; replace hu : u ∈ ([v10, .int .i64 0] : List Value) := hu; simp only [List.mem_cons, List.not_mem_nil, or_false] at hu; rcases hu with rfl | rfl <;> first | rfl | assumption)) ?_
   rintro _ _ ⟨rfl, rfl⟩
   refine ops_turn (retell 0 (g := box b1 [v10, .int .i64 0]) rfl rfl) ?_
   refine ops_nil ?_
   refine goes_code ?_
   refine run_ret ?_
   obtain rfl := some_eq h
   refine fin_res [.cell 4 62] [.agg #[v10, .int .i64 0]] [1] [row v10 1 (out_9.map (eInt .i64))] Try.results31 rfl (rescons (res_box 0 Try.isAgg62 Try.sizeOf62 rfl rfl rfl) resnil) (by decide) rfl ?_
   exact ⟨_, rfl, rfl⟩

end Go.Proofs.Ytgelifcckhemiaa
