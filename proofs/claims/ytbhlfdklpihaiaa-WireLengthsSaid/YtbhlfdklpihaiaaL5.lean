/-
  The law WireLengths, lifted.
-/
import Derived.Test.YtbhlfdklpihaiaaWalk5
import Derived.Test.YtbhlfdklpihaiaaAbsLift3
namespace Go.Proofs.Ytbhlfdklpihaiaa
open Go.Abs
set_option linter.unusedVariables false
set_option linter.unusedSimpArgs false
set_option maxRecDepth 20000

def wire_Int (n : Int) : Option (List UInt8) := need (-9223372036854775808 ≤ n ∧ n ≤ 9223372036854775807) (some (encI n))
theorem wire_Int_ok (a : Int) {r : List UInt8} (h : wire_Int a = some r) : Meets Try.prog 14 [.int .i64 a] [] (fun v G => ∃ v0, v = v0 ∧ G = [row v0 1 (r.map eB8)]) := by
  obtain ⟨⟨h1, h2⟩, h⟩ := need_some h
  cases h
  exact (int_p a h1 h2).weaken fun v G e => ⟨v, rfl, e⟩
def law01_sanity : Option Bool := some true
theorem law01_sanity_ok {r : Bool} (h : law01_sanity = some r) : Meets Try.prog 12 [] [] (fun v G => v = .bool r ∧ G = []) := by
  cases h; exact sanity

def law01_WireLengths (m_0 : Int) (n_1 : Int) : Option (Bool) :=
  (wire_Int m_0).bind fun r1 =>
  (wire_Int n_1).bind fun r4 =>
  cond ((((((decide ((max m_0 (IntKind.i64.wrap ((-1) - m_0))) ≤ (max n_1 (IntKind.i64.wrap ((-1) - n_1)))) && decide ((r4.length : Int) < (r1.length : Int))) || (decide ((max n_1 (IntKind.i64.wrap ((-1) - n_1))) ≤ (max m_0 (IntKind.i64.wrap ((-1) - m_0)))) && decide ((r1.length : Int) < (r4.length : Int)))) || (!((decide ((r1.length : Int) = 1)) == (decide ((max m_0 (IntKind.i64.wrap ((-1) - m_0))) < 64))))) || decide (10 < (r1.length : Int))) || decide ((r1.length : Int) = 0)) || decide ((r4.length : Int) = 0))
    (some false)
    ((law01_sanity).bind fun r29 =>
    bindJ (S := Bool)
      (cond r29
        ((wire_Int (IntKind.i64.wrap ((-1) - m_0))).bind fun r37 =>
        some (.go (decide ((r37.length : Int) = (r1.length : Int)))))
        (some (.go false)))
    (fun b31 =>
      bindJ (S := Bool)
        (cond b31
          (need (0 ≤ (0 : Int) ∧ 0 ≤ (min (r1.length : Int) (r4.length : Int)) ∧ (min (r1.length : Int) (r4.length : Int)) ≤ (r1.length : Int)) (
          need (0 ≤ (0 : Int) ∧ 0 ≤ (min (r1.length : Int) (r4.length : Int)) ∧ (min (r1.length : Int) (r4.length : Int)) ≤ (r4.length : Int)) (
          some (.go ((decide ((r1.take (((min (r1.length : Int) (r4.length : Int))).toNat)) = (r4.take (((min (r1.length : Int) (r4.length : Int))).toNat)))) == (decide (m_0 = n_1)))))))
          (some (.go false)))
      (fun b40 =>
        some b40)))
theorem law01_WireLengths_ok (m_0 : Int) (n_1 : Int)  {r : Bool} (h : law01_WireLengths m_0 n_1 = some r) :
    Meets Try.prog 5 [.int .i64 m_0, .int .i64 n_1] [] (fun v G => v = .bool r ∧ G = []) := by
  refine fn_of_run Try.func5 rfl Try.ntmps5 rfl (fun w0 o0 => ?_)
  refine run_seq ?_
  refine run_region' ?_
  refine ops_y (wn rfl) rfl (y_assign rfl) ?_
  refine ops_nil ?_
  refine goes_code ?_
  refine run_seq ?_
  refine run_region' ?_
  refine ops_y (wn rfl) rfl (y_move rfl) ?_
  obtain ⟨r1, hr2, h⟩ := bind_some h
  refine ops_t (wn rfl) rfl (t_call (vs := [.int .i64 m_0]) (cs := []) [] rfl Try.call14 rfl (wire_Int_ok m_0  hr2) shows_nil (.inl rfl)) ?_
  rintro v3 _ ⟨_, ⟨_, rfl, rfl⟩, rfl⟩
  refine ops_y (wn rfl) rfl (y_move rfl) ?_
  obtain ⟨r4, hr5, h⟩ := bind_some h
  refine ops_t (wn rfl) rfl (t_call (vs := [.int .i64 n_1]) (cs := []) [] rfl Try.call14 rfl (wire_Int_ok n_1  hr5) shows_nil (.inl rfl)) ?_
  rintro v6 _ ⟨_, ⟨_, rfl, rfl⟩, rfl⟩
  refine ops_y (wn rfl) rfl (y_assign rfl) ?_
  refine ops_y (wn rfl) rfl (y_assign rfl) ?_
  refine ops_nil ?_
  refine goes_code ?_
  refine run_seq ?_
  refine run_region' ?_
  refine ops_y (wn rfl) rfl (y_move rfl) ?_
  refine ops_y (wn rfl) rfl (y_move rfl) ?_
  refine ops_y (wn rfl) rfl (y_sub rfl rfl) ?_
  refine ops_y (wn rfl) rfl (y_max rfl rfl) ?_
  refine ops_y (wn rfl) rfl (y_move rfl) ?_
  refine ops_y (wn rfl) rfl (y_move rfl) ?_
  refine ops_y (wn rfl) rfl (y_sub rfl rfl) ?_
  refine ops_y (wn rfl) rfl (y_max rfl rfl) ?_
  refine ops_y (wn rfl) rfl (y_assign rfl) ?_
  refine ops_weak [(0, .int .i64 m_0), (1, .int .i64 n_1), (5, v3), (6, v6), (21, .int .i64 (max n_1 (IntKind.i64.wrap ((-1) - n_1)))), (7, .int .i64 (max m_0 (IntKind.i64.wrap ((-1) - m_0))))] [0, 1] [row v3 1 (r1.map eB8), row v6 1 (r4.map eB8)] (vcons rfl (vcons rfl (vcons rfl (vcons rfl (vcons rfl (vcons rfl (vnil))))))) (by decide) rfl ?_
  refine ops_y (wn rfl) rfl (y_assign rfl) ?_
  refine ops_nil ?_
  refine goes_code ?_
  refine run_seq ?_
  refine run_seq ?_
  refine run_region' ?_
  refine ops_y (wn rfl) rfl (y_move rfl) ?_
  refine ops_y (wn rfl) rfl (y_move rfl) ?_
  refine ops_y (wn rfl) rfl (y_leq rfl rfl) ?_
  refine ops_y (wn rfl) rfl (y_move rfl) ?_
  refine ops_cut 6 Bool (fun σ => [(0, .int .i64 m_0), (1, .int .i64 n_1), (5, v3), (6, v6), (7, .int .i64 (max m_0 (IntKind.i64.wrap ((-1) - m_0)))), (8, .int .i64 (max n_1 (IntKind.i64.wrap ((-1) - n_1)))), (31, .bool σ)]) (fun σ => [row v3 1 (r1.map eB8), row v6 1 (r4.map eB8)]) (fun σ => σ = (decide ((max m_0 (IntKind.i64.wrap ((-1) - m_0))) ≤ (max n_1 (IntKind.i64.wrap ((-1) - n_1)))) && decide ((r4.length : Int) < (r1.length : Int)))) (fun L7 hL8 => ?_) ?_
  · refine ops_split 25 (decide ((max m_0 (IntKind.i64.wrap ((-1) - m_0))) ≤ (max n_1 (IntKind.i64.wrap ((-1) - n_1))))) rfl (fun hg9 => ?_) (fun hg9 => ?_)
    · skip
      refine ops_y (wg 3 true 25 rfl rfl rfl rfl) rfl (y_move rfl) ?_
      refine ops_y (wg 3 true 25 rfl rfl rfl rfl) rfl ((y_len 0 rfl Try.runUnderlying28 rfl rfl reads_row).to (v_len eB8 _)) ?_
      refine ops_y (wg 3 true 25 rfl rfl rfl rfl) rfl (y_move rfl) ?_
      refine ops_y (wg 3 true 25 rfl rfl rfl rfl) rfl ((y_len 1 rfl Try.runUnderlying28 rfl rfl reads_row).to (v_len eB8 _)) ?_
      refine ops_y (wg 3 true 25 rfl rfl rfl rfl) rfl (y_gtr rfl rfl) ?_
      refine ops_y (wn rfl) rfl (y_pick (b := true) rfl rfl) ?_
      refine ops_nil ?_
      exact goes_cut hL8 (decide ((r4.length : Int) < (r1.length : Int))) [0, 1] (vcons rfl (vcons rfl (vcons rfl (vcons rfl (vcons rfl (vcons rfl (vcons rfl (vnil)))))))) (by decide) rfl (by rw [hg9]; simp)
    · skip
      refine ops_no 3 true 25 rfl rfl rfl rfl rfl ?_
      refine ops_no 3 true 25 rfl rfl rfl rfl rfl ?_
      refine ops_no 3 true 25 rfl rfl rfl rfl rfl ?_
      refine ops_no 3 true 25 rfl rfl rfl rfl rfl ?_
      refine ops_no 3 true 25 rfl rfl rfl rfl rfl ?_
      refine ops_y (wn rfl) rfl (y_pick (b := false) rfl rfl) ?_
      refine ops_nil ?_
      exact goes_cut hL8 false [0, 1] (vcons rfl (vcons rfl (vcons rfl (vcons rfl (vcons rfl (vcons rfl (vcons rfl (vnil)))))))) (by decide) rfl (by rw [hg9]; simp)
  rintro _ rfl
  refine ops_y (wn rfl) rfl (y_move rfl) ?_
  refine ops_cut 11 Bool (fun σ => [(0, .int .i64 m_0), (1, .int .i64 n_1), (5, v3), (6, v6), (7, .int .i64 (max m_0 (IntKind.i64.wrap ((-1) - m_0)))), (43, .bool σ)]) (fun σ => [row v3 1 (r1.map eB8), row v6 1 (r4.map eB8)]) (fun σ => σ = ((decide ((max m_0 (IntKind.i64.wrap ((-1) - m_0))) ≤ (max n_1 (IntKind.i64.wrap ((-1) - n_1)))) && decide ((r4.length : Int) < (r1.length : Int))) || (decide ((max n_1 (IntKind.i64.wrap ((-1) - n_1))) ≤ (max m_0 (IntKind.i64.wrap ((-1) - m_0)))) && decide ((r1.length : Int) < (r4.length : Int))))) (fun L10 hL11 => ?_) ?_
  · refine ops_split 32 (decide ((max m_0 (IntKind.i64.wrap ((-1) - m_0))) ≤ (max n_1 (IntKind.i64.wrap ((-1) - n_1)))) && decide ((r4.length : Int) < (r1.length : Int))) rfl (fun hg12 => ?_) (fun hg12 => ?_)
    · skip
      refine ops_no 10 false 32 rfl rfl rfl rfl rfl ?_
      refine ops_no 10 false 32 rfl rfl rfl rfl rfl ?_
      refine ops_no 10 false 32 rfl rfl rfl rfl rfl ?_
      refine ops_no 10 false 32 rfl rfl rfl rfl rfl ?_
      refine ops_un 14 true 36 rfl rfl rfl rfl rfl ?_
      refine ops_un 14 true 36 rfl rfl rfl rfl rfl ?_
      refine ops_un 14 true 36 rfl rfl rfl rfl rfl ?_
      refine ops_un 14 true 36 rfl rfl rfl rfl rfl ?_
      refine ops_un 14 true 36 rfl rfl rfl rfl rfl ?_
      refine ops_no 10 false 32 rfl rfl rfl rfl rfl ?_
      refine ops_y (wn rfl) rfl (y_pick (b := true) rfl rfl) ?_
      refine ops_nil ?_
      exact goes_cut hL11 true [0, 1] (vcons rfl (vcons rfl (vcons rfl (vcons rfl (vcons rfl (vcons rfl (vnil))))))) (by decide) rfl (by rw [hg12]; simp)
    · skip
      refine ops_y (wg 10 false 32 rfl rfl rfl rfl) rfl (y_move rfl) ?_
      refine ops_y (wg 10 false 32 rfl rfl rfl rfl) rfl (y_move rfl) ?_
      refine ops_y (wg 10 false 32 rfl rfl rfl rfl) rfl (y_leq rfl rfl) ?_
      refine ops_y (wg 10 false 32 rfl rfl rfl rfl) rfl (y_move rfl) ?_
      refine ops_cut 6 Bool (fun σ => [(0, .int .i64 m_0), (1, .int .i64 n_1), (5, v3), (6, v6), (7, .int .i64 (max m_0 (IntKind.i64.wrap ((-1) - m_0)))), (32, .bool false), (42, .bool σ)]) (fun σ => [row v3 1 (r1.map eB8), row v6 1 (r4.map eB8)]) (fun σ => σ = (decide ((max n_1 (IntKind.i64.wrap ((-1) - n_1))) ≤ (max m_0 (IntKind.i64.wrap ((-1) - m_0)))) && decide ((r1.length : Int) < (r4.length : Int)))) (fun L13 hL14 => ?_) ?_
      · refine ops_split 36 (decide ((max n_1 (IntKind.i64.wrap ((-1) - n_1))) ≤ (max m_0 (IntKind.i64.wrap ((-1) - m_0))))) rfl (fun hg15 => ?_) (fun hg15 => ?_)
        · skip
          refine ops_y (wg 14 true 36 rfl rfl rfl rfl) rfl (y_move rfl) ?_
          refine ops_y (wg 14 true 36 rfl rfl rfl rfl) rfl ((y_len 1 rfl Try.runUnderlying28 rfl rfl reads_row).to (v_len eB8 _)) ?_
          refine ops_y (wg 14 true 36 rfl rfl rfl rfl) rfl (y_move rfl) ?_
          refine ops_y (wg 14 true 36 rfl rfl rfl rfl) rfl ((y_len 0 rfl Try.runUnderlying28 rfl rfl reads_row).to (v_len eB8 _)) ?_
          refine ops_y (wg 14 true 36 rfl rfl rfl rfl) rfl (y_gtr rfl rfl) ?_
          refine ops_y (wg 10 false 32 rfl rfl rfl rfl) rfl (y_pick (b := true) rfl rfl) ?_
          refine ops_nil ?_
          exact goes_cut hL14 (decide ((r1.length : Int) < (r4.length : Int))) [0, 1] (vcons rfl (vcons rfl (vcons rfl (vcons rfl (vcons rfl (vcons rfl (vcons rfl (vnil)))))))) (by decide) rfl (by rw [hg15]; simp)
        · skip
          refine ops_no 14 true 36 rfl rfl rfl rfl rfl ?_
          refine ops_no 14 true 36 rfl rfl rfl rfl rfl ?_
          refine ops_no 14 true 36 rfl rfl rfl rfl rfl ?_
          refine ops_no 14 true 36 rfl rfl rfl rfl rfl ?_
          refine ops_no 14 true 36 rfl rfl rfl rfl rfl ?_
          refine ops_y (wg 10 false 32 rfl rfl rfl rfl) rfl (y_pick (b := false) rfl rfl) ?_
          refine ops_nil ?_
          exact goes_cut hL14 false [0, 1] (vcons rfl (vcons rfl (vcons rfl (vcons rfl (vcons rfl (vcons rfl (vcons rfl (vnil)))))))) (by decide) rfl (by rw [hg15]; simp)
      rintro _ rfl
      refine ops_y (wn rfl) rfl (y_pick (b := false) rfl rfl) ?_
      refine ops_nil ?_
      exact goes_cut hL11 (decide ((max n_1 (IntKind.i64.wrap ((-1) - n_1))) ≤ (max m_0 (IntKind.i64.wrap ((-1) - m_0)))) && decide ((r1.length : Int) < (r4.length : Int))) [0, 1] (vcons rfl (vcons rfl (vcons rfl (vcons rfl (vcons rfl (vcons rfl (vnil))))))) (by decide) rfl (by rw [hg12]; simp)
  rintro _ rfl
  refine ops_y (wn rfl) rfl (y_move rfl) ?_
  refine ops_cut 7 Bool (fun σ => [(0, .int .i64 m_0), (1, .int .i64 n_1), (5, v3), (6, v6), (51, .bool σ)]) (fun σ => [row v3 1 (r1.map eB8), row v6 1 (r4.map eB8)]) (fun σ => σ = (((decide ((max m_0 (IntKind.i64.wrap ((-1) - m_0))) ≤ (max n_1 (IntKind.i64.wrap ((-1) - n_1)))) && decide ((r4.length : Int) < (r1.length : Int))) || (decide ((max n_1 (IntKind.i64.wrap ((-1) - n_1))) ≤ (max m_0 (IntKind.i64.wrap ((-1) - m_0)))) && decide ((r1.length : Int) < (r4.length : Int)))) || (!((decide ((r1.length : Int) = 1)) == (decide ((max m_0 (IntKind.i64.wrap ((-1) - m_0))) < 64)))))) (fun L16 hL17 => ?_) ?_
  · refine ops_split 44 ((decide ((max m_0 (IntKind.i64.wrap ((-1) - m_0))) ≤ (max n_1 (IntKind.i64.wrap ((-1) - n_1)))) && decide ((r4.length : Int) < (r1.length : Int))) || (decide ((max n_1 (IntKind.i64.wrap ((-1) - n_1))) ≤ (max m_0 (IntKind.i64.wrap ((-1) - m_0)))) && decide ((r1.length : Int) < (r4.length : Int)))) rfl (fun hg18 => ?_) (fun hg18 => ?_)
    · skip
      refine ops_no 22 false 44 rfl rfl rfl rfl rfl ?_
      refine ops_no 22 false 44 rfl rfl rfl rfl rfl ?_
      refine ops_no 22 false 44 rfl rfl rfl rfl rfl ?_
      refine ops_no 22 false 44 rfl rfl rfl rfl rfl ?_
      refine ops_no 22 false 44 rfl rfl rfl rfl rfl ?_
      refine ops_no 22 false 44 rfl rfl rfl rfl rfl ?_
      refine ops_y (wn rfl) rfl (y_pick (b := true) rfl rfl) ?_
      refine ops_nil ?_
      exact goes_cut hL17 true [0, 1] (vcons rfl (vcons rfl (vcons rfl (vcons rfl (vcons rfl (vnil)))))) (by decide) rfl (by rw [hg18]; simp)
    · skip
      refine ops_y (wg 22 false 44 rfl rfl rfl rfl) rfl (y_move rfl) ?_
      refine ops_y (wg 22 false 44 rfl rfl rfl rfl) rfl ((y_len 0 rfl Try.runUnderlying28 rfl rfl reads_row).to (v_len eB8 _)) ?_
      refine ops_y (wg 22 false 44 rfl rfl rfl rfl) rfl (y_eql rfl rfl) ?_
      refine ops_y (wg 22 false 44 rfl rfl rfl rfl) rfl (y_move rfl) ?_
      refine ops_y (wg 22 false 44 rfl rfl rfl rfl) rfl (y_lss rfl rfl) ?_
      refine ops_y (wg 22 false 44 rfl rfl rfl rfl) rfl (y_bneq Try.runUnderlying4 rfl rfl) ?_
      refine ops_y (wn rfl) rfl (y_pick (b := false) rfl rfl) ?_
      refine ops_nil ?_
      exact goes_cut hL17 (!((decide ((r1.length : Int) = 1)) == (decide ((max m_0 (IntKind.i64.wrap ((-1) - m_0))) < 64)))) [0, 1] (vcons rfl (vcons rfl (vcons rfl (vcons rfl (vcons rfl (vnil)))))) (by decide) rfl (by rw [hg18]; simp)
  rintro _ rfl
  refine ops_y (wn rfl) rfl (y_move rfl) ?_
  refine ops_cut 4 Bool (fun σ => [(0, .int .i64 m_0), (1, .int .i64 n_1), (5, v3), (6, v6), (56, .bool σ)]) (fun σ => [row v3 1 (r1.map eB8), row v6 1 (r4.map eB8)]) (fun σ => σ = ((((decide ((max m_0 (IntKind.i64.wrap ((-1) - m_0))) ≤ (max n_1 (IntKind.i64.wrap ((-1) - n_1)))) && decide ((r4.length : Int) < (r1.length : Int))) || (decide ((max n_1 (IntKind.i64.wrap ((-1) - n_1))) ≤ (max m_0 (IntKind.i64.wrap ((-1) - m_0)))) && decide ((r1.length : Int) < (r4.length : Int)))) || (!((decide ((r1.length : Int) = 1)) == (decide ((max m_0 (IntKind.i64.wrap ((-1) - m_0))) < 64))))) || decide (10 < (r1.length : Int)))) (fun L19 hL20 => ?_) ?_
  · refine ops_split 52 (((decide ((max m_0 (IntKind.i64.wrap ((-1) - m_0))) ≤ (max n_1 (IntKind.i64.wrap ((-1) - n_1)))) && decide ((r4.length : Int) < (r1.length : Int))) || (decide ((max n_1 (IntKind.i64.wrap ((-1) - n_1))) ≤ (max m_0 (IntKind.i64.wrap ((-1) - m_0)))) && decide ((r1.length : Int) < (r4.length : Int)))) || (!((decide ((r1.length : Int) = 1)) == (decide ((max m_0 (IntKind.i64.wrap ((-1) - m_0))) < 64))))) rfl (fun hg21 => ?_) (fun hg21 => ?_)
    · skip
      refine ops_no 30 false 52 rfl rfl rfl rfl rfl ?_
      refine ops_no 30 false 52 rfl rfl rfl rfl rfl ?_
      refine ops_no 30 false 52 rfl rfl rfl rfl rfl ?_
      refine ops_y (wn rfl) rfl (y_pick (b := true) rfl rfl) ?_
      refine ops_nil ?_
      exact goes_cut hL20 true [0, 1] (vcons rfl (vcons rfl (vcons rfl (vcons rfl (vcons rfl (vnil)))))) (by decide) rfl (by rw [hg21]; simp)
    · skip
      refine ops_y (wg 30 false 52 rfl rfl rfl rfl) rfl (y_move rfl) ?_
      refine ops_y (wg 30 false 52 rfl rfl rfl rfl) rfl ((y_len 0 rfl Try.runUnderlying28 rfl rfl reads_row).to (v_len eB8 _)) ?_
      refine ops_y (wg 30 false 52 rfl rfl rfl rfl) rfl (y_gtr rfl rfl) ?_
      refine ops_y (wn rfl) rfl (y_pick (b := false) rfl rfl) ?_
      refine ops_nil ?_
      exact goes_cut hL20 (decide (10 < (r1.length : Int))) [0, 1] (vcons rfl (vcons rfl (vcons rfl (vcons rfl (vcons rfl (vnil)))))) (by decide) rfl (by rw [hg21]; simp)
  rintro _ rfl
  refine ops_y (wn rfl) rfl (y_move rfl) ?_
  refine ops_cut 4 Bool (fun σ => [(0, .int .i64 m_0), (1, .int .i64 n_1), (5, v3), (6, v6), (61, .bool σ)]) (fun σ => [row v3 1 (r1.map eB8), row v6 1 (r4.map eB8)]) (fun σ => σ = (((((decide ((max m_0 (IntKind.i64.wrap ((-1) - m_0))) ≤ (max n_1 (IntKind.i64.wrap ((-1) - n_1)))) && decide ((r4.length : Int) < (r1.length : Int))) || (decide ((max n_1 (IntKind.i64.wrap ((-1) - n_1))) ≤ (max m_0 (IntKind.i64.wrap ((-1) - m_0)))) && decide ((r1.length : Int) < (r4.length : Int)))) || (!((decide ((r1.length : Int) = 1)) == (decide ((max m_0 (IntKind.i64.wrap ((-1) - m_0))) < 64))))) || decide (10 < (r1.length : Int))) || decide ((r1.length : Int) = 0))) (fun L22 hL23 => ?_) ?_
  · refine ops_split 57 ((((decide ((max m_0 (IntKind.i64.wrap ((-1) - m_0))) ≤ (max n_1 (IntKind.i64.wrap ((-1) - n_1)))) && decide ((r4.length : Int) < (r1.length : Int))) || (decide ((max n_1 (IntKind.i64.wrap ((-1) - n_1))) ≤ (max m_0 (IntKind.i64.wrap ((-1) - m_0)))) && decide ((r1.length : Int) < (r4.length : Int)))) || (!((decide ((r1.length : Int) = 1)) == (decide ((max m_0 (IntKind.i64.wrap ((-1) - m_0))) < 64))))) || decide (10 < (r1.length : Int))) rfl (fun hg24 => ?_) (fun hg24 => ?_)
    · skip
      refine ops_no 35 false 57 rfl rfl rfl rfl rfl ?_
      refine ops_no 35 false 57 rfl rfl rfl rfl rfl ?_
      refine ops_no 35 false 57 rfl rfl rfl rfl rfl ?_
      refine ops_y (wn rfl) rfl (y_pick (b := true) rfl rfl) ?_
      refine ops_nil ?_
      exact goes_cut hL23 true [0, 1] (vcons rfl (vcons rfl (vcons rfl (vcons rfl (vcons rfl (vnil)))))) (by decide) rfl (by rw [hg24]; simp)
    · skip
      refine ops_y (wg 35 false 57 rfl rfl rfl rfl) rfl (y_move rfl) ?_
      refine ops_y (wg 35 false 57 rfl rfl rfl rfl) rfl ((y_len 0 rfl Try.runUnderlying28 rfl rfl reads_row).to (v_len eB8 _)) ?_
      refine ops_y (wg 35 false 57 rfl rfl rfl rfl) rfl (y_eql rfl rfl) ?_
      refine ops_y (wn rfl) rfl (y_pick (b := false) rfl rfl) ?_
      refine ops_nil ?_
      exact goes_cut hL23 (decide ((r1.length : Int) = 0)) [0, 1] (vcons rfl (vcons rfl (vcons rfl (vcons rfl (vcons rfl (vnil)))))) (by decide) rfl (by rw [hg24]; simp)
  rintro _ rfl
  refine ops_y (wn rfl) rfl (y_move rfl) ?_
  refine ops_cut 4 Bool (fun σ => [(0, .int .i64 m_0), (1, .int .i64 n_1), (5, v3), (6, v6), (66, .bool σ)]) (fun σ => [row v3 1 (r1.map eB8), row v6 1 (r4.map eB8)]) (fun σ => σ = ((((((decide ((max m_0 (IntKind.i64.wrap ((-1) - m_0))) ≤ (max n_1 (IntKind.i64.wrap ((-1) - n_1)))) && decide ((r4.length : Int) < (r1.length : Int))) || (decide ((max n_1 (IntKind.i64.wrap ((-1) - n_1))) ≤ (max m_0 (IntKind.i64.wrap ((-1) - m_0)))) && decide ((r1.length : Int) < (r4.length : Int)))) || (!((decide ((r1.length : Int) = 1)) == (decide ((max m_0 (IntKind.i64.wrap ((-1) - m_0))) < 64))))) || decide (10 < (r1.length : Int))) || decide ((r1.length : Int) = 0)) || decide ((r4.length : Int) = 0))) (fun L25 hL26 => ?_) ?_
  · refine ops_split 62 (((((decide ((max m_0 (IntKind.i64.wrap ((-1) - m_0))) ≤ (max n_1 (IntKind.i64.wrap ((-1) - n_1)))) && decide ((r4.length : Int) < (r1.length : Int))) || (decide ((max n_1 (IntKind.i64.wrap ((-1) - n_1))) ≤ (max m_0 (IntKind.i64.wrap ((-1) - m_0)))) && decide ((r1.length : Int) < (r4.length : Int)))) || (!((decide ((r1.length : Int) = 1)) == (decide ((max m_0 (IntKind.i64.wrap ((-1) - m_0))) < 64))))) || decide (10 < (r1.length : Int))) || decide ((r1.length : Int) = 0)) rfl (fun hg27 => ?_) (fun hg27 => ?_)
    · skip
      refine ops_no 40 false 62 rfl rfl rfl rfl rfl ?_
      refine ops_no 40 false 62 rfl rfl rfl rfl rfl ?_
      refine ops_no 40 false 62 rfl rfl rfl rfl rfl ?_
      refine ops_y (wn rfl) rfl (y_pick (b := true) rfl rfl) ?_
      refine ops_nil ?_
      exact goes_cut hL26 true [0, 1] (vcons rfl (vcons rfl (vcons rfl (vcons rfl (vcons rfl (vnil)))))) (by decide) rfl (by rw [hg27]; simp)
    · skip
      refine ops_y (wg 40 false 62 rfl rfl rfl rfl) rfl (y_move rfl) ?_
      refine ops_y (wg 40 false 62 rfl rfl rfl rfl) rfl ((y_len 1 rfl Try.runUnderlying28 rfl rfl reads_row).to (v_len eB8 _)) ?_
      refine ops_y (wg 40 false 62 rfl rfl rfl rfl) rfl (y_eql rfl rfl) ?_
      refine ops_y (wn rfl) rfl (y_pick (b := false) rfl rfl) ?_
      refine ops_nil ?_
      exact goes_cut hL26 (decide ((r4.length : Int) = 0)) [0, 1] (vcons rfl (vcons rfl (vcons rfl (vcons rfl (vcons rfl (vnil)))))) (by decide) rfl (by rw [hg27]; simp)
  rintro _ rfl
  refine ops_nil ?_
  refine goes_code ?_
  refine run_cond ((((((decide ((max m_0 (IntKind.i64.wrap ((-1) - m_0))) ≤ (max n_1 (IntKind.i64.wrap ((-1) - n_1)))) && decide ((r4.length : Int) < (r1.length : Int))) || (decide ((max n_1 (IntKind.i64.wrap ((-1) - n_1))) ≤ (max m_0 (IntKind.i64.wrap ((-1) - m_0)))) && decide ((r1.length : Int) < (r4.length : Int)))) || (!((decide ((r1.length : Int) = 1)) == (decide ((max m_0 (IntKind.i64.wrap ((-1) - m_0))) < 64))))) || decide (10 < (r1.length : Int))) || decide ((r1.length : Int) = 0)) || decide ((r4.length : Int) = 0)) rfl (fun hc28 => ?_) (fun hc28 => ?_)
  · replace h := cond_t h hc28
    refine run_seq ?_
    refine run_region' ?_
    refine ops_y (wn rfl) rfl (y_assign rfl) ?_
    refine ops_nil ?_
    refine goes_code ?_
    refine run_ret ?_
    obtain rfl := some_eq h
    refine fin_slots [4] [.bool false] [] [] Try.results5 rfl (by decide) rfl ?_
    exact ⟨rfl, rfl⟩
  · replace h := cond_f h hc28
    refine run_skip ?_
    refine goes_code ?_
    refine run_seq ?_
    refine run_region' ?_
    refine ops_y (wn rfl) rfl (y_move rfl) ?_
    refine ops_y (wn rfl) rfl ((y_len 0 rfl Try.runUnderlying28 rfl rfl reads_row).to (v_len eB8 _)) ?_
    refine ops_y (wn rfl) rfl (y_move rfl) ?_
    refine ops_y (wn rfl) rfl ((y_len 1 rfl Try.runUnderlying28 rfl rfl reads_row).to (v_len eB8 _)) ?_
    refine ops_y (wn rfl) rfl (y_min rfl rfl) ?_
    refine ops_y (wn rfl) rfl (y_assign rfl) ?_
    refine ops_nil ?_
    refine goes_code ?_
    refine run_seq ?_
    refine run_turn (Go.Abs.freeze 0 rfl) ?_
    refine run_turn (Go.Abs.freeze 1 rfl) ?_
    refine run_drawany [ro v3 1 (r1.map eB8), ro v6 1 (r4.map eB8)] (by kernel_rfl) ?_
    refine any_all [0] (by kernel_rfl) rfl (anyo_cons ?_ anyo_nil)
    obtain ⟨r29, hr30, h⟩ := bind_some h
    refine any_t rfl (wn rfl) rfl (t_call (vs := []) (cs := []) [] rfl Try.call12 rfl (law01_sanity_ok   hr30) shows_nil (.inl rfl)) ?_
    rintro _ _ ⟨_, ⟨rfl, rfl⟩, rfl⟩
    refine ⟨(sub_same (sub_same (sub_nil))), ?_⟩
    refine any_y 1 rfl (by kernel_rfl) (by kernel_rfl) (by kernel_rfl) (sub_same (sub_same (sub_nil))) (wn rfl) rfl (y_move rfl) ?_
    obtain ⟨o32, h, ho33⟩ := bindJ_some h
    refine any_cut #[true, true, true, true, true, true, true, true, true, true, false, false, false, false, false, false, false, false, false, false, false, false, false, false, false, false] 16 Bool (fun σ => [(0, .int .i64 m_0), (1, .int .i64 n_1), (5, v3), (6, v6), (9, .int .i64 (min (r1.length : Int) (r4.length : Int))), (81, .bool σ)]) (fun σ => [ro v3 1 (r1.map eB8), ro v6 1 (r4.map eB8)]) (fun σ => o32 = .go σ) (fun hL35 => ?_) ?_
    · refine any_split 73 r29 rfl (fun hg36 => ?_) (fun hg36 => ?_)
      · replace h := cond_t h hg36
        refine any_y 2 rfl (by kernel_rfl) (by kernel_rfl) (by kernel_rfl) (sub_same (sub_same (sub_nil))) (wg 1 true 73 rfl rfl rfl rfl) rfl (y_move rfl) ?_
        refine any_y 3 rfl (by kernel_rfl) (by kernel_rfl) (by kernel_rfl) (sub_same (sub_same (sub_nil))) (wg 1 true 73 rfl rfl rfl rfl) rfl (y_sub rfl rfl) ?_
        refine any_y 6 rfl (by kernel_rfl) (by kernel_rfl) (by kernel_rfl) (sub_same (sub_same (sub_nil))) (wg 1 true 73 rfl rfl rfl rfl) rfl (y_move rfl) ?_
        refine any_y 7 rfl (by kernel_rfl) (by kernel_rfl) (by kernel_rfl) (sub_same (sub_same (sub_nil))) (wg 1 true 73 rfl rfl rfl rfl) rfl ((y_len 0 rfl Try.runUnderlying28 rfl rfl reads_ro).to (v_len eB8 _)) ?_
        refine any_all [4] (by kernel_rfl) rfl (anyo_cons ?_ anyo_nil)
        obtain ⟨r37, hr38, h⟩ := bind_some h
        refine any_t rfl (wg 1 true 73 rfl rfl rfl rfl) rfl (t_call (vs := [.int .i64 (IntKind.i64.wrap ((-1) - m_0))]) (cs := []) [] rfl Try.call14 rfl (wire_Int_ok (IntKind.i64.wrap ((-1) - m_0))  hr38) shows_nil (.inl rfl)) ?_
        rintro v39 _ ⟨_, ⟨_, rfl, rfl⟩, rfl⟩
        refine ⟨(sub_same (sub_same (sub_nil))), ?_⟩
        refine any_all [5] (by kernel_rfl) rfl (anyo_cons ?_ anyo_nil)
        refine any_t rfl (wg 1 true 73 rfl rfl rfl rfl) rfl (OpY.t ((y_len 2 rfl Try.runUnderlying28 rfl rfl reads_row).to (v_len eB8 _))) ?_
        rintro _ _ ⟨rfl, rfl⟩
        refine ⟨(sub_same (sub_same (sub_nil))), ?_⟩
        refine any_y 8 rfl (by kernel_rfl) (by kernel_rfl) (by kernel_rfl) (sub_same (sub_same (sub_nil))) (wg 1 true 73 rfl rfl rfl rfl) rfl (y_eql rfl rfl) ?_
        refine any_y 9 rfl (by kernel_rfl) (by kernel_rfl) (by kernel_rfl) (sub_same (sub_same (sub_nil))) (wn rfl) rfl (y_pick (b := true) rfl rfl) ?_
        obtain rfl := some_eq h
        exact any_weak [(0, .int .i64 m_0), (1, .int .i64 n_1), (5, v3), (6, v6), (9, .int .i64 (min (r1.length : Int) (r4.length : Int))), (81, .bool (decide ((r37.length : Int) = (r1.length : Int))))] [0, 1] [ro v3 1 (r1.map eB8), ro v6 1 (r4.map eB8)] (by kernel_rfl) (vcons rfl (vcons rfl (vcons rfl (vcons rfl (vcons rfl (vcons rfl (vnil))))))) (by decide) rfl (hL35 (decide ((r37.length : Int) = (r1.length : Int))) rfl)
      · replace h := cond_f h hg36
        refine any_no 2 rfl (by kernel_rfl) (by kernel_rfl) (by kernel_rfl) (sub_same (sub_same (sub_nil))) 1 true 73 rfl rfl rfl rfl rfl ?_
        refine any_no 3 rfl (by kernel_rfl) (by kernel_rfl) (by kernel_rfl) (sub_same (sub_same (sub_nil))) 1 true 73 rfl rfl rfl rfl rfl ?_
        refine any_no 6 rfl (by kernel_rfl) (by kernel_rfl) (by kernel_rfl) (sub_same (sub_same (sub_nil))) 1 true 73 rfl rfl rfl rfl rfl ?_
        refine any_no 7 rfl (by kernel_rfl) (by kernel_rfl) (by kernel_rfl) (sub_same (sub_same (sub_nil))) 1 true 73 rfl rfl rfl rfl rfl ?_
        refine any_no 4 rfl (by kernel_rfl) (by kernel_rfl) (by kernel_rfl) (sub_same (sub_same (sub_nil))) 1 true 73 rfl rfl rfl rfl rfl ?_
        refine any_no 5 rfl (by kernel_rfl) (by kernel_rfl) (by kernel_rfl) (sub_same (sub_same (sub_nil))) 1 true 73 rfl rfl rfl rfl rfl ?_
        refine any_no 8 rfl (by kernel_rfl) (by kernel_rfl) (by kernel_rfl) (sub_same (sub_same (sub_nil))) 1 true 73 rfl rfl rfl rfl rfl ?_
        refine any_y 9 rfl (by kernel_rfl) (by kernel_rfl) (by kernel_rfl) (sub_same (sub_same (sub_nil))) (wn rfl) rfl (y_pick (b := false) rfl rfl) ?_
        obtain rfl := some_eq h
        exact any_weak [(0, .int .i64 m_0), (1, .int .i64 n_1), (5, v3), (6, v6), (9, .int .i64 (min (r1.length : Int) (r4.length : Int))), (81, .bool false)] [0, 1] [ro v3 1 (r1.map eB8), ro v6 1 (r4.map eB8)] (by kernel_rfl) (vcons rfl (vcons rfl (vcons rfl (vcons rfl (vcons rfl (vcons rfl (vnil))))))) (by decide) rfl (hL35 false rfl)
    rintro b31 hj
    obtain rfl : o32 = _ := hj
    replace h := after_go ho33
    clear ho33
    refine any_y 10 rfl (by kernel_rfl) (by kernel_rfl) (by kernel_rfl) (sub_same (sub_same (sub_nil))) (wn rfl) rfl (y_move rfl) ?_
    obtain ⟨o41, h, ho42⟩ := bindJ_some h
    refine any_split 82 b31 rfl (fun hg43 => ?_) (fun hg43 => ?_)
    · replace h := cond_t h hg43
      refine any_y 11 rfl (by kernel_rfl) (by kernel_rfl) (by kernel_rfl) (sub_same (sub_same (sub_nil))) (wg 10 true 82 rfl rfl rfl rfl) rfl (y_move rfl) ?_
      refine any_y 12 rfl (by kernel_rfl) (by kernel_rfl) (by kernel_rfl) (sub_same (sub_same (sub_nil))) (wg 10 true 82 rfl rfl rfl rfl) rfl (y_move rfl) ?_
      obtain ⟨hb44, h⟩ := need_some h
      refine any_y 13 rfl (by kernel_rfl) (by kernel_rfl) (by kernel_rfl) (sub_same (sub_same (sub_nil))) (wg 10 true 82 rfl rfl rfl rfl) rfl (y_slice (l := 0) (r := (min (r1.length : Int) (r4.length : Int))) 0 Try.runUnderlying28 Try.sizeOf5 rfl rfl reads_ro bi0 (bi1 (kd := .i64) rfl) hb44.1 hb44.2.1 (map_len_le hb44.2.2)) ?_
      refine any_turn (turn_sub (l := (0 : Int).toNat) (r := ((min (r1.length : Int) (r4.length : Int))).toNat) 0 rfl (by omega) (map_toNat_le hb44.2.2)) ?_
      refine any_turn (retell 2 (g := ro (subS v3 1 ((0 : Int).toNat) (((min (r1.length : Int) (r4.length : Int))).toNat)) 1 ((r1.take (((min (r1.length : Int) (r4.length : Int))).toNat)).map eB8)) rfl (congrArg (ro _ _) (by simp [List.map_take, List.map_drop]))) ?_
      refine any_grow [ro v3 1 (r1.map eB8), ro v6 1 (r4.map eB8), ro (subS v3 1 ((0 : Int).toNat) (((min (r1.length : Int) (r4.length : Int))).toNat)) 1 ((r1.take (((min (r1.length : Int) (r4.length : Int))).toNat)).map eB8)] (sub_same (sub_same (sub_nil))) ?_
      refine any_y 14 rfl (by kernel_rfl) (by kernel_rfl) (by kernel_rfl) (sub_same (sub_same (sub_same (sub_nil)))) (wg 10 true 82 rfl rfl rfl rfl) rfl (y_b2s (l := (r1.take (((min (r1.length : Int) (r4.length : Int))).toNat))) 2 Try.runUnderlying28 Try.runUnderlying5 Try.runUnderlying9 rfl rfl reads_ro) ?_
      refine any_y 15 rfl (by kernel_rfl) (by kernel_rfl) (by kernel_rfl) (sub_same (sub_same (sub_same (sub_nil)))) (wg 10 true 82 rfl rfl rfl rfl) rfl (y_move rfl) ?_
      refine any_y 16 rfl (by kernel_rfl) (by kernel_rfl) (by kernel_rfl) (sub_same (sub_same (sub_same (sub_nil)))) (wg 10 true 82 rfl rfl rfl rfl) rfl (y_move rfl) ?_
      obtain ⟨hb45, h⟩ := need_some h
      refine any_y 17 rfl (by kernel_rfl) (by kernel_rfl) (by kernel_rfl) (sub_same (sub_same (sub_same (sub_nil)))) (wg 10 true 82 rfl rfl rfl rfl) rfl (y_slice (l := 0) (r := (min (r1.length : Int) (r4.length : Int))) 1 Try.runUnderlying28 Try.sizeOf5 rfl rfl reads_ro bi0 (bi1 (kd := .i64) rfl) hb45.1 hb45.2.1 (map_len_le hb45.2.2)) ?_
      refine any_turn (turn_sub (l := (0 : Int).toNat) (r := ((min (r1.length : Int) (r4.length : Int))).toNat) 1 rfl (by omega) (map_toNat_le hb45.2.2)) ?_
      refine any_turn (retell 3 (g := ro (subS v6 1 ((0 : Int).toNat) (((min (r1.length : Int) (r4.length : Int))).toNat)) 1 ((r4.take (((min (r1.length : Int) (r4.length : Int))).toNat)).map eB8)) rfl (congrArg (ro _ _) (by simp [List.map_take, List.map_drop]))) ?_
      refine any_grow [ro v3 1 (r1.map eB8), ro v6 1 (r4.map eB8), ro (subS v3 1 ((0 : Int).toNat) (((min (r1.length : Int) (r4.length : Int))).toNat)) 1 ((r1.take (((min (r1.length : Int) (r4.length : Int))).toNat)).map eB8), ro (subS v6 1 ((0 : Int).toNat) (((min (r1.length : Int) (r4.length : Int))).toNat)) 1 ((r4.take (((min (r1.length : Int) (r4.length : Int))).toNat)).map eB8)] (sub_same (sub_same (sub_same (sub_nil)))) ?_
      refine any_y 18 rfl (by kernel_rfl) (by kernel_rfl) (by kernel_rfl) (sub_same (sub_same (sub_same (sub_same (sub_nil))))) (wg 10 true 82 rfl rfl rfl rfl) rfl (y_b2s (l := (r4.take (((min (r1.length : Int) (r4.length : Int))).toNat))) 3 Try.runUnderlying28 Try.runUnderlying5 Try.runUnderlying9 rfl rfl reads_ro) ?_
      refine any_y 19 rfl (by kernel_rfl) (by kernel_rfl) (by kernel_rfl) (sub_same (sub_same (sub_same (sub_same (sub_nil))))) (wg 10 true 82 rfl rfl rfl rfl) rfl (y_seql rfl rfl) ?_
      refine any_y 20 rfl (by kernel_rfl) (by kernel_rfl) (by kernel_rfl) (sub_same (sub_same (sub_same (sub_same (sub_nil))))) (wg 10 true 82 rfl rfl rfl rfl) rfl (y_move rfl) ?_
      refine any_y 21 rfl (by kernel_rfl) (by kernel_rfl) (by kernel_rfl) (sub_same (sub_same (sub_same (sub_same (sub_nil))))) (wg 10 true 82 rfl rfl rfl rfl) rfl (y_move rfl) ?_
      refine any_y 22 rfl (by kernel_rfl) (by kernel_rfl) (by kernel_rfl) (sub_same (sub_same (sub_same (sub_same (sub_nil))))) (wg 10 true 82 rfl rfl rfl rfl) rfl (y_eql rfl rfl) ?_
      refine any_y 23 rfl (by kernel_rfl) (by kernel_rfl) (by kernel_rfl) (sub_same (sub_same (sub_same (sub_same (sub_nil))))) (wg 10 true 82 rfl rfl rfl rfl) rfl (y_beql Try.runUnderlying4 rfl rfl) ?_
      refine any_y 24 rfl (by kernel_rfl) (by kernel_rfl) (by kernel_rfl) (sub_same (sub_same (sub_same (sub_same (sub_nil))))) (wn rfl) rfl (y_pick (b := true) rfl rfl) ?_
      obtain rfl := some_eq h
      replace h := after_go ho42
      refine any_y 25 rfl (by kernel_rfl) (by kernel_rfl) (by kernel_rfl) (sub_same (sub_same (sub_same (sub_same (sub_nil))))) (wn rfl) rfl (y_assign rfl) ?_
      refine any_nil (by kernel_rfl) ?_
      refine goes_code ?_
      refine run_ret ?_
      obtain rfl := some_eq h
      refine fin_slots [4] [.bool ((decide ((r1.take (((min (r1.length : Int) (r4.length : Int))).toNat)) = (r4.take (((min (r1.length : Int) (r4.length : Int))).toNat)))) == (decide (m_0 = n_1)))] [] [] Try.results5 rfl (by decide) rfl ?_
      exact ⟨rfl, rfl⟩
    · replace h := cond_f h hg43
      refine any_no 11 rfl (by kernel_rfl) (by kernel_rfl) (by kernel_rfl) (sub_same (sub_same (sub_nil))) 10 true 82 rfl rfl rfl rfl rfl ?_
      refine any_no 12 rfl (by kernel_rfl) (by kernel_rfl) (by kernel_rfl) (sub_same (sub_same (sub_nil))) 10 true 82 rfl rfl rfl rfl rfl ?_
      refine any_no 13 rfl (by kernel_rfl) (by kernel_rfl) (by kernel_rfl) (sub_same (sub_same (sub_nil))) 10 true 82 rfl rfl rfl rfl rfl ?_
      refine any_no 14 rfl (by kernel_rfl) (by kernel_rfl) (by kernel_rfl) (sub_same (sub_same (sub_nil))) 10 true 82 rfl rfl rfl rfl rfl ?_
      refine any_no 15 rfl (by kernel_rfl) (by kernel_rfl) (by kernel_rfl) (sub_same (sub_same (sub_nil))) 10 true 82 rfl rfl rfl rfl rfl ?_
      refine any_no 16 rfl (by kernel_rfl) (by kernel_rfl) (by kernel_rfl) (sub_same (sub_same (sub_nil))) 10 true 82 rfl rfl rfl rfl rfl ?_
      refine any_no 17 rfl (by kernel_rfl) (by kernel_rfl) (by kernel_rfl) (sub_same (sub_same (sub_nil))) 10 true 82 rfl rfl rfl rfl rfl ?_
      refine any_no 18 rfl (by kernel_rfl) (by kernel_rfl) (by kernel_rfl) (sub_same (sub_same (sub_nil))) 10 true 82 rfl rfl rfl rfl rfl ?_
      refine any_no 19 rfl (by kernel_rfl) (by kernel_rfl) (by kernel_rfl) (sub_same (sub_same (sub_nil))) 10 true 82 rfl rfl rfl rfl rfl ?_
      refine any_no 20 rfl (by kernel_rfl) (by kernel_rfl) (by kernel_rfl) (sub_same (sub_same (sub_nil))) 10 true 82 rfl rfl rfl rfl rfl ?_
      refine any_no 21 rfl (by kernel_rfl) (by kernel_rfl) (by kernel_rfl) (sub_same (sub_same (sub_nil))) 10 true 82 rfl rfl rfl rfl rfl ?_
      refine any_no 22 rfl (by kernel_rfl) (by kernel_rfl) (by kernel_rfl) (sub_same (sub_same (sub_nil))) 10 true 82 rfl rfl rfl rfl rfl ?_
      refine any_no 23 rfl (by kernel_rfl) (by kernel_rfl) (by kernel_rfl) (sub_same (sub_same (sub_nil))) 10 true 82 rfl rfl rfl rfl rfl ?_
      refine any_y 24 rfl (by kernel_rfl) (by kernel_rfl) (by kernel_rfl) (sub_same (sub_same (sub_nil))) (wn rfl) rfl (y_pick (b := false) rfl rfl) ?_
      obtain rfl := some_eq h
      replace h := after_go ho42
      refine any_y 25 rfl (by kernel_rfl) (by kernel_rfl) (by kernel_rfl) (sub_same (sub_same (sub_nil))) (wn rfl) rfl (y_assign rfl) ?_
      refine any_nil (by kernel_rfl) ?_
      refine goes_code ?_
      refine run_ret ?_
      obtain rfl := some_eq h
      refine fin_slots [4] [.bool false] [] [] Try.results5 rfl (by decide) rfl ?_
      exact ⟨rfl, rfl⟩

end Go.Proofs.Ytbhlfdklpihaiaa
