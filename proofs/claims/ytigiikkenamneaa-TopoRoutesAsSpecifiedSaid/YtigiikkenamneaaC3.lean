/-
  The law TopoRoutesAsSpecified, whole: for every two maps, countries and a site it answers true, and leaves its arguments as they were.
-/
import Derived.Test.YtigiikkenamneaaRows
import Derived.Test.YtigiikkenamneaaP3
namespace Go.Proofs.Ytigiikkenamneaa.lawC3
open Go.Abs Go.ChangeShapes Go.WideShapes Go.ChangeAt Go.RowKit
open Go.ChangeMaps (open_string shut_string)
set_option linter.unusedVariables false

theorem own : ownKnob Try.prog.godebug = none := by kernel_rfl
theorem laidOut : laidOutB Try.prog = true := by kernel_rfl

set_option maxRecDepth 100000 in
theorem lifted (os : Os) (started : os.Started) (H : Type) (enc : TypeId × Value → H) :
    ReturnsInHanded {} Try.checked os 3 .any (Rows.topoRoutesAsSpecifiedSpec.pre6 enc Try.prog Try.f3 Rows.topoRoutesAsSpecifiedRow.domain false) (Rows.topoRoutesAsSpecifiedSpec.post enc Try.prog Try.f3 false true false false) := by
  refine returnsInHanded_of_change (C := Try.checked) own started (by kernel_rfl) Try.func3
    (ChangeSpec.witness6 (enc := enc) (C := Try.checked) false ⟨#[], #[.agg #[.slice none 0 0, .slice none 0 0], .agg #[.slice none 0 0, .slice none 0 0], .slice none 0 0, .int .i64 0, .bool false], []⟩ 8 (by kernel_rfl) (by kernel_rfl) (by kernel_rfl) (by kernel_rfl)) ?_
  intro W base args ds gs before hval0 hW hcnd _
  have hval : ∀ (j : Nat) t v, Try.f3.params[j]? = some t → args[j]? = some v → Value.okWide Try.prog W .any base t v := hval0
  have hW' := hW
  obtain ⟨p, q, hA0, hV, rfl, hfz, hnd⟩ := hW
  have hA : DataW.TrodAll enc Try.prog W 0 (fun _ => true) true Try.f3.params.toList args.toList ds p := hA0
  rw [Try.params3] at hA hval
  obtain ⟨v0, vs0, d0, ds0, p0, q0, hargs, rfl, rfl, h0, r0⟩ := trodAll_cons hA
  obtain ⟨v1, vs1, d1, ds1, p1, q1, rfl, rfl, rfl, h1, r1⟩ := trodAll_cons r0
  obtain ⟨v2, vs2, d2, ds2, p2, q2, rfl, rfl, rfl, h2, r2⟩ := trodAll_cons r1
  obtain ⟨v3, vs3, d3, ds3, p3, q3, rfl, rfl, rfl, h3, r3⟩ := trodAll_cons r2
  obtain ⟨v4, vs4, d4, ds4, p4, q4, rfl, rfl, rfl, h4, r4⟩ := trodAll_cons r3
  obtain ⟨rfl, rfl, rfl⟩ := trodAll_nil r4
  obtain rfl : args = #[v0, v1, v2, v3, v4] := by cases args; simp_all
  obtain ⟨rfl, rfl⟩ := trodVars_none hV
  have k0 := h0
  have lt0 : ∀ x ∈ p0, x.block < W.heap.size := by obtain ⟨m, hm⟩ := k0; exact DataW.trod_lt m _ _ _ hm
  obtain ⟨c0, rfl, _⟩ := okWide_struct Try.underlying25 (hval 0 25 v0 rfl rfl)
  obtain ⟨b0, g0, eb0, w0, s0⟩ : ∃ b g, c0.toList = NC_api_Map_25.F b g ∧ S_api_Map.wf b ∧ ∀ k, HsP (NC_api_Map_25.S b g) W noO k := by obtain ⟨fuel, hf⟩ := h0; exact S_api_Map.opnN fuel _ _ hf
  obtain rfl : c0 = (NC_api_Map_25.F b0 g0).toArray := by rw [← eb0]
  have k1 := h1
  have lt1 : ∀ x ∈ p1, x.block < W.heap.size := by obtain ⟨m, hm⟩ := k1; exact DataW.trod_lt m _ _ _ hm
  obtain ⟨c1, rfl, _⟩ := okWide_struct Try.underlying25 (hval 1 25 v1 rfl rfl)
  obtain ⟨b1, g1, eb1, w1, s1⟩ : ∃ b g, c1.toList = NC_api_Map_25.F b g ∧ S_api_Map.wf b ∧ ∀ k, HsP (NC_api_Map_25.S b g) W noO k := by obtain ⟨fuel, hf⟩ := h1; exact S_api_Map.opnN fuel _ _ hf
  obtain rfl : c1 = (NC_api_Map_25.F b1 g1).toArray := by rw [← eb1]
  have k2 := h2
  have lt2 : ∀ x ∈ p2, x.block < W.heap.size := by obtain ⟨m, hm⟩ := k2; exact DataW.trod_lt m _ _ _ hm
  obtain ⟨a2, len2, cap2, rfl⟩ := okWide_slice Try.underlying26 (hval 2 26 v2 rfl rfl)
  obtain ⟨b2, w2, s2⟩ : ∃ b : List (List UInt8), (b.length ≤ maxLen ∧ ∀ a ∈ b, a.length ≤ maxLen) ∧ ∀ k, (ro (.slice a2 len2 cap2) 1 (b.map eStr)).p W noO k := by
    obtain ⟨fuel, hf⟩ := h2
    obtain ⟨vv, l, hcs, hw, hs⟩ := opn_leafL (es := 1) (F := eStr) (wf := (fun a => a.length ≤ maxLen)) Try.underlying26 (by kernel_rfl) (by decide) (fun a => (eStr_ok a).1) (opn_str Try.underlying9) hf
    simp [Value.cells] at hcs
    subst hcs
    exact ⟨l, hw, hs⟩
  obtain ⟨b3, rfl, rfl, rfl, w3⟩ := open_int Try.underlying3 (hval 3 3 v3 rfl rfl) h3
  have k4 := h4
  have lt4 : ∀ x ∈ p4, x.block < W.heap.size := by obtain ⟨m, hm⟩ := k4; exact DataW.trod_lt m _ _ _ hm
  obtain ⟨b4, rfl⟩ := okWide_bool Try.underlying4 (hval 4 4 v4 rfl rfl)
  clear hA0 hval0
  obtain ⟨n, hn⟩ := routes_true b0 b1 b2 b3 b4 w0 w1 w2 w3 trivial
  refine ((law42_TopoRoutesAsSpecified_ok n b0 b1 b2 b3 b4 g0.1 g0.2 g1.1 g1.2 _ hn).law (w := W) (fun k h hk => by
    match k, hk with
    | 0, hk => cases hk; exact s0 _ _ (.head _)
    | 1, hk => cases hk; exact s0 _ _ (.tail _ (.head _))
    | 2, hk => cases hk; exact s1 _ _ (.head _)
    | 3, hk => cases hk; exact s1 _ _ (.tail _ (.head _))
    | 4, hk => cases hk; exact s2 _)).mono fun e W' ⟨he, bel⟩ => ?_
  subst he
  exact ⟨_, rfl, _, _, _, [], _, [], hW', trodAll_mk1 (shut_bool Try.underlying4 _), (trodAll_cons_mk (Below.trod laidOut (by kernel_rfl) (of_decide_eq_true (by kernel_rfl)) k0 bel lt0) (trodAll_cons_mk (Below.trod laidOut (by kernel_rfl) (of_decide_eq_true (by kernel_rfl)) k1 bel lt1) (trodAll_cons_mk (Below.trod laidOut (by kernel_rfl) (of_decide_eq_true (by kernel_rfl)) k2 bel lt2) (trodAll_cons_mk (shut_int Try.underlying3 w3) (trodAll_cons_mk (Below.trod laidOut (by kernel_rfl) (of_decide_eq_true (by kernel_rfl)) k4 bel lt4) trodAll_mk0))))), rfl, bel.frame _, fun h => by cases h⟩

theorem over : Rows.topoRoutesAsSpecifiedRow.holds Try.pinned (OpenSpec.ofChange Rows.topoRoutesAsSpecifiedSpec) :=
  OpenClaim.holds_of_wide 3 Try.f3 rfl rfl rfl rfl rfl rfl rfl ⟨rfl, rfl, rfl, rfl, rfl⟩ rfl rfl rfl rfl rfl (by kernel_rfl) Try.func3 (by kernel_rfl)
    (of_decide_eq_true (by kernel_rfl)) (by unfold Func.isWrapper; first | (rw [if_pos (by decide +kernel)]; kernel_rfl) | (rw [if_neg (by decide +kernel)]; exact ⟨rfl, rfl⟩))
    (fun os started H enc _ => lifted os started H enc)

/-- the statement -/
theorem proved : Rows.TopoRoutesAsSpecifiedSaid := over
end Go.Proofs.Ytigiikkenamneaa.lawC3
