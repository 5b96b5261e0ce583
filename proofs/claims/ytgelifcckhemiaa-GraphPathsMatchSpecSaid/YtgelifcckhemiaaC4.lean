/-
  The law GraphPathsMatchSpec, whole: for every network, number and routes it answers true, and leaves its arguments as they were.
-/
import Derived.Test.YtgelifcckhemiaaRows
import Derived.Test.YtgelifcckhemiaaM13
namespace Go.Proofs.Ytgelifcckhemiaa.lawC4
open Go.Abs Go.ChangeShapes Go.WideShapes Go.ChangeAt Go.RowKit
open Go.ChangeMaps (open_string shut_string)
set_option linter.unusedVariables false

theorem own : ownKnob Try.prog.godebug = none := by kernel_rfl
theorem laidOut : laidOutB Try.prog = true := by kernel_rfl

set_option maxRecDepth 100000 in
theorem lifted (os : Os) (started : os.Started) (H : Type) (enc : TypeId × Value → H) :
    ReturnsInHanded {} Try.checked os 4 .any (Rows.graphPathsMatchSpecSpec.pre6 enc Try.prog Try.f4 Rows.graphPathsMatchSpecRow.domain false) (Rows.graphPathsMatchSpecSpec.post enc Try.prog Try.f4 false true false false) := by
  refine returnsInHanded_of_change (C := Try.checked) own started (by kernel_rfl) Try.func4
    (ChangeSpec.witness6 (enc := enc) (C := Try.checked) false ⟨#[], #[.agg #[.int .i64 0, .slice none 0 0], .int .i64 0, .agg #[.slice none 0 0, .slice none 0 0, .slice none 0 0]], []⟩ 8 (by kernel_rfl) (by kernel_rfl) (by kernel_rfl) (by kernel_rfl)) ?_
  intro W base args ds gs before hval0 hW hcnd _
  have hval : ∀ (j : Nat) t v, Try.f4.params[j]? = some t → args[j]? = some v → Value.okWide Try.prog W .any base t v := hval0
  have hW' := hW
  obtain ⟨p, q, hA0, hV, rfl, hfz, hnd⟩ := hW
  have hA : DataW.TrodAll enc Try.prog W 0 (fun _ => true) true Try.f4.params.toList args.toList ds p := hA0
  rw [Try.params4] at hA hval
  obtain ⟨v0, vs0, d0, ds0, p0, q0, hargs, rfl, rfl, h0, r0⟩ := trodAll_cons hA
  obtain ⟨v1, vs1, d1, ds1, p1, q1, rfl, rfl, rfl, h1, r1⟩ := trodAll_cons r0
  obtain ⟨v2, vs2, d2, ds2, p2, q2, rfl, rfl, rfl, h2, r2⟩ := trodAll_cons r1
  obtain ⟨rfl, rfl, rfl⟩ := trodAll_nil r2
  obtain rfl : args = #[v0, v1, v2] := by cases args; simp_all
  obtain ⟨rfl, rfl⟩ := trodVars_none hV
  have k0 := h0
  have lt0 : ∀ x ∈ p0, x.block < W.heap.size := by obtain ⟨m, hm⟩ := k0; exact DataW.trod_lt m _ _ _ hm
  obtain ⟨c0, rfl, _⟩ := okWide_struct Try.underlying24 (hval 0 24 v0 rfl rfl)
  obtain ⟨b0, g0, eb0, w0, s0⟩ : ∃ b g, c0.toList = NC_api_Net_24.F b g ∧ S_api_Net.wf b ∧ ∀ k, HsP (NC_api_Net_24.S b g) W noO k := by obtain ⟨fuel, hf⟩ := h0; exact S_api_Net.opnN fuel _ _ hf
  obtain rfl : c0 = (NC_api_Net_24.F b0 g0).toArray := by rw [← eb0]
  obtain ⟨b1, rfl, rfl, rfl, w1⟩ := open_int Try.underlying3 (hval 1 3 v1 rfl rfl) h1
  have k2 := h2
  have lt2 : ∀ x ∈ p2, x.block < W.heap.size := by obtain ⟨m, hm⟩ := k2; exact DataW.trod_lt m _ _ _ hm
  obtain ⟨c2, rfl, _⟩ := okWide_struct Try.underlying51 (hval 2 51 v2 rfl rfl)
  obtain ⟨b2, g2, eb2, w2, s2⟩ : ∃ b g, c2.toList = NC_api_Routes_51.F b g ∧ S_api_Routes.wf b ∧ ∀ k, HsP (NC_api_Routes_51.S b g) W noO k := by obtain ⟨fuel, hf⟩ := h2; exact S_api_Routes.opnN fuel _ _ hf
  obtain rfl : c2 = (NC_api_Routes_51.F b2 g2).toArray := by rw [← eb2]
  clear hA0 hval0
  obtain ⟨n, hn⟩ := paths_true b0 b1 b2 w0 w1 w2
  refine ((law09_GraphPathsMatchSpec_ok n b0 b1 b2 g0 g2.1 g2.2.1 g2.2.2 hn).law (w := W) (fun k h hk => by
    match k, hk with
    | 0, hk => cases hk; exact s0 _ _ (.head _)
    | 1, hk => cases hk; exact s2 _ _ (.head _)
    | 2, hk => cases hk; exact s2 _ _ (.tail _ (.head _))
    | 3, hk => cases hk; exact s2 _ _ (.tail _ (.tail _ (.head _))))).mono fun e W' ⟨he, bel⟩ => ?_
  subst he
  exact ⟨_, rfl, _, _, _, [], _, [], hW', trodAll_mk1 (shut_bool Try.underlying4 _), (trodAll_cons_mk (Below.trod laidOut (by kernel_rfl) (of_decide_eq_true (by kernel_rfl)) k0 bel lt0) (trodAll_cons_mk (shut_int Try.underlying3 w1) (trodAll_cons_mk (Below.trod laidOut (by kernel_rfl) (of_decide_eq_true (by kernel_rfl)) k2 bel lt2) trodAll_mk0))), rfl, bel.frame _, fun h => by cases h⟩

theorem over : Rows.graphPathsMatchSpecRow.holds Try.pinned (OpenSpec.ofChange Rows.graphPathsMatchSpecSpec) :=
  OpenClaim.holds_of_wide 4 Try.f4 rfl rfl rfl rfl rfl rfl rfl ⟨rfl, rfl, rfl, rfl, rfl⟩ rfl rfl rfl rfl rfl (by kernel_rfl) Try.func4 (by kernel_rfl)
    (of_decide_eq_true (by kernel_rfl)) (by unfold Func.isWrapper; first | (rw [if_pos (by decide +kernel)]; kernel_rfl) | (rw [if_neg (by decide +kernel)]; exact ⟨rfl, rfl⟩))
    (fun os started H enc _ => lifted os started H enc)

/-- the statement -/
theorem proved : Rows.GraphPathsMatchSpecSaid := over
end Go.Proofs.Ytgelifcckhemiaa.lawC4
