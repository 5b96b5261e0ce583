/-
  The law CompileCodes: for every module and all bytes it answers true.
-/
import Derived.Test.YtgjdaamkfpbgpaaRows
import Derived.Test.YtgjdaamkfpbgpaaM10
namespace Go.Proofs.Ytgjdaamkfpbgpaa.lawC5
open Go.Abs Go.ChangeShapes Go.WideShapes Go.ChangeAt Go.RowKit
open Go.ChangeMaps (open_string shut_string)
set_option linter.unusedVariables false

theorem own : ownKnob Try.prog.godebug = none := by kernel_rfl
theorem laidOut : laidOutB Try.prog = true := by kernel_rfl

set_option maxRecDepth 100000 in
theorem lifted (os : Os) (started : os.Started) (H : Type) (enc : TypeId × Value → H) :
    ReturnsInHanded {} Try.checked os 5 .any (Rows.compileCodesSpec.pre6 enc Try.prog Try.f5 Rows.compileCodesRow.domain false) (Rows.compileCodesSpec.post enc Try.prog Try.f5 false true false false) := by
  refine returnsInHanded_of_change (C := Try.checked) own started (by kernel_rfl) Try.func5
    (ChangeSpec.witness6 (enc := enc) (C := Try.checked) false ⟨#[], #[.agg #[.string ByteArray.empty, .slice none 0 0, .slice none 0 0], .slice none 0 0], []⟩ 8 (by kernel_rfl) (by kernel_rfl) (by kernel_rfl) (by kernel_rfl)) ?_
  intro W base args ds gs before hval0 hW hcnd _
  have hval : ∀ (j : Nat) t v, Try.f5.params[j]? = some t → args[j]? = some v → Value.okWide Try.prog W .any base t v := hval0
  have hW' := hW
  obtain ⟨p, q, hA0, hV, rfl, hfz, hnd⟩ := hW
  have hA : DataW.TrodAll enc Try.prog W 0 (fun _ => true) true Try.f5.params.toList args.toList ds p := hA0
  rw [Try.params5] at hA hval
  obtain ⟨v0, vs0, d0, ds0, p0, q0, hargs, rfl, rfl, h0, r0⟩ := trodAll_cons hA
  obtain ⟨v1, vs1, d1, ds1, p1, q1, rfl, rfl, rfl, h1, r1⟩ := trodAll_cons r0
  obtain ⟨rfl, rfl, rfl⟩ := trodAll_nil r1
  obtain rfl : args = #[v0, v1] := by cases args; simp_all
  obtain ⟨rfl, rfl⟩ := trodVars_none hV
  have k0 := h0
  have lt0 : ∀ x ∈ p0, x.block < W.heap.size := by obtain ⟨m, hm⟩ := k0; exact DataW.trod_lt m _ _ _ hm
  obtain ⟨c0, rfl, _⟩ := okWide_struct Try.underlying31 (hval 0 31 v0 rfl rfl)
  obtain ⟨b0, g0, eb0, w0, s0⟩ : ∃ b g, c0.toList = NC_api_Module_31.F b g ∧ S_api_Module.wf b ∧ ∀ k, HsP (NC_api_Module_31.S b g) W noO k := by obtain ⟨fuel, hf⟩ := h0; exact S_api_Module.opnN fuel _ _ hf
  obtain rfl : c0 = (NC_api_Module_31.F b0 g0).toArray := by rw [← eb0]
  have k1 := h1
  have lt1 : ∀ x ∈ p1, x.block < W.heap.size := by obtain ⟨m, hm⟩ := k1; exact DataW.trod_lt m _ _ _ hm
  obtain ⟨a1, len1, cap1, rfl⟩ := okWide_slice Try.underlying40 (hval 1 40 v1 rfl rfl)
  obtain ⟨b1, w1, s1⟩ : ∃ b : List UInt8, (∀ a ∈ b, a = a) ∧ ∀ k, (ro (.slice a1 len1 cap1) 1 (b.map eB8)).p W noO k := by
    obtain ⟨fuel, hf⟩ := h1
    obtain ⟨vv, l, hcs, hw, hs⟩ := opn_leaf (es := 1) (F := eB8) (wf := (fun a => a = a)) Try.underlying40 (by kernel_rfl) (by decide) (fun a => (eB8_ok a).1) (opn_u8 Try.underlying5) hf
    simp [Value.cells] at hcs
    subst hcs
    exact ⟨l, hw, hs⟩
  clear hA0 hval0
  obtain ⟨n, hn⟩ := law5 b0 b1 (fun x h => wf64 (w0.2.1 x h)) (fun x h => ⟨wf64 (w0.2.2 x h).1, wf64 (w0.2.2 x h).2.1⟩)
  refine ((law28_CompileCodes_ok n b0 b1 g0.1 g0.2 _ hn).law (w := W) (fun k h hk => by
    match k, hk with
    | 0, hk => cases hk; exact s0 _ _ (.head _)
    | 1, hk => cases hk; exact s0 _ _ (.tail _ (.head _))
    | 2, hk => cases hk; exact s1 _)).mono fun e W' ⟨he, bel⟩ => ?_
  subst he
  exact ⟨_, rfl, _, _, _, [], _, [], hW', trodAll_mk1 (shut_bool Try.underlying4 _), (trodAll_cons_mk (Below.trod laidOut (by kernel_rfl) (of_decide_eq_true (by kernel_rfl)) k0 bel lt0) (trodAll_cons_mk (Below.trod laidOut (by kernel_rfl) (of_decide_eq_true (by kernel_rfl)) k1 bel lt1) trodAll_mk0)), rfl, bel.frame _, fun h => by cases h⟩

theorem over : Rows.compileCodesRow.holds Try.pinned (OpenSpec.ofChange Rows.compileCodesSpec) :=
  OpenClaim.holds_of_wide 5 Try.f5 rfl rfl rfl rfl rfl rfl rfl ⟨rfl, rfl, rfl, rfl, rfl⟩ rfl rfl rfl rfl rfl (by kernel_rfl) Try.func5 (by kernel_rfl)
    (of_decide_eq_true (by kernel_rfl)) (by unfold Func.isWrapper; first | (rw [if_pos (by decide +kernel)]; kernel_rfl) | (rw [if_neg (by decide +kernel)]; exact ⟨rfl, rfl⟩))
    (fun os started H enc _ => lifted os started H enc)

/-- the statement -/
theorem proved : Rows.CompileCodesSaid := over
end Go.Proofs.Ytgjdaamkfpbgpaa.lawC5
