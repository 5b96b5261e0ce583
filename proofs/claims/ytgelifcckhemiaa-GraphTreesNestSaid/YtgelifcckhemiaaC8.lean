/-
  The law GraphTreesNest, whole: for every list of parents it answers true, and leaves its arguments as they were.
-/
import Derived.Test.YtgelifcckhemiaaRows
import Derived.Test.YtgelifcckhemiaaP8
namespace Go.Proofs.Ytgelifcckhemiaa.lawC8
open Go.Abs Go.ChangeShapes Go.WideShapes Go.ChangeAt Go.RowKit
open Go.ChangeMaps (open_string shut_string)
set_option linter.unusedVariables false

theorem own : ownKnob Try.prog.godebug = none := by kernel_rfl
theorem laidOut : laidOutB Try.prog = true := by kernel_rfl

set_option maxRecDepth 100000 in
theorem lifted (os : Os) (started : os.Started) (H : Type) (enc : TypeId × Value → H) :
    ReturnsInHanded {} Try.checked os 8 .any (Rows.graphTreesNestSpec.pre6 enc Try.prog Try.f8 Rows.graphTreesNestRow.domain false) (Rows.graphTreesNestSpec.post enc Try.prog Try.f8 false true false false) := by
  refine returnsInHanded_of_change (C := Try.checked) own started (by kernel_rfl) Try.func8
    (ChangeSpec.witness6 (enc := enc) (C := Try.checked) false ⟨#[], #[.slice none 0 0], []⟩ 8 (by kernel_rfl) (by kernel_rfl) (by kernel_rfl) (by kernel_rfl)) ?_
  intro W base args ds gs before hval0 hW hcnd _
  have hval : ∀ (j : Nat) t v, Try.f8.params[j]? = some t → args[j]? = some v → Value.okWide Try.prog W .any base t v := hval0
  have hW' := hW
  obtain ⟨p, q, hA0, hV, rfl, hfz, hnd⟩ := hW
  have hA : DataW.TrodAll enc Try.prog W 0 (fun _ => true) true Try.f8.params.toList args.toList ds p := hA0
  rw [Try.params8] at hA hval
  obtain ⟨v0, vs0, d0, ds0, p0, q0, hargs, rfl, rfl, h0, r0⟩ := trodAll_cons hA
  obtain ⟨rfl, rfl, rfl⟩ := trodAll_nil r0
  obtain rfl : args = #[v0] := by cases args; simp_all
  obtain ⟨rfl, rfl⟩ := trodVars_none hV
  have k0 := h0
  have lt0 : ∀ x ∈ p0, x.block < W.heap.size := by obtain ⟨m, hm⟩ := k0; exact DataW.trod_lt m _ _ _ hm
  obtain ⟨a0, len0, cap0, rfl⟩ := okWide_slice Try.underlying34 (hval 0 34 v0 rfl rfl)
  obtain ⟨b0, w0, s0⟩ : ∃ b : List Int, (∀ a ∈ b, wfI .i64 a) ∧ SliceIs W (fun b => (fun _ => Ow.no : Own) b = .no) (.slice a0 len0 cap0) 1 (b.map (eInt .i64)) := by
    obtain ⟨fuel, hf⟩ := h0
    obtain ⟨vv, l, hcs, hw, hs, _⟩ := opn_slice Try.underlying34 (es := 1) (by kernel_rfl) (by decide) (fun a => ((eInt_ok _) a).1) (opn_int Try.underlying3) hf
    simp [Value.cells] at hcs
    subst hcs
    exact ⟨l, hw, hs⟩
  clear hA0 hval0
  obtain ⟨n, hn⟩ := nest_true b0 w0
  refine ((law09_GraphTreesNest_ok n b0 _ hn).law (w := W) (fun k h hk => by
    match k, hk with
    | 0, hk => cases hk; exact s0)).mono fun e W' ⟨he, bel⟩ => ?_
  subst he
  exact ⟨_, rfl, _, _, _, [], _, [], hW', trodAll_mk1 (shut_bool Try.underlying4 _), (trodAll_cons_mk (Below.trod laidOut (by kernel_rfl) (of_decide_eq_true (by kernel_rfl)) k0 bel lt0) trodAll_mk0), rfl, bel.frame _, fun h => by cases h⟩

theorem over : Rows.graphTreesNestRow.holds Try.pinned (OpenSpec.ofChange Rows.graphTreesNestSpec) :=
  OpenClaim.holds_of_wide 8 Try.f8 rfl rfl rfl rfl rfl rfl rfl ⟨rfl, rfl, rfl, rfl, rfl⟩ rfl rfl rfl rfl rfl (by kernel_rfl) Try.func8 (by kernel_rfl)
    (of_decide_eq_true (by kernel_rfl)) (by unfold Func.isWrapper; first | (rw [if_pos (by decide +kernel)]; kernel_rfl) | (rw [if_neg (by decide +kernel)]; exact ⟨rfl, rfl⟩))
    (fun os started H enc _ => lifted os started H enc)

/-- the statement -/
theorem proved : Rows.GraphTreesNestSaid := over
end Go.Proofs.Ytgelifcckhemiaa.lawC8
