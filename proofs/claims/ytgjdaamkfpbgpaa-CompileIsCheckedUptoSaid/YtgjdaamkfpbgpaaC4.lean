/-
  The law CompileIsChecked where its argument is of bulk at most 1048576.
-/
import Derived.Test.YtgjdaamkfpbgpaaRows
import Derived.Test.YtgjdaamkfpbgpaaM0
import Derived.Test.YtgjdaamkfpbgpaaM15
import Derived.JoinedCond
namespace Go.Proofs.Ytgjdaamkfpbgpaa.lawC4
open Go.Abs Go.ChangeShapes Go.WideShapes Go.ChangeAt Go.RowKit
set_option linter.unusedVariables false

theorem own : ownKnob Try.prog.godebug = none := by kernel_rfl
theorem laidOut : laidOutB Try.prog = true := by kernel_rfl

set_option maxRecDepth 100000 in
theorem lifted (os : Os) (started : os.Started) (H : Type) (enc : TypeId × Value → H) (F : Stop.Interp) :
    ReturnsInHanded {} Try.checked os 4 .any ((Rows.OpenSpec.upto Rows.compileIsCheckedSpec).pre6 enc Try.prog Try.f4 Rows.compileIsCheckedUptoRow.domain false) (((Rows.OpenSpec.upto Rows.compileIsCheckedSpec).at F).post enc Try.prog Try.f4 false true false false) := by
  refine returnsInHanded_of_cond (C := Try.checked) (s := Rows.OpenSpec.upto Rows.compileIsCheckedSpec) (k := Rows.uptoSmall) rfl own started (by kernel_rfl) Try.func4
    (OpenSpec.witness (enc := enc) (C := Try.checked) (s := Rows.OpenSpec.upto Rows.compileIsCheckedSpec) (k := Rows.uptoSmall) rfl false ⟨#[], #[.agg #[.string ByteArray.empty, .slice none 0 0, .slice none 0 0]], []⟩ 8 (by kernel_rfl) (by kernel_rfl) (by kernel_rfl)
      (x := ([.agg [.lit (.string []), .nil, .nil]], [], [])) (by kernel_rfl) rfl (by kernel_rfl)) ?_
  intro W base args ds gs before hval0 hW hcnd hk _
  have hval : ∀ (j : Nat) t v, Try.f4.params[j]? = some t → args[j]? = some v → Value.okWide Try.prog W .any base t v := hval0
  have hW' := hW
  obtain ⟨p, q, hA0, hV, rfl, hfz, hnd⟩ := hW
  have hA : DataW.TrodAll enc Try.prog W 0 (fun _ => true) true Try.f4.params.toList args.toList ds p := hA0
  rw [Try.params4] at hA hval
  obtain ⟨v0, vs0, d0, ds0, p0, q0, hargs, rfl, rfl, h0, r0⟩ := trodAll_cons hA
  obtain ⟨rfl, rfl, rfl⟩ := trodAll_nil r0
  obtain rfl : args = #[v0] := by cases args; simp_all
  obtain ⟨rfl, rfl⟩ := trodVars_none hV
  have hk2 : Rows.uptoBulkAll ([d0] : List (DataW H)) ≤ 1048576 := of_decide_eq_true hk
  have u0 : Rows.uptoBulk d0 ≤ 1048576 := Nat.le_trans (mem_bulk (by simp)) hk2
  have k0 := h0
  have lt0 : ∀ x ∈ p0, x.block < W.heap.size := by obtain ⟨m, hm⟩ := k0; exact DataW.trod_lt m _ _ _ hm
  obtain ⟨c0, rfl, _⟩ := okWide_struct Try.underlying25 (hval 0 25 v0 rfl rfl)
  obtain ⟨b0, x1, x2, eb0, n1, n2, n3, n4, s1, s2⟩ : ∃ (b : S_api_Program) (x1 x2 : Value), c0.toList = [.string (bs b.Name), x1, x2] ∧ nodesB b.Code ≤ 1048576 ∧ b.Effects.length ≤ 1048576 ∧ b.Name.length ≤ 1048576 ∧ (∀ e ∈ b.Effects, wfI .i64 e) ∧
      (∀ k, (ro x1 1 (b.Effects.map (eInt .i64))).p W noO k) ∧ ∀ k, (nro x2 NC_api_TStmt_50 b.Code).p W noO k := by obtain ⟨fuel, hf⟩ := h0; exact progAt hf u0
  obtain rfl : c0 = #[.string (bs b0.Name), x1, x2] := by cases c0; simp_all
  clear hA0 hval0
  obtain ⟨n, hn⟩ := law4 b0 n1 n2
  refine ((law28_CompileIsChecked_ok n b0 x1 x2 hn).law (w := W) (fun k h hk => by
    match k, hk with
    | 0, hk => cases hk; exact s1 _
    | 1, hk => cases hk; exact s2 _)).mono fun e W' ⟨he, bel⟩ => ?_
  subst he
  exact ⟨_, rfl, _, _, _, [], _, [], hW', trodAll_mk1 (shut_bool Try.underlying4 _), (trodAll_cons_mk (Below.trod laidOut (by kernel_rfl) (of_decide_eq_true (by kernel_rfl)) k0 bel lt0) trodAll_mk0), rfl, bel.frame _, fun h => by cases h⟩

theorem over : Rows.compileIsCheckedUptoRow.holds Try.pinned (Rows.OpenSpec.upto Rows.compileIsCheckedSpec) :=
  OpenClaim.holds_of_cond 4 Try.f4 rfl rfl rfl rfl rfl rfl rfl ⟨rfl, rfl, rfl, rfl, rfl⟩ rfl rfl rfl rfl rfl (by kernel_rfl) Try.func4 (by kernel_rfl)
    (of_decide_eq_true (by kernel_rfl)) (by unfold Func.isWrapper; first | (rw [if_pos (by decide +kernel)]; kernel_rfl) | (rw [if_neg (by decide +kernel)]; exact ⟨rfl, rfl⟩))
    (fun os started H enc _ F => lifted os started H enc F)

/-- the statement -/
theorem proved : Rows.CompileIsCheckedUptoSaid := over
end Go.Proofs.Ytgjdaamkfpbgpaa.lawC4
