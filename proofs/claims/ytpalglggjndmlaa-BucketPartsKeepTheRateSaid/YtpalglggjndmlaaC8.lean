/-
  The law BucketPartsKeepTheRate, whole: for every bucket, all lists of numbers and of tries it answers true, and leaves its arguments as they were.
-/
import Derived.Test.YtpalglggjndmlaaRows
import Derived.Test.YtpalglggjndmlaaP8
namespace Go.Proofs.Ytpalglggjndmlaa.lawC8
open Go.Abs Go.ChangeShapes Go.WideShapes Go.ChangeAt Go.RowKit
open Go.ChangeMaps (open_string shut_string)
set_option linter.unusedVariables false

theorem own : ownKnob Try.prog.godebug = none := by kernel_rfl
theorem laidOut : laidOutB Try.prog = true := by kernel_rfl

set_option maxRecDepth 100000 in
theorem lifted (os : Os) (started : os.Started) (H : Type) (enc : TypeId × Value → H) :
    ReturnsInHanded {} Try.checked os 8 .any (Rows.bucketPartsKeepTheRateSpec.pre6 enc Try.prog Try.f8 Rows.bucketPartsKeepTheRateRow.domain false) (Rows.bucketPartsKeepTheRateSpec.post enc Try.prog Try.f8 false true false false) := by
  refine returnsInHanded_of_change (C := Try.checked) own started (by kernel_rfl) Try.func8
    (ChangeSpec.witness6 (enc := enc) (C := Try.checked) false ⟨#[], #[.agg #[.int .i64 0, .int .i64 0, .int .i64 0, .int .i64 0, .int .i64 0], .slice none 0 0, .slice none 0 0, .slice none 0 0], []⟩ 8 (by kernel_rfl) (by kernel_rfl) (by kernel_rfl) (by kernel_rfl)) ?_
  intro W base args ds gs before hval0 hW hcnd _
  have hval : ∀ (j : Nat) t v, Try.f8.params[j]? = some t → args[j]? = some v → Value.okWide Try.prog W .any base t v := hval0
  have hW' := hW
  obtain ⟨p, q, hA0, hV, rfl, hfz, hnd⟩ := hW
  have hA : DataW.TrodAll enc Try.prog W 0 (fun _ => true) true Try.f8.params.toList args.toList ds p := hA0
  rw [Try.params8] at hA hval
  obtain ⟨v0, vs0, d0, ds0, p0, q0, hargs, rfl, rfl, h0, r0⟩ := trodAll_cons hA
  obtain ⟨v1, vs1, d1, ds1, p1, q1, rfl, rfl, rfl, h1, r1⟩ := trodAll_cons r0
  obtain ⟨v2, vs2, d2, ds2, p2, q2, rfl, rfl, rfl, h2, r2⟩ := trodAll_cons r1
  obtain ⟨v3, vs3, d3, ds3, p3, q3, rfl, rfl, rfl, h3, r3⟩ := trodAll_cons r2
  obtain ⟨rfl, rfl, rfl⟩ := trodAll_nil r3
  obtain rfl : args = #[v0, v1, v2, v3] := by cases args; simp_all
  obtain ⟨rfl, rfl⟩ := trodVars_none hV
  have k0 := h0
  have lt0 : ∀ x ∈ p0, x.block < W.heap.size := by obtain ⟨m, hm⟩ := k0; exact DataW.trod_lt m _ _ _ hm
  obtain ⟨c0, rfl, _⟩ := okWide_struct Try.underlying23 (hval 0 23 v0 rfl rfl)
  obtain ⟨b0, eb0, w0⟩ : ∃ b, c0.toList = S_api_Bucket.enc b ∧ S_api_Bucket.wf b := by obtain ⟨fuel, hf⟩ := h0; exact S_api_Bucket.opn fuel _ _ hf
  obtain rfl : c0 = (S_api_Bucket.enc b0).toArray := by rw [← eb0]
  have k1 := h1
  have lt1 : ∀ x ∈ p1, x.block < W.heap.size := by obtain ⟨m, hm⟩ := k1; exact DataW.trod_lt m _ _ _ hm
  obtain ⟨a1, len1, cap1, rfl⟩ := okWide_slice Try.underlying46 (hval 1 46 v1 rfl rfl)
  obtain ⟨b1, w1, s1⟩ : ∃ b : List Int, (∀ a ∈ b, wfI .i64 a) ∧ SliceIs W (fun b => (fun _ => Ow.no : Own) b = .no) (.slice a1 len1 cap1) 1 (b.map (eInt .i64)) := by
    obtain ⟨fuel, hf⟩ := h1
    obtain ⟨vv, l, hcs, hw, hs, _⟩ := opn_slice Try.underlying46 (es := 1) (by kernel_rfl) (by decide) (fun a => ((eInt_ok _) a).1) (opn_int Try.underlying3) hf
    simp [Value.cells] at hcs
    subst hcs
    exact ⟨l, hw, hs⟩
  have k2 := h2
  have lt2 : ∀ x ∈ p2, x.block < W.heap.size := by obtain ⟨m, hm⟩ := k2; exact DataW.trod_lt m _ _ _ hm
  obtain ⟨a2, len2, cap2, rfl⟩ := okWide_slice Try.underlying46 (hval 2 46 v2 rfl rfl)
  obtain ⟨b2, w2, s2⟩ : ∃ b : List Int, (∀ a ∈ b, wfI .i64 a) ∧ SliceIs W (fun b => (fun _ => Ow.no : Own) b = .no) (.slice a2 len2 cap2) 1 (b.map (eInt .i64)) := by
    obtain ⟨fuel, hf⟩ := h2
    obtain ⟨vv, l, hcs, hw, hs, _⟩ := opn_slice Try.underlying46 (es := 1) (by kernel_rfl) (by decide) (fun a => ((eInt_ok _) a).1) (opn_int Try.underlying3) hf
    simp [Value.cells] at hcs
    subst hcs
    exact ⟨l, hw, hs⟩
  have k3 := h3
  have lt3 : ∀ x ∈ p3, x.block < W.heap.size := by obtain ⟨m, hm⟩ := k3; exact DataW.trod_lt m _ _ _ hm
  obtain ⟨a3, len3, cap3, rfl⟩ := okWide_slice Try.underlying45 (hval 3 45 v3 rfl rfl)
  obtain ⟨b3, w3, s3⟩ : ∃ b : List S_law12_Try, (∀ a ∈ b, S_law12_Try.wf a) ∧ SliceIs W (fun b => (fun _ => Ow.no : Own) b = .no) (.slice a3 len3 cap3) 3 (b.map S_law12_Try.enc) := by
    obtain ⟨fuel, hf⟩ := h3
    obtain ⟨vv, l, hcs, hw, hs, _⟩ := opn_slice Try.underlying45 (es := 3) (by kernel_rfl) (by decide) (fun a => (S_law12_Try.enc_ok a).1) (S_law12_Try.opn) hf
    simp [Value.cells] at hcs
    subst hcs
    exact ⟨l, hw, hs⟩
  clear hA0 hval0
  obtain ⟨n, hn⟩ := keep_true b0 b1 b2 b3 w0 w1 w2 w3
  refine ((law12_BucketPartsKeepTheRate_ok n b0 b1 b2 b3 _ _ _ hn).law (w := W) (fun k h hk => by
    match k, hk with
    | 0, hk => cases hk; exact s1
    | 1, hk => cases hk; exact s2
    | 2, hk => cases hk; exact s3)).mono fun e W' ⟨he, bel⟩ => ?_
  subst he
  exact ⟨_, rfl, _, _, _, [], _, [], hW', trodAll_mk1 (shut_bool Try.underlying4 _), (trodAll_cons_mk (Below.trod laidOut (by kernel_rfl) (of_decide_eq_true (by kernel_rfl)) k0 bel lt0) (trodAll_cons_mk (Below.trod laidOut (by kernel_rfl) (of_decide_eq_true (by kernel_rfl)) k1 bel lt1) (trodAll_cons_mk (Below.trod laidOut (by kernel_rfl) (of_decide_eq_true (by kernel_rfl)) k2 bel lt2) (trodAll_cons_mk (Below.trod laidOut (by kernel_rfl) (of_decide_eq_true (by kernel_rfl)) k3 bel lt3) trodAll_mk0)))), rfl, bel.frame _, fun h => by cases h⟩

theorem over : Rows.bucketPartsKeepTheRateRow.holds Try.pinned (OpenSpec.ofChange Rows.bucketPartsKeepTheRateSpec) :=
  OpenClaim.holds_of_wide 8 Try.f8 rfl rfl rfl rfl rfl rfl rfl ⟨rfl, rfl, rfl, rfl, rfl⟩ rfl rfl rfl rfl rfl (by kernel_rfl) Try.func8 (by kernel_rfl)
    (of_decide_eq_true (by kernel_rfl)) (by unfold Func.isWrapper; first | (rw [if_pos (by decide +kernel)]; kernel_rfl) | (rw [if_neg (by decide +kernel)]; exact ⟨rfl, rfl⟩))
    (fun os started H enc _ => lifted os started H enc)

/-- the statement -/
theorem proved : Rows.BucketPartsKeepTheRateSaid := over
end Go.Proofs.Ytpalglggjndmlaa.lawC8
