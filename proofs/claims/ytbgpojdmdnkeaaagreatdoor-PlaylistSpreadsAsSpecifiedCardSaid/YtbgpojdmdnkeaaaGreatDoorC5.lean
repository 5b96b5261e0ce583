/-
  The statement of the law PlaylistSpreadsAsSpecified.
-/
import Derived.Test.YtbgpojdmdnkeaaaGreatDoorM10
import Derived.Test.YtbgpojdmdnkeaaaGreatDoorCards
import Derived.Test.YtbgpojdmdnkeaaaGreatDoorTie
namespace Go.Proofs.YtbgpojdmdnkeaaaGreatDoor.lawC5
open Go.Abs Go.ChangeShapes Go.WideShapes Go.ChangeAt Go.RowKit
open Go.ChangeMaps (open_string shut_string)
set_option linter.unusedVariables false

theorem own : ownKnob Tryz.prog.godebug = none := by kernel_rfl
theorem laidOut : laidOutB Tryz.prog = true := by kernel_rfl

theorem reads (os : Os) {H : Type} (enc : TypeId × Value → H) : ∃ places, DataW.whole enc Tryz.prog ((laidWorld os).forCall (fun _ _ => 0) ⟨#[], #[.slice none 0 0, .slice none 0 0, .slice none 0 0, .int .i64 0, .int .i64 0], []⟩).memory Tryz.f5.params.toList Rows.playlistSpreadsAsSpecifiedSpec.vars false (#[.slice none 0 0, .slice none 0 0, .slice none 0 0, .int .i64 0, .int .i64 0] : Array Value).toList 8 = some ([.nil, .nil, .nil, .lit (.int .i64 0), .lit (.int .i64 0)], [], places) :=
  ⟨[], by kernel_rfl⟩
set_option maxRecDepth 100000 in
theorem lifted (os : Os) (started : os.Started) (H : Type) (enc : TypeId × Value → H) (F : Stop.Interp) :
    ReturnsInHanded {} Tryz.checked os 5 .any ((OpenSpec.ofChange Rows.playlistSpreadsAsSpecifiedSpec).preRow enc Tryz.prog Tryz.f5 Rows.playlistSpreadsAsSpecifiedRow.domain false Rows.playlistSpreadsAsSpecifiedRow.laid) (((OpenSpec.ofChange Rows.playlistSpreadsAsSpecifiedSpec).at F).post enc Tryz.prog Tryz.f5 false true false false) := by
  obtain ⟨places, hx⟩ := reads os enc
  refine returnsInHanded_of_row (C := Tryz.checked) (s := OpenSpec.ofChange Rows.playlistSpreadsAsSpecifiedSpec) own started (by kernel_rfl) Tryz.func5
    (witness_row_at (enc := enc) (C := Tryz.checked) false (laidWorld os) #[.slice none 0 0, .slice none 0 0, .slice none 0 0, .int .i64 0, .int .i64 0] rfl (by kernel_rfl) (by kernel_rfl) (by kernel_rfl)
      (OpenSpec.preRow_of_cond 8 hx (by kernel_rfl) (fun k hk => by cases hk) (by kernel_rfl) (laidWorld_met os _))) ?_
  intro W base args ds gs before hval0 hW _ _ _ hL hsh _
  have hval : ∀ (j : Nat) t v, Tryz.f5.params[j]? = some t → args[j]? = some v → Value.okWide Tryz.prog W .any base t v := hval0
  have hW' := hW
  obtain ⟨p, q, hA0, hV, rfl, hfz, hnd⟩ := hW
  have hA : DataW.TrodAll enc Tryz.prog W 0 (fun _ => true) true Tryz.f5.params.toList args.toList ds p := hA0
  rw [Tryz.params5] at hA hval
  obtain ⟨v0, vs0, d0, ds0, p0, q0, hargs, rfl, rfl, h0, r0⟩ := trodAll_cons hA
  obtain ⟨v1, vs1, d1, ds1, p1, q1, rfl, rfl, rfl, h1, r1⟩ := trodAll_cons r0
  obtain ⟨v2, vs2, d2, ds2, p2, q2, rfl, rfl, rfl, h2, r2⟩ := trodAll_cons r1
  obtain ⟨v3, vs3, d3, ds3, p3, q3, rfl, rfl, rfl, h3, r3⟩ := trodAll_cons r2
  obtain ⟨v4, vs4, d4, ds4, p4, q4, rfl, rfl, rfl, h4, r4⟩ := trodAll_cons r3
  obtain ⟨rfl, rfl, rfl⟩ := trodAll_nil r4
  obtain rfl : args = #[v0, v1, v2, v3, v4] := by cases args; simp_all
  obtain ⟨rfl, rfl⟩ := trodVars_none hV
  have k0 := h0
  have lt0 : ∀ x ∈ p0, x.block < W.heap.size := by obtain ⟨m, hm⟩ := k0; exact DataW.trod_lt m _ _ _ hm
  obtain ⟨a0, len0, cap0, rfl⟩ := okWide_slice Tryz.underlying22 (hval 0 22 v0 rfl rfl)
  obtain ⟨b0, w0, s0⟩ : ∃ b : List S_api_Segment, (b.length ≤ maxLen ∧ ∀ a ∈ b, S_api_Segment.wf a) ∧ ∀ k, (ro (.slice a0 len0 cap0) 20 (b.map S_api_Segment.enc)).p W noO k := by
    obtain ⟨fuel, hf⟩ := h0
    obtain ⟨vv, l, hcs, hw, hs⟩ := opn_leafL (es := 20) (F := S_api_Segment.enc) (wf := S_api_Segment.wf) Tryz.underlying22 (by kernel_rfl) (by decide) (fun a => (S_api_Segment.enc_ok a).1) S_api_Segment.opn hf
    simp [Value.cells] at hcs
    subst hcs
    exact ⟨l, hw, hs⟩
  have k1 := h1
  have lt1 : ∀ x ∈ p1, x.block < W.heap.size := by obtain ⟨m, hm⟩ := k1; exact DataW.trod_lt m _ _ _ hm
  obtain ⟨a1, len1, cap1, rfl⟩ := okWide_slice Tryz.underlying43 (hval 1 43 v1 rfl rfl)
  obtain ⟨b1, w1, s1⟩ : ∃ b : List Int, (b.length ≤ maxLen ∧ ∀ a ∈ b, wfI .i64 a) ∧ ∀ k, (ro (.slice a1 len1 cap1) 1 (b.map (eInt .i64))).p W noO k := by
    obtain ⟨fuel, hf⟩ := h1
    obtain ⟨vv, l, hcs, hw, hs⟩ := opn_leafL (es := 1) (F := (eInt .i64)) (wf := (fun a => wfI .i64 a)) Tryz.underlying43 (by kernel_rfl) (by decide) (fun a => ((eInt_ok _) a).1) (opn_int Tryz.underlying3) hf
    simp [Value.cells] at hcs
    subst hcs
    exact ⟨l, hw, hs⟩
  have k2 := h2
  have lt2 : ∀ x ∈ p2, x.block < W.heap.size := by obtain ⟨m, hm⟩ := k2; exact DataW.trod_lt m _ _ _ hm
  obtain ⟨a2, len2, cap2, rfl⟩ := okWide_slice Tryz.underlying44 (hval 2 44 v2 rfl rfl)
  obtain ⟨b2, w2, s2⟩ : ∃ b : List (List Int), (b.length ≤ maxLen ∧ ∀ a ∈ b, (a.length ≤ maxLen ∧ ∀ c ∈ a, wfI .i64 c)) ∧ ∀ k, (nro (.slice a2 len2 cap2) NC_L_int_43 b).p W noO k := by
    obtain ⟨fuel, hf⟩ := h2
    obtain ⟨vv, l, hcs, hw, hs⟩ := opn_leafNL (C := NC_L_int_43) (wf := (fun a => (a.length ≤ maxLen ∧ ∀ c ∈ a, wfI .i64 c))) Tryz.underlying44 (by kernel_rfl) (by decide) (fun _ _ => rfl) NC_L_int_43.opn hf
    simp [Value.cells] at hcs
    subst hcs
    exact ⟨l, hw, hs⟩
  obtain ⟨b3, rfl, rfl, rfl, w3⟩ := open_int Tryz.underlying3 (hval 3 3 v3 rfl rfl) h3
  obtain ⟨b4, rfl, rfl, rfl, w4⟩ := open_int Tryz.underlying3 (hval 4 3 v4 rfl rfl) h4
  clear hA0 hval0
  obtain ⟨n, hn⟩ := law5 b0 b1 b2 b3 b4 w0 w1 w2 w3 w4
  refine ((law43_PlaylistSpreadsAsSpecified_ok n b0 b1 b2 b3 b4 _ _ _ hn).law (w := W) (fun k h hk => by
    match k, hk with
    | 0, hk => cases hk; exact s0 _
    | 1, hk => cases hk; exact s1 _
    | 2, hk => cases hk; exact s2 _
    | 3, hk => cases hk; exact globP hL hsh _)).mono fun e W' ⟨he, bel⟩ => ?_
  subst he
  exact ⟨_, rfl, _, _, _, [], _, [], hW', trodAll_mk1 (shut_bool Tryz.underlying4 _), (trodAll_cons_mk (Below.trod laidOut (by kernel_rfl) (of_decide_eq_true (by kernel_rfl)) k0 bel lt0) (trodAll_cons_mk (Below.trod laidOut (by kernel_rfl) (of_decide_eq_true (by kernel_rfl)) k1 bel lt1) (trodAll_cons_mk (Below.trod laidOut (by kernel_rfl) (of_decide_eq_true (by kernel_rfl)) k2 bel lt2) (trodAll_cons_mk (shut_int Tryz.underlying3 w3) (trodAll_cons_mk (shut_int Tryz.underlying3 w4) trodAll_mk0))))), rfl, bel.frame _, fun h => by cases h⟩

theorem over : Rows.PlaylistSpreadsAsSpecifiedSaid :=
  OpenClaim.holds_of_cond 5 Tryz.f5 rfl rfl rfl rfl rfl rfl rfl ⟨rfl, rfl, rfl, rfl, rfl⟩ rfl rfl rfl rfl rfl (by kernel_rfl) Tryz.func5 (by kernel_rfl)
    (of_decide_eq_true (by kernel_rfl)) (by unfold Func.isWrapper; first | (rw [if_pos (by decide +kernel)]; kernel_rfl) | (rw [if_neg (by decide +kernel)]; exact ⟨rfl, rfl⟩))
    (fun os started H enc _ F => by rw [OpenClaim.pre_eq_preRow]; exact lifted os started H enc F)
theorem plain (f : FuncId) (fn : Func) (hf : Tryz.pinned.checked.prog.funcNamed "weirgate/weirgatelaw43.PlaylistSpreadsAsSpecified" = some f) (hfn : Tryz.pinned.checked.prog.funcs[f]? = some fn) :
    true = Tryz.pinned.checked.prog.looks [] ∧ ∀ (j : Nat) t, fn.params[j]? = some t → Tryz.pinned.checked.prog.wantsStandIn t = false := by
  obtain rfl : f = 5 := Option.some.inj ((show Tryz.prog.funcNamed "weirgate/weirgatelaw43.PlaylistSpreadsAsSpecified" = some 5 by kernel_rfl).symm.trans hf) |>.symm
  obtain rfl : fn = Tryz.f5 := (Option.some.inj (Tryz.func5.symm.trans hfn)).symm
  refine ⟨by kernel_rfl, fun j t ht => ?_⟩
  rw [Tryz.params5] at ht
  have hm := Array.mem_of_getElem? ht
  simp only [List.mem_toArray, List.mem_cons, List.not_mem_nil, or_false] at hm
  rcases hm with rfl | rfl | rfl | rfl | rfl
  · exact (show Tryz.prog.wantsStandIn 22 = false by kernel_rfl)
  · exact (show Tryz.prog.wantsStandIn 43 = false by kernel_rfl)
  · exact (show Tryz.prog.wantsStandIn 44 = false by kernel_rfl)
  · exact (show Tryz.prog.wantsStandIn 3 = false by kernel_rfl)
  · exact (show Tryz.prog.wantsStandIn 3 = false by kernel_rfl)
/-- the statement -/
theorem proved : Rows.PlaylistSpreadsAsSpecifiedCardSaid :=
  Claim7.holds_tied_plain_at .later [] _ _ _ _ over (fun _ h => by cases h) (by kernel_rfl) (fun _ h => by cases h) playlistSpreadsAsSpecified_row_tie rfl ⟨rfl, rfl⟩ (by kernel_rfl) rfl plain (by kernel_rfl)
end Go.Proofs.YtbgpojdmdnkeaaaGreatDoor.lawC5
