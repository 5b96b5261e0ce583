/-
  The statement of the law TopEffectsBoundRuns, where what it reads is of bulk at most 1048576.
-/
import Derived.Test.YtgjcniomhahgkaaGreatDoorTfCa
import Derived.Test.YtgjcniomhahgkaaGreatDoorM50
set_option linter.unusedSimpArgs false
set_option linter.unusedVariables false
namespace Go.Proofs.YtgjcniomhahgkaaGreatDoor.lawC3
open Go.Abs Go.ChangeShapes Go.WideShapes Go.ChangeAt Go.RowKit
open Go.ChangeMaps (open_string shut_string)
set_option maxRecDepth 100000 in
theorem lifted (os:Os) (started:os.Started) (H:Type) (enc:TypeId×Value→H) (F:Stop.Interp) :
  ReturnsInHanded {} Tryz.checked os 3 .any ((Rows.OpenSpec.upto Rows.topEffectsBoundRunsSpec).preRow enc Tryz.prog Tryz.f3 Rows.topEffectsBoundRunsUptoRow.domain false Rows.topEffectsBoundRunsUptoRow.laid) (((Rows.OpenSpec.upto Rows.topEffectsBoundRunsSpec).at F).post enc Tryz.prog Tryz.f3 false true false false):=by
 obtain ⟨places,hx⟩:=reads os enc
 refine returnsInHanded_of_row (C:=Tryz.checked) (s:=Rows.OpenSpec.upto Rows.topEffectsBoundRunsSpec) own started (by kernel_rfl) Tryz.func3
  (witness_row_atRef (enc:=enc) (C:=Tryz.checked) false (zaH os) #[.agg #[.string ByteArray.empty,.slice none 0 0,.slice none 0 0],.agg #[.slice none 0 0,.int .i64 0]] rfl (by kernel_rfl) (by kernel_rfl) (by kernel_rfl)
   (OpenSpec.preRow_of_cond 8 hx (by kernel_rfl) (fun k hk=>by cases hk; rfl) (by kernel_rfl) (zbb os _))) ?_
 intro W base args ds gs before hval0 hW _ hcnd _ hL hsh _
 have hval:∀ (j:Nat) t v,Tryz.f3.params[j]? = some t→args[j]? = some v→Value.okWide Tryz.prog W .any base t v:=hval0
 have hW':=hW
 obtain ⟨p,q,hA0,hV,rfl,hfz,hnd⟩:=hW
 have hA:DataW.TrodAll enc Tryz.prog W 0 (fun _=>true) true Tryz.f3.params.toList args.toList ds p:=hA0
 rw [Tryz.params3] at hA hval
 obtain ⟨v0,vs0,d0,ds0,p0,q0,hargs,rfl,rfl,h0,r0⟩:=trodAll_cons hA
 obtain ⟨v1,vs1,d1,ds1,p1,q1,rfl,rfl,rfl,h1,r1⟩:=trodAll_cons r0
 obtain ⟨rfl,rfl,rfl⟩:=trodAll_nil r1
 obtain rfl:args = #[v0,v1]:=by cases args; simp_all
 obtain ⟨rfl,rfl⟩:=trodVars_none hV
 have k0:=h0
 have lt0:∀ x∈p0,x.block<W.heap.size:=by obtain ⟨m,hm⟩:=k0; exact DataW.trod_lt m _ _ _ hm
 have k1:=h1
 have lt1:∀ x∈p1,x.block<W.heap.size:=by obtain ⟨m,hm⟩:=k1; exact DataW.trod_lt m _ _ _ hm
 have hk2:Rows.uptoBulkAll ([d0,d1]:List (DataW H))≤1048576:=of_decide_eq_true (hcnd _ rfl)
 have u0:Rows.uptoBulk d0≤1048576:=Nat.le_trans (zaJ (by simp)) hk2
 obtain ⟨c0,rfl,_⟩:=okWide_struct Tryz.underlying25 (hval 0 25 v0 rfl rfl)
 obtain ⟨b0,x1,x2,eb0,hz,he,s1,s2⟩ : ∃ (b:zG) (x1 x2:Value),c0.toList=[.string (bs b.Name),x1,x2]∧z1y b.Code≤1048576∧b.Effects.length≤1048576∧(∀ k,(ro x1 1 (b.Effects.map (eInt .i64))).p W noO k)∧∀ k,(nro x2 zx b.Code).p W noO k:=by
  obtain ⟨fuel,hf⟩:=h0
  obtain ⟨p,y1,y2,e1,e2,e3,_,_,e6,e7⟩:=znI hf u0
  exact ⟨p,y1,y2,e1,e2,e3,e6,e7⟩
 obtain rfl:c0 = #[.string (bs b0.Name),x1,x2]:=by cases c0; simp_all
 obtain ⟨c1,rfl,_⟩:=okWide_struct Tryz.underlying28 (hval 1 28 v1 rfl rfl)
 obtain ⟨b1,x3,eb1,s3⟩ : ∃ (b:zP) (x3:Value),c1.toList=[x3,.int .i64 b.Status]∧∀ k,(ro x3 2 (b.Headers.map zp.enc)).p W noO k:=by
  obtain ⟨fuel,hf⟩:=h1
  exact zn4 hf
 obtain rfl:c1 = #[x3,.int .i64 b1.Status]:=by cases c1; simp_all
 clear hA0 hval0
 obtain ⟨n,hn⟩:=law b0 b1 hz he
 refine ((top_TopEffectsBoundRuns_k.out (p_0_Effectsv:=x1) (p_0_Codev:=x2) (e_1_Headersv:=x3) hn).law (w:=W) (fun k h hk=>by
  match k,hk with
  | 0,hk=>cases hk; exact s1 _
  | 1,hk=>cases hk; exact s2 _
  | 2,hk=>cases hk; exact s3 _
  | 3,hk=>cases hk; exact globP hL hsh _)).mono fun e W' ⟨he,bel⟩=>?_
 subst he
 exact ⟨_,rfl,_,_,_,[],_,[],hW',trodAll_mk1 (shut_bool Tryz.underlying4 _),(trodAll_cons_mk (Below.trod zea (by kernel_rfl) (of_decide_eq_true (by kernel_rfl)) k0 bel lt0) (trodAll_cons_mk (Below.trod zea (by kernel_rfl) (of_decide_eq_true (by kernel_rfl)) k1 bel lt1) trodAll_mk0)),rfl,bel.frame _,fun h=>by cases h⟩
theorem over:Rows.TopEffectsBoundRunsUptoSaid:=
 OpenClaim.holds_of_cond 3 Tryz.f3 rfl rfl rfl rfl rfl rfl rfl ⟨rfl,rfl,rfl,rfl,rfl⟩ rfl rfl rfl rfl rfl (by kernel_rfl) Tryz.func3 facts
  (of_decide_eq_true (by kernel_rfl)) (by unfold Func.isWrapper; first | (rw [if_pos (by decide +kernel)]; kernel_rfl) | (rw [if_neg (by decide +kernel)]; exact ⟨rfl,rfl⟩))
  (fun os started H enc _ F=>by rw [OpenClaim.pre_eq_preRow]; exact lifted os started H enc F)
theorem proved:Rows.TopEffectsBoundRunsUptoCardSaid:=
 Claim7.holds_tied_plain_at .later [] _ _ _ _ over (fun _ h=>by cases h) (by kernel_rfl) (fun _ h=>by cases h) topEffectsBoundRunsUpto_row_tie rfl ⟨rfl,rfl⟩ (by kernel_rfl) rfl plain (by kernel_rfl)
end Go.Proofs.YtgjcniomhahgkaaGreatDoor.lawC3
