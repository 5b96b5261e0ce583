/-
  The statement of the law ParserPrintsAsSpecified, where what it reads is of bulk at most 1048576.
-/
import Derived.Test.YtcmaoifiiigggaaGreatDoorV8M47
import Derived.Test.YtcmaoifiiigggaaGreatDoorCards
import Derived.Test.YtcmaoifiiigggaaGreatDoorTie
import Derived.Deep.DeepWitnessRowRef
set_option linter.unusedSimpArgs false
set_option linter.unusedVariables false
namespace Go.Proofs.YtcmaoifiiigggaaGreatDoor.lawC8
open Go.Abs Go.ChangeShapes Go.WideShapes Go.ChangeAt Go.RowKit
open Go.ChangeMaps (open_string shut_string)
theorem own:ownKnob Tryz.prog.godebug=none:=by kernel_rfl
theorem z8k:laidOutB Tryz.prog=true:=by kernel_rfl
theorem reads (os:Os) {H:Type} (enc:TypeId×Value→H):∃ places,DataW.whole enc Tryz.prog ((z6L os).forCall (fun _ _=>0) ⟨#[],#[.agg #[.slice none 0 0,.slice none 0 0],.agg #[.int .i64 0,.int .i64 0,.string ⟨#[]⟩,.slice none 0 0]],[]⟩).memory Tryz.f8.params.toList Rows.parserPrintsAsSpecifiedSpec.vars false (#[.agg #[.slice none 0 0,.slice none 0 0],.agg #[.int .i64 0,.int .i64 0,.string ⟨#[]⟩,.slice none 0 0]]:Array Value).toList 8=some ([.agg [.nil,.nil],.agg [.lit (.int .i64 0),.lit (.int .i64 0),.lit (.string []),.nil]],[],places):=
 ⟨[],by kernel_rfl⟩
set_option maxRecDepth 100000 in
theorem lifted (os:Os) (started:os.Started) (H:Type) (enc:TypeId×Value→H) (F:Stop.Interp) :
  ReturnsInHanded {} Tryz.checked os 8 .any ((Rows.OpenSpec.upto Rows.parserPrintsAsSpecifiedSpec).preRow enc Tryz.prog Tryz.f8 Rows.parserPrintsAsSpecifiedUptoRow.domain false Rows.parserPrintsAsSpecifiedUptoRow.laid) (((Rows.OpenSpec.upto Rows.parserPrintsAsSpecifiedSpec).at F).post enc Tryz.prog Tryz.f8 false true false false):=by
 obtain ⟨places,hx⟩:=reads os enc
 refine returnsInHanded_of_row (C:=Tryz.checked) (s:=Rows.OpenSpec.upto Rows.parserPrintsAsSpecifiedSpec) own started (by kernel_rfl) Tryz.func8
  (witness_row_atRef (enc:=enc) (C:=Tryz.checked) false (z6L os) #[.agg #[.slice none 0 0,.slice none 0 0],.agg #[.int .i64 0,.int .i64 0,.string ⟨#[]⟩,.slice none 0 0]] rfl (by kernel_rfl) (by kernel_rfl) (by kernel_rfl)
   (OpenSpec.preRow_of_cond 8 hx (by kernel_rfl) (fun k hk=>by cases hk; rfl) (by kernel_rfl) (z81 os _))) ?_
 intro W base args ds gs before hval0 hW _ hcnd _ hL hsh _
 have hval:∀ (j:Nat) t v,Tryz.f8.params[j]? = some t→args[j]? = some v→Value.okWide Tryz.prog W .any base t v:=hval0
 have hW':=hW
 obtain ⟨p,q,hA0,hV,rfl,hfz,hnd⟩:=hW
 have hA:DataW.TrodAll enc Tryz.prog W 0 (fun _=>true) true Tryz.f8.params.toList args.toList ds p:=hA0
 rw [Tryz.params8] at hA hval
 obtain ⟨v0,vs0,d0,ds0,p0,q0,hargs,rfl,rfl,h0,r0⟩:=trodAll_cons hA
 obtain ⟨v1,vs1,d1,ds1,p1,q1,rfl,rfl,rfl,h1,r1⟩:=trodAll_cons r0
 obtain ⟨rfl,rfl,rfl⟩:=trodAll_nil r1
 obtain rfl:args = #[v0,v1]:=by cases args; simp_all
 obtain ⟨rfl,rfl⟩:=trodVars_none hV
 have k0:=h0
 have lt0:∀ x∈p0,x.block<W.heap.size:=by obtain ⟨m,hm⟩:=k0; exact DataW.trod_lt m _ _ _ hm
 have k1:=h1
 have lt1:∀ x∈p1,x.block<W.heap.size:=by obtain ⟨m,hm⟩:=k1; exact DataW.trod_lt m _ _ _ hm
 have hk2:Rows.uptoBulkAll ([d0,d1]:List (DataW H))≤1048576:=of_decide_eq_true (hcnd _ rfl)
 have u0:Rows.uptoBulk d0≤1048576:=Nat.le_trans (zyO (by simp)) hk2
 have u1:Rows.uptoBulk d1≤1048576:=Nat.le_trans (zyO (by simp)) hk2
 obtain ⟨c0,rfl,_⟩:=okWide_struct Tryz.underlying26 (hval 0 26 v0 rfl rfl)
 obtain ⟨b0,x1,x2,eb0,hz,s1,s2⟩ : ∃ (b:zG) (x1 x2:Value),c0.toList=[x1,x2]∧szSrc b≤1048576∧(∀ k,(nro x1 zz b.Policies).p W noO k)∧∀ k,(nro x2 zw b.Programs).p W noO k:=by
  obtain ⟨fuel,hf⟩:=h0
  obtain ⟨p,y1,y2,e1,e2,e3,e4⟩:=zz0 hf
  exact ⟨p,y1,y2,e1,Nat.le_trans e2 u0,e3,e4⟩
 obtain rfl:c0 = #[x1,x2]:=by cases c0; simp_all
 obtain ⟨c1,rfl,_⟩:=okWide_struct Tryz.underlying47 (hval 1 47 v1 rfl rfl)
 obtain ⟨b1,x3,eb1,hz1,s3⟩ : ∃ (b:zi) (x3:Value),c1.toList=[.int .i64 b.Op,.int .i64 b.At,.string (bs b.S),x3]∧szE b≤1048576∧∀ k,(nro x3 zj b.Args).p W noO k:=by
  obtain ⟨fuel,hf⟩:=h1
  obtain ⟨⟨p,g⟩,e1,e2,e3⟩:=zyX _ _ _ hf
  refine ⟨p,g,e1,Nat.le_trans e2 u1,fun k=>e3 k _ ?_⟩
  refine (congrArg (fun L=>nro g zj p.Args∈L) (TC.S_eq (T:=z1b) p g)).mpr ?_
  exact List.mem_singleton.2 rfl
 obtain rfl:c1 = #[.int .i64 b1.Op,.int .i64 b1.At,.string (bs b1.S),x3]:=by cases c1; simp_all
 clear hA0 hval0
 obtain ⟨n,hn⟩:=law8 b0 b1 hz hz1
 refine ((zfd n b0 b1 x1 x2 x3 hn).law (w:=W) (fun k h hk=>by
  match k,hk with
  | 0,hk=>cases hk; exact s1 _
  | 1,hk=>cases hk; exact s2 _
  | 2,hk=>cases hk; exact s3 _
  | 3,hk=>cases hk; exact globP hL hsh _)).mono fun e W' ⟨he,bel⟩=>?_
 subst he
 exact ⟨_,rfl,_,_,_,[],_,[],hW',trodAll_mk1 (shut_bool Tryz.underlying4 _),(trodAll_cons_mk (Below.trod z8k (by kernel_rfl) (of_decide_eq_true (by kernel_rfl)) k0 bel lt0) (trodAll_cons_mk (Below.trod z8k (by kernel_rfl) (of_decide_eq_true (by kernel_rfl)) k1 bel lt1) trodAll_mk0)),rfl,bel.frame _,fun h=>by cases h⟩
theorem z9W:(Rows.parserPrintsAsSpecifiedUptoRow.inPlace == Tryz.prog.inPlace 8)=true:=by kernel_rfl
theorem z5z:(Rows.parserPrintsAsSpecifiedUptoRow.unfollowed == Tryz.prog.unfollowed 8)=true:=by kernel_rfl
theorem z8j:(Rows.parserPrintsAsSpecifiedUptoRow.recurses == Tryz.prog.recurses 8)=true:=by kernel_rfl
theorem zgp:(Rows.parserPrintsAsSpecifiedUptoRow.named == Tryz.prog.varsNamed 8)=true:=by kernel_rfl
theorem facts:joinedFacts Tryz.prog 8 Tryz.f8 (Rows.OpenSpec.upto Rows.parserPrintsAsSpecifiedSpec).bare Rows.parserPrintsAsSpecifiedUptoRow=true:=by
 unfold joinedFacts
 rw [z8k,z9W,z5z,z8j,zgp]
 kernel_rfl
theorem over:Rows.ParserPrintsAsSpecifiedUptoSaid:=
 OpenClaim.holds_of_cond 8 Tryz.f8 rfl rfl rfl rfl rfl rfl rfl ⟨rfl,rfl,rfl,rfl,rfl⟩ rfl rfl rfl rfl rfl (by kernel_rfl) Tryz.func8 facts
  (of_decide_eq_true (by kernel_rfl)) (by unfold Func.isWrapper; first | (rw [if_pos (by decide +kernel)]; kernel_rfl) | (rw [if_neg (by decide +kernel)]; exact ⟨rfl,rfl⟩))
  (fun os started H enc _ F=>by rw [OpenClaim.pre_eq_preRow]; exact lifted os started H enc F)
theorem plain (f:FuncId) (fn:Func) (hf:Tryz.pinned.checked.prog.funcNamed "weirgate/weirgatelaw19.ParserPrintsAsSpecified" = some f) (hfn:Tryz.pinned.checked.prog.funcs[f]? = some fn) :
  true=Tryz.pinned.checked.prog.looks []∧∀ (j:Nat) t,fn.params[j]? = some t→Tryz.pinned.checked.prog.wantsStandIn t=false:=by
 obtain rfl:f=8:=Option.some.inj ((show Tryz.prog.funcNamed "weirgate/weirgatelaw19.ParserPrintsAsSpecified" = some 8 by kernel_rfl).symm.trans hf) |>.symm
 obtain rfl:fn=Tryz.f8:=(Option.some.inj (Tryz.func8.symm.trans hfn)).symm
 refine ⟨by kernel_rfl,fun j t ht=>?_⟩
 rw [Tryz.params8] at ht
 have hm:=Array.mem_of_getElem? ht
 simp only [List.mem_toArray,List.mem_cons,List.not_mem_nil,or_false] at hm
 rcases hm with rfl | rfl
 ·exact (show Tryz.prog.wantsStandIn 26=false by kernel_rfl)
 ·exact (show Tryz.prog.wantsStandIn 47=false by kernel_rfl)
theorem proved:Rows.ParserPrintsAsSpecifiedUptoCardSaid:=
 Claim7.holds_tied_plain_at .later [] _ _ _ _ over (fun _ h=>by cases h) (by kernel_rfl) (fun _ h=>by cases h) parserPrintsAsSpecifiedUpto_row_tie rfl ⟨rfl,rfl⟩ (by kernel_rfl) rfl plain (by kernel_rfl)
end Go.Proofs.YtcmaoifiiigggaaGreatDoor.lawC8
