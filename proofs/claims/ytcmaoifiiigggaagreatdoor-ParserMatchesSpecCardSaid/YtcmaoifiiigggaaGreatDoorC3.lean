/-
  The statement of the law ParserMatchesSpec.
-/
import Derived.Test.YtcmaoifiiigggaaGreatDoorV3Own
import Derived.Test.YtcmaoifiiigggaaGreatDoorV3M40
import Derived.Test.YtcmaoifiiigggaaGreatDoorFq
import Derived.Test.YtcmaoifiiigggaaGreatDoorM1
import Derived.Test.YtcmaoifiiigggaaGreatDoorCards
import Derived.Test.YtcmaoifiiigggaaGreatDoorTie
import Derived.Deep.DeepWitnessRowRef
set_option linter.unusedSimpArgs false
set_option linter.unusedVariables false
namespace Go.Proofs.YtcmaoifiiigggaaGreatDoor.lawC3
open Go.Abs Go.ChangeShapes Go.WideShapes Go.ChangeAt Go.RowKit
open Go.ChangeMaps (open_string shut_string)
theorem own:ownKnob Tryz.prog.godebug=none:=by kernel_rfl
theorem z8k:laidOutB Tryz.prog=true:=by kernel_rfl
theorem reads (os:Os) {H:Type} (enc:TypeId×Value→H):∃ places,DataW.whole enc Tryz.prog ((z6L os).forCall (fun _ _=>0) ⟨#[],#[.string ⟨#[]⟩],[]⟩).memory Tryz.f3.params.toList Rows.parserMatchesSpecSpec.vars false (#[.string ⟨#[]⟩]:Array Value).toList 8=some ([.lit (.string [])],[],places):=
 ⟨[],by kernel_rfl⟩
set_option maxRecDepth 100000 in
theorem lifted (os:Os) (started:os.Started) (H:Type) (enc:TypeId×Value→H) (F:Stop.Interp) :
  ReturnsInHanded {} Tryz.checked os 3 .any ((OpenSpec.ofChange Rows.parserMatchesSpecSpec).preRow enc Tryz.prog Tryz.f3 Rows.parserMatchesSpecRow.domain false Rows.parserMatchesSpecRow.laid) (((OpenSpec.ofChange Rows.parserMatchesSpecSpec).at F).post enc Tryz.prog Tryz.f3 false true false false):=by
 obtain ⟨places,hx⟩:=reads os enc
 refine returnsInHanded_of_row (C:=Tryz.checked) (s:=OpenSpec.ofChange Rows.parserMatchesSpecSpec) own started (by kernel_rfl) Tryz.func3
  (witness_row_atRef (enc:=enc) (C:=Tryz.checked) false (z6L os) #[.string ⟨#[]⟩] rfl (by kernel_rfl) (by kernel_rfl) (by kernel_rfl)
   (OpenSpec.preRow_of_cond 8 hx (by kernel_rfl) (fun k hk=>by cases hk) (by kernel_rfl) (z81 os _))) ?_
 intro W base args ds gs before hval0 hW _ _ _ hL hsh _
 have hval:∀ (j:Nat) t v,Tryz.f3.params[j]? = some t→args[j]? = some v→Value.okWide Tryz.prog W .any base t v:=hval0
 have hW':=hW
 obtain ⟨p,q,hA0,hV,rfl,hfz,hnd⟩:=hW
 have hA:DataW.TrodAll enc Tryz.prog W 0 (fun _=>true) true Tryz.f3.params.toList args.toList ds p:=hA0
 rw [Tryz.params3] at hA hval
 obtain ⟨v0,vs0,d0,ds0,p0,q0,hargs,rfl,rfl,h0,r0⟩:=trodAll_cons hA
 obtain ⟨rfl,rfl,rfl⟩:=trodAll_nil r0
 obtain rfl:args = #[v0]:=by cases args; simp_all
 obtain ⟨rfl,rfl⟩:=trodVars_none hV
 have k0:=h0
 have lt0:∀ x∈p0,x.block<W.heap.size:=by obtain ⟨m,hm⟩:=k0; exact DataW.trod_lt m _ _ _ hm
 obtain ⟨q0,rfl⟩:=okWide_string Tryz.underlying9 (hval 0 9 v0 rfl rfl)
 obtain ⟨b0,rfl,w0⟩ : ∃ b:List UInt8,q0=bs b∧b.length≤maxLen:=by
  obtain ⟨fuel,hf⟩:=h0
  obtain ⟨b,e,hb⟩:=zhz Tryz.underlying9 _ _ _ hf
  simp [Value.cells,eStr] at e
  exact ⟨b,e,hb⟩
 clear hA0 hval0
 obtain ⟨n,hn⟩:=law3 b0 w0
 refine ((zaT n b0  hn).law (w:=W) (fun k h hk=>by
  match k,hk with
  | 0,hk=>cases hk; exact globP hL hsh _)).mono fun e W' ⟨he,bel⟩=>?_
 subst he
 exact ⟨_,rfl,_,_,_,[],_,[],hW',trodAll_mk1 (shut_bool Tryz.underlying4 _),(trodAll_cons_mk (Below.trod z8k (by kernel_rfl) (of_decide_eq_true (by kernel_rfl)) k0 bel lt0) trodAll_mk0),rfl,bel.frame _,fun h=>by cases h⟩
theorem z9W:(Rows.parserMatchesSpecRow.inPlace == Tryz.prog.inPlace 3)=true:=by kernel_rfl
theorem z5z:(Rows.parserMatchesSpecRow.unfollowed == Tryz.prog.unfollowed 3)=true:=by kernel_rfl
theorem z8j:(Rows.parserMatchesSpecRow.recurses == Tryz.prog.recurses 3)=true:=by kernel_rfl
theorem zgp:(Rows.parserMatchesSpecRow.named == Tryz.prog.varsNamed 3)=true:=by kernel_rfl
theorem facts:joinedFacts Tryz.prog 3 Tryz.f3 (OpenSpec.ofChange Rows.parserMatchesSpecSpec).bare Rows.parserMatchesSpecRow=true:=by
 unfold joinedFacts
 rw [z8k,z9W,z5z,z8j,zgp]
 kernel_rfl
theorem over:Rows.ParserMatchesSpecSaid:=
 OpenClaim.holds_of_cond 3 Tryz.f3 rfl rfl rfl rfl rfl rfl rfl ⟨rfl,rfl,rfl,rfl,rfl⟩ rfl rfl rfl rfl rfl (by kernel_rfl) Tryz.func3 facts
  (of_decide_eq_true (by kernel_rfl)) (by unfold Func.isWrapper; first | (rw [if_pos (by decide +kernel)]; kernel_rfl) | (rw [if_neg (by decide +kernel)]; exact ⟨rfl,rfl⟩))
  (fun os started H enc _ F=>by rw [OpenClaim.pre_eq_preRow]; exact lifted os started H enc F)
theorem plain (f:FuncId) (fn:Func) (hf:Tryz.pinned.checked.prog.funcNamed "weirgate/weirgatelaw19.ParserMatchesSpec" = some f) (hfn:Tryz.pinned.checked.prog.funcs[f]? = some fn) :
  true=Tryz.pinned.checked.prog.looks []∧∀ (j:Nat) t,fn.params[j]? = some t→Tryz.pinned.checked.prog.wantsStandIn t=false:=by
 obtain rfl:f=3:=Option.some.inj ((show Tryz.prog.funcNamed "weirgate/weirgatelaw19.ParserMatchesSpec" = some 3 by kernel_rfl).symm.trans hf) |>.symm
 obtain rfl:fn=Tryz.f3:=(Option.some.inj (Tryz.func3.symm.trans hfn)).symm
 refine ⟨by kernel_rfl,fun j t ht=>?_⟩
 rw [Tryz.params3] at ht
 have hm:=Array.mem_of_getElem? ht
 simp only [List.mem_toArray,List.mem_cons,List.not_mem_nil,or_false] at hm
 subst hm
 ·exact (show Tryz.prog.wantsStandIn 9=false by kernel_rfl)
theorem proved:Rows.ParserMatchesSpecCardSaid:=
 Claim7.holds_tied_plain_at .later [] _ _ _ _ over (fun _ h=>by cases h) (by kernel_rfl) (fun _ h=>by cases h) parserMatchesSpec_row_tie rfl ⟨rfl,rfl⟩ (by kernel_rfl) rfl plain (by kernel_rfl)
end Go.Proofs.YtcmaoifiiigggaaGreatDoor.lawC3
