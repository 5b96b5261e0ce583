/-
  The statement of the law ParserHasPrecedences.
-/
import Derived.Test.YtcmaoifiiigggaaGreatDoorV6M27
import Derived.Test.YtcmaoifiiigggaaGreatDoorFq
import Derived.Test.YtcmaoifiiigggaaGreatDoorCards
import Derived.Test.YtcmaoifiiigggaaGreatDoorTie
import Derived.Deep.DeepWitnessRowRef
set_option linter.unusedSimpArgs false
set_option linter.unusedVariables false
namespace Go.Proofs.YtcmaoifiiigggaaGreatDoor.lawC6
open Go.Abs Go.ChangeShapes Go.WideShapes Go.ChangeAt Go.RowKit
open Go.ChangeMaps (open_string shut_string)
theorem own:ownKnob Tryz.prog.godebug=none:=by kernel_rfl
theorem z8k:laidOutB Tryz.prog=true:=by kernel_rfl
theorem reads (os:Os) {H:Type} (enc:TypeId×Value→H):∃ places,DataW.whole enc Tryz.prog ((z6L os).forCall (fun _ _=>0) ⟨#[],#[.slice none 0 0],[]⟩).memory Tryz.f6.params.toList Rows.parserHasPrecedencesSpec.vars false (#[.slice none 0 0]:Array Value).toList 8=some ([.nil],[],places):=
 ⟨[],by kernel_rfl⟩
set_option maxRecDepth 100000 in
theorem lifted (os:Os) (started:os.Started) (H:Type) (enc:TypeId×Value→H) (F:Stop.Interp) :
  ReturnsInHanded {} Tryz.checked os 6 .any ((OpenSpec.ofChange Rows.parserHasPrecedencesSpec).preRow enc Tryz.prog Tryz.f6 Rows.parserHasPrecedencesRow.domain false Rows.parserHasPrecedencesRow.laid) (((OpenSpec.ofChange Rows.parserHasPrecedencesSpec).at F).post enc Tryz.prog Tryz.f6 false true false false):=by
 obtain ⟨places,hx⟩:=reads os enc
 refine returnsInHanded_of_row (C:=Tryz.checked) (s:=OpenSpec.ofChange Rows.parserHasPrecedencesSpec) own started (by kernel_rfl) Tryz.func6
  (witness_row_atRef (enc:=enc) (C:=Tryz.checked) false (z6L os) #[.slice none 0 0] rfl (by kernel_rfl) (by kernel_rfl) (by kernel_rfl)
   (OpenSpec.preRow_of_cond 8 hx (by kernel_rfl) (fun k hk=>by cases hk) (by kernel_rfl) (z81 os _))) ?_
 intro W base args ds gs before hval0 hW _ _ _ hL hsh _
 have hval:∀ (j:Nat) t v,Tryz.f6.params[j]? = some t→args[j]? = some v→Value.okWide Tryz.prog W .any base t v:=hval0
 have hW':=hW
 obtain ⟨p,q,hA0,hV,rfl,hfz,hnd⟩:=hW
 have hA:DataW.TrodAll enc Tryz.prog W 0 (fun _=>true) true Tryz.f6.params.toList args.toList ds p:=hA0
 rw [Tryz.params6] at hA hval
 obtain ⟨v0,vs0,d0,ds0,p0,q0,hargs,rfl,rfl,h0,r0⟩:=trodAll_cons hA
 obtain ⟨rfl,rfl,rfl⟩:=trodAll_nil r0
 obtain rfl:args = #[v0]:=by cases args; simp_all
 obtain ⟨rfl,rfl⟩:=trodVars_none hV
 have k0:=h0
 have lt0:∀ x∈p0,x.block<W.heap.size:=by obtain ⟨m,hm⟩:=k0; exact DataW.trod_lt m _ _ _ hm
 obtain ⟨a0,len0,cap0,rfl⟩:=okWide_slice Tryz.underlying58 (hval 0 58 v0 rfl rfl)
 obtain ⟨b0,w0,s0⟩ : ∃ b:List UInt8,(b.length≤maxLen∧∀ a∈b,a=a)∧∀ k,(ro (.slice a0 len0 cap0) 1 (b.map eB8)).p W noO k:=by
  obtain ⟨fuel,hf⟩:=h0
  obtain ⟨vv,l,hcs,hw,hs⟩:=zkM (es:=1) (F:=eB8) (wf:=(fun a=>a=a)) Tryz.underlying58 (by kernel_rfl) (by decide) (fun a=>(zhZ a).1) (zs6 Tryz.underlying5) hf
  simp [Value.cells] at hcs
  subst hcs
  exact ⟨l,hw,hs⟩
 clear hA0 hval0
 obtain ⟨n,hn⟩:=law6 b0 w0
 refine ((z9J n b0 _ hn).law (w:=W) (fun k h hk=>by
  match k,hk with
  | 0,hk=>cases hk; exact s0 _
  | 1,hk=>cases hk; exact globP hL hsh _)).mono fun e W' ⟨he,bel⟩=>?_
 subst he
 exact ⟨_,rfl,_,_,_,[],_,[],hW',trodAll_mk1 (shut_bool Tryz.underlying4 _),(trodAll_cons_mk (Below.trod z8k (by kernel_rfl) (of_decide_eq_true (by kernel_rfl)) k0 bel lt0) trodAll_mk0),rfl,bel.frame _,fun h=>by cases h⟩
theorem z9W:(Rows.parserHasPrecedencesRow.inPlace == Tryz.prog.inPlace 6)=true:=by kernel_rfl
theorem z5z:(Rows.parserHasPrecedencesRow.unfollowed == Tryz.prog.unfollowed 6)=true:=by kernel_rfl
theorem z8j:(Rows.parserHasPrecedencesRow.recurses == Tryz.prog.recurses 6)=true:=by kernel_rfl
theorem zgp:(Rows.parserHasPrecedencesRow.named == Tryz.prog.varsNamed 6)=true:=by kernel_rfl
theorem facts:joinedFacts Tryz.prog 6 Tryz.f6 (OpenSpec.ofChange Rows.parserHasPrecedencesSpec).bare Rows.parserHasPrecedencesRow=true:=by
 unfold joinedFacts
 rw [z8k,z9W,z5z,z8j,zgp]
 kernel_rfl
theorem over:Rows.ParserHasPrecedencesSaid:=
 OpenClaim.holds_of_cond 6 Tryz.f6 rfl rfl rfl rfl rfl rfl rfl ⟨rfl,rfl,rfl,rfl,rfl⟩ rfl rfl rfl rfl rfl (by kernel_rfl) Tryz.func6 facts
  (of_decide_eq_true (by kernel_rfl)) (by unfold Func.isWrapper; first | (rw [if_pos (by decide +kernel)]; kernel_rfl) | (rw [if_neg (by decide +kernel)]; exact ⟨rfl,rfl⟩))
  (fun os started H enc _ F=>by rw [OpenClaim.pre_eq_preRow]; exact lifted os started H enc F)
theorem plain (f:FuncId) (fn:Func) (hf:Tryz.pinned.checked.prog.funcNamed "weirgate/weirgatelaw19.ParserHasPrecedences" = some f) (hfn:Tryz.pinned.checked.prog.funcs[f]? = some fn) :
  true=Tryz.pinned.checked.prog.looks []∧∀ (j:Nat) t,fn.params[j]? = some t→Tryz.pinned.checked.prog.wantsStandIn t=false:=by
 obtain rfl:f=6:=Option.some.inj ((show Tryz.prog.funcNamed "weirgate/weirgatelaw19.ParserHasPrecedences" = some 6 by kernel_rfl).symm.trans hf) |>.symm
 obtain rfl:fn=Tryz.f6:=(Option.some.inj (Tryz.func6.symm.trans hfn)).symm
 refine ⟨by kernel_rfl,fun j t ht=>?_⟩
 rw [Tryz.params6] at ht
 have hm:=Array.mem_of_getElem? ht
 simp only [List.mem_toArray,List.mem_cons,List.not_mem_nil,or_false] at hm
 subst hm
 ·exact (show Tryz.prog.wantsStandIn 58=false by kernel_rfl)
theorem proved:Rows.ParserHasPrecedencesCardSaid:=
 Claim7.holds_tied_plain_at .later [] _ _ _ _ over (fun _ h=>by cases h) (by kernel_rfl) (fun _ h=>by cases h) parserHasPrecedences_row_tie rfl ⟨rfl,rfl⟩ (by kernel_rfl) rfl plain (by kernel_rfl)
end Go.Proofs.YtcmaoifiiigggaaGreatDoor.lawC6
