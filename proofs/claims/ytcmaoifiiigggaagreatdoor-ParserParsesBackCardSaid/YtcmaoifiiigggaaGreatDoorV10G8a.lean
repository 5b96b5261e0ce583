/-
  Functions that the law ParserPrintsAsSpecified needs, lifted.
-/
import Derived.Test.YtcmaoifiiigggaaGreatDoorV10M22
import Derived.Test.YtcmaoifiiigggaaGreatDoorV10FaOwn
import Derived.Test.YtcmaoifiiigggaaGreatDoorFl
set_option linter.unusedSimpArgs false
set_option linter.unusedVariables false
namespace Go.Proofs.YtcmaoifiiigggaaGreatDoor
open Go.Abs
set_option maxRecDepth 20000
set_option maxHeartbeats 4000000
def z8h (n:Nat) (kind_1:Int) (l_2:(List (List UInt8))):(Int×(List z6))→Option (Lp (Int×(List z6)) (Pn (zo))):=
 fun (s_1,x_2)=>
  cond (decide (s_1<(l_2.length:Int)))
   (idx l_2 s_1 fun x9=>
   bindJ (S:=(List z6))
    (cond (decide (0 < s_1))
     (obind (zW n (zo.mk x_2) ([[44]]:List (List UInt8))) fun r18=>
     some (.go r18.l_))
     (some (.go x_2)))
   (fun x_10 =>
    obind (z14 (zo.mk x_10) kind_1 x9) fun r21=>
    some (.go ((IntKind.i64.wrap (s_1+1)),r21.l_))))
   (some (.stop (.ret (zo.mk x_2))))
def z30 (n:Nat) (w_0:zo) (kind_1:Int) (l_2:(List (List UInt8))):Option (Pn (zo)):=
 iter (z8h n kind_1 l_2) n (0,w_0.l_)
theorem z3k {n:Nat} {w_0:zo} {kind_1:Int} {l_2:(List (List UInt8))} {w_0b:Nat} {w_0_l_v:Value} {l_2v:Value} {r:Pn (zo)} (h:z30 n w_0 kind_1 l_2=some r) :
  z4t Tryz.prog 213 [boxP w_0b 0,.int .i64 kind_1,l_2v] [row w_0_l_v 3 (w_0.l_.map z6.enc),box w_0b [w_0_l_v],ro l_2v 1 (l_2.map eStr)] (fun v G=>∃ q,r = .ret q∧(∃ v0,v = .tuple #[]∧G=[row v0 3 (q.l_.map z6.enc),box w_0b [v0]])) (fun v=>∃ e,r = .pan e∧v = .iface 27 (.int .i64 e)):=by
 refine z1y Tryz.func213 rfl Tryz.ntmps213 rfl (fun w0 o0=>?_)
 refine zh ?_
 refine ys ?_
 refine zd ?_
 refine zF ?_
 refine lo h [0,1,8,9] [0,0,3] (fun s (g:Value)=>[(10,.int .i64 s.1)]) (fun s g=>[box w_0b [g],row g 3 (s.2.map z6.enc)]) _ [1,0,2] ?_
 rintro ⟨_,_⟩ _ _ h _ hgo5 hstop6
 refine rs ?_
 refine zh ?_
 refine ys ?_
 refine zc ?_
 refine rc h (fun _ h=>?_) (fun _ h=>?_)
 ·refine run_skip ?_
  refine zg ?_
  refine zF ?_
  refine zh ?_
  refine ys ?_
  obtain ⟨x9,hzx9,hlx9,hxx9,h⟩:=zP h
  refine ys ?_
  refine zd ?_
  refine jr h [0,1,7,8,9,10] [0,0,3] (fun s (g:Value)=>[]) (fun s g=>[box w_0b [g],row g 3 (s.map z6.enc)]) (fun _ h _ _ hL14=>?_) ?_
  ·refine zh ?_
   refine ys ?_
   refine zd ?_
   refine rc h (fun _ h=>?_) (fun _ h=>?_)
   ·refine rj [10,0,1,8,9,7] [0,1,2] ?_
    refine z8 ?_
    refine ys ?_
    refine zt (t_lit [.string (bs [44])] Tryz.runUnderlying62 Tryz.sizeOf9 Tryz.zeroValue9 rfl (by decide) (by decide) rfl (by simp [Value.cells,boxP])) ?_
    rintro v17 _ ⟨rfl,_⟩
    refine zB (retell 3 (g:=row v17 1 (([[44]]:List (List UInt8)).map eStr)) rfl rfl) ?_
    refine cl1 [(1,2),(0,2),(3,1)] Tryz.call116 (fun h=>zZ h) h (fun r18 v20 h=>?_)
    refine zr ?_
    exact gj hL14 _ [5,4,2] h
   ·refine run_skip ?_
    exact gj hL14 _ [0,1,2] h
  rintro x_10 v11 h
  refine rs ?_
  refine z8 ?_
  refine ys ?_
  refine cl1 [(1,2),(0,2)] Tryz.call113 (fun h=>z17 h) h (fun r21 v23 h=>?_)
  refine zr ?_
  refine zS ?_
  refine zf ?_
  refine ys ?_
  refine zr ?_
  exact gj hgo5 _ [4,3,2] h
 ·refine z1h _ rfl ?_
  refine z3d ?_
  obtain rfl:=zU h
  obtain rfl:=hstop6 _ rfl
  exact ft [] [1,0] Tryz.results213
end Go.Proofs.YtcmaoifiiigggaaGreatDoor
