/-
  The law ParserPrintsBack, lifted.
-/
import Derived.Test.YtcmaoifiiigggaaGreatDoorFq
import Derived.Test.YtcmaoifiiigggaaGreatDoorV9G3l
import Derived.Test.YtcmaoifiiigggaaGreatDoorV9G7a
import Derived.Test.YtcmaoifiiigggaaGreatDoorV9G8d
set_option linter.unusedSimpArgs false
set_option linter.unusedVariables false
namespace Go.Proofs.YtcmaoifiiigggaaGreatDoor
open Go.Abs
set_option maxRecDepth 20000
set_option maxHeartbeats 4000000
def zcp (n:Nat) (x_0:zG):Option (Bool):=
 obind (zii n x_0 300) fun r2=>
 cond (!r2)
  (obind (z1X n) fun r5=>
  some r5)
  (obind (za1 n x_0) fun r7=>
  cond (decide (r7.2≠0))
   (obind (z1X n) fun r10=>
   some ((r10 && decide (r7.1=[])) && (decide (r7.2=3) || decide (r7.2=2))))
   (obind (z39 n r7.1) fun r21=>
   obind (z1X n) fun r29=>
   bindJ (S:=Bool)
    (cond (r29 && (decide (r21.2.At = 0) && (decide (r21.2.E = 0))))
     (obind (z67 n r21.1) fun r40=>
     obind (z67 n x_0) fun r44=>
     obind (z5T n r40 r44) fun r48=>
     some (.go r48))
     (some (.go false)))
   (fun b34 =>
    some b34)))
theorem zhw (n:Nat) (x_0:zG) (x_0_Policiesv:Value) (x_0_Programsv:Value) {r:Bool} (h:zcp n x_0=some r) :
  Meets Tryz.prog 9 [.agg #[x_0_Policiesv,x_0_Programsv]] [nro x_0_Policiesv zz x_0.Policies,nro x_0_Programsv zw x_0.Programs,globA] (fun v G=>v = .bool r∧G=[]):=by
 refine zN Tryz.func9 rfl Tryz.ntmps9 rfl (fun w0 o0=>?_)
 refine zh ?_
 refine zt (t_box rfl) ?_
 rintro _ _ ⟨b1,rfl,rfl⟩
 refine ys ?_
 refine zc ?_
 refine zh ?_
 refine ys ?_
 refine cl0 [(0,0),(1,0)] Tryz.call25 (fun h=>zgB h) h (fun r2 h=>?_)
 refine ys ?_
 refine zd ?_
 refine rc h (fun _ h=>?_) (fun _ h=>?_)
 ·refine zh ?_
  refine cl0 [(2,0)] Tryz.call11 (fun h=>z1P h) h (fun r5 h=>?_)
  refine ys ?_
  refine zd ?_
  refine zA ?_
  exact fs [2] [] Tryz.results9 h
 ·refine run_skip ?_
  refine ze ?_
  refine ys ?_
  refine cl0 [(0,0),(1,0),(2,0)] Tryz.call27 (fun h=>z9c h) h (fun r7 h=>?_)
  refine ys ?_
  refine zc ?_
  refine zH ?_
  refine rj [1,3,4] [0,1,2,3] ?_
  refine z8 ?_
  refine ys ?_
  refine zd ?_
  refine rc h (fun _ h=>?_) (fun _ h=>?_)
  ·refine zh ?_
   refine cl0 [(2,0)] Tryz.call11 (fun h=>z1P h) h (fun r10 h=>?_)
   refine ys ?_
   refine oq 3 19 22 [4] [2] (r10 && decide (r7.1=[])) ?_
   refine ys ?_
   refine oe 7 [] [1] (fun s=>[(30,.bool s)]) ((r10 && decide (r7.1=[])) && (decide (r7.2=3) || decide (r7.2=2))) (fun _ hL16=>?_) ?_
   ·refine z1c 23 (r10 && decide (r7.1=[])) rfl (fun hg17=>?_) (fun hg17=>?_)
    ·skip
     refine ys ?_
     refine oq 3 26 29 [23] [0] (decide (r7.2=3) || decide (r7.2=2)) ?_
     refine ys ?_
     refine zr ?_
     exact gc hL16 (decide (r7.2=3) || decide (r7.2=2)) [0] (hi:=by rw [hg17]; simp)
    ·skip
     refine ys ?_
     refine z2p 8 false 26 rfl rfl rfl rfl rfl ?_
     refine z2p 8 false 26 rfl rfl rfl rfl rfl ?_
     refine ys ?_
     refine zr ?_
     exact gc hL16 false [0] (hi:=by rw [hg17]; simp)
   refine os ?_
   refine ys ?_
   refine zd ?_
   refine zA ?_
   exact fs [2] [] Tryz.results9 h
  ·refine run_skip ?_
   refine ze ?_
   refine ys ?_
   refine cl2 [(2,0)] Tryz.call12 (fun h=>z3m h) h (fun r21 v23 v24 h=>?_)
   refine ys ?_
   refine al fun b25=>?_
   refine al fun b26=>?_
   refine ys ?_
   refine zc ?_
   refine rj [1,5,6] [0,1,2,3,4,5,6,7] ?_
   refine rf [1,1,1,1,1,1,1,1] fun hS=>?_
   refine al0 0 [(2,0)] Tryz.call11 (fun h=>z1P h) h (fun r29 h=>?_)
   refine aq [1] ?_
   refine ae [6,8] 8 [1,5] [1,2,3,4,5,6,7,8] (fun s=>[(41,.bool s)]) (r29 && (decide (r21.2.At=0) && (decide (r21.2.E=0)))) (fun hL32=>?_) ?_
   ·refine z1L 37 r29 rfl (fun hg33=>?_) (fun hg33=>?_)
    ·skip
     refine aq [2,3] ?_
     refine ai 4 rfl (y_eqS (by kernel_rfl) (by kernel_rfl) Tryz.runUnderlying29 rfl rfl (.cons (z7k (by decide) Tryz.runUnderlying3 Tryz.isAgg3 rfl rfl) (.cons (z7k (by decide) Tryz.runUnderlying27 Tryz.isAgg27 rfl rfl) EqFs.nil))) ?_
     refine aq [5] ?_
     exact aw (hL32 (decide (r21.2.At=0) && (decide (r21.2.E=0))) (by rw [hg33]; simp)) [0,1,2,3,4,5,6,7]
    ·skip
     refine aq [2,3,4,5] ?_
     exact aw (hL32 false (by rw [hg33]; simp)) [0,1,2,3,4,5,6,7]
   refine az ?_
   refine aq [6] ?_
   refine ab h [13,1] 1 [] [1,2,3,4,5,6,7,8] (fun s=>[(48,.bool s)]) (fun s=>[]) (fun _ h _ hL38=>?_) ?_
   ·refine z1L 42 (r29 && (decide (r21.2.At=0) && (decide (r21.2.E=0)))) rfl (fun hg39=>?_) (fun hg39=>?_)
    ·replace h:=z2F h hg39
     refine aq [7,9] ?_
     refine al2 8 [(4,0),(5,0)] Tryz.call24 (fun h=>z5U h) h (fun r40 v42 v43 h=>?_)
     refine al2 10 [(0,0),(1,0)] Tryz.call24 (fun h=>z5U h) h (fun r44 v46 v47 h=>?_)
     refine al0 11 [(8,1),(9,1),(10,1),(11,1)] Tryz.call14 (fun h=>z6x h) h (fun r48 h=>?_)
     refine aq [12] ?_
     exact aw (hL38 _ (zU h).symm) [0,1,2,3,4,5,6,7]
    ·replace h:=z2E h hg39
     refine aq [7,9,8,10,11,12] ?_
     exact aw (hL38 _ (zU h).symm) [0,1,2,3,4,5,6,7]
   rintro b34 h
   refine az ?_
   refine aq [13] ?_
   refine z1K (by kernel_rfl) ?_
   refine zD ?_
   refine zA ?_
   exact fs [2] [] Tryz.results9 h
end Go.Proofs.YtcmaoifiiigggaaGreatDoor
