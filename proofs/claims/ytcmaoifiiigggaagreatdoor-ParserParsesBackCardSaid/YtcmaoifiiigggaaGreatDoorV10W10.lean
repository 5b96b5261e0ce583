/-
  The law ParserParsesBack, lifted.
-/
import Derived.Test.YtcmaoifiiigggaaGreatDoorV10M22
import Derived.Test.YtcmaoifiiigggaaGreatDoorV10FaOwn
import Derived.Test.YtcmaoifiiigggaaGreatDoorFq
import Derived.Test.YtcmaoifiiigggaaGreatDoorV10G3l
import Derived.Test.YtcmaoifiiigggaaGreatDoorV10G7a
import Derived.Test.YtcmaoifiiigggaaGreatDoorV10G8d
set_option linter.unusedSimpArgs false
set_option linter.unusedVariables false
namespace Go.Proofs.YtcmaoifiiigggaaGreatDoor
open Go.Abs
set_option maxRecDepth 20000
set_option maxHeartbeats 4000000
def zco (n:Nat) (s_0:(List UInt8)):Option (Bool):=
 cond (decide (2000<(s_0.length:Int)))
  (obind (z1X n) fun r2=>
  some r2)
  (obind (z39 n s_0) fun r4=>
  cond (decide (r4.2.E≠0))
   (obind (z1X n) fun r13=>
   bindJ (S:=Bool)
    (cond ((r13 && decide (0 ≤ r4.2.At)) && decide (r4.2.At ≤ (s_0.length : Int)))
     (obind (zcG n r4.1 (zG.mk ([]:List zL) ([]:List zI))) fun r27=>
     some (.go r27))
     (some (.go false)))
   (fun b21 =>
    some b21))
   (obind (za1 n r4.1) fun r29=>
   cond (decide (r29.2=2))
    (obind (z1X n) fun r32=>
    some r32)
    (obind (z39 n r29.1) fun r34=>
    obind (za1 n r34.1) fun r42=>
    obind (z1X n) fun r44=>
    bindJ (S:=Bool)
     (cond ((r44 && decide (r29.2 = 0)) && (decide (r34.2.At = 0) && (decide (r34.2.E = 0))))
      (obind (z67 n r4.1) fun r58=>
      obind (z67 n r34.1) fun r62=>
      obind (z5T n r58 r62) fun r66=>
      some (.go r66))
      (some (.go false)))
    (fun b52 =>
     some ((b52 && decide (r42.2=0)) && decide (r42.1=r29.1))))))
theorem zb9 (n:Nat) (s_0:(List UInt8))  {r:Bool} (h:zco n s_0=some r) :
  Meets Tryz.prog 10 [.string (bs s_0)] [globA] (fun v G=>v = .bool r∧G=[]):=by
 refine zN Tryz.func10 rfl Tryz.ntmps10 rfl (fun w0 o0=>?_)
 refine zh ?_
 refine ys ?_
 refine zc ?_
 refine zh ?_
 refine ys ?_
 refine zd ?_
 refine rc h (fun _ h=>?_) (fun _ h=>?_)
 ·refine zh ?_
  refine cl0 [(0,0)] Tryz.call11 (fun h=>z1P h) h (fun r2 h=>?_)
  refine ys ?_
  refine zd ?_
  refine zA ?_
  exact fs [2] [] Tryz.results10 h
 ·refine run_skip ?_
  refine ze ?_
  refine ys ?_
  refine cl2 [(0,0)] Tryz.call12 (fun h=>z3m h) h (fun r4 v6 v7 h=>?_)
  refine ys ?_
  refine al fun b8=>?_
  refine al fun b9=>?_
  refine ys ?_
  refine zc ?_
  refine zH ?_
  refine rj [0,3,4] [0,1,2,3,4] ?_
  refine z8 ?_
  refine ys ?_
  refine zd ?_
  refine rc h (fun _ h=>?_) (fun _ h=>?_)
  ·refine zh ?_
   refine cl0 [(0,0)] Tryz.call11 (fun h=>z1P h) h (fun r13 h=>?_)
   refine ys ?_
   refine oq 4 24 28 [0,3,4] [0,1,2,3,4] (r13 && decide (0≤r4.2.At)) ?_
   refine ys ?_
   refine oq 6 29 35 [3] [0,1,2,3] ((r13 && decide (0≤r4.2.At)) && decide (r4.2.At≤(s_0.length:Int))) ?_
   refine ys ?_
   refine ob h 4 [] [1] (fun s=>[(40,.bool s)]) (fun s=>[]) (fun _ h _ _ hL25=>?_) ?_
   ·refine z1c 36 ((r13 && decide (0≤r4.2.At)) && decide (r4.2.At≤(s_0.length:Int))) rfl (fun hg26=>?_) (fun hg26=>?_)
    ·replace h:=z2F h hg26
     refine ys ?_
     refine zB (z1q zz) ?_
     refine zB (z1q zw) ?_
     refine cl0 [(1,0),(2,0),(4,2),(5,2)] Tryz.call14 (fun h=>zfE h) h (fun r27 h=>?_)
     refine ys ?_
     refine zr ?_
     exact gb hL25 [0] h
    ·replace h:=z2E h hg26
     refine ys ?_
     refine zr ?_
     exact gb hL25 [0] h
   rintro b21 h
   refine os ?_
   refine ys ?_
   refine zd ?_
   refine zA ?_
   exact fs [2] [] Tryz.results10 h
  ·refine run_skip ?_
   refine ze ?_
   refine ys ?_
   refine cl0 [(1,0),(2,0),(0,0)] Tryz.call27 (fun h=>z9c h) h (fun r29 h=>?_)
   refine ys ?_
   refine zc ?_
   refine zH ?_
   refine rj [3,5,6] [0,1,2,3] ?_
   refine z8 ?_
   refine ys ?_
   refine zd ?_
   refine rc h (fun _ h=>?_) (fun _ h=>?_)
   ·refine zh ?_
    refine cl0 [(0,0)] Tryz.call11 (fun h=>z1P h) h (fun r32 h=>?_)
    refine ys ?_
    refine zd ?_
    refine zA ?_
    exact fs [2] [] Tryz.results10 h
   ·refine run_skip ?_
    refine ze ?_
    refine ys ?_
    refine cl2 [(0,0)] Tryz.call12 (fun h=>z3m h) h (fun r34 v36 v37 h=>?_)
    refine ys ?_
    refine al fun b38=>?_
    refine al fun b39=>?_
    refine ys ?_
    refine zc ?_
    refine rj [3,5,6,7,8] [0,1,2,3,4,5,6,7] ?_
    refine z8 ?_
    refine ys ?_
    refine cl0 [(4,0),(5,0),(0,0)] Tryz.call27 (fun h=>z9c h) h (fun r42 h=>?_)
    refine ys ?_
    refine zc ?_
    refine rf [1,1,1,1,1,1,1,1] fun hS=>?_
    refine al0 0 [(0,0)] Tryz.call11 (fun h=>z1P h) h (fun r44 h=>?_)
    refine aq [1] ?_
    refine ae [5,22] 22 [3,5,7,8,9,10] [1,2,3,4,5,6,7,8] (fun s=>[(63,.bool s)]) (r44 && decide (r29.2=0)) (fun hL47=>?_) ?_
    ·refine z1L 60 r44 rfl (fun hg48=>?_) (fun hg48=>?_)
     ·skip
      refine aq [2,3,4] ?_
      exact aw (hL47 (decide (r29.2=0)) (by rw [hg48]; simp)) [0,1,2,3,4,5,6,7]
     ·skip
      refine aq [2,3,4] ?_
      exact aw (hL47 false (by rw [hg48]; simp)) [0,1,2,3,4,5,6,7]
    refine az ?_
    refine aq [5] ?_
    refine ae [10,17] 17 [3,5,7,9,10] [1,2,3,4,5,6,7,8] (fun s=>[(68,.bool s)]) ((r44 && decide (r29.2=0)) && (decide (r34.2.At=0) && (decide (r34.2.E=0)))) (fun hL50=>?_) ?_
    ·refine z1L 64 (r44 && decide (r29.2=0)) rfl (fun hg51=>?_) (fun hg51=>?_)
     ·skip
      refine aq [6,7] ?_
      refine ai 8 rfl (y_eqS (by kernel_rfl) (by kernel_rfl) Tryz.runUnderlying29 rfl rfl (.cons (z7k (by decide) Tryz.runUnderlying3 Tryz.isAgg3 rfl rfl) (.cons (z7k (by decide) Tryz.runUnderlying27 Tryz.isAgg27 rfl rfl) EqFs.nil))) ?_
      refine aq [9] ?_
      exact aw (hL50 (decide (r34.2.At=0) && (decide (r34.2.E=0))) (by rw [hg51]; simp)) [0,1,2,3,4,5,6,7]
     ·skip
      refine aq [6,7,8,9] ?_
      exact aw (hL50 false (by rw [hg51]; simp)) [0,1,2,3,4,5,6,7]
    refine az ?_
    refine aq [10] ?_
    refine ab h [17,10] 10 [5,9,10] [1,2,3,4,5,6,7,8] (fun s=>[(75,.bool s)]) (fun s=>[]) (fun _ h _ hL56=>?_) ?_
    ·refine z1L 69 ((r44 && decide (r29.2=0)) && (decide (r34.2.At=0) && (decide (r34.2.E=0)))) rfl (fun hg57=>?_) (fun hg57=>?_)
     ·replace h:=z2F h hg57
      refine aq [11,13] ?_
      refine al2 12 [(1,0),(2,0)] Tryz.call24 (fun h=>z5U h) h (fun r58 v60 v61 h=>?_)
      refine al2 14 [(4,0),(5,0)] Tryz.call24 (fun h=>z5U h) h (fun r62 v64 v65 h=>?_)
      refine al0 15 [(8,1),(9,1),(10,1),(11,1)] Tryz.call14 (fun h=>z6x h) h (fun r66 h=>?_)
      refine aq [16] ?_
      exact aw (hL56 _ (zU h).symm) [0,1,2,3,4,5,6,7]
     ·replace h:=z2E h hg57
      refine aq [11,13,12,14,15,16] ?_
      exact aw (hL56 _ (zU h).symm) [0,1,2,3,4,5,6,7]
    rintro b52 h
    refine az ?_
    refine aq [17] ?_
    refine ae [21,6] 6 [5,9] [1,2,3,4,5,6,7,8] (fun s=>[(79,.bool s)]) (b52 && decide (r42.2=0)) (fun hL69=>?_) ?_
    ·refine z1L 76 b52 rfl (fun hg70=>?_) (fun hg70=>?_)
     ·skip
      refine aq [18,19,20] ?_
      exact aw (hL69 (decide (r42.2=0)) (by rw [hg70]; simp)) [0,1,2,3,4,5,6,7]
     ·skip
      refine aq [18,19,20] ?_
      exact aw (hL69 false (by rw [hg70]; simp)) [0,1,2,3,4,5,6,7]
    refine az ?_
    refine aq [21] ?_
    refine ae [26,1] 1 [] [1,2,3,4,5,6,7,8] (fun s=>[(84,.bool s)]) ((b52 && decide (r42.2=0)) && decide (r42.1=r29.1)) (fun hL72=>?_) ?_
    ·refine z1L 80 (b52 && decide (r42.2=0)) rfl (fun hg73=>?_) (fun hg73=>?_)
     ·skip
      refine aq [22,23,24,25] ?_
      exact aw (hL72 (decide (r42.1=r29.1)) (by rw [hg73]; simp)) [0,1,2,3,4,5,6,7]
     ·skip
      refine aq [22,23,24,25] ?_
      exact aw (hL72 false (by rw [hg73]; simp)) [0,1,2,3,4,5,6,7]
    refine az ?_
    refine aq [26] ?_
    refine z1K (by kernel_rfl) ?_
    refine zD ?_
    refine zA ?_
    exact fs [2] [] Tryz.results10 h
end Go.Proofs.YtcmaoifiiigggaaGreatDoor
