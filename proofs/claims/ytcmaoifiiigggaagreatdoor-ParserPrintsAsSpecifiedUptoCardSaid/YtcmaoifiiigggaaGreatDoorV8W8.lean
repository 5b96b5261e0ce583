/-
  The law ParserPrintsAsSpecified, lifted.
-/
import Derived.Test.YtcmaoifiiigggaaGreatDoorV8Fq
import Derived.Test.YtcmaoifiiigggaaGreatDoorV8G5c
import Derived.Test.YtcmaoifiiigggaaGreatDoorV8G7a
import Derived.Test.YtcmaoifiiigggaaGreatDoorV8G3l
import Derived.Test.YtcmaoifiiigggaaGreatDoorV8G8j
set_option linter.unusedSimpArgs false
set_option linter.unusedVariables false
namespace Go.Proofs.YtcmaoifiiigggaaGreatDoor
open Go.Abs Tryz
set_option maxRecDepth 20000
set_option maxHeartbeats 4000000
def z9K (n:Nat) (x_0:zG) (y_1:zi):Option (Bool):=
 obind (zii n x_0 300) fun r3=>
 bindJ (S:=Bool)
  (cond (!r3)
   (some (.go true))
   (obind (zhC n y_1 60) fun r11=>
   some (.go (!r11))))
 (fun b5 =>
  cond b5
   (obind (z1X n) fun r14=>
   some r14)
   (obind (za1 n x_0) fun r16=>
   obind (zhB n x_0) fun r18=>
   obind (z5C n y_1) fun r21=>
   obind (z7o n y_1) fun r23=>
   obind (z1X n) fun r26=>
   bindJ (S:=Bool)
    (cond ((r26 && decide (r16.1 = r18.S)) && decide (r16.2 = r18.E))
     (obind (z67 n x_0) fun r40=>
     obind (zjg n x_0) fun r44=>
     obind (z5T n r40 r44) fun r48=>
     some (.go r48))
     (some (.go false)))
   (fun b34 =>
    some ((b34 && decide (r21.1=r23.S)) && decide (r21.2=r23.E)))))
theorem zfd (n:Nat) (x_0:zG) (y_1:zi) (j0:Value) (j1:Value) (j2:Value) {r:Bool} (h:z9K n x_0 y_1=some r) :
  Meets Tryz.prog 8 [.agg #[j0,j1],.agg #[.int .i64 y_1.Op,.int .i64 y_1.At,.string (bs y_1.S),j2]] [nro j0 zz x_0.Policies,nro j1 zw x_0.Programs,nro j2 zj y_1.Args,globA] (fun v G=>v = .bool r∧G=[]):=by
 refine zN func8 rfl ntmps8 rfl (fun w0 o0=>?_)
 refine zh (lB fun b1=>?_)
 refine lB fun b2=>?_
 refine yn 4 ?_
 refine cl0 [(0,0),(1,0)] call25 (fun h=>zgB h) h (fun r3 h=>?_)
 refine ys ?_
 refine ob h 4 [2,3] [1,2,3,4,5,6] (fun s=>[(18,.bool s)]) (fun s=>[]) (fun _ h _ _ hL9=>?_) ?_
 ·refine z1c 14 (!r3) rfl (fun j3=>?_) (fun j3=>?_)
  ·replace h:=z2F h j3
   refine yn 2 ?_
   exact gb hL9 [0,1,2,3,4,5] h
  ·replace h:=z2E h j3
   refine ys ?_
   refine cl0 [(2,0)] call26 (fun h=>zil h) h (fun r11 h=>?_)
   refine yn 2 ?_
   exact gb hL9 [0,1,2,3,4,5] h
 rintro b5 h
 refine os ?_
 refine yc 1 h (fun _ h=>?_) fun _ h=>?_
 ·refine zh (cl0 [(3,0)] call11 (fun h=>z1P h) h (fun r14 h=>?_))
  refine yn 3 ?_
  exact fs [4] [] results8 h
 ·refine yn 3 ?_
  refine cl0 [(0,0),(1,0),(3,0)] call27 (fun h=>z9c h) h (fun r16 h=>?_)
  refine yn 3 ?_
  refine cl0 [(0,0),(1,0)] call28 (fun h=>zik h) h (fun r18 h=>?_)
  refine al fun b20=>?_
  refine ys ?_
  refine zc (rj [2,3,5,6,7] [0,1,2,3,4,5,6] ?_)
  refine yn 2 ?_
  refine cl0 [(2,0),(3,0)] call20 (fun h=>z8r h) h (fun r21 h=>?_)
  refine yn 3 ?_
  refine cl0 [(2,0)] call21 (fun h=>zbg h) h (fun r23 h=>?_)
  refine al fun b25=>?_
  refine ys ?_
  refine zc (rj [2,5,6,7,8,9,10] [0,1,3,4,6,7] ?_)
  refine rf [1,1,1,1,1,1] fun hS=>?_
  refine al0 0 [(2,0)] call11 (fun h=>z1P h) h (fun r26 h=>?_)
  refine aq [1] ?_
  refine ae [7,26] 26 [2,6,7,8,9,10] [1,2,3,4,5,6] (fun s=>[(40,.bool s)]) (r26 && decide (r16.1=r18.S)) (fun j9=>?_) ?_
  ·refine z1L 35 r26 rfl (fun j4=>?_) (fun j4=>?_)
   ·skip
    refine aq [2,3,4,5,6] ?_
    exact aw (j9 (decide (r16.1=r18.S)) (by rw [j4]; simp)) [0,1,2,3,4,5]
   ·skip
    refine aq [2,3,4,5,6] ?_
    exact aw (j9 false (by rw [j4]; simp)) [0,1,2,3,4,5]
  refine az ?_
  refine aq [7] ?_
  refine ae [13,20] 20 [2,8,9,10] [1,2,3,4,5,6] (fun s=>[(46,.bool s)]) ((r26 && decide (r16.1=r18.S)) && decide (r16.2=r18.E)) (fun ja=>?_) ?_
  ·refine z1L 41 (r26 && decide (r16.1=r18.S)) rfl (fun j5=>?_) (fun j5=>?_)
   ·skip
    refine aq [8,9,10,11,12] ?_
    exact aw (ja (decide (r16.2=r18.E)) (by rw [j5]; simp)) [0,1,2,3,4,5]
   ·skip
    refine aq [8,9,10,11,12] ?_
    exact aw (ja false (by rw [j5]; simp)) [0,1,2,3,4,5]
  refine az ?_
  refine aq [13] ?_
  refine ab h [20,13] 13 [8,9,10] [1,2,3,4,5,6] (fun s=>[(53,.bool s)]) (fun s=>[]) (fun _ h _ jb=>?_) ?_
  ·refine z1L 47 ((r26 && decide (r16.1=r18.S)) && decide (r16.2=r18.E)) rfl (fun j6=>?_) (fun j6=>?_)
   ·replace h:=z2F h j6
    refine aq [14,16] ?_
    refine al2 15 [(0,0),(1,0)] call24 (fun h=>z5U h) h (fun r40 v42 v43 h=>?_)
    refine al2 17 [(0,0),(1,0)] call29 (fun h=>zjk h) h (fun r44 v46 v47 h=>?_)
    refine al0 18 [(6,1),(7,1),(8,1),(9,1)] call14 (fun h=>z6x h) h (fun r48 h=>?_)
    refine aq [19] ?_
    exact aw (jb _ (zU h).symm) [0,1,2,3,4,5]
   ·replace h:=z2E h j6
    refine aq [14,16,15,17,18,19] ?_
    exact aw (jb _ (zU h).symm) [0,1,2,3,4,5]
  rintro b34 h
  refine az ?_
  refine aq [20] ?_
  refine ae [26,7] 7 [9,10] [1,2,3,4,5,6] (fun s=>[(59,.bool s)]) (b34 && decide (r21.1=r23.S)) (fun jc=>?_) ?_
  ·refine z1L 54 b34 rfl (fun j7=>?_) (fun j7=>?_)
   ·skip
    refine aq [21,22,23,24,25] ?_
    exact aw (jc (decide (r21.1=r23.S)) (by rw [j7]; simp)) [0,1,2,3,4,5]
   ·skip
    refine aq [21,22,23,24,25] ?_
    exact aw (jc false (by rw [j7]; simp)) [0,1,2,3,4,5]
  refine az ?_
  refine aq [26] ?_
  refine ae [32,1] 1 [] [1,2,3,4,5,6] (fun s=>[(65,.bool s)]) ((b34 && decide (r21.1=r23.S)) && decide (r21.2=r23.E)) (fun jd=>?_) ?_
  ·refine z1L 60 (b34 && decide (r21.1=r23.S)) rfl (fun j8=>?_) (fun j8=>?_)
   ·skip
    refine aq [27,28,29,30,31] ?_
    exact aw (jd (decide (r21.2=r23.E)) (by rw [j8]; simp)) [0,1,2,3,4,5]
   ·skip
    refine aq [27,28,29,30,31] ?_
    exact aw (jd false (by rw [j8]; simp)) [0,1,2,3,4,5]
  refine az ?_
  refine aq [32] ?_
  refine z1K (by kernel_rfl) ?_
  refine yn 2 ?_
  exact fs [4] [] results8 h
end Go.Proofs.YtcmaoifiiigggaaGreatDoor
