/-
  Functions that the law ParserMatchesSpec needs, lifted.
-/
import Derived.Test.YtcmaoifiiigggaaGreatDoorV8Fn
import Derived.Test.YtcmaoifiiigggaaGreatDoorV8Fo
set_option linter.unusedSimpArgs false
set_option linter.unusedVariables false
namespace Go.Proofs.YtcmaoifiiigggaaGreatDoor
open Go.Abs Tryz
set_option maxRecDepth 20000
set_option maxHeartbeats 4000000
def za6 (n:Nat) (a_0:zG) (b_1:zG):(Int)→Option (Lp (Int) (Lp (Unit) (Bool))):=
 fun j5=>
  cond (decide (j5<(a_0.Policies.length:Int)))
   (idx a_0.Policies j5 fun x17=>
   idx b_1.Policies j5 fun x19=>
   bindJ (S:=Bool)
    (cond ((!decide (x17.Name = x19.Name)) || decide (x17.At ≠ x19.At))
     (some (.go true))
     (idx a_0.Policies j5 fun x30=>
     idx b_1.Policies j5 fun x31=>
     obind (z7u n x17.Rules x19.Rules) fun r32=>
     some (.go (!r32))))
   (fun b24 =>
    cond b24
     (some (.stop (.stop false)))
     (some (.go (IntKind.i64.wrap (j5+1))))))
   (some (.stop (.go ())))
def za7 (n:Nat) (a_0:zG) (b_1:zG):(Int)→Option (Lp (Int) (Lp (Unit) (Bool))):=
 fun j4=>
  cond (decide (j4<(a_0.Programs.length:Int)))
   (idx a_0.Programs j4 fun x45=>
   idx b_1.Programs j4 fun x48=>
   bindJ (S:=Bool)
    (cond ((!decide (x45.Name = x48.Name)) || decide (x45.At ≠ x48.At))
     (some (.go true))
     (idx a_0.Programs j4 fun x60=>
     idx b_1.Programs j4 fun x61=>
     obind (z64 n x45.Effects x48.Effects) fun r62=>
     some (.go (!r62))))
   (fun b54 =>
    bindJ (S:=Bool)
     (cond b54
      (some (.go true))
      (idx a_0.Programs j4 fun x70=>
      idx b_1.Programs j4 fun x71=>
      obind (z6P n x45.Code x48.Code) fun r72=>
      some (.go (!r72))))
    (fun b64 =>
     cond b64
      (some (.stop (.stop false)))
      (some (.go (IntKind.i64.wrap (j4+1)))))))
   (some (.stop (.go ())))
def z5T (n:Nat) (a_0:zG) (b_1:zG):Option (Bool):=
 cond (decide ((a_0.Policies.length:Int)≠(b_1.Policies.length:Int)) || decide ((a_0.Programs.length:Int)≠(b_1.Programs.length:Int)))
  (some false)
  (bindJ (S := Unit)
   (iter (za6 n a_0 b_1) n 0)
  (fun _ =>
   bindJ (S:=Unit)
    (iter (za7 n a_0 b_1) n 0)
   (fun _ =>
    some true)))
theorem z6x {n:Nat} {a_0:zG} {b_1:zG} {j0:Value} {j1:Value} {j2:Value} {j3:Value} {r:Bool} (h:z5T n a_0 b_1=some r) :
  Meets Tryz.prog 14 [.agg #[j0,j1],.agg #[j2,j3]] [nro j0 zz a_0.Policies,nro j1 zw a_0.Programs,nro j2 zz b_1.Policies,nro j3 zw b_1.Programs] (fun v G=>v = .bool r∧G=[]):=by
 refine zN func14 rfl ntmps14 rfl (fun w0 o0=>?_)
 refine zh (lB fun b1=>?_)
 refine lB fun b2=>?_
 refine yn 4 ?_
 refine oe 8 [2,3] [1,2,3,4,5,6] (fun s=>[(22,.bool s)]) (decide ((a_0.Policies.length:Int)≠(b_1.Policies.length:Int)) || decide ((a_0.Programs.length:Int)≠(b_1.Programs.length:Int))) (fun _ hL4=>?_) ?_
 ·refine z1c 14 (decide ((a_0.Policies.length:Int)≠(b_1.Policies.length:Int))) rfl (fun hg5=>?_) (fun hg5=>?_)
  ·skip
   refine ys ?_
   refine oh [0,1,2,3,4,5] [nro j0 zz a_0.Policies,nro j1 zw a_0.Programs,nro j2 zz b_1.Policies,nro j3 zw b_1.Programs,box b1 [j0,j1],box b2 [j2,j3]] ?_
   refine yn 2 ?_
   exact gc hL4 true [0,1,2,3,4,5] (hi:=by rw [hg5]; simp)
  ·skip
   refine ys ?_
   refine oh [0,1,2,3,4,5] [nro j0 zz a_0.Policies,nro j1 zw a_0.Programs,nro j2 zz b_1.Policies,nro j3 zw b_1.Programs,box b1 [j0,j1],box b2 [j2,j3]] ?_
   refine yn 2 ?_
   exact gc hL4 (decide ((a_0.Programs.length:Int)≠(b_1.Programs.length:Int))) [0,1,2,3,4,5] (hi:=by rw [hg5]; simp)
 refine os ?_
 refine yc 1 h (fun _ h=>?_) fun _ h=>?_
 ·refine yn 4 ?_
  exact fs [4] [] results14 h
 ·refine run_skip (zD (jr h [2,3] [5,1,2,6,3,4] (fun s (g:Unit)=>[]) (fun s g=>[]) (fun _ h ho8 _ hL9=>?_) ?_))
  ·refine yn 4 ?_
   refine lo h [2,3] [5,1,2,6,3,4] (fun s (g:Unit)=>[(5,.int .i64 s)]) (fun s g=>[]) () [4,0,1,5,2,3] ?_
   rintro j5 _ _ h _ jd j6
   refine rs ?_
   refine yc 4 h (fun _ h=>?_) fun _ h=>?_
   ·refine yn 4 ?_
    refine rf [1,1,1,1,1,1] fun hS=>?_
    refine aq [0,1,2] ?_
    obtain ⟨x17,jt,ju,je,h⟩:=zP h
    refine aq [3] ?_
    refine z9T (exAt (C:=zz) (i:=j5.toNat) 1 rfl je) ?_
    rintro (g18:Value)
    refine ag [1,1,1,1,1,1,1] ?_
    refine ag [1,1,1,1,1,1,1,1] ?_
    refine aq [4,5,6,7,8] ?_
    obtain ⟨x19,jv,jw,jf,h⟩:=zP h
    refine aq [9] ?_
    refine z9T (exAt (C:=zz) (i:=j5.toNat) 4 rfl jf) ?_
    rintro (g20:Value)
    refine ag [1,1,1,1,1,1,1,1,1] ?_
    refine ag [1,1,1,1,1,1,1,1,1,1] ?_
    refine aq [10,11,12,13] ?_
    refine ae [28,16] 16 [5,2,3] [1,2,3,4,5,6,7,8,9,10] (fun s=>[(57,.bool s)]) ((!decide (x17.Name=x19.Name)) || decide (x17.At≠x19.At)) (fun jg=>?_) ?_
    ·refine z1L 43 (!decide (x17.Name=x19.Name)) rfl (fun j8=>?_) (fun j8=>?_)
     ·skip
      refine aq [14,15,16,17,18,19,20,21,22,23,24,25,26,27] ?_
      exact aw (jg true (by rw [j8]; simp)) [0,1,2,3,4,5,6,7,8,9]
     ·skip
      refine aq [14,15,16,17,18,19,20,21,22,23,24,25,26,27] ?_
      exact aw (jg (decide (x17.At≠x19.At)) (by rw [j8]; simp)) [0,1,2,3,4,5,6,7,8,9]
    refine az ?_
    refine aq [28] ?_
    refine ab h [44] 0 [5,2,3] [1,2,3,4,5,6,7,8,9,10] (fun s=>[(73,.bool s)]) (fun s=>[]) (fun _ h _ jh=>?_) ?_
    ·refine z1L 58 ((!decide (x17.Name=x19.Name)) || decide (x17.At≠x19.At)) rfl (fun j9=>?_) (fun j9=>?_)
     ·replace h:=z2F h j9
      refine aq [29,30,31,32,33,34,35,36,37,38,39,40,41,42,43] ?_
      exact aw (jh _ (zU h).symm) [0,1,2,3,4,5,6,7,8,9]
     ·replace h:=z2E h j9
      refine aq [29,30,31] ?_
      obtain ⟨x30,jx,jy,jz,h⟩:=zP h
      refine aq [32,33,34,35,36,37] ?_
      obtain ⟨x31,jA,jB,jC,h⟩:=zP h
      refine aq [38,39,40] ?_
      refine al0 41 [(7,0),(9,0)] call38 (fun h=>zbp h) h (fun r32 h=>?_)
      refine aq [42,43] ?_
      exact aw (jh _ (zU h).symm) [0,1,2,3,4,5,6,7,8,9]
    rintro b24 h
    refine az ?_
    refine z1K (by kernel_rfl) ?_
    refine yc 1 h (fun _ h=>?_) fun _ h=>?_
    ·refine yn 4 ?_
     obtain rfl:=zU h
     obtain rfl:=j6 _ rfl
     skip
     obtain rfl:=zM ho8
     exact ft [4] [] results14
    ·refine yn 5 ?_
     exact gj jd () [0,1,2,3,4,5] h
   ·refine z1h _ rfl ?_
    exact gk hL9 j6 () [0,1,2,3,4,5] h
  rintro _ _ h
  refine rs ?_
  refine jr h [] [] (fun s (g:Unit)=>[]) (fun s g=>[]) (fun _ h jp _ jq=>?_) ?_
  ·refine yn 4 ?_
   refine lo h [2,3] [1,2,3,4,5,6] (fun s (g:Unit)=>[(6,.int .i64 s)]) (fun s g=>[]) () [0,1,2,3,4,5] ?_
   rintro j4 _ _ h _ ji j7
   refine rs ?_
   refine yc 4 h (fun _ h=>?_) fun _ h=>?_
   ·refine yn 4 ?_
    refine rf [1,1,1,1,1,1] fun hS=>?_
    refine aq [0,1,2] ?_
    obtain ⟨x45,jD,jE,jj,h⟩:=zP h
    refine aq [3] ?_
    refine z9T (exAt (C:=zw) (i:=j4.toNat) 2 rfl jj) ?_
    rintro ⟨g46,g47⟩
    refine ag [1,1,1,1,1,1,1] ?_
    refine ag [1,1,1,1,1,1,1,1] ?_
    refine ag [1,1,1,1,1,1,1,1,1] ?_
    refine aq [4,5,6,7,8] ?_
    obtain ⟨x48,jF,jG,jk,h⟩:=zP h
    refine aq [9] ?_
    refine z9T (exAt (C:=zw) (i:=j4.toNat) 5 rfl jk) ?_
    rintro ⟨g49,g50⟩
    refine ag [1,1,1,1,1,1,1,1,1,1] ?_
    refine ag [1,1,1,1,1,1,1,1,1,1,1] ?_
    refine ag [1,1,1,1,1,1,1,1,1,1,1,1] ?_
    refine aq [10,11,12,13] ?_
    refine ae [28,32] 32 [6,2,3] [1,2,3,4,5,6,7,8,9,10,11,12] (fun s=>[(108,.bool s)]) ((!decide (x45.Name=x48.Name)) || decide (x45.At≠x48.At)) (fun jl=>?_) ?_
    ·refine z1L 94 (!decide (x45.Name=x48.Name)) rfl (fun ja=>?_) (fun ja=>?_)
     ·skip
      refine aq [14,15,16,17,18,19,20,21,22,23,24,25,26,27] ?_
      exact aw (jl true (by rw [ja]; simp)) [0,1,2,3,4,5,6,7,8,9,10,11]
     ·skip
      refine aq [14,15,16,17,18,19,20,21,22,23,24,25,26,27] ?_
      exact aw (jl (decide (x45.At≠x48.At)) (by rw [ja]; simp)) [0,1,2,3,4,5,6,7,8,9,10,11]
    refine az ?_
    refine aq [28] ?_
    refine ab h [44,16] 16 [6,2,3] [1,2,3,4,5,6,7,8,9,10,11,12] (fun s=>[(124,.bool s)]) (fun s=>[]) (fun _ h _ jm=>?_) ?_
    ·refine z1L 109 ((!decide (x45.Name=x48.Name)) || decide (x45.At≠x48.At)) rfl (fun jb=>?_) (fun jb=>?_)
     ·replace h:=z2F h jb
      refine aq [29,30,31,32,33,34,35,36,37,38,39,40,41,42,43] ?_
      exact aw (jm _ (zU h).symm) [0,1,2,3,4,5,6,7,8,9,10,11]
     ·replace h:=z2E h jb
      refine aq [29,30,31] ?_
      obtain ⟨x60,jH,jI,jJ,h⟩:=zP h
      refine aq [32,33,34,35,36,37] ?_
      obtain ⟨x61,jK,jL,jM,h⟩:=zP h
      refine aq [38,39,40] ?_
      refine al0 41 [(7,0),(10,0)] call39 (fun h=>zak h) h (fun r62 h=>?_)
      refine aq [42,43] ?_
      exact aw (jm _ (zU h).symm) [0,1,2,3,4,5,6,7,8,9,10,11]
    rintro b54 h
    refine az ?_
    refine aq [44] ?_
    refine ab h [60] 0 [6,2,3] [1,2,3,4,5,6,7,8,9,10,11,12] (fun s=>[(140,.bool s)]) (fun s=>[]) (fun _ h _ jo=>?_) ?_
    ·refine z1L 125 b54 rfl (fun jc=>?_) (fun jc=>?_)
     ·replace h:=z2F h jc
      refine aq [45,46,47,48,49,50,51,52,53,54,55,56,57,58,59] ?_
      exact aw (jo _ (zU h).symm) [0,1,2,3,4,5,6,7,8,9,10,11]
     ·replace h:=z2E h jc
      refine aq [45,46,47] ?_
      obtain ⟨x70,jN,jO,jP,h⟩:=zP h
      refine aq [48,49,50,51,52,53] ?_
      obtain ⟨x71,jQ,jR,jS,h⟩:=zP h
      refine aq [54,55,56] ?_
      refine ao 57 ?_
      obtain ⟨r72,js,h⟩:=zJ h
      refine at' rfl (tc [(8,0),(11,0)] call40 (zc7 js)) ?_
      rintro _ _ ⟨_,⟨rfl,rfl⟩,rfl⟩
      refine sb ?_
      refine aq [58,59] ?_
      exact aw (jo _ (zU h).symm) [0,1,2,3,4,5,6,7,8,9,10,11]
    rintro b64 h
    refine az ?_
    refine z1K (by kernel_rfl) ?_
    refine yc 1 h (fun _ h=>?_) fun _ h=>?_
    ·refine yn 4 ?_
     obtain rfl:=zU h
     obtain rfl:=j7 _ rfl
     skip
     obtain rfl:=zM jp
     exact ft [4] [] results14
    ·refine yn 5 ?_
     exact gj ji () [0,1,2,3,4,5] h
   ·refine z1h _ rfl ?_
    exact gk jq j7 () [] h
  rintro _ _ h
  refine rs ?_
  refine yn 4 ?_
  exact fs [4] [] results14 h
end Go.Proofs.YtcmaoifiiigggaaGreatDoor
