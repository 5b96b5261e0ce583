/-
  Functions of the program, lifted: part 16.
-/
import Derived.Test.YtcmaoifiiigggaaGreatDoorV8Fn
import Derived.Test.YtcmaoifiiigggaaGreatDoorV8Fo
set_option linter.unusedSimpArgs false
set_option linter.unusedVariables false
namespace Go.Proofs.YtcmaoifiiigggaaGreatDoor
open Go.Abs Tryz
set_option maxRecDepth 20000
set_option maxHeartbeats 4000000
def zcJ (n:Nat) (a_0:zG) (b_1:zG):(Int)→Option (Lp (Int) (Lp (Unit) (Bool))):=
 fun j5=>
  cond (decide (j5<(a_0.Policies.length:Int)))
   (idx a_0.Policies j5 fun x17=>
   idx b_1.Policies j5 fun x19=>
   bindJ (S:=Bool)
    (cond ((!decide (x17.Name = x19.Name)) || decide (x17.At ≠ x19.At))
     (some (.go true))
     (idx a_0.Policies j5 fun x31=>
     idx b_1.Policies j5 fun x32=>
     obind (z7u n x17.Rules x32.Rules) fun r34=>
     some (.go (!r34))))
   (fun b25 =>
    cond b25
     (some (.stop (.stop false)))
     (some (.go (IntKind.i64.wrap (j5+1))))))
   (some (.stop (.go ())))
def zcK (n:Nat) (a_0:zG) (b_1:zG):(Int)→Option (Lp (Int) (Lp (Unit) (Bool))):=
 fun j4=>
  cond (decide (j4<(a_0.Programs.length:Int)))
   (idx a_0.Programs j4 fun x47=>
   idx b_1.Programs j4 fun x50=>
   bindJ (S:=Bool)
    (cond ((!decide (x47.Name = x50.Name)) || decide (x47.At ≠ x50.At))
     (some (.go true))
     (idx a_0.Programs j4 fun x64=>
     idx b_1.Programs j4 fun x65=>
     obind (z64 n x47.Effects x65.Effects) fun r69=>
     some (.go (!r69))))
   (fun b58 =>
    bindJ (S:=Bool)
     (cond b58
      (some (.go true))
      (idx a_0.Programs j4 fun x77=>
      idx b_1.Programs j4 fun x78=>
      obind (z6P n x47.Code x78.Code) fun r82=>
      some (.go (!r82))))
    (fun b71 =>
     cond b71
      (some (.stop (.stop false)))
      (some (.go (IntKind.i64.wrap (j4+1)))))))
   (some (.stop (.go ())))
def zcG (n:Nat) (a_0:zG) (b_1:zG):Option (Bool):=
 cond (decide ((a_0.Policies.length:Int)≠(b_1.Policies.length:Int)) || decide ((a_0.Programs.length:Int)≠(b_1.Programs.length:Int)))
  (some false)
  (bindJ (S := Unit)
   (iter (zcJ n a_0 b_1) n 0)
  (fun _ =>
   bindJ (S:=Unit)
    (iter (zcK n a_0 b_1) n 0)
   (fun _ =>
    some true)))
theorem zfE {n:Nat} {a_0:zG} {b_1:zG} {j0:Value} {j1:Value} {j2:Value} {j3:Value} {r:Bool} (h:zcG n a_0 b_1=some r) :
  Meets Tryz.prog 14 [.agg #[j0,j1],.agg #[j2,j3]] [nro j0 zz a_0.Policies,nro j1 zw a_0.Programs,nrow j2 zz b_1.Policies,nrow j3 zw b_1.Programs] (fun v G=>v = .bool r∧G=[]):=by
 refine zN func14 rfl ntmps14 rfl (fun w0 o0=>?_)
 refine zh (lB fun b1=>?_)
 refine lB fun b2=>?_
 refine yn 4 ?_
 refine oe 8 [2,3] [1,2,3,4,5,6] (fun s=>[(22,.bool s)]) (decide ((a_0.Policies.length:Int)≠(b_1.Policies.length:Int)) || decide ((a_0.Programs.length:Int)≠(b_1.Programs.length:Int))) (fun _ hL4=>?_) ?_
 ·refine z1c 14 (decide ((a_0.Policies.length:Int)≠(b_1.Policies.length:Int))) rfl (fun hg5=>?_) (fun hg5=>?_)
  ·skip
   refine ys ?_
   refine oh [0,1,2,3,4,5] [nro j0 zz a_0.Policies,nro j1 zw a_0.Programs,nrow j2 zz b_1.Policies,nrow j3 zw b_1.Programs,box b1 [j0,j1],box b2 [j2,j3]] ?_
   refine yn 2 ?_
   exact gc hL4 true [0,1,2,3,4,5] (hi:=by rw [hg5]; simp)
  ·skip
   refine ys ?_
   refine oh [0,1,2,3,4,5] [nro j0 zz a_0.Policies,nro j1 zw a_0.Programs,nrow j2 zz b_1.Policies,nrow j3 zw b_1.Programs,box b1 [j0,j1],box b2 [j2,j3]] ?_
   refine yn 2 ?_
   exact gc hL4 (decide ((a_0.Programs.length:Int)≠(b_1.Programs.length:Int))) [0,1,2,3,4,5] (hi:=by rw [hg5]; simp)
 refine os ?_
 refine yc 1 h (fun _ h=>?_) fun _ h=>?_
 ·refine yn 4 ?_
  exact fs [4] [] results14 h
 ·refine run_skip (zD (jr h [2,3] [5,1,2,6,3,4] (fun s (g:Unit)=>[]) (fun s g=>[]) (fun _ h ho8 _ hL9=>?_) ?_))
  ·refine yn 4 ?_
   refine lo h [2,3] [5,1,2,6,3,4] (fun s (g:Unit)=>[(5,.int .i64 s)]) (fun s g=>[]) () [4,0,1,5,2,3] ?_
   rintro j5 _ _ h _ jh j6
   refine rs ?_
   refine yc 4 h (fun _ h=>?_) fun _ h=>?_
   ·refine yn 4 ?_
    refine rf [1,1,1,1,1,1] fun hS=>?_
    refine aq [0,1,2] ?_
    obtain ⟨x17,jz,jA,ji,h⟩:=zP h
    refine aq [3] ?_
    refine z9T (exAt (C:=zz) (i:=j5.toNat) 1 rfl ji) ?_
    rintro (g18:Value)
    refine ag [1,1,1,1,1,1,1] ?_
    refine ag [1,1,1,1,1,1,1,1] ?_
    refine aq [4,5,6,7,8] ?_
    obtain ⟨x19,jB,jC,j9,h⟩:=zP h
    refine aq [9,10] ?_
    refine ao 11 ?_
    refine at' rfl (ze7 (C:=zz) (i:=j5.toNat) (j:=0) 4 (fun γ=>.string (bs x19.Name)) isAgg9 rfl rfl j9 (fun _=>rfl)) ?_
    rintro _ _ ⟨(g20:Value),rfl,rfl⟩
    refine sb ?_
    refine aq [12,13] ?_
    refine ae [28,16] 16 [5,2,3] [1,2,3,4,5,6,7,8,9] (fun s=>[(57,.bool s)]) ((!decide (x17.Name=x19.Name)) || decide (x17.At≠x19.At)) (fun jj=>?_) ?_
    ·refine z1L 43 (!decide (x17.Name=x19.Name)) rfl (fun jb=>?_) (fun jb=>?_)
     ·skip
      refine aq [14,15,16,17,18,19,20,21,22,23,24,25,26,27] ?_
      exact aw (jj true (by rw [jb]; simp)) [0,1,2,3,4,5,6,7,8]
     ·skip
      refine aq [14,15,16,17,18,19,20,21,22,23,24] ?_
      refine ao 25 ?_
      refine at' rfl (ze7 (C:=zz) (i:=j5.toNat) (j:=1) 4 (fun γ=>.int .i64 x19.At) isAgg3 rfl rfl j9 (fun _=>rfl)) ?_
      rintro _ _ ⟨(g24:Value),rfl,rfl⟩
      refine sb ?_
      refine aq [26,27] ?_
      exact aw (jj (decide (x17.At≠x19.At)) (by rw [jb]; simp)) [0,1,2,3,4,5,6,7,8]
    refine az ?_
    refine aq [28] ?_
    refine ab h [44] 0 [5,2,3] [1,2,3,4,5,6,7,8,9] (fun s=>[(73,.bool s)]) (fun s=>[]) (fun _ h _ jk=>?_) ?_
    ·refine z1L 58 ((!decide (x17.Name=x19.Name)) || decide (x17.At≠x19.At)) rfl (fun jc=>?_) (fun jc=>?_)
     ·replace h:=z2F h jc
      refine aq [29,30,31,32,33,34,35,36,37,38,39,40,41,42,43] ?_
      exact aw (jk _ (zU h).symm) [0,1,2,3,4,5,6,7,8]
     ·replace h:=z2E h jc
      refine aq [29,30,31] ?_
      obtain ⟨x31,jD,jE,jF,h⟩:=zP h
      refine aq [32,33,34,35,36,37] ?_
      obtain ⟨x32,jG,jH,jl,h⟩:=zP h
      refine aq [38,39] ?_
      refine ao 40 ?_
      refine at' rfl (ze7 (C:=zz) (i:=j5.toNat) (j:=2) 4 (fun γ=>γ) isAgg74 rfl rfl jl (fun _=>rfl)) ?_
      rintro g33 _ ⟨_,rfl,rfl⟩
      refine sb ?_
      refine al0 41 [(7,0),(9,0)] call38 (fun h=>zbp h) h (fun r34 h=>?_)
      refine aq [42,43] ?_
      exact aw (jk _ (zU h).symm) [0,1,2,3,4,5,6,7,8]
    rintro b25 h
    refine az ?_
    refine z1K (by kernel_rfl) ?_
    refine yc 1 h (fun _ h=>?_) fun _ h=>?_
    ·refine yn 4 ?_
     obtain rfl:=zU h
     obtain rfl:=j6 _ rfl
     skip
     obtain rfl:=zM ho8
     exact ft [4] [] results14
    ·refine yn 5 ?_
     exact gj jh () [0,1,2,3,4,5] h
   ·refine z1h _ rfl ?_
    exact gk hL9 j6 () [0,1,2,3,4,5] h
  rintro _ _ h
  refine rs ?_
  refine jr h [] [] (fun s (g:Unit)=>[]) (fun s g=>[]) (fun _ h jw _ jx=>?_) ?_
  ·refine yn 4 ?_
   refine lo h [2,3] [1,2,3,4,5,6] (fun s (g:Unit)=>[(6,.int .i64 s)]) (fun s g=>[]) () [0,1,2,3,4,5] ?_
   rintro j4 _ _ h _ jm j7
   refine rs ?_
   refine yc 4 h (fun _ h=>?_) fun _ h=>?_
   ·refine yn 4 ?_
    refine rf [1,1,1,1,1,1] fun hS=>?_
    refine aq [0,1,2] ?_
    obtain ⟨x47,jI,jJ,jo,h⟩:=zP h
    refine aq [3] ?_
    refine z9T (exAt (C:=zw) (i:=j4.toNat) 2 rfl jo) ?_
    rintro ⟨g48,g49⟩
    refine ag [1,1,1,1,1,1,1] ?_
    refine ag [1,1,1,1,1,1,1,1] ?_
    refine ag [1,1,1,1,1,1,1,1,1] ?_
    refine aq [4,5,6,7,8] ?_
    obtain ⟨x50,jK,jL,ja,h⟩:=zP h
    refine aq [9,10] ?_
    refine ao 11 ?_
    refine at' rfl (ze7 (C:=zw) (i:=j4.toNat) (j:=0) 5 (fun γ=>.string (bs x50.Name)) isAgg9 rfl rfl ja (fun _=>rfl)) ?_
    rintro _ _ ⟨⟨g51,g52⟩,rfl,rfl⟩
    refine sb ?_
    refine aq [12,13] ?_
    refine ae [28,32] 32 [6,2,3] [1,2,3,4,5,6,7,8,9,10,11] (fun s=>[(108,.bool s)]) ((!decide (x47.Name=x50.Name)) || decide (x47.At≠x50.At)) (fun jp=>?_) ?_
    ·refine z1L 94 (!decide (x47.Name=x50.Name)) rfl (fun jd=>?_) (fun jd=>?_)
     ·skip
      refine aq [14,15,16,17,18,19,20,21,22,23,24,25,26,27] ?_
      exact aw (jp true (by rw [jd]; simp)) [0,1,2,3,4,5,6,7,8,9,10]
     ·skip
      refine aq [14,15,16,17,18,19,20,21,22,23,24] ?_
      refine ao 25 ?_
      refine at' rfl (ze7 (C:=zw) (i:=j4.toNat) (j:=1) 5 (fun γ=>.int .i64 x50.At) isAgg3 rfl rfl ja (fun _=>rfl)) ?_
      rintro _ _ ⟨⟨g56,g57⟩,rfl,rfl⟩
      refine sb ?_
      refine aq [26,27] ?_
      exact aw (jp (decide (x47.At≠x50.At)) (by rw [jd]; simp)) [0,1,2,3,4,5,6,7,8,9,10]
    refine az ?_
    refine aq [28] ?_
    refine ab h [44,16] 16 [6,2,3] [1,2,3,4,5,6,7,8,9,10,11] (fun s=>[(124,.bool s)]) (fun s=>[]) (fun _ h _ jq=>?_) ?_
    ·refine z1L 109 ((!decide (x47.Name=x50.Name)) || decide (x47.At≠x50.At)) rfl (fun je=>?_) (fun je=>?_)
     ·replace h:=z2F h je
      refine aq [29,30,31,32,33,34,35,36,37,38,39,40,41,42,43] ?_
      exact aw (jq _ (zU h).symm) [0,1,2,3,4,5,6,7,8,9,10]
     ·replace h:=z2E h je
      refine aq [29,30,31] ?_
      obtain ⟨x64,jM,jN,jO,h⟩:=zP h
      refine aq [32,33,34,35,36,37] ?_
      obtain ⟨x65,jP,jQ,js,h⟩:=zP h
      refine aq [38,39] ?_
      refine ao 40 ?_
      refine at' rfl (ze7 (C:=zw) (i:=j4.toNat) (j:=2) 5 (fun γ=>γ.1) isAgg59 rfl rfl js (fun _=>rfl)) ?_
      rintro vv68 _ ⟨⟨g66,g67⟩,hvv68,rfl⟩; subst vv68
      refine sb ?_
      refine al0 41 [(7,0),(11,0)] call39 (fun h=>zak h) h (fun r69 h=>?_)
      refine aq [42,43] ?_
      exact aw (jq _ (zU h).symm) [0,1,2,3,4,5,6,7,8,9,10]
    rintro b58 h
    refine az ?_
    refine aq [44] ?_
    refine ab h [60] 0 [6,2,3] [1,2,3,4,5,6,7,8,9,10,11] (fun s=>[(140,.bool s)]) (fun s=>[]) (fun _ h _ jt=>?_) ?_
    ·refine z1L 125 b58 rfl (fun jf=>?_) (fun jf=>?_)
     ·replace h:=z2F h jf
      refine aq [45,46,47,48,49,50,51,52,53,54,55,56,57,58,59] ?_
      exact aw (jt _ (zU h).symm) [0,1,2,3,4,5,6,7,8,9,10]
     ·replace h:=z2E h jf
      refine aq [45,46,47] ?_
      obtain ⟨x77,jR,jS,jT,h⟩:=zP h
      refine aq [48,49,50,51,52,53] ?_
      obtain ⟨x78,jU,jV,ju,h⟩:=zP h
      refine aq [54,55] ?_
      refine ao 56 ?_
      refine at' rfl (ze7 (C:=zw) (i:=j4.toNat) (j:=3) 5 (fun γ=>γ.2) isAgg80 rfl rfl ju (fun _=>rfl)) ?_
      rintro vv81 _ ⟨⟨g79,g80⟩,hvv81,rfl⟩; subst vv81
      refine sb ?_
      refine ao 57 ?_
      obtain ⟨r82,jy,h⟩:=zJ h
      refine at' rfl (tc [(8,0),(12,0)] call40 (zc7 jy)) ?_
      rintro _ _ ⟨_,⟨rfl,rfl⟩,rfl⟩
      refine sb ?_
      refine aq [58,59] ?_
      exact aw (jt _ (zU h).symm) [0,1,2,3,4,5,6,7,8,9,10]
    rintro b71 h
    refine az ?_
    refine z1K (by kernel_rfl) ?_
    refine yc 1 h (fun _ h=>?_) fun _ h=>?_
    ·refine yn 4 ?_
     obtain rfl:=zU h
     obtain rfl:=j7 _ rfl
     skip
     obtain rfl:=zM jw
     exact ft [4] [] results14
    ·refine yn 5 ?_
     exact gj jm () [0,1,2,3,4,5] h
   ·refine z1h _ rfl ?_
    exact gk jx j7 () [] h
  rintro _ _ h
  refine rs ?_
  refine yn 4 ?_
  exact fs [4] [] results14 h
def zaz (n:Nat) (s_0:(List UInt8)) (j8:Int) (e_2:Int):Option (Bool):=
 obind (z39 n s_0) fun r1=>
 bindJ (S:=Bool)
  (cond (decide (r1.2.At = j8) && (decide (r1.2.E = e_2)))
   (obind (zcG n r1.1 (zG.mk ([]:List zL) ([]:List zI))) fun r15=>
   some (.go r15))
   (some (.go false)))
 (fun b9 =>
  some b9)
theorem z9Z {n:Nat} {s_0:(List UInt8)} {j8:Int} {e_2:Int} {r:Bool} (h:zaz n s_0 j8 e_2=some r) :
  Meets Tryz.prog 31 [.string (bs s_0),.int .i64 j8,.int .i64 e_2] [globA] (fun v G=>v = .bool r∧G=[]):=by
 refine zN func31 rfl ntmps31 rfl (fun w0 o0=>?_)
 refine yn 4 ?_
 refine cl2 [(0,0)] call12 (fun h=>z3m h) h (fun r1 v3 v4 h=>?_)
 refine ys ?_
 refine al fun b5=>?_
 refine al fun b6=>?_
 refine ys ?_
 refine zc (rj [1,2,7,8] [0,1,2,3,4] ?_)
 refine yn 2 ?_
 refine zq (y_eqS (by kernel_rfl) (by kernel_rfl) runUnderlying29 rfl rfl (.cons (z7k (by decide) runUnderlying3 isAgg3 rfl rfl) (.cons (z7k (by decide) runUnderlying27 isAgg27 rfl rfl) EqFs.nil))) ?_
 refine ys ?_
 refine ob h 4 [] [1] (fun s=>[(23,.bool s)]) (fun s=>[]) (fun _ h _ _ jv=>?_) ?_
 ·refine z1c 19 (decide (r1.2.At=j8) && (decide (r1.2.E=e_2))) rfl (fun jg=>?_) (fun jg=>?_)
  ·replace h:=z2F h jg
   refine ys ?_
   refine zB (z1q zz) ?_
   refine zB (z1q zw) ?_
   refine cl0 [(1,0),(2,0),(5,2),(6,2)] call14 (fun h=>zfE h) h (fun r15 h=>?_)
   refine yn 2 ?_
   exact gb jv [0] h
  ·replace h:=z2E h jg
   refine yn 2 ?_
   exact gb jv [0] h
 rintro b9 h
 refine os ?_
 refine yn 3 ?_
 exact fs [6] [] results31 h
end Go.Proofs.YtcmaoifiiigggaaGreatDoor
