/-
  Functions that the law ParserMatchesSpec needs, lifted.
-/
import Derived.Test.YtcmaoifiiigggaaGreatDoorV9M22
import Derived.Test.YtcmaoifiiigggaaGreatDoorV9FaOwn
import Derived.Test.YtcmaoifiiigggaaGreatDoorFn
import Derived.Test.YtcmaoifiiigggaaGreatDoorFo
set_option linter.unusedSimpArgs false
set_option linter.unusedVariables false
namespace Go.Proofs.YtcmaoifiiigggaaGreatDoor
open Go.Abs
set_option maxRecDepth 20000
set_option maxHeartbeats 4000000
def za6 (n:Nat) (a_0:zG) (b_1:zG):(Int)→Option (Lp (Int) (Lp (Unit) (Bool))):=
 fun i_11=>
  cond (decide (i_11<(a_0.Policies.length:Int)))
   (idx a_0.Policies i_11 fun x17=>
   idx b_1.Policies i_11 fun x19=>
   bindJ (S:=Bool)
    (cond ((!decide (x17.Name = x19.Name)) || decide (x17.At ≠ x19.At))
     (some (.go true))
     (idx a_0.Policies i_11 fun x30=>
     idx b_1.Policies i_11 fun x31=>
     obind (z7u n x17.Rules x19.Rules) fun r32=>
     some (.go (!r32))))
   (fun b24 =>
    cond b24
     (some (.stop (.stop false)))
     (some (.go (IntKind.i64.wrap (i_11+1))))))
   (some (.stop (.go ())))
def za7 (n:Nat) (a_0:zG) (b_1:zG):(Int)→Option (Lp (Int) (Lp (Unit) (Bool))):=
 fun i_39=>
  cond (decide (i_39<(a_0.Programs.length:Int)))
   (idx a_0.Programs i_39 fun x45=>
   idx b_1.Programs i_39 fun x48=>
   bindJ (S:=Bool)
    (cond ((!decide (x45.Name = x48.Name)) || decide (x45.At ≠ x48.At))
     (some (.go true))
     (idx a_0.Programs i_39 fun x60=>
     idx b_1.Programs i_39 fun x61=>
     obind (z64 n x45.Effects x48.Effects) fun r62=>
     some (.go (!r62))))
   (fun b54 =>
    bindJ (S:=Bool)
     (cond b54
      (some (.go true))
      (idx a_0.Programs i_39 fun x70=>
      idx b_1.Programs i_39 fun x71=>
      obind (z6P n x45.Code x48.Code) fun r72=>
      some (.go (!r72))))
    (fun b64 =>
     cond b64
      (some (.stop (.stop false)))
      (some (.go (IntKind.i64.wrap (i_39+1)))))))
   (some (.stop (.go ())))
def z5T (n:Nat) (a_0:zG) (b_1:zG):Option (Bool):=
 cond (decide ((a_0.Policies.length:Int)≠(b_1.Policies.length:Int)) || decide ((a_0.Programs.length:Int)≠(b_1.Programs.length:Int)))
  (some false)
  (bindJ (S := Unit)
   (iter (za6 n a_0 b_1) n 0)
  (fun _ =>
   bindJ (S:=Unit)
    (iter (za7 n a_0 b_1) n 0)
   (fun _ =>
    some true)))
theorem z6x {n:Nat} {a_0:zG} {b_1:zG} {a_0_Policiesv:Value} {a_0_Programsv:Value} {b_1_Policiesv:Value} {b_1_Programsv:Value} {r:Bool} (h:z5T n a_0 b_1=some r) :
  Meets Tryz.prog 14 [.agg #[a_0_Policiesv,a_0_Programsv],.agg #[b_1_Policiesv,b_1_Programsv]] [nro a_0_Policiesv zz a_0.Policies,nro a_0_Programsv zw a_0.Programs,nro b_1_Policiesv zz b_1.Policies,nro b_1_Programsv zw b_1.Programs] (fun v G=>v = .bool r∧G=[]):=by
 refine zN Tryz.func14 rfl Tryz.ntmps14 rfl (fun w0 o0=>?_)
 refine zh ?_
 refine zt (t_box rfl) ?_
 rintro _ _ ⟨b1,rfl,rfl⟩
 refine zt (t_box rfl) ?_
 rintro _ _ ⟨b2,rfl,rfl⟩
 refine ys ?_
 refine zc ?_
 refine zh ?_
 refine ys ?_
 refine oe 8 [2,3] [1,2,3,4,5,6] (fun s=>[(22,.bool s)]) (decide ((a_0.Policies.length:Int)≠(b_1.Policies.length:Int)) || decide ((a_0.Programs.length:Int)≠(b_1.Programs.length:Int))) (fun _ hL4=>?_) ?_
 ·refine z1c 14 (decide ((a_0.Policies.length:Int)≠(b_1.Policies.length:Int))) rfl (fun hg5=>?_) (fun hg5=>?_)
  ·skip
   refine ys ?_
   refine oh [0,1,2,3,4,5] [nro a_0_Policiesv zz a_0.Policies,nro a_0_Programsv zw a_0.Programs,nro b_1_Policiesv zz b_1.Policies,nro b_1_Programsv zw b_1.Programs,box b1 [a_0_Policiesv,a_0_Programsv],box b2 [b_1_Policiesv,b_1_Programsv]] ?_
   refine ys ?_
   refine zr ?_
   exact gc hL4 true [0,1,2,3,4,5] (hi:=by rw [hg5]; simp)
  ·skip
   refine ys ?_
   refine oh [0,1,2,3,4,5] [nro a_0_Policiesv zz a_0.Policies,nro a_0_Programsv zw a_0.Programs,nro b_1_Policiesv zz b_1.Policies,nro b_1_Programsv zw b_1.Programs,box b1 [a_0_Policiesv,a_0_Programsv],box b2 [b_1_Policiesv,b_1_Programsv]] ?_
   refine ys ?_
   refine zr ?_
   exact gc hL4 (decide ((a_0.Programs.length:Int)≠(b_1.Programs.length:Int))) [0,1,2,3,4,5] (hi:=by rw [hg5]; simp)
 refine os ?_
 refine zd ?_
 refine rc h (fun _ h=>?_) (fun _ h=>?_)
 ·refine zh ?_
  refine ys ?_
  refine zd ?_
  refine zA ?_
  exact fs [4] [] Tryz.results14 h
 ·refine run_skip ?_
  refine zD ?_
  refine jr h [2,3] [5,1,2,6,3,4] (fun s (g:Unit)=>[]) (fun s g=>[]) (fun _ h ho8 _ hL9=>?_) ?_
  ·refine zh ?_
   refine ys ?_
   refine zd ?_
   refine zF ?_
   refine lo h [2,3] [5,1,2,6,3,4] (fun s (g:Unit)=>[(5,.int .i64 s)]) (fun s g=>[]) () [4,0,1,5,2,3] ?_
   rintro i_11 _ _ h _ hgo13 hstop14
   refine rs ?_
   refine zH ?_
   refine zh ?_
   refine ys ?_
   refine zd ?_
   refine rc h (fun _ h=>?_) (fun _ h=>?_)
   ·refine run_skip ?_
    refine zg ?_
    refine zF ?_
    refine zH ?_
    refine rf [1,1,1,1,1,1] fun hS=>?_
    refine aq [0,1,2] ?_
    obtain ⟨x17,hzx17,hlx17,hxx17,h⟩:=zP h
    refine aq [3] ?_
    refine z9T (exAt (C:=zz) (i:=i_11.toNat) 1 rfl hxx17) ?_
    rintro (g18:Value)
    refine ag [1,1,1,1,1,1,1] ?_
    refine ag [1,1,1,1,1,1,1,1] ?_
    refine aq [4,5,6,7,8] ?_
    obtain ⟨x19,hzx19,hlx19,hxx19,h⟩:=zP h
    refine aq [9] ?_
    refine z9T (exAt (C:=zz) (i:=i_11.toNat) 4 rfl hxx19) ?_
    rintro (g20:Value)
    refine ag [1,1,1,1,1,1,1,1,1] ?_
    refine ag [1,1,1,1,1,1,1,1,1,1] ?_
    refine aq [10,11,12,13] ?_
    refine ae [28,16] 16 [5,2,3] [1,2,3,4,5,6,7,8,9,10] (fun s=>[(57,.bool s)]) ((!decide (x17.Name=x19.Name)) || decide (x17.At≠x19.At)) (fun hL22=>?_) ?_
    ·refine z1L 43 (!decide (x17.Name=x19.Name)) rfl (fun hg23=>?_) (fun hg23=>?_)
     ·skip
      refine aq [14,15,16,17,18,19,20,21,22,23,24,25,26,27] ?_
      exact aw (hL22 true (by rw [hg23]; simp)) [0,1,2,3,4,5,6,7,8,9]
     ·skip
      refine aq [14,15,16,17,18,19,20,21,22,23,24,25,26,27] ?_
      exact aw (hL22 (decide (x17.At≠x19.At)) (by rw [hg23]; simp)) [0,1,2,3,4,5,6,7,8,9]
    refine az ?_
    refine aq [28] ?_
    refine ab h [44] 0 [5,2,3] [1,2,3,4,5,6,7,8,9,10] (fun s=>[(73,.bool s)]) (fun s=>[]) (fun _ h _ hL28=>?_) ?_
    ·refine z1L 58 ((!decide (x17.Name=x19.Name)) || decide (x17.At≠x19.At)) rfl (fun hg29=>?_) (fun hg29=>?_)
     ·replace h:=z2F h hg29
      refine aq [29,30,31,32,33,34,35,36,37,38,39,40,41,42,43] ?_
      exact aw (hL28 _ (zU h).symm) [0,1,2,3,4,5,6,7,8,9]
     ·replace h:=z2E h hg29
      refine aq [29,30,31] ?_
      obtain ⟨x30,hzx30,hlx30,hxx30,h⟩:=zP h
      refine aq [32,33,34,35,36,37] ?_
      obtain ⟨x31,hzx31,hlx31,hxx31,h⟩:=zP h
      refine aq [38,39,40] ?_
      refine al0 41 [(7,0),(9,0)] Tryz.call38 (fun h=>zbp h) h (fun r32 h=>?_)
      refine aq [42,43] ?_
      exact aw (hL28 _ (zU h).symm) [0,1,2,3,4,5,6,7,8,9]
    rintro b24 h
    refine az ?_
    refine z1K (by kernel_rfl) ?_
    refine zD ?_
    refine rc h (fun _ h=>?_) (fun _ h=>?_)
    ·refine zh ?_
     refine ys ?_
     refine zd ?_
     refine zA ?_
     obtain rfl:=zU h
     obtain rfl:=hstop14 _ rfl
     skip
     obtain rfl:=zM ho8
     exact ft [4] [] Tryz.results14
    ·refine run_skip ?_
     refine zS ?_
     refine zf ?_
     refine ys ?_
     refine zr ?_
     exact gj hgo13 () [0,1,2,3,4,5] h
   ·refine z1h _ rfl ?_
    exact gk hL9 hstop14 () [0,1,2,3,4,5] h
  rintro _ _ h
  refine rs ?_
  refine jr h [] [] (fun s (g:Unit)=>[]) (fun s g=>[]) (fun _ h ho36 _ hL37=>?_) ?_
  ·refine zh ?_
   refine ys ?_
   refine zd ?_
   refine zF ?_
   refine lo h [2,3] [1,2,3,4,5,6] (fun s (g:Unit)=>[(6,.int .i64 s)]) (fun s g=>[]) () [0,1,2,3,4,5] ?_
   rintro i_39 _ _ h _ hgo41 hstop42
   refine rs ?_
   refine zH ?_
   refine zh ?_
   refine ys ?_
   refine zd ?_
   refine rc h (fun _ h=>?_) (fun _ h=>?_)
   ·refine run_skip ?_
    refine zg ?_
    refine zF ?_
    refine zH ?_
    refine rf [1,1,1,1,1,1] fun hS=>?_
    refine aq [0,1,2] ?_
    obtain ⟨x45,hzx45,hlx45,hxx45,h⟩:=zP h
    refine aq [3] ?_
    refine z9T (exAt (C:=zw) (i:=i_39.toNat) 2 rfl hxx45) ?_
    rintro ⟨g46,g47⟩
    refine ag [1,1,1,1,1,1,1] ?_
    refine ag [1,1,1,1,1,1,1,1] ?_
    refine ag [1,1,1,1,1,1,1,1,1] ?_
    refine aq [4,5,6,7,8] ?_
    obtain ⟨x48,hzx48,hlx48,hxx48,h⟩:=zP h
    refine aq [9] ?_
    refine z9T (exAt (C:=zw) (i:=i_39.toNat) 5 rfl hxx48) ?_
    rintro ⟨g49,g50⟩
    refine ag [1,1,1,1,1,1,1,1,1,1] ?_
    refine ag [1,1,1,1,1,1,1,1,1,1,1] ?_
    refine ag [1,1,1,1,1,1,1,1,1,1,1,1] ?_
    refine aq [10,11,12,13] ?_
    refine ae [28,32] 32 [6,2,3] [1,2,3,4,5,6,7,8,9,10,11,12] (fun s=>[(108,.bool s)]) ((!decide (x45.Name=x48.Name)) || decide (x45.At≠x48.At)) (fun hL52=>?_) ?_
    ·refine z1L 94 (!decide (x45.Name=x48.Name)) rfl (fun hg53=>?_) (fun hg53=>?_)
     ·skip
      refine aq [14,15,16,17,18,19,20,21,22,23,24,25,26,27] ?_
      exact aw (hL52 true (by rw [hg53]; simp)) [0,1,2,3,4,5,6,7,8,9,10,11]
     ·skip
      refine aq [14,15,16,17,18,19,20,21,22,23,24,25,26,27] ?_
      exact aw (hL52 (decide (x45.At≠x48.At)) (by rw [hg53]; simp)) [0,1,2,3,4,5,6,7,8,9,10,11]
    refine az ?_
    refine aq [28] ?_
    refine ab h [44,16] 16 [6,2,3] [1,2,3,4,5,6,7,8,9,10,11,12] (fun s=>[(124,.bool s)]) (fun s=>[]) (fun _ h _ hL58=>?_) ?_
    ·refine z1L 109 ((!decide (x45.Name=x48.Name)) || decide (x45.At≠x48.At)) rfl (fun hg59=>?_) (fun hg59=>?_)
     ·replace h:=z2F h hg59
      refine aq [29,30,31,32,33,34,35,36,37,38,39,40,41,42,43] ?_
      exact aw (hL58 _ (zU h).symm) [0,1,2,3,4,5,6,7,8,9,10,11]
     ·replace h:=z2E h hg59
      refine aq [29,30,31] ?_
      obtain ⟨x60,hzx60,hlx60,hxx60,h⟩:=zP h
      refine aq [32,33,34,35,36,37] ?_
      obtain ⟨x61,hzx61,hlx61,hxx61,h⟩:=zP h
      refine aq [38,39,40] ?_
      refine al0 41 [(7,0),(10,0)] Tryz.call39 (fun h=>zak h) h (fun r62 h=>?_)
      refine aq [42,43] ?_
      exact aw (hL58 _ (zU h).symm) [0,1,2,3,4,5,6,7,8,9,10,11]
    rintro b54 h
    refine az ?_
    refine aq [44] ?_
    refine ab h [60] 0 [6,2,3] [1,2,3,4,5,6,7,8,9,10,11,12] (fun s=>[(140,.bool s)]) (fun s=>[]) (fun _ h _ hL68=>?_) ?_
    ·refine z1L 125 b54 rfl (fun hg69=>?_) (fun hg69=>?_)
     ·replace h:=z2F h hg69
      refine aq [45,46,47,48,49,50,51,52,53,54,55,56,57,58,59] ?_
      exact aw (hL68 _ (zU h).symm) [0,1,2,3,4,5,6,7,8,9,10,11]
     ·replace h:=z2E h hg69
      refine aq [45,46,47] ?_
      obtain ⟨x70,hzx70,hlx70,hxx70,h⟩:=zP h
      refine aq [48,49,50,51,52,53] ?_
      obtain ⟨x71,hzx71,hlx71,hxx71,h⟩:=zP h
      refine aq [54,55,56] ?_
      refine zK [57] (by kernel_rfl) rfl (zk ?_ zC)
      obtain ⟨r72,hr73,h⟩:=zJ h
      refine at' rfl (tc [(8,0),(11,0)] Tryz.call40 (zc7 hr73)) ?_
      rintro _ _ ⟨_,⟨rfl,rfl⟩,rfl⟩
      refine sb ?_
      refine aq [58,59] ?_
      exact aw (hL68 _ (zU h).symm) [0,1,2,3,4,5,6,7,8,9,10,11]
    rintro b64 h
    refine az ?_
    refine z1K (by kernel_rfl) ?_
    refine zD ?_
    refine rc h (fun _ h=>?_) (fun _ h=>?_)
    ·refine zh ?_
     refine ys ?_
     refine zd ?_
     refine zA ?_
     obtain rfl:=zU h
     obtain rfl:=hstop42 _ rfl
     skip
     obtain rfl:=zM ho36
     exact ft [4] [] Tryz.results14
    ·refine run_skip ?_
     refine zS ?_
     refine zf ?_
     refine ys ?_
     refine zr ?_
     exact gj hgo41 () [0,1,2,3,4,5] h
   ·refine z1h _ rfl ?_
    exact gk hL37 hstop42 () [] h
  rintro _ _ h
  refine rs ?_
  refine zh ?_
  refine ys ?_
  refine zd ?_
  refine zA ?_
  exact fs [4] [] Tryz.results14 h
end Go.Proofs.YtcmaoifiiigggaaGreatDoor
