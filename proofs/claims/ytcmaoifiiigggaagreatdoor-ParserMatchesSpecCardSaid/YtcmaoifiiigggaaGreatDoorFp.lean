/-
  Functions of the program, lifted: part 16.
-/
import Derived.Test.YtcmaoifiiigggaaGreatDoorFn
import Derived.Test.YtcmaoifiiigggaaGreatDoorFo
set_option linter.unusedSimpArgs false
set_option linter.unusedVariables false
namespace Go.Proofs.YtcmaoifiiigggaaGreatDoor
open Go.Abs
set_option maxRecDepth 20000
set_option maxHeartbeats 4000000
def zcJ (n:Nat) (a_0:zG) (b_1:zG):(Int)→Option (Lp (Int) (Lp (Unit) (Bool))):=
 fun i_11=>
  cond (decide (i_11<(a_0.Policies.length:Int)))
   (idx a_0.Policies i_11 fun x17=>
   idx b_1.Policies i_11 fun x19=>
   bindJ (S:=Bool)
    (cond ((!decide (x17.Name = x19.Name)) || decide (x17.At ≠ x19.At))
     (some (.go true))
     (idx a_0.Policies i_11 fun x31=>
     idx b_1.Policies i_11 fun x32=>
     obind (z7u n x17.Rules x32.Rules) fun r34=>
     some (.go (!r34))))
   (fun b25 =>
    cond b25
     (some (.stop (.stop false)))
     (some (.go (IntKind.i64.wrap (i_11+1))))))
   (some (.stop (.go ())))
def zcK (n:Nat) (a_0:zG) (b_1:zG):(Int)→Option (Lp (Int) (Lp (Unit) (Bool))):=
 fun i_41=>
  cond (decide (i_41<(a_0.Programs.length:Int)))
   (idx a_0.Programs i_41 fun x47=>
   idx b_1.Programs i_41 fun x50=>
   bindJ (S:=Bool)
    (cond ((!decide (x47.Name = x50.Name)) || decide (x47.At ≠ x50.At))
     (some (.go true))
     (idx a_0.Programs i_41 fun x64=>
     idx b_1.Programs i_41 fun x65=>
     obind (z64 n x47.Effects x65.Effects) fun r69=>
     some (.go (!r69))))
   (fun b58 =>
    bindJ (S:=Bool)
     (cond b58
      (some (.go true))
      (idx a_0.Programs i_41 fun x77=>
      idx b_1.Programs i_41 fun x78=>
      obind (z6P n x47.Code x78.Code) fun r82=>
      some (.go (!r82))))
    (fun b71 =>
     cond b71
      (some (.stop (.stop false)))
      (some (.go (IntKind.i64.wrap (i_41+1)))))))
   (some (.stop (.go ())))
def zcG (n:Nat) (a_0:zG) (b_1:zG):Option (Bool):=
 cond (decide ((a_0.Policies.length:Int)≠(b_1.Policies.length:Int)) || decide ((a_0.Programs.length:Int)≠(b_1.Programs.length:Int)))
  (some false)
  (bindJ (S := Unit)
   (iter (zcJ n a_0 b_1) n 0)
  (fun _ =>
   bindJ (S:=Unit)
    (iter (zcK n a_0 b_1) n 0)
   (fun _ =>
    some true)))
theorem zfE {n:Nat} {a_0:zG} {b_1:zG} {a_0_Policiesv:Value} {a_0_Programsv:Value} {b_1_Policiesv:Value} {b_1_Programsv:Value} {r:Bool} (h:zcG n a_0 b_1=some r) :
  Meets Tryz.prog 14 [.agg #[a_0_Policiesv,a_0_Programsv],.agg #[b_1_Policiesv,b_1_Programsv]] [nro a_0_Policiesv zz a_0.Policies,nro a_0_Programsv zw a_0.Programs,nrow b_1_Policiesv zz b_1.Policies,nrow b_1_Programsv zw b_1.Programs] (fun v G=>v = .bool r∧G=[]):=by
 refine zN Tryz.func14 rfl Tryz.ntmps14 rfl (fun w0 o0=>?_)
 refine zh ?_
 refine zt (t_box rfl) ?_
 rintro _ _ ⟨b1,rfl,rfl⟩
 refine zt (t_box rfl) ?_
 rintro _ _ ⟨b2,rfl,rfl⟩
 refine ys ?_
 refine zc ?_
 refine zh ?_
 refine ys ?_
 refine oe 8 [2,3] [1,2,3,4,5,6] (fun s=>[(22,.bool s)]) (decide ((a_0.Policies.length:Int)≠(b_1.Policies.length:Int)) || decide ((a_0.Programs.length:Int)≠(b_1.Programs.length:Int))) (fun _ hL4=>?_) ?_
 ·refine z1c 14 (decide ((a_0.Policies.length:Int)≠(b_1.Policies.length:Int))) rfl (fun hg5=>?_) (fun hg5=>?_)
  ·skip
   refine ys ?_
   refine oh [0,1,2,3,4,5] [nro a_0_Policiesv zz a_0.Policies,nro a_0_Programsv zw a_0.Programs,nrow b_1_Policiesv zz b_1.Policies,nrow b_1_Programsv zw b_1.Programs,box b1 [a_0_Policiesv,a_0_Programsv],box b2 [b_1_Policiesv,b_1_Programsv]] ?_
   refine ys ?_
   refine zr ?_
   exact gc hL4 true [0,1,2,3,4,5] (hi:=by rw [hg5]; simp)
  ·skip
   refine ys ?_
   refine oh [0,1,2,3,4,5] [nro a_0_Policiesv zz a_0.Policies,nro a_0_Programsv zw a_0.Programs,nrow b_1_Policiesv zz b_1.Policies,nrow b_1_Programsv zw b_1.Programs,box b1 [a_0_Policiesv,a_0_Programsv],box b2 [b_1_Policiesv,b_1_Programsv]] ?_
   refine ys ?_
   refine zr ?_
   exact gc hL4 (decide ((a_0.Programs.length:Int)≠(b_1.Programs.length:Int))) [0,1,2,3,4,5] (hi:=by rw [hg5]; simp)
 refine os ?_
 refine zd ?_
 refine rc h (fun _ h=>?_) (fun _ h=>?_)
 ·refine zh ?_
  refine ys ?_
  refine zd ?_
  refine zA ?_
  exact fs [4] [] Tryz.results14 h
 ·refine run_skip ?_
  refine zD ?_
  refine jr h [2,3] [5,1,2,6,3,4] (fun s (g:Unit)=>[]) (fun s g=>[]) (fun _ h ho8 _ hL9=>?_) ?_
  ·refine zh ?_
   refine ys ?_
   refine zd ?_
   refine zF ?_
   refine lo h [2,3] [5,1,2,6,3,4] (fun s (g:Unit)=>[(5,.int .i64 s)]) (fun s g=>[]) () [4,0,1,5,2,3] ?_
   rintro i_11 _ _ h _ hgo13 hstop14
   refine rs ?_
   refine zH ?_
   refine zh ?_
   refine ys ?_
   refine zd ?_
   refine rc h (fun _ h=>?_) (fun _ h=>?_)
   ·refine run_skip ?_
    refine zg ?_
    refine zF ?_
    refine zH ?_
    refine rf [1,1,1,1,1,1] fun hS=>?_
    refine aq [0,1,2] ?_
    obtain ⟨x17,hzx17,hlx17,hxx17,h⟩:=zP h
    refine aq [3] ?_
    refine z9T (exAt (C:=zz) (i:=i_11.toNat) 1 rfl hxx17) ?_
    rintro (g18:Value)
    refine ag [1,1,1,1,1,1,1] ?_
    refine ag [1,1,1,1,1,1,1,1] ?_
    refine aq [4,5,6,7,8] ?_
    obtain ⟨x19,hzx19,hlx19,hxx19,h⟩:=zP h
    refine aq [9,10] ?_
    refine zK [11] (by kernel_rfl) rfl (zk ?_ zC)
    refine at' rfl (ze7 (C:=zz) (i:=i_11.toNat) (j:=0) 4 (fun γ=>.string (bs x19.Name)) Tryz.isAgg9 rfl rfl hxx19 (fun _=>rfl)) ?_
    rintro _ _ ⟨(g20:Value),rfl,rfl⟩
    refine sb ?_
    refine aq [12,13] ?_
    refine ae [28,16] 16 [5,2,3] [1,2,3,4,5,6,7,8,9] (fun s=>[(57,.bool s)]) ((!decide (x17.Name=x19.Name)) || decide (x17.At≠x19.At)) (fun hL22=>?_) ?_
    ·refine z1L 43 (!decide (x17.Name=x19.Name)) rfl (fun hg23=>?_) (fun hg23=>?_)
     ·skip
      refine aq [14,15,16,17,18,19,20,21,22,23,24,25,26,27] ?_
      exact aw (hL22 true (by rw [hg23]; simp)) [0,1,2,3,4,5,6,7,8]
     ·skip
      refine aq [14,15,16,17,18,19,20,21,22,23,24] ?_
      refine zK [25] (by kernel_rfl) rfl (zk ?_ zC)
      refine at' rfl (ze7 (C:=zz) (i:=i_11.toNat) (j:=1) 4 (fun γ=>.int .i64 x19.At) Tryz.isAgg3 rfl rfl hxx19 (fun _=>rfl)) ?_
      rintro _ _ ⟨(g24:Value),rfl,rfl⟩
      refine sb ?_
      refine aq [26,27] ?_
      exact aw (hL22 (decide (x17.At≠x19.At)) (by rw [hg23]; simp)) [0,1,2,3,4,5,6,7,8]
    refine az ?_
    refine aq [28] ?_
    refine ab h [44] 0 [5,2,3] [1,2,3,4,5,6,7,8,9] (fun s=>[(73,.bool s)]) (fun s=>[]) (fun _ h _ hL29=>?_) ?_
    ·refine z1L 58 ((!decide (x17.Name=x19.Name)) || decide (x17.At≠x19.At)) rfl (fun hg30=>?_) (fun hg30=>?_)
     ·replace h:=z2F h hg30
      refine aq [29,30,31,32,33,34,35,36,37,38,39,40,41,42,43] ?_
      exact aw (hL29 _ (zU h).symm) [0,1,2,3,4,5,6,7,8]
     ·replace h:=z2E h hg30
      refine aq [29,30,31] ?_
      obtain ⟨x31,hzx31,hlx31,hxx31,h⟩:=zP h
      refine aq [32,33,34,35,36,37] ?_
      obtain ⟨x32,hzx32,hlx32,hxx32,h⟩:=zP h
      refine aq [38,39] ?_
      refine zK [40] (by kernel_rfl) rfl (zk ?_ zC)
      refine at' rfl (ze7 (C:=zz) (i:=i_11.toNat) (j:=2) 4 (fun γ=>γ) Tryz.isAgg74 rfl rfl hxx32 (fun _=>rfl)) ?_
      rintro g33 _ ⟨_,rfl,rfl⟩
      refine sb ?_
      refine al0 41 [(7,0),(9,0)] Tryz.call38 (fun h=>zbp h) h (fun r34 h=>?_)
      refine aq [42,43] ?_
      exact aw (hL29 _ (zU h).symm) [0,1,2,3,4,5,6,7,8]
    rintro b25 h
    refine az ?_
    refine z1K (by kernel_rfl) ?_
    refine zD ?_
    refine rc h (fun _ h=>?_) (fun _ h=>?_)
    ·refine zh ?_
     refine ys ?_
     refine zd ?_
     refine zA ?_
     obtain rfl:=zU h
     obtain rfl:=hstop14 _ rfl
     skip
     obtain rfl:=zM ho8
     exact ft [4] [] Tryz.results14
    ·refine run_skip ?_
     refine zS ?_
     refine zf ?_
     refine ys ?_
     refine zr ?_
     exact gj hgo13 () [0,1,2,3,4,5] h
   ·refine z1h _ rfl ?_
    exact gk hL9 hstop14 () [0,1,2,3,4,5] h
  rintro _ _ h
  refine rs ?_
  refine jr h [] [] (fun s (g:Unit)=>[]) (fun s g=>[]) (fun _ h ho38 _ hL39=>?_) ?_
  ·refine zh ?_
   refine ys ?_
   refine zd ?_
   refine zF ?_
   refine lo h [2,3] [1,2,3,4,5,6] (fun s (g:Unit)=>[(6,.int .i64 s)]) (fun s g=>[]) () [0,1,2,3,4,5] ?_
   rintro i_41 _ _ h _ hgo43 hstop44
   refine rs ?_
   refine zH ?_
   refine zh ?_
   refine ys ?_
   refine zd ?_
   refine rc h (fun _ h=>?_) (fun _ h=>?_)
   ·refine run_skip ?_
    refine zg ?_
    refine zF ?_
    refine zH ?_
    refine rf [1,1,1,1,1,1] fun hS=>?_
    refine aq [0,1,2] ?_
    obtain ⟨x47,hzx47,hlx47,hxx47,h⟩:=zP h
    refine aq [3] ?_
    refine z9T (exAt (C:=zw) (i:=i_41.toNat) 2 rfl hxx47) ?_
    rintro ⟨g48,g49⟩
    refine ag [1,1,1,1,1,1,1] ?_
    refine ag [1,1,1,1,1,1,1,1] ?_
    refine ag [1,1,1,1,1,1,1,1,1] ?_
    refine aq [4,5,6,7,8] ?_
    obtain ⟨x50,hzx50,hlx50,hxx50,h⟩:=zP h
    refine aq [9,10] ?_
    refine zK [11] (by kernel_rfl) rfl (zk ?_ zC)
    refine at' rfl (ze7 (C:=zw) (i:=i_41.toNat) (j:=0) 5 (fun γ=>.string (bs x50.Name)) Tryz.isAgg9 rfl rfl hxx50 (fun _=>rfl)) ?_
    rintro _ _ ⟨⟨g51,g52⟩,rfl,rfl⟩
    refine sb ?_
    refine aq [12,13] ?_
    refine ae [28,32] 32 [6,2,3] [1,2,3,4,5,6,7,8,9,10,11] (fun s=>[(108,.bool s)]) ((!decide (x47.Name=x50.Name)) || decide (x47.At≠x50.At)) (fun hL54=>?_) ?_
    ·refine z1L 94 (!decide (x47.Name=x50.Name)) rfl (fun hg55=>?_) (fun hg55=>?_)
     ·skip
      refine aq [14,15,16,17,18,19,20,21,22,23,24,25,26,27] ?_
      exact aw (hL54 true (by rw [hg55]; simp)) [0,1,2,3,4,5,6,7,8,9,10]
     ·skip
      refine aq [14,15,16,17,18,19,20,21,22,23,24] ?_
      refine zK [25] (by kernel_rfl) rfl (zk ?_ zC)
      refine at' rfl (ze7 (C:=zw) (i:=i_41.toNat) (j:=1) 5 (fun γ=>.int .i64 x50.At) Tryz.isAgg3 rfl rfl hxx50 (fun _=>rfl)) ?_
      rintro _ _ ⟨⟨g56,g57⟩,rfl,rfl⟩
      refine sb ?_
      refine aq [26,27] ?_
      exact aw (hL54 (decide (x47.At≠x50.At)) (by rw [hg55]; simp)) [0,1,2,3,4,5,6,7,8,9,10]
    refine az ?_
    refine aq [28] ?_
    refine ab h [44,16] 16 [6,2,3] [1,2,3,4,5,6,7,8,9,10,11] (fun s=>[(124,.bool s)]) (fun s=>[]) (fun _ h _ hL62=>?_) ?_
    ·refine z1L 109 ((!decide (x47.Name=x50.Name)) || decide (x47.At≠x50.At)) rfl (fun hg63=>?_) (fun hg63=>?_)
     ·replace h:=z2F h hg63
      refine aq [29,30,31,32,33,34,35,36,37,38,39,40,41,42,43] ?_
      exact aw (hL62 _ (zU h).symm) [0,1,2,3,4,5,6,7,8,9,10]
     ·replace h:=z2E h hg63
      refine aq [29,30,31] ?_
      obtain ⟨x64,hzx64,hlx64,hxx64,h⟩:=zP h
      refine aq [32,33,34,35,36,37] ?_
      obtain ⟨x65,hzx65,hlx65,hxx65,h⟩:=zP h
      refine aq [38,39] ?_
      refine zK [40] (by kernel_rfl) rfl (zk ?_ zC)
      refine at' rfl (ze7 (C:=zw) (i:=i_41.toNat) (j:=2) 5 (fun γ=>γ.1) Tryz.isAgg59 rfl rfl hxx65 (fun _=>rfl)) ?_
      rintro vv68 _ ⟨⟨g66,g67⟩,hvv68,rfl⟩; subst vv68
      refine sb ?_
      refine al0 41 [(7,0),(11,0)] Tryz.call39 (fun h=>zak h) h (fun r69 h=>?_)
      refine aq [42,43] ?_
      exact aw (hL62 _ (zU h).symm) [0,1,2,3,4,5,6,7,8,9,10]
    rintro b58 h
    refine az ?_
    refine aq [44] ?_
    refine ab h [60] 0 [6,2,3] [1,2,3,4,5,6,7,8,9,10,11] (fun s=>[(140,.bool s)]) (fun s=>[]) (fun _ h _ hL75=>?_) ?_
    ·refine z1L 125 b58 rfl (fun hg76=>?_) (fun hg76=>?_)
     ·replace h:=z2F h hg76
      refine aq [45,46,47,48,49,50,51,52,53,54,55,56,57,58,59] ?_
      exact aw (hL75 _ (zU h).symm) [0,1,2,3,4,5,6,7,8,9,10]
     ·replace h:=z2E h hg76
      refine aq [45,46,47] ?_
      obtain ⟨x77,hzx77,hlx77,hxx77,h⟩:=zP h
      refine aq [48,49,50,51,52,53] ?_
      obtain ⟨x78,hzx78,hlx78,hxx78,h⟩:=zP h
      refine aq [54,55] ?_
      refine zK [56] (by kernel_rfl) rfl (zk ?_ zC)
      refine at' rfl (ze7 (C:=zw) (i:=i_41.toNat) (j:=3) 5 (fun γ=>γ.2) Tryz.isAgg80 rfl rfl hxx78 (fun _=>rfl)) ?_
      rintro vv81 _ ⟨⟨g79,g80⟩,hvv81,rfl⟩; subst vv81
      refine sb ?_
      refine zK [57] (by kernel_rfl) rfl (zk ?_ zC)
      obtain ⟨r82,hr83,h⟩:=zJ h
      refine at' rfl (tc [(8,0),(12,0)] Tryz.call40 (zc7 hr83)) ?_
      rintro _ _ ⟨_,⟨rfl,rfl⟩,rfl⟩
      refine sb ?_
      refine aq [58,59] ?_
      exact aw (hL75 _ (zU h).symm) [0,1,2,3,4,5,6,7,8,9,10]
    rintro b71 h
    refine az ?_
    refine z1K (by kernel_rfl) ?_
    refine zD ?_
    refine rc h (fun _ h=>?_) (fun _ h=>?_)
    ·refine zh ?_
     refine ys ?_
     refine zd ?_
     refine zA ?_
     obtain rfl:=zU h
     obtain rfl:=hstop44 _ rfl
     skip
     obtain rfl:=zM ho38
     exact ft [4] [] Tryz.results14
    ·refine run_skip ?_
     refine zS ?_
     refine zf ?_
     refine ys ?_
     refine zr ?_
     exact gj hgo43 () [0,1,2,3,4,5] h
   ·refine z1h _ rfl ?_
    exact gk hL39 hstop44 () [] h
  rintro _ _ h
  refine rs ?_
  refine zh ?_
  refine ys ?_
  refine zd ?_
  refine zA ?_
  exact fs [4] [] Tryz.results14 h
def zaz (n:Nat) (s_0:(List UInt8)) (at_1:Int) (e_2:Int):Option (Bool):=
 obind (z39 n s_0) fun r1=>
 bindJ (S:=Bool)
  (cond (decide (r1.2.At = at_1) && (decide (r1.2.E = e_2)))
   (obind (zcG n r1.1 (zG.mk ([]:List zL) ([]:List zI))) fun r15=>
   some (.go r15))
   (some (.go false)))
 (fun b9 =>
  some b9)
theorem z9Z {n:Nat} {s_0:(List UInt8)} {at_1:Int} {e_2:Int} {r:Bool} (h:zaz n s_0 at_1 e_2=some r) :
  Meets Tryz.prog 31 [.string (bs s_0),.int .i64 at_1,.int .i64 e_2] [globA] (fun v G=>v = .bool r∧G=[]):=by
 refine zN Tryz.func31 rfl Tryz.ntmps31 rfl (fun w0 o0=>?_)
 refine zh ?_
 refine ys ?_
 refine za ?_
 refine ys ?_
 refine cl2 [(0,0)] Tryz.call12 (fun h=>z3m h) h (fun r1 v3 v4 h=>?_)
 refine ys ?_
 refine al fun b5=>?_
 refine al fun b6=>?_
 refine ys ?_
 refine zc ?_
 refine rj [1,2,7,8] [0,1,2,3,4] ?_
 refine z8 ?_
 refine ys ?_
 refine zq (y_eqS (by kernel_rfl) (by kernel_rfl) Tryz.runUnderlying29 rfl rfl (.cons (z7k (by decide) Tryz.runUnderlying3 Tryz.isAgg3 rfl rfl) (.cons (z7k (by decide) Tryz.runUnderlying27 Tryz.isAgg27 rfl rfl) EqFs.nil))) ?_
 refine ys ?_
 refine ob h 4 [] [1] (fun s=>[(23,.bool s)]) (fun s=>[]) (fun _ h _ _ hL13=>?_) ?_
 ·refine z1c 19 (decide (r1.2.At=at_1) && (decide (r1.2.E=e_2))) rfl (fun hg14=>?_) (fun hg14=>?_)
  ·replace h:=z2F h hg14
   refine ys ?_
   refine zB (z1q zz) ?_
   refine zB (z1q zw) ?_
   refine cl0 [(1,0),(2,0),(5,2),(6,2)] Tryz.call14 (fun h=>zfE h) h (fun r15 h=>?_)
   refine ys ?_
   refine zr ?_
   exact gb hL13 [0] h
  ·replace h:=z2E h hg14
   refine ys ?_
   refine zr ?_
   exact gb hL13 [0] h
 rintro b9 h
 refine os ?_
 refine ys ?_
 refine zd ?_
 refine zA ?_
 exact fs [6] [] Tryz.results31 h
end Go.Proofs.YtcmaoifiiigggaaGreatDoor
