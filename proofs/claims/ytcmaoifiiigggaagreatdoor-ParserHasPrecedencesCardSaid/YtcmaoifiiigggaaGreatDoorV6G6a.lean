/-
  Functions that the law ParserHasPrecedences needs, lifted.
-/
import Derived.Test.YtcmaoifiiigggaaGreatDoorFa
set_option linter.unusedSimpArgs false
set_option linter.unusedVariables false
namespace Go.Proofs.YtcmaoifiiigggaaGreatDoor
open Go.Abs
set_option maxRecDepth 20000
set_option maxHeartbeats 4000000
def zcr (op_0:Int):Option ((List UInt8)×Int):=
 cond (decide (op_0=22))
  (some ([111,114],1))
  (cond (decide (op_0 = 21))
   (some ([97,110,100],2))
   (cond (decide (op_0 = 10))
    (some ([43],5))
    (cond (decide (op_0 = 11))
     (some ([45],5))
     (cond (decide (op_0 = 12))
      (some ([42],6))
      (cond (decide (op_0 = 14))
       (some ([37],6))
       (some ([47],6)))))))
theorem zcs {op_0:Int} {r:(List UInt8)×Int} (h:zcr op_0=some r) :
  Meets Tryz.prog 22 [.int .i64 op_0] [] (fun v G=>v = .tuple #[.string (bs r.1),.int .i64 r.2]∧G=[]):=by
 refine zN Tryz.func22 rfl Tryz.ntmps22 rfl (fun w0 o0=>?_)
 refine zh ?_
 refine ys ?_
 refine zc ?_
 refine zh ?_
 refine ys ?_
 refine zd ?_
 refine zF ?_
 refine zh ?_
 refine ys ?_
 refine zd ?_
 refine rc h (fun _ h=>?_) (fun _ h=>?_)
 ·refine zh ?_
  refine ys ?_
  refine zd ?_
  refine zA ?_
  exact fs [2,3] [] Tryz.results22 h
 ·refine zh ?_
  refine ys ?_
  refine zd ?_
  refine rc h (fun _ h=>?_) (fun _ h=>?_)
  ·refine zh ?_
   refine ys ?_
   refine zd ?_
   refine zA ?_
   exact fs [2,3] [] Tryz.results22 h
  ·refine zh ?_
   refine ys ?_
   refine zd ?_
   refine rc h (fun _ h=>?_) (fun _ h=>?_)
   ·refine zH ?_
    refine rj [] [] ?_
    refine z8 ?_
    refine ys ?_
    refine zd ?_
    refine zA ?_
    exact fs [2,3] [] Tryz.results22 h
   ·refine zH ?_
    refine rj [4] [] ?_
    refine z8 ?_
    refine ys ?_
    refine zd ?_
    refine rc h (fun _ h=>?_) (fun _ h=>?_)
    ·refine zh ?_
     refine ys ?_
     refine zd ?_
     refine zA ?_
     exact fs [2,3] [] Tryz.results22 h
    ·refine zh ?_
     refine ys ?_
     refine zd ?_
     refine rc h (fun _ h=>?_) (fun _ h=>?_)
     ·refine zh ?_
      refine ys ?_
      refine zd ?_
      refine zA ?_
      exact fs [2,3] [] Tryz.results22 h
     ·refine zh ?_
      refine ys ?_
      refine zd ?_
      refine rc h (fun _ h=>?_) (fun _ h=>?_)
      ·refine zh ?_
       refine ys ?_
       refine zd ?_
       refine zA ?_
       exact fs [2,3] [] Tryz.results22 h
      ·refine run_skip ?_
       refine zS ?_
       refine ze ?_
       refine ys ?_
       refine zd ?_
       refine zA ?_
       exact fs [2,3] [] Tryz.results22 h
def z8l (x_0:zi):Option (Int):=
 cond (decide ((x_0.Args.length:Int)≠2))
  (some 9)
  (obind (zcr x_0.Op) fun r3=>
  some r3.2)
theorem zc4 {x_0:zi} {x_0_Argsv:Value} {r:Int} (h:z8l x_0=some r) :
  Meets Tryz.prog 57 [.agg #[.int .i64 x_0.Op,.int .i64 x_0.At,.string (bs x_0.S),x_0_Argsv]] [nro x_0_Argsv zj x_0.Args] (fun v G=>v = .int .i64 r∧G=[]):=by
 refine zN Tryz.func57 rfl Tryz.ntmps57 rfl (fun w0 o0=>?_)
 refine zh ?_
 refine zt (t_box rfl) ?_
 rintro _ _ ⟨b1,rfl,rfl⟩
 refine ys ?_
 refine zc ?_
 refine zh ?_
 refine ys ?_
 refine zd ?_
 refine rc h (fun _ h=>?_) (fun _ h=>?_)
 ·refine zh ?_
  refine ys ?_
  refine zd ?_
  refine zA ?_
  exact fs [2] [] Tryz.results57 h
 ·refine run_skip ?_
  refine ze ?_
  refine ys ?_
  refine cl0 [] Tryz.call22 (fun h=>zcs h) h (fun r3 h=>?_)
  refine ys ?_
  refine zc ?_
  refine rj [4] [] ?_
  refine z8 ?_
  refine ys ?_
  refine zd ?_
  refine zA ?_
  exact fs [2] [] Tryz.results57 h
def z9a (n:Nat) (rec_law19_flat:zi→Option ((List UInt8)×Bool)) (x_0:zi):Option ((List UInt8)×Bool):=
 cond (decide ((x_0.Args.length:Int)≠2))
  (some (x_0.S,decide (x_0.Op=3)))
  (idx x_0.Args 0 fun x3=>
  obind (rec_law19_flat x3) fun r5=>
  idx x_0.Args 1 fun x7=>
  obind (rec_law19_flat x7) fun r9=>
  obind (zcr x_0.Op) fun r11=>
  need (r5.1.length+[32].length≤4294967296) (
  need ((r5.1++[32]).length+r11.1.length≤4294967296) (
  need (((r5.1++[32])++r11.1).length+[32].length≤4294967296) (
  need ((((r5.1++[32])++r11.1)++[32]).length+r9.1.length≤4294967296) (
  bindJ (S:=Bool)
   (cond (r5.2 && r9.2)
    (obind (z8l x3) fun r27=>
    some (.go (decide (r11.2≤r27))))
    (some (.go false)))
  (fun b20 =>
   bindJ (S:=Bool)
    (cond b20
     (obind (z8l x7) fun r36=>
     some (.go (decide (r11.2<r36))))
     (some (.go false)))
   (fun b29 =>
    some (((((r5.1++[32])++r11.1)++[32])++r9.1),b29))))))))
theorem zfe {n:Nat} {rec_law19_flat:zi→Option ((List UInt8)×Bool)} (hrec_law19_flat:K21 rec_law19_flat 23):K21 (z9a n rec_law19_flat) 23:=by
 intro x_0 x_0_Argsv r h
 refine zN Tryz.func23 rfl Tryz.ntmps23 rfl (fun w0 o0=>?_)
 refine zh ?_
 refine zt (t_box rfl) ?_
 rintro _ _ ⟨b1,rfl,rfl⟩
 refine ys ?_
 refine zc ?_
 refine zh ?_
 refine ys ?_
 refine zd ?_
 refine rc h (fun _ h=>?_) (fun _ h=>?_)
 ·refine zH ?_
  refine z4U (by kernel_rfl) (by kernel_rfl) ?_
  refine yu ?_
  refine z2m ?_
  refine zD ?_
  refine zA ?_
  exact fs [2,3] [] Tryz.results23 h
 ·refine run_skip ?_
  refine ze ?_
  refine ys ?_
  obtain ⟨x3,hzx3,hlx3,hxx3,h⟩:=zP h
  refine ys ?_
  refine z4a (exAtT (T:=z1b) (i:=(0:Int).toNat) 0 rfl hxx3) ?_
  rintro (g4:Value)
  refine ys ?_
  refine cl0 [(3,0)] Tryz.call23 (fun h=>hrec_law19_flat h) h (fun r5 h=>?_)
  refine ys ?_
  refine oh [0,1] [nro x_0_Argsv zj x_0.Args,box b1 [.int .i64 x_0.Op,.int .i64 x_0.At,.string (bs x_0.S),x_0_Argsv]] ?_
  refine ys ?_
  refine za ?_
  refine ys ?_
  obtain ⟨x7,hzx7,hlx7,hxx7,h⟩:=zP h
  refine ys ?_
  refine z4a (exAtT (T:=z1b) (i:=(1:Int).toNat) 0 rfl hxx7) ?_
  rintro (g8:Value)
  refine ys ?_
  refine cl0 [(3,0)] Tryz.call23 (fun h=>hrec_law19_flat h) h (fun r9 h=>?_)
  refine ys ?_
  refine zc ?_
  refine rj [1,4,5,6,7] [0,1] ?_
  refine z8 ?_
  refine ys ?_
  refine cl0 [] Tryz.call22 (fun h=>zcs h) h (fun r11 h=>?_)
  refine ys ?_
  refine zc ?_
  refine rj [1,4,5,6,7,8,9] [0,1] ?_
  refine z8 ?_
  refine ys ?_
  obtain ⟨hs13,h⟩:=zX h
  refine zq (zdd rfl rfl hs13) ?_
  refine ys ?_
  obtain ⟨hs14,h⟩:=zX h
  refine zq (zdd rfl rfl hs14) ?_
  obtain ⟨hs15,h⟩:=zX h
  refine zq (zdd rfl rfl hs15) ?_
  refine ys ?_
  obtain ⟨hs16,h⟩:=zX h
  refine zq (zdd rfl rfl hs16) ?_
  refine ys ?_
  refine oq 2 49 51 [1,9,47] [0,1] (r5.2 && r9.2) ?_
  refine ys ?_
  refine ob h 8 [1,9,47] [1,2] (fun s=>[(60,.bool s)]) (fun s=>[]) (fun _ h _ _ hL24=>?_) ?_
  ·refine z1c 52 (r5.2 && r9.2) rfl (fun hg25=>?_) (fun hg25=>?_)
   ·replace h:=z2F h hg25
    refine ys ?_
    refine z4a (exAtT (T:=z1b) (i:=(0:Int).toNat) 0 rfl hxx3) ?_
    rintro (g26:Value)
    refine ys ?_
    refine cl0 [(3,0)] Tryz.call57 (fun h=>zc4 h) h (fun r27 h=>?_)
    refine ys ?_
    refine zr ?_
    exact gb hL24 [0,1] h
   ·replace h:=z2E h hg25
    refine ys ?_
    refine zr ?_
    exact gb hL24 [0,1] h
  rintro b20 h
  refine os ?_
  refine ys ?_
  refine ob h 8 [47] [] (fun s=>[(69,.bool s)]) (fun s=>[]) (fun _ h _ _ hL33=>?_) ?_
  ·refine z1c 61 b20 rfl (fun hg34=>?_) (fun hg34=>?_)
   ·replace h:=z2F h hg34
    refine ys ?_
    refine z4a (exAtT (T:=z1b) (i:=(1:Int).toNat) 0 rfl hxx7) ?_
    rintro (g35:Value)
    refine ys ?_
    refine cl0 [(3,0)] Tryz.call57 (fun h=>zc4 h) h (fun r36 h=>?_)
    refine ys ?_
    refine zr ?_
    exact gb hL33 [] h
   ·replace h:=z2E h hg34
    refine ys ?_
    refine zr ?_
    exact gb hL33 [] h
  rintro b29 h
  refine os ?_
  refine ys ?_
  refine zd ?_
  refine zA ?_
  exact fs [2,3] [] Tryz.results23 h
def zcq:Nat→zi→Option ((List UInt8)×Bool)
 | 0=>fun _=>none
 | n+1=>z9a n  (zcq n )
theorem zj0 {n:Nat}:K21 (zcq n) 23:=by
 induction n with
 | zero=>intro _ _ _  h; cases h
 | succ n ih=>exact zfe ih
end Go.Proofs.YtcmaoifiiigggaaGreatDoor
