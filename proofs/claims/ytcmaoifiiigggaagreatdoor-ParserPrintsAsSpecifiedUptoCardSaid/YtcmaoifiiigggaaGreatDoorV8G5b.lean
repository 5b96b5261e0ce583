/-
  Functions that the law ParserReadsExpressions needs, lifted.
-/
import Derived.Test.YtcmaoifiiigggaaGreatDoorV8G3b
import Derived.Test.YtcmaoifiiigggaaGreatDoorV8G5a
set_option linter.unusedSimpArgs false
set_option linter.unusedVariables false
namespace Go.Proofs.YtcmaoifiiigggaaGreatDoor
open Go.Abs Tryz
set_option maxRecDepth 20000
set_option maxHeartbeats 4000000
def z7v (x_0:zi) (q22r:zi→Option ((List z6))):((List z6)×Int)→Option (Lp ((List z6)×Int) (Lp ((List z6)) ((List z6)))):=
 fun (j1,jb)=>
  cond (decide (jb<(x_0.Args.length:Int)))
   (bindJ (S := (List z6))
    (cond (decide (1 < jb))
     (obind (z6n [44]) fun r102=>
     need (j1.length+([r102]:List z6).length≤4294967296) (
     some (.go (j1++([r102]:List z6)))))
     (some (.go j1)))
   (fun j6 =>
    idx x_0.Args jb fun x107=>
    obind (q22r x107) fun r109=>
    need (j6.length+r109.length≤4294967296) (
    some (.go ((j6++r109),(IntKind.i64.wrap (jb+1)))))))
   (some (.stop (.go j1)))
def z7F (n:Nat) (q22r:zi→Option ((List z6))) (x_0:zi):Option ((List z6)):=
 cond (decide (x_0.Op=1))
  (obind (zhD x_0.S) fun r3=>
  some ([r3]:List z6))
  (cond (decide (x_0.Op = 2))
   (obind (zfH x_0.S) fun r7=>
   some ([r7]:List z6))
   (cond (decide (x_0.Op = 3))
    (obind (zdK x_0.S) fun r11=>
    some ([r11]:List z6))
    (cond (decide (x_0.Op = 4))
     (obind (z5b [116,114,117,101]) fun r15=>
     some ([r15]:List z6))
     (cond (decide (x_0.Op = 5))
      (obind (z5b [102,97,108,115,101]) fun r19=>
      some ([r19]:List z6))
      (cond (decide (x_0.Op = 7))
       (obind (z5b [115,116,97,116,117,115]) fun r23=>
       some ([r23]:List z6))
       (cond (decide (x_0.Op = 6))
        (obind (z5b [104,101,97,100,101,114]) fun r27=>
        obind (zfH x_0.S) fun r29=>
        some ([r27,r29]:List z6))
        (bindJ (S := Bool)
         (cond (decide (x_0.Op = 8))
          (some (.go (decide (x_0.Op=8))))
          (some (.go (decide (x_0.Op=9)))))
        (fun js =>
         cond js
          (obind (z9P x_0.Op) fun r39=>
          idx x_0.Args 0 fun x42=>
          obind (z6A q22r x42) fun r44=>
          need (([r39]:List z6).length+r44.length≤4294967296) (
          some (([r39]:List z6)++r44)))
          (cond (decide (x_0.Op = 23))
           (idx x_0.Args 0 fun x69=>
           obind (z6A q22r x69) fun r71=>
           obind (z5b [105,110]) fun r74=>
           obind (z6n [40]) fun r76=>
           need (r71.length+([r74,r76]:List z6).length≤4294967296) (
           bindJ (S:=(List z6))
            (iter (z7v x_0 q22r) n ((r71++([r74,r76]:List z6)),1))
           (fun j7 =>
            obind (z6n [41]) fun r114=>
            need (j7.length+([r114]:List z6).length≤4294967296) (
            some (j7++([r114]:List z6))))))
           (idx x_0.Args 0 fun x119=>
           obind (z6A q22r x119) fun r121=>
           obind (z9P x_0.Op) fun r124=>
           need (r121.length+([r124]:List z6).length≤4294967296) (
           idx x_0.Args 1 fun x129=>
           obind (z6A q22r x129) fun r131=>
           need ((r121++([r124]:List z6)).length+r131.length≤4294967296) (
           some ((r121++([r124]:List z6))++r131)))))))))))))
theorem ze4 {n:Nat} {q22r:zi→Option ((List z6))} (q23h:K20 q22r 56):K20 (z7F n q22r) 56:=by
 intro x_0 j0 r h
 refine zN func56 rfl ntmps56 rfl (fun w0 o0=>?_)
 refine zh (lB fun b1=>?_)
 refine yc 9 h (fun _ h=>?_) fun _ h=>?_
 ·refine yn 2 ?_
  refine cl0 [] call121 (fun h=>zeJ h) h (fun r3 h=>?_)
  refine lT z6.enc [r3] fun _=>?_
  refine yn 3 ?_
  exact fs [2] [2] results56 h
 ·refine yc 3 h (fun _ h=>?_) fun _ h=>?_
  ·refine zH (rj [1] [0,1] ?_)
   refine yn 2 ?_
   refine cl0 [] call122 (fun h=>zbo h) h (fun r7 h=>?_)
   refine lT z6.enc [r7] fun _=>?_
   refine yn 3 ?_
   exact fs [2] [2] results56 h
  ·refine zH (rj [1,7] [0,1] ?_)
   refine yc 3 h (fun _ h=>?_) fun _ h=>?_
   ·refine yn 2 ?_
    refine cl0 [] call123 (fun h=>z9s h) h (fun r11 h=>?_)
    refine lT z6.enc [r11] fun _=>?_
    refine yn 3 ?_
    exact fs [2] [2] results56 h
   ·refine yc 3 h (fun _ h=>?_) fun _ h=>?_
    ·refine zh (cl0 [] call124 (fun h=>z2Q h) h (fun r15 h=>?_))
     refine lT z6.enc [r15] fun _=>?_
     refine yn 3 ?_
     exact fs [2] [2] results56 h
    ·refine yc 3 h (fun _ h=>?_) fun _ h=>?_
     ·refine zh (cl0 [] call124 (fun h=>z2Q h) h (fun r19 h=>?_))
      refine lT z6.enc [r19] fun _=>?_
      refine yn 3 ?_
      exact fs [2] [2] results56 h
     ·refine yc 3 h (fun _ h=>?_) fun _ h=>?_
      ·refine zH (rj [] [] ?_)
       refine z8 (cl0 [] call124 (fun h=>z2Q h) h (fun r23 h=>?_))
       refine lT z6.enc [r23] fun _=>?_
       refine yn 3 ?_
       exact fs [2] [0] results56 h
      ·refine zH (rj [1,7] [0,1] ?_)
       refine yc 3 h (fun _ h=>?_) fun _ h=>?_
       ·refine zH (rf [1,1] fun hS=>?_)
        refine aq [1,2] ?_
        refine al0 0 [] call124 (fun h=>z2Q h) h (fun r27 h=>?_)
        refine al0 3 [] call122 (fun h=>zbo h) h (fun r29 h=>?_)
        refine ao 4 ?_
        refine lU z6.enc [r27,r29] fun _=>?_
        refine aq [5] ?_
        refine z1K (by kernel_rfl) ?_
        refine yn 2 ?_
        exact fs [2] [2] results56 h
       ·refine jr h [1,7] [2,1] (fun s (g:Unit)=>[(45,.bool s)]) (fun s g=>[]) (fun _ h _ _ jt=>?_) ?_
        ·refine yc 3 h (fun _ h=>?_) fun _ h=>?_
         ·exact run_skip (gj jt () [1,0] h)
         ·refine yn 3 ?_
          exact gj jt () [1,0] h
        rintro js _ h
        refine rs ?_
        refine rc h (fun _ h=>?_) (fun _ h=>?_)
        ·refine zH ?_
         obtain ⟨r39,ju,h⟩:=zJ h
         obtain ⟨x42,j03,j04,jv,h⟩:=zP h
         obtain ⟨r44,jw,h⟩:=zJ h
         obtain ⟨jP,h⟩:=zX h
         refine rf [1,1] fun hS=>?_
         refine aq [0,1,4,5,6] ?_
         refine z9T (exAtT (T:=z1b) (i:=(0:Int).toNat) 1 rfl jv) ?_
         rintro (g49:Value)
         refine a2 [11] 0 [] [1,2,0,0,0,0] (fun (s:Value×Value×Value)=>[(2,s.1)]) (fun s=>[atc j0 ((0:Int).toNat*4) [.int .i64 x42.Op,.int .i64 x42.At,.string (bs x42.S),s.2.1],nro s.2.1 zj x42.Args,row s.1 3 ((([r39]:List z6)++r44).map z6.enc),row s.2.2 3 (r44.map z6.enc)]) ?_ (fun hK54=>?_)
         ·rintro ⟨v53,g49,v52⟩
          refine az ?_
          refine z1K (by kernel_rfl) ?_
          refine yn 2 ?_
          exact fs [2] [4] results56 h
         refine a2 [9,2] 2 [] [1,2,0,0,0,0] (fun (s:Value×Value×Value)=>[(51,s.1),(56,s.2.1)]) (fun s=>[atc j0 ((0:Int).toNat*4) [.int .i64 x42.Op,.int .i64 x42.At,.string (bs x42.S),s.2.2],nro s.2.2 zj x42.Args,row s.1 3 (([r39]:List z6).map z6.enc),row s.2.1 3 (r44.map z6.enc)]) ?_ (fun hK55=>?_)
         ·rintro ⟨v50,v52,g49⟩
          refine az ?_
          refine zK [9] (by kernel_rfl) rfl ?_
          refine zk ?_ ?_
          ·refine lC z6.enc_ok 4 5 jP fun v56=>?_
           refine aq [10] ?_
           exact aw (hK54 (v56,g49,v52)) [0,1,2,3,4,5]
          exact zC
         refine a2 [8,3] 3 [] [1,2,0,0,0] (fun (s:Value×Value)=>[(51,s.1),(55,.agg #[.int .i64 x42.Op,.int .i64 x42.At,.string (bs x42.S),s.2])]) (fun s=>[atc j0 ((0:Int).toNat*4) [.int .i64 x42.Op,.int .i64 x42.At,.string (bs x42.S),s.2],nro s.2 zj x42.Args,row s.1 3 (([r39]:List z6).map z6.enc)]) ?_ (fun hK57=>?_)
         ·rintro ⟨v50,g49⟩
          refine az ?_
          refine zK [8] (by kernel_rfl) rfl ?_
          refine zk ?_ ?_
          ·refine at' rfl (tc [(3,0)] call126 (z7q q23h jw)) ?_
           rintro v58 _ ⟨_,⟨_,rfl,rfl⟩,rfl⟩
           refine sb ?_
           exact aw (hK55 (v50,v58,g49)) [0,1,2,3,4,5]
          exact zC
         refine a2 [3,1,5,2] 3 [] [1,2,0,0,0] (fun (s:Value×Value)=>[(50,.agg #[.int .i64 r39.Kind,.int .i64 r39.At,.string (bs r39.S)]),(56,s.1)]) (fun s=>[atc j0 ((0:Int).toNat*4) [.int .i64 x42.Op,.int .i64 x42.At,.string (bs x42.S),s.2],nro s.2 zj x42.Args,row s.1 3 (r44.map z6.enc)]) ?_ (fun hK59=>?_)
         ·rintro ⟨v51,g49⟩
          refine az ?_
          refine zK [3] (by kernel_rfl) rfl ?_
          refine zk ?_ ?_
          ·refine lU z6.enc [r39] fun v60=>?_
           exact aw (hK55 (v60,v51,g49)) [0,1,2,3,5,4]
          exact zC
         refine a2 [7,4] 4 [54] [1,2,0,0,0] (fun (s:Value×Value)=>[(51,s.1)]) (fun s=>[atc j0 ((0:Int).toNat*4) [.int .i64 x42.Op,.int .i64 x42.At,.string (bs x42.S),s.2],nro s.2 zj x42.Args,row s.1 3 (([r39]:List z6).map z6.enc)]) ?_ (fun hK61=>?_)
         ·rintro ⟨v50,g49⟩
          refine az ?_
          refine zK [7] (by kernel_rfl) rfl ?_
          refine zk ?_ ?_
          ·refine ty ?_
           exact aw (hK57 (v50,g49)) [0,1,2,3,4]
          exact zC
         refine a2 [3,1,4,3] 4 [] [1,2,0,0] (fun (s:Value)=>[(50,.agg #[.int .i64 r39.Kind,.int .i64 r39.At,.string (bs r39.S)]),(55,.agg #[.int .i64 x42.Op,.int .i64 x42.At,.string (bs x42.S),s])]) (fun s=>[atc j0 ((0:Int).toNat*4) [.int .i64 x42.Op,.int .i64 x42.At,.string (bs x42.S),s],nro s zj x42.Args]) ?_ (fun hK62=>?_)
         ·rintro g49
          refine az ?_
          refine zK [3,8] (by kernel_rfl) rfl ?_
          refine zk ?_ ?_
          ·refine lU z6.enc [r39] fun v63=>?_
           exact aw (hK57 (v63,g49)) [0,1,2,3,4]
          refine zk ?_ ?_
          ·refine at' rfl (tc [(3,0)] call126 (z7q q23h jw)) ?_
           rintro v64 _ ⟨_,⟨_,rfl,rfl⟩,rfl⟩
           refine sb ?_
           exact aw (hK59 (v64,g49)) [0,1,2,3,4]
          exact zC
         refine a2 [3,1,3,4] 5 [54] [1,2,0,0] (fun (s:Value)=>[(50,.agg #[.int .i64 r39.Kind,.int .i64 r39.At,.string (bs r39.S)])]) (fun s=>[atc j0 ((0:Int).toNat*4) [.int .i64 x42.Op,.int .i64 x42.At,.string (bs x42.S),s],nro s zj x42.Args]) ?_ (fun hK65=>?_)
         ·rintro g49
          refine az ?_
          refine zK [3,7] (by kernel_rfl) rfl ?_
          refine zk ?_ ?_
          ·refine lU z6.enc [r39] fun v66=>?_
           exact aw (hK61 (v66,g49)) [0,1,2,3,4]
          refine zk ?_ ?_
          ·refine ty ?_
           exact aw (hK62 g49) [0,1,2,3]
          exact zC
         refine a2 [2,2,4,3] 5 [49] [1,2,0,0] (fun (s:Value)=>[(55,.agg #[.int .i64 x42.Op,.int .i64 x42.At,.string (bs x42.S),s])]) (fun s=>[atc j0 ((0:Int).toNat*4) [.int .i64 x42.Op,.int .i64 x42.At,.string (bs x42.S),s],nro s zj x42.Args]) ?_ (fun hK67=>?_)
         ·rintro g49
          refine az ?_
          refine zK [2] (by kernel_rfl) rfl ?_
          refine zk ?_ ?_
          ·refine at' rfl (tc [] call125 (z9y ju)) ?_
           rintro _ _ ⟨_,⟨rfl,rfl⟩,rfl⟩
           refine sb ?_
           exact aw (hK62 g49) [0,1,2,3]
          exact zC
         refine zK [2,7] (by kernel_rfl) rfl ?_
         refine zk ?_ ?_
         ·refine at' rfl (tc [] call125 (z9y ju)) ?_
          rintro _ _ ⟨_,⟨rfl,rfl⟩,rfl⟩
          refine sb ?_
          exact aw (hK65 g49) [0,1,2,3]
         refine zk ?_ ?_
         ·refine ty ?_
          exact aw (hK67 g49) [0,1,2,3]
         exact zC
        ·refine yc 3 h (fun _ h=>?_) fun _ h=>?_
         ·refine yn 2 ?_
          obtain ⟨x69,j05,j06,jx,h⟩:=zP h
          refine ys ?_
          refine z4a (exAtT (T:=z1b) (i:=(0:Int).toNat) 1 rfl jx) ?_
          rintro (g70:Value)
          refine ys ?_
          obtain ⟨r71,jQ,h⟩:=zJ h
          refine zt (tc [(3,0)] call126 (z7q q23h jQ)) ?_
          rintro v73 _ ⟨_,⟨_,rfl,rfl⟩,rfl⟩
          refine cl0 [] call124 (fun h=>z2Q h) h (fun r74 h=>?_)
          refine cl0 [] call127 (fun h=>z4b h) h (fun r76 h=>?_)
          refine lT z6.enc [r74,r76] fun _=>?_
          obtain ⟨jR,h⟩:=zX h
          refine lA z6.enc_ok 4 5 jR fun _=>?_
          refine ys ?_
          refine zd (jr h [] [0] (fun s (g:Value)=>[(3,g)]) (fun s g=>[row g 3 (s.map z6.enc)]) (fun _ h _ _ jS=>?_) ?_)
          ·refine zH (rj [1,3] [0,1,4] ?_)
           refine yn 4 ?_
           refine lo h [1] [0,1,2] (fun s (g:Value)=>[(3,g),(4,.int .i64 s.2)]) (fun s g=>[row g 3 (s.1.map z6.enc)]) _ [2,0,1] ?_
           rintro ⟨j1,jb⟩ _ _ h _ jy jf
           refine rs ?_
           refine yc 4 h (fun _ h=>?_) fun _ h=>?_
           ·refine yn 3 ?_
            refine jr h [1,4] [0,2,3] (fun s (g:Value)=>[(3,g)]) (fun s g=>[row g 3 (s.map z6.enc)]) (fun _ h _ _ jz=>?_) ?_
            ·refine yc 3 h (fun _ h=>?_) fun _ h=>?_
             ·refine yn 2 ?_
              refine cl0 [] call127 (fun h=>z4b h) h (fun r102 h=>?_)
              refine lT z6.enc [r102] fun _=>?_
              obtain ⟨jA,h⟩:=zX h
              refine lA z6.enc_ok 0 3 jA fun _=>?_
              refine yn 2 ?_
              exact gj jz _ [0,1,2] h
             ·exact run_skip (gj jz _ [0,1,2] h)
            rintro j6 _ h
            refine rs ?_
            refine yn 2 ?_
            obtain ⟨x107,jT,jU,ji,h⟩:=zP h
            refine ys ?_
            refine z4a (exAtT (T:=z1b) (i:=jb.toNat) 2 rfl ji) ?_
            rintro (g108:Value)
            refine ys ?_
            obtain ⟨r109,jB,h⟩:=zJ h
            refine zt (tc [(4,0)] call56 (q23h jB)) ?_
            rintro v111 _ ⟨_,⟨_,rfl,rfl⟩,rfl⟩
            obtain ⟨jC,h⟩:=zX h
            refine lA z6.enc_ok 0 5 jC fun _=>?_
            refine yn 3 ?_
            refine zD (rj [3,1,4] [0,1,2] ?_)
            refine yn 3 ?_
            exact gj jy _ [0,1,2] h
           ·refine z1h _ rfl ?_
            exact gk jS jf _ [0] h
          rintro j7 _ h
          refine rs ?_
          refine yn 2 ?_
          refine cl0 [] call127 (fun h=>z4b h) h (fun r114 h=>?_)
          refine lT z6.enc [r114] fun _=>?_
          obtain ⟨jD,h⟩:=zX h
          refine lA z6.enc_ok 0 1 jD fun _=>?_
          refine yn 3 ?_
          exact fs [2] [0] results56 h
         ·refine yn 3 ?_
          refine rf [1,1] fun hS=>?_
          refine aq [0,1] ?_
          obtain ⟨x119,jV,jW,jj,h⟩:=zP h
          refine aq [2] ?_
          refine z9T (exAtT (T:=z1b) (i:=(0:Int).toNat) 1 rfl jj) ?_
          rintro (g120:Value)
          refine aq [5,6] ?_
          refine ao 3 ?_
          refine ty ?_
          refine ao 4 ?_
          obtain ⟨r121,jE,h⟩:=zJ h
          refine at' rfl (tc [(3,0)] call126 (z7q q23h jE)) ?_
          rintro v123 _ ⟨_,⟨_,rfl,rfl⟩,rfl⟩
          refine sb ?_
          refine al0 7 [] call125 (fun h=>z9y h) h (fun r124 h=>?_)
          refine ao 8 ?_
          refine lU z6.enc [r124] fun _=>?_
          refine ao 9 ?_
          obtain ⟨jF,h⟩:=zX h
          refine lC z6.enc_ok 4 5 jF fun _=>?_
          refine aq [10] ?_
          refine z1K (by kernel_rfl) ?_
          refine zg (rj [1,5] [0,1,4] ?_)
          refine yn 2 ?_
          obtain ⟨x129,jX,jY,jk,h⟩:=zP h
          refine ys ?_
          refine z4a (exAtT (T:=z1b) (i:=(1:Int).toNat) 1 rfl jk) ?_
          rintro (g130:Value)
          refine ys ?_
          obtain ⟨r131,jG,h⟩:=zJ h
          refine zt (tc [(4,0)] call126 (z7q q23h jG)) ?_
          rintro v133 _ ⟨_,⟨_,rfl,rfl⟩,rfl⟩
          obtain ⟨jH,h⟩:=zX h
          refine lA z6.enc_ok 2 5 jH fun _=>?_
          refine yn 3 ?_
          exact fs [2] [2] results56 h
def z5X:Nat→zi→Option ((List z6))
 | 0=>fun _=>none
 | n+1=>z7F n  (z5X n )
theorem z9i {n:Nat}:K20 (z5X n) 56:=by
 induction n with
 | zero=>intro _ _ _  h; cases h
 | succ n ih=>exact ze4 ih
def za5 (t_0:z6):((List UInt8)×Int)→Option (Lp ((List UInt8)×Int) (Lp ((List UInt8)) ((List UInt8)))):=
 fun (j2,jc)=>
  cond (decide (jc<(t_0.S.length:Int)))
   (bindJ (S := (List UInt8))
    (idx t_0.S jc fun c23=>
    bindJ (S:=Bool)
     (cond (decide ((c23.toNat : Int) = 34))
      (some (.go true))
      (idx t_0.S jc fun c30=>
      some (.go (decide ((c30.toNat:Int)=92)))))
    (fun b24 =>
     cond b24
      (need (j2.length+([92]:List UInt8).length≤4294967296) (
      some (.go (j2++([92]:List UInt8)))))
      (some (.go j2))))
   (fun j8 =>
    idx t_0.S jc fun c35=>
    need (j8.length+([c35]:List UInt8).length≤4294967296) (
    some (.go ((j8++([c35]:List UInt8)),(IntKind.i64.wrap (jc+1)))))))
   (some (.stop (.go j2)))
def z9o (n:Nat) (t_0:z6):Option ((List UInt8)):=
 cond (decide (t_0.Kind≠4))
  (some t_0.S)
  (bindJ (S := (List UInt8))
   (iter (za5 t_0) n (([]:List UInt8),0))
  (fun j4 =>
   need ([34].length+j4.length≤4294967296) (
   need (([34]++j4).length+[34].length≤4294967296) (
   some (([34]++j4)++[34])))))
theorem zcE {n:Nat}:K40 (z9o n) 173:=by
 intro t_0 r h
 refine zN func173 rfl ntmps173 rfl (fun w0 o0=>?_)
 refine zh (lB fun b1=>?_)
 refine yc 5 h (fun _ h=>?_) fun _ h=>?_
 ·refine yn 4 ?_
  exact fs [2] [] results173 h
 ·refine yn 3 ?_
  refine zd (jr h [] [0] (fun s (g:Value)=>[(3,g)]) (fun s g=>[row g 1 (s.map eB8)]) (fun _ h _ _ hL7=>?_) ?_)
  ·refine yn 4 ?_
   refine z3x (nilrow 1) ?_
   refine z3x (retell 1 (g:=row (.slice none 0 0) 1 (([]:List UInt8).map eB8)) rfl rfl) ?_
   refine lo h [1] [0,1] (fun s (g:Value)=>[(3,g),(4,.int .i64 s.2)]) (fun s g=>[row g 1 (s.1.map eB8)]) _ [1,0] ?_
   rintro ⟨j2,_⟩ v11 _ h _ jI jg
   refine rs ?_
   refine yc 4 h (fun _ h=>?_) fun _ h=>?_
   ·refine yn 3 ?_
    refine jr h [1,4] [0,2] (fun s (g:Value)=>[(3,g)]) (fun s g=>[row g 1 (s.map eB8)]) (fun _ h _ _ jJ=>?_) ?_
    ·refine zh (yx ?_)
     obtain ⟨c23,j07,j08,j09,h⟩:=zP h
     refine zq yr ?_
     refine ys ?_
     refine ob h 6 [3,4,1] [1,2] (fun s=>[(28,.bool s)]) (fun s=>[]) (fun _ h _ _ jK=>?_) ?_
     ·refine z1c 22 (decide ((c23.toNat:Int)=34)) rfl (fun jl=>?_) (fun jl=>?_)
      ·replace h:=z2F h jl
       refine ys ?_
       refine oh [0,1] [row v11 1 (j2.map eB8),box b1 [.int .i64 t_0.Kind,.int .i64 t_0.At,.string (bs t_0.S)]] ?_
       refine yn 2 ?_
       exact gb jK [0,1] h
      ·replace h:=z2E h jl
       refine yx ?_
       obtain ⟨c30,j0a,j0b,j0c,h⟩:=zP h
       refine zq yr ?_
       refine oh [0,1] [row v11 1 (j2.map eB8),box b1 [.int .i64 t_0.Kind,.int .i64 t_0.At,.string (bs t_0.S)]] ?_
       refine yn 2 ?_
       exact gb jK [0,1] h
     rintro b24 h
     refine os ?_
     refine yc 1 h (fun _ h=>?_) fun _ h=>?_
     ·refine yn 2 ?_
      refine zt (t_lit [.int .u8 92] runUnderlying58 sizeOf5 zeroValue5 rfl (by decide) (by decide) rfl (by simp [Value.cells,boxP])) ?_
      rintro v32 _ ⟨rfl,_⟩
      refine zB (retell 2 (g:=row v32 1 (([92]:List UInt8).map eB8)) rfl rfl) ?_
      obtain ⟨jh,h⟩:=zX h
      refine lA zhZ 0 2 jh fun _=>?_
      refine yn 2 ?_
      exact gj jJ _ [0,1] h
     ·exact run_skip (gj jJ _ [0,1] h)
    rintro j8 _ h
    refine rs ?_
    refine z8 (yx ?_)
    obtain ⟨c35,j0d,j0e,j0f,h⟩:=zP h
    refine zq yr ?_
    refine zt (t_lit [.int .u8 (c35.toNat:Int)] runUnderlying58 sizeOf5 zeroValue5 rfl (by decide) (by decide) rfl (by simp [Value.cells,boxP])) ?_
    rintro v36 _ ⟨rfl,_⟩
    refine zB (retell 2 (g:=row v36 1 (([c35]:List UInt8).map eB8)) rfl rfl) ?_
    obtain ⟨jZ,h⟩:=zX h
    refine lA zhZ 0 2 jZ fun _=>?_
    refine yn 3 ?_
    refine zD (rj [3,1,4] [0,1] ?_)
    refine yn 3 ?_
    exact gj jI _ [0,1] h
   ·refine z1h _ rfl ?_
    exact gk hL7 jg _ [0] h
  rintro j4 _ h
  refine rs ?_
  refine yn 2 ?_
  refine zq (y_b2s (l:=j4) 0 runUnderlying58 runUnderlying5 runUnderlying9 rfl rfl z1d) ?_
  obtain ⟨j00,h⟩:=zX h
  refine zq (zdd rfl rfl j00) ?_
  obtain ⟨j01,h⟩:=zX h
  refine zq (zdd rfl rfl j01) ?_
  refine yn 3 ?_
  exact fs [2] [] results173 h
def z9N (n:Nat) (t_0:z6):Option (Bool):=
 cond (decide (32768<(t_0.S.length:Int)))
  (some false)
  (obind (z9o n t_0) fun r3=>
  obind (z6w n r3) fun r5=>
  bindJ (S:=Bool)
   (cond (decide (r5.P.E = 0) && decide ((r5.L.length : Int) = 1))
    (idx r5.L 0 fun x19=>
    some (.go (decide (x19.Kind=t_0.Kind))))
    (some (.go false)))
  (fun b13 =>
   bindJ (S:=Bool)
    (cond b13
     (idx r5.L 0 fun x26=>
     some (.go (decide (x26.S=t_0.S))))
     (some (.go false)))
   (fun b20 =>
    bindJ (S:=Bool)
     (cond b20
      (idx r5.L 0 fun x33=>
      some (.go (decide (x33.At=0))))
      (some (.go false)))
    (fun b27 =>
     some b27))))
theorem zfO {n:Nat} {t_0:z6} {r:Bool} (h:z9N n t_0=some r) :
  Meets Tryz.prog 172 [.agg #[.int .i64 t_0.Kind,.int .i64 t_0.At,.string (bs t_0.S)]] [] (fun v G=>v = .bool r∧G=[]):=by
 refine zN func172 rfl ntmps172 rfl (fun w0 o0=>?_)
 refine zh (lB fun b1=>?_)
 refine yc 5 h (fun _ h=>?_) fun _ h=>?_
 ·refine yn 4 ?_
  exact fs [2] [] results172 h
 ·refine yn 3 ?_
  refine cl0 [] call173 (fun h=>zcE h) h (fun r3 h=>?_)
  refine cl1 [] call34 (fun h=>zaW h) h (fun r5 v7 h=>?_)
  refine al fun b8=>?_
  refine ys ?_
  refine zc (rj [1,3] [0,1,2] ?_)
  refine z4U (by kernel_rfl) (by kernel_rfl) ?_
  refine yu ?_
  refine sq 5 15 20 [1,3] [0,1,2] (decide (r5.P.E=0) && decide ((r5.L.length:Int)=1)) ?_
  refine yu ?_
  refine sbj h 9 [1,3] [1,2,3] (fun s=>[(30,.bool s)]) (fun s=>[]) (fun _ h _ _ jL=>?_) ?_
  ·refine z86 21 (decide (r5.P.E=0) && decide ((r5.L.length:Int)=1)) rfl (fun jm=>?_) (fun jm=>?_)
   ·replace h:=z2F h jm
    refine yu ?_
    obtain ⟨x19,j0g,j0h,j0i,h⟩:=zP h
    refine yu ?_
    refine z2m ?_
    exact gb jL [0,1,2] h
   ·replace h:=z2E h jm
    refine yu ?_
    refine z2m ?_
    exact gb jL [0,1,2] h
  rintro b13 h
  refine ss' ?_
  refine yu ?_
  refine sbj h 9 [3] [1,2,3] (fun s=>[(40,.bool s)]) (fun s=>[]) (fun _ h _ _ jd=>?_) ?_
  ·refine z86 31 b13 rfl (fun jo=>?_) (fun jo=>?_)
   ·replace h:=z2F h jo
    refine yu ?_
    obtain ⟨x26,j0j,j0k,j0l,h⟩:=zP h
    refine yu ?_
    refine z2m ?_
    exact gb jd [0,1,2] h
   ·replace h:=z2E h jo
    refine yu ?_
    refine z2m ?_
    exact gb jd [0,1,2] h
  rintro b20 h
  refine ss' ?_
  refine yu ?_
  refine sbj h 7 [] [1,2,3] (fun s=>[(48,.bool s)]) (fun s=>[]) (fun _ h _ _ jM=>?_) ?_
  ·refine z86 41 b20 rfl (fun jp=>?_) (fun jp=>?_)
   ·replace h:=z2F h jp
    refine yu ?_
    obtain ⟨x33,j0m,j0n,j0o,h⟩:=zP h
    refine yu ?_
    refine z2m ?_
    exact gb jM [0,1,2] h
   ·replace h:=z2E h jp
    refine yu ?_
    refine z2m ?_
    exact gb jM [0,1,2] h
  rintro b27 h
  refine ss' ?_
  refine yu ?_
  refine z2m ?_
  refine yn 2 ?_
  exact fs [2] [] results172 h
def zcz (n:Nat) (l_0:(List z6)):((List UInt8)×Int)→Option (Lp ((List UInt8)×Int) (Lp ((List UInt8)) (z3l))):=
 fun (j5,i_9)=>
  cond (decide (i_9<(l_0.length:Int)))
   (idx l_0 i_9 fun x16=>
   obind (z9N n x16) fun r17=>
   cond (!r17)
    (some (.stop (.stop (z3l.mk [] 1))))
    (bindJ (S := (List UInt8))
     (cond (decide (0 < i_9))
      (need (j5.length+([32]:List UInt8).length≤4294967296) (
      some (.go (j5++([32]:List UInt8)))))
      (some (.go j5)))
    (fun j3 =>
     idx l_0 i_9 fun x30=>
     obind (z9o n x30) fun r31=>
     need (j3.length+r31.length≤4294967296) (
     some (.go ((j3++r31),(IntKind.i64.wrap (i_9+1))))))))
   (some (.stop (.go j5)))
def zev (n:Nat) (l_0:(List z6)):Option (z3l):=
 bindJ (S:=(List UInt8))
  (iter (zcz n l_0) n (([]:List UInt8),0))
 (fun j9 =>
  cond (decide (65536<(j9.length:Int)))
   (some (z3l.mk [] 2))
   (some (z3l.mk j9 0)))
theorem zj9 {n:Nat} {l_0:(List z6)} {je:Value} {r:z3l} (h:zev n l_0=some r) :
  Meets Tryz.prog 120 [je] [ro je 3 (l_0.map z6.enc)] (fun v G=>v = .agg #[.string (bs r.S),.int .i64 r.E]∧G=[]):=by
 refine zN func120 rfl ntmps120 rfl (fun w0 o0=>?_)
 refine zh (al fun b1=>?_)
 refine yn 2 ?_
 refine zd (jr h [2] [0,2] (fun s (g:Value)=>[(3,g)]) (fun s g=>[row g 1 (s.map eB8)]) (fun _ h ho5 _ hL6=>?_) ?_)
 ·refine yn 4 ?_
  refine z3x (nilrow 1) ?_
  refine z3x (retell 2 (g:=row (.slice none 0 0) 1 (([]:List UInt8).map eB8)) rfl rfl) ?_
  refine lo h [0,2] [0,1,2] (fun s (g:Value)=>[(3,g),(4,.int .i64 s.2)]) (fun s g=>[row g 1 (s.1.map eB8)]) _ [2,0,1] ?_
  rintro ⟨j5,_⟩ _ _ h _ jN ja
  refine rs ?_
  refine yc 4 h (fun _ h=>?_) fun _ h=>?_
  ·refine yn 4 ?_
   refine yx ?_
   obtain ⟨x16,j0p,j0q,j0r,h⟩:=zP h
   refine zq yr ?_
   refine ys ?_
   refine cl0 [] call172 (fun h=>zfO h) h (fun r17 h=>?_)
   refine yn 2 ?_
   refine zH (rj [3,4,0,2,5] [0,1,2] ?_)
   refine yc 3 h (fun _ h=>?_) fun _ h=>?_
   ·refine yn 4 ?_
    obtain rfl:=zU h
    obtain rfl:=ja _ rfl
    skip
    obtain rfl:=zM ho5
    exact fq [] results120
   ·refine run_skip (zD (jr h [0,2,4] [0,2,3] (fun s (g:Value)=>[(3,g)]) (fun s g=>[row g 1 (s.map eB8)]) (fun _ h _ _ jd=>?_) ?_))
    ·refine yc 3 h (fun _ h=>?_) fun _ h=>?_
     ·refine yn 2 ?_
      refine zt (t_lit [.int .u8 32] runUnderlying58 sizeOf5 zeroValue5 rfl (by decide) (by decide) rfl (by simp [Value.cells,boxP])) ?_
      rintro v27 _ ⟨rfl,_⟩
      refine zB (retell 3 (g:=row v27 1 (([32]:List UInt8).map eB8)) rfl rfl) ?_
      obtain ⟨j02,h⟩:=zX h
      refine lA zhZ 0 3 j02 fun _=>?_
      refine yn 2 ?_
      exact gj jd _ [0,1,2] h
     ·exact run_skip (gj jd _ [0,1,2] h)
    rintro j3 _ h
    refine rs ?_
    refine z8 (yx ?_)
    obtain ⟨x30,j0s,j0t,j0u,h⟩:=zP h
    refine zq yr ?_
    refine ys ?_
    refine cl0 [] call173 (fun h=>zcE h) h (fun r31 h=>?_)
    obtain ⟨jh,h⟩:=zX h
    refine zt (z1U (es:=1) 0 rfl runUnderlying58 rfl runUnderlying9 (.inl rfl) typeInfo5 rfl (by decide) zeroValue5 rfl rfl rfl rfl (zsu _) (z1T jh (by decide)) (z2H jh)) ?_
    rintro v33 _ rfl
    refine zB (retell 0 (g:=row v33 1 ((j3++r31).map eB8)) rfl (congrArg (row _ _) List.map_append.symm)) ?_
    refine yn 3 ?_
    refine zD (rj [3,0,2,4] [0,1,2] ?_)
    refine yn 3 ?_
    exact gj jN _ [0,1,2] h
  ·refine z1h _ rfl ?_
   exact gk hL6 ja _ [0,2] h
 rintro j9 _ h
 refine rs ?_
 refine yc 4 h (fun _ h=>?_) fun _ h=>?_
 ·refine yn 4 ?_
  exact fr [] results120 h
 ·refine yn 3 ?_
  refine zq (y_b2s (l:=j9) 0 runUnderlying58 runUnderlying5 runUnderlying9 rfl rfl z1d) ?_
  refine yn 3 ?_
  exact fr [] results120 h
def z9t (n:Nat) (l_0:(List z6)):Option (z2n):=
 obind (zev n l_0) fun r2=>
 cond (decide (r2.E=1))
  (some (z2n.mk [] 3))
  (bindJ (S := Bool)
   (cond (decide (r2.E ≠ 0))
    (some (.go true))
    (obind (zcO n l_0) fun r12=>
    some (.go (decide (0≤r12)))))
  (fun b6 =>
   cond b6
    (some (z2n.mk [] 2))
    (some (z2n.mk r2.S 0))))
theorem zcV {n:Nat} {l_0:(List z6)} {je:Value} {r:z2n} (h:z9t n l_0=some r) :
  Meets Tryz.prog 55 [je] [ro je 3 (l_0.map z6.enc)] (fun v G=>v = .agg #[.string (bs r.S),.int .i64 r.E]∧G=[]):=by
 refine zN func55 rfl ntmps55 rfl (fun w0 o0=>?_)
 refine zh (al fun b1=>?_)
 refine yn 2 ?_
 refine cl0 [(0,0)] call120 (fun h=>zj9 h) h (fun r2 h=>?_)
 refine al fun b4=>?_
 refine yc 5 h (fun _ h=>?_) fun _ h=>?_
 ·refine zH (rj [2] [1] ?_)
  refine yn 4 ?_
  exact fr [] results55 h
 ·refine yn 2 ?_
  refine zH (rj [0,2,3] [0,1,2] ?_)
  refine yn 2 ?_
  refine ob h 4 [2,3] [2,3] (fun s=>[(17,.bool s)]) (fun s=>[]) (fun _ h _ _ jO=>?_) ?_
  ·refine z1c 13 (decide (r2.E≠0)) rfl (fun jq=>?_) (fun jq=>?_)
   ·replace h:=z2F h jq
    refine yn 2 ?_
    exact gb jO [1,2] h
   ·replace h:=z2E h jq
    refine ys ?_
    refine cl0 [(0,0)] call35 (fun h=>zcP h) h (fun r12 h=>?_)
    refine yn 2 ?_
    exact gb jO [1,2] h
  rintro b6 h
  refine os ?_
  refine yc 1 h (fun _ h=>?_) fun _ h=>?_
  ·refine yn 4 ?_
   exact fr [] results55 h
  ·refine yn 5 ?_
   exact fr [] results55 h
end Go.Proofs.YtcmaoifiiigggaaGreatDoor
