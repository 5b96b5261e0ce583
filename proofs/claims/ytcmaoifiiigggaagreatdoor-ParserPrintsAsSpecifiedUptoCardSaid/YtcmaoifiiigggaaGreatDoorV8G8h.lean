/-
  Functions that the law ParserPrintsAsSpecified needs, lifted.
-/
import Derived.Test.YtcmaoifiiigggaaGreatDoorV8G8g
set_option linter.unusedSimpArgs false
set_option linter.unusedVariables false
namespace Go.Proofs.YtcmaoifiiigggaaGreatDoor
open Go.Abs Tryz
set_option maxRecDepth 20000
set_option maxHeartbeats 4000000
def zan (n:Nat) (q48r:(List zm)→Option ((List z6))) (q49r:zm→Option ((List z6))) (s_0:zm):Option ((List z6)):=
 cond (decide (s_0.Kind=1))
  (obind (z5b [108,101,116]) fun r3=>
  obind (zdK s_0.Name) fun r5=>
  obind (z6n [61]) fun r7=>
  obind (z4v n ([r3,r5,r7]:List z6) s_0.X) fun r10=>
  some r10)
  (cond (decide (s_0.Kind = 2))
   (obind (z5b [115,101,116]) fun r14=>
   obind (zdK s_0.Name) fun r16=>
   obind (z6n [61]) fun r18=>
   obind (z4v n ([r14,r16,r18]:List z6) s_0.X) fun r21=>
   some r21)
   (cond (decide (s_0.Kind = 3))
    (obind (z5b [115,101,116]) fun r25=>
    obind (z5b [104,101,97,100,101,114]) fun r27=>
    obind (zfH s_0.Name) fun r29=>
    obind (z6n [61]) fun r31=>
    obind (z4v n ([r25,r27,r29,r31]:List z6) s_0.X) fun r34=>
    some r34)
    (cond (decide (s_0.Kind = 4))
     (obind (z5b [115,101,116]) fun r38=>
     obind (z5b [115,116,97,116,117,115]) fun r40=>
     obind (z6n [61]) fun r42=>
     obind (z4v n ([r38,r40,r42]:List z6) s_0.X) fun r45=>
     some r45)
     (cond (decide (s_0.Kind = 7))
      (obind (z5b [108,111,103]) fun r49=>
      obind (z4v n ([r49]:List z6) s_0.X) fun r52=>
      some r52)
      (cond (decide (s_0.Kind = 8))
       (obind (z5b [100,101,110,121]) fun r56=>
       obind (z4v n ([r56]:List z6) s_0.X) fun r59=>
       some r59)
       (cond (decide (s_0.Kind = 9))
        (obind (z5b [114,101,112,108,121]) fun r63=>
        obind (z4v n ([r63]:List z6) s_0.X) fun r66=>
        some r66)
        (cond (decide (s_0.Kind = 6))
         (obind (z5b [114,101,112,101,97,116]) fun r70=>
         obind (zhD s_0.X.S) fun r72=>
         obind (q48r s_0.Body) fun r75=>
         need (([r70,r72]:List z6).length+r75.length≤4294967296) (
         some (([r70,r72]:List z6)++r75)))
         (obind (z5b [105,102]) fun r95=>
         obind (z5X n s_0.X) fun r98=>
         need (([r95]:List z6).length+r98.length≤4294967296) (
         obind (q48r s_0.Body) fun r108=>
         need ((([r95]:List z6)++r98).length+r108.length≤4294967296) (
         cond (decide ((s_0.Else.length:Int)=0))
          (some ((([r95]:List z6)++r98)++r108))
          (obind (z5b [101,108,115,101]) fun r114=>
          need (((([r95]:List z6)++r98)++r108).length+([r114]:List z6).length≤4294967296) (
          bindJ (S:=Bool)
           (cond (decide ((s_0.Else.length : Int) = 1))
            (idx s_0.Else 0 fun x125=>
            some (.go (decide (x125.Kind=5))))
            (some (.go false)))
          (fun b119 =>
           cond b119
            (idx s_0.Else 0 fun x130=>
            obind (q49r x130) fun r134=>
            need ((((([r95]:List z6)++r98)++r108)++([r114]:List z6)).length+r134.length≤4294967296) (
            some ((((([r95]:List z6)++r98)++r108)++([r114]:List z6))++r134)))
            (obind (q48r s_0.Else) fun r139=>
            need ((((([r95]:List z6)++r98)++r108)++([r114]:List z6)).length+r139.length≤4294967296) (
            some ((((([r95]:List z6)++r98)++r108)++([r114]:List z6))++r139))))))))))))))))
theorem zci {n:Nat} {q48r:(List zm)→Option ((List z6))} (q50h:K34 q48r 138) {q49r:zm→Option ((List z6))} (q51h:K35 q49r 180):K35 (zan n q48r q49r) 180:=by
 intro s_0 j5 j9 ja r h
 refine zN func180 rfl ntmps180 rfl (fun w0 o0=>?_)
 refine zh (lB fun b1=>?_)
 refine yc 9 h (fun _ h=>?_) fun _ h=>?_
 ·refine zH (rf [1,1,1,1] fun hS=>?_)
  refine aq [1,2,6,7] ?_
  refine al0 0 [] call124 (fun h=>z2Q h) h (fun r3 h=>?_)
  refine al0 3 [] call123 (fun h=>z9s h) h (fun r5 h=>?_)
  refine al0 4 [] call127 (fun h=>z4b h) h (fun r7 h=>?_)
  refine ao 5 ?_
  refine lU z6.enc [r3,r5,r7] fun _=>?_
  refine ao 8 ?_
  obtain ⟨r10,jo,h⟩:=zJ h
  refine at' rfl (tc [(4,2),(0,0)] call215 (z4g jo)) ?_
  rintro v12 _ ⟨_,⟨_,rfl,rfl⟩,rfl⟩
  refine sb ?_
  refine aq [9] ?_
  refine z1K (by kernel_rfl) ?_
  refine yn 2 ?_
  exact fs [2] [5] results180 h
 ·refine yc 3 h (fun _ h=>?_) fun _ h=>?_
  ·refine zH (rj [1] [0,1,2,3] ?_)
   refine rf [1,1,1,1] fun hS=>?_
   refine aq [1,2,6,7] ?_
   refine al0 0 [] call124 (fun h=>z2Q h) h (fun r14 h=>?_)
   refine al0 3 [] call123 (fun h=>z9s h) h (fun r16 h=>?_)
   refine al0 4 [] call127 (fun h=>z4b h) h (fun r18 h=>?_)
   refine ao 5 ?_
   refine lU z6.enc [r14,r16,r18] fun _=>?_
   refine ao 8 ?_
   obtain ⟨r21,jp,h⟩:=zJ h
   refine at' rfl (tc [(4,2),(0,0)] call215 (z4g jp)) ?_
   rintro v23 _ ⟨_,⟨_,rfl,rfl⟩,rfl⟩
   refine sb ?_
   refine aq [9] ?_
   refine z1K (by kernel_rfl) ?_
   refine yn 2 ?_
   exact fs [2] [5] results180 h
  ·refine zH (rj [1,5] [0,1,2,3] ?_)
   refine yc 3 h (fun _ h=>?_) fun _ h=>?_
   ·refine zH (rf [1,1,1,1] fun hS=>?_)
    refine aq [2,3,7,8] ?_
    refine al0 0 [] call124 (fun h=>z2Q h) h (fun r25 h=>?_)
    refine al0 1 [] call124 (fun h=>z2Q h) h (fun r27 h=>?_)
    refine al0 4 [] call122 (fun h=>zbo h) h (fun r29 h=>?_)
    refine al0 5 [] call127 (fun h=>z4b h) h (fun r31 h=>?_)
    refine ao 6 ?_
    refine lU z6.enc [r25,r27,r29,r31] fun _=>?_
    refine ao 9 ?_
    obtain ⟨r34,jq,h⟩:=zJ h
    refine at' rfl (tc [(4,2),(0,0)] call215 (z4g jq)) ?_
    rintro v36 _ ⟨_,⟨_,rfl,rfl⟩,rfl⟩
    refine sb ?_
    refine aq [10] ?_
    refine z1K (by kernel_rfl) ?_
    refine yn 2 ?_
    exact fs [2] [5] results180 h
   ·refine yc 3 h (fun _ h=>?_) fun _ h=>?_
    ·refine zH (rf [1,1,1,1] fun hS=>?_)
     refine aq [4,5] ?_
     refine al0 0 [] call124 (fun h=>z2Q h) h (fun r38 h=>?_)
     refine al0 1 [] call124 (fun h=>z2Q h) h (fun r40 h=>?_)
     refine al0 2 [] call127 (fun h=>z4b h) h (fun r42 h=>?_)
     refine ao 3 ?_
     refine lU z6.enc [r38,r40,r42] fun _=>?_
     refine ao 6 ?_
     obtain ⟨r45,js,h⟩:=zJ h
     refine at' rfl (tc [(4,2),(0,0)] call215 (z4g js)) ?_
     rintro v47 _ ⟨_,⟨_,rfl,rfl⟩,rfl⟩
     refine sb ?_
     refine aq [7] ?_
     refine z1K (by kernel_rfl) ?_
     refine yn 2 ?_
     exact fs [2] [5] results180 h
    ·refine yc 3 h (fun _ h=>?_) fun _ h=>?_
     ·refine zH (rf [1,1,1,1] fun hS=>?_)
      refine aq [2,3] ?_
      refine al0 0 [] call124 (fun h=>z2Q h) h (fun r49 h=>?_)
      refine ao 1 ?_
      refine lU z6.enc [r49] fun _=>?_
      refine ao 4 ?_
      obtain ⟨r52,jt,h⟩:=zJ h
      refine at' rfl (tc [(4,2),(0,0)] call215 (z4g jt)) ?_
      rintro v54 _ ⟨_,⟨_,rfl,rfl⟩,rfl⟩
      refine sb ?_
      refine aq [5] ?_
      refine z1K (by kernel_rfl) ?_
      refine yn 2 ?_
      exact fs [2] [5] results180 h
     ·refine yc 3 h (fun _ h=>?_) fun _ h=>?_
      ·refine zH (rj [1] [0,1,2,3] ?_)
       refine rf [1,1,1,1] fun hS=>?_
       refine aq [2,3] ?_
       refine al0 0 [] call124 (fun h=>z2Q h) h (fun r56 h=>?_)
       refine ao 1 ?_
       refine lU z6.enc [r56] fun _=>?_
       refine ao 4 ?_
       obtain ⟨r59,ju,h⟩:=zJ h
       refine at' rfl (tc [(4,2),(0,0)] call215 (z4g ju)) ?_
       rintro v61 _ ⟨_,⟨_,rfl,rfl⟩,rfl⟩
       refine sb ?_
       refine aq [5] ?_
       refine z1K (by kernel_rfl) ?_
       refine yn 2 ?_
       exact fs [2] [5] results180 h
      ·refine zH (rj [1,5] [0,1,2,3] ?_)
       refine yc 3 h (fun _ h=>?_) fun _ h=>?_
       ·refine zH (rf [1,1,1,1] fun hS=>?_)
        refine aq [2,3] ?_
        refine al0 0 [] call124 (fun h=>z2Q h) h (fun r63 h=>?_)
        refine ao 1 ?_
        refine lU z6.enc [r63] fun _=>?_
        refine ao 4 ?_
        obtain ⟨r66,jv,h⟩:=zJ h
        refine at' rfl (tc [(4,2),(0,0)] call215 (z4g jv)) ?_
        rintro v68 _ ⟨_,⟨_,rfl,rfl⟩,rfl⟩
        refine sb ?_
        refine aq [5] ?_
        refine z1K (by kernel_rfl) ?_
        refine yn 2 ?_
        exact fs [2] [5] results180 h
       ·refine yc 3 h (fun _ h=>?_) fun _ h=>?_
        ·refine zH ?_
         obtain ⟨r70,jw,h⟩:=zJ h
         obtain ⟨r72,jx,h⟩:=zJ h
         obtain ⟨r75,jb,h⟩:=zJ h
         obtain ⟨jy,h⟩:=zX h
         refine rf [1,1,1,1] fun hS=>?_
         refine aq [1,2,3,6,7] ?_
         refine a2 [11] 0 [] [1,2,3,4,0,0] (fun (s:Value×Value)=>[(2,s.1)]) (fun s=>[row s.1 3 ((([r70,r72]:List z6)++r75).map z6.enc),row s.2 3 (r75.map z6.enc)]) ?_ (fun hK84=>?_)
         ·rintro ⟨v83,v82⟩
          refine az ?_
          refine z1K (by kernel_rfl) ?_
          refine yn 2 ?_
          exact fs [2] [4] results180 h
         refine a2 [9,2] 2 [] [1,2,3,4,0,0] (fun (s:Value×Value)=>[(77,s.1),(80,s.2)]) (fun s=>[row s.1 3 (([r70,r72]:List z6).map z6.enc),row s.2 3 (r75.map z6.enc)]) ?_ (fun hK85=>?_)
         ·rintro ⟨v80,v82⟩
          refine az ?_
          refine zK [9] (by kernel_rfl) rfl ?_
          refine zk ?_ ?_
          ·refine lC z6.enc_ok 4 5 jy fun v86=>?_
           refine aq [10] ?_
           exact aw (hK84 (v86,v82)) [0,1,2,3,4,5]
          exact zC
         refine a2 [8,3] 3 [79] [1,2,3,4,0] (fun (s:Value)=>[(77,s)]) (fun s=>[row s 3 (([r70,r72]:List z6).map z6.enc)]) ?_ (fun hK87=>?_)
         ·rintro v80
          refine az ?_
          refine zK [8] (by kernel_rfl) rfl ?_
          refine zk ?_ ?_
          ·refine at' rfl (tc [(1,0)] call138 (q50h jb)) ?_
           rintro v88 _ ⟨_,⟨_,rfl,rfl⟩,rfl⟩
           refine sb ?_
           exact aw (hK85 (v80,v88)) [0,1,2,3,4,5]
          exact zC
         refine a2 [5,1,3,2] 3 [] [1,2,3,4,0] (fun (s:Value)=>[(72,.agg #[.int .i64 r70.Kind,.int .i64 r70.At,.string (bs r70.S)]),(76,.agg #[.int .i64 r72.Kind,.int .i64 r72.At,.string (bs r72.S)]),(80,s)]) (fun s=>[row s 3 (r75.map z6.enc)]) ?_ (fun hK89=>?_)
         ·rintro v81
          refine az ?_
          refine zK [5] (by kernel_rfl) rfl ?_
          refine zk ?_ ?_
          ·refine lU z6.enc [r70,r72] fun v90=>?_
           exact aw (hK85 (v90,v81)) [0,1,2,3,5,4]
          exact zC
         refine a2 [5,1,2,3] 4 [79] [1,2,3,4] (fun (s:Unit)=>[(72,.agg #[.int .i64 r70.Kind,.int .i64 r70.At,.string (bs r70.S)]),(76,.agg #[.int .i64 r72.Kind,.int .i64 r72.At,.string (bs r72.S)])]) (fun s=>[]) ?_ (fun hK91=>?_)
         ·rintro _
          refine az ?_
          refine zK [5,8] (by kernel_rfl) rfl ?_
          refine zk ?_ ?_
          ·refine lU z6.enc [r70,r72] fun v92=>?_
           exact aw (hK87 v92) [0,1,2,3,4]
          refine zk ?_ ?_
          ·refine at' rfl (tc [(1,0)] call138 (q50h jb)) ?_
           rintro v93 _ ⟨_,⟨_,rfl,rfl⟩,rfl⟩
           refine sb ?_
           exact aw (hK89 v93) [0,1,2,3,4]
          exact zC
         refine a2 [4,2,2,3] 5 [75,79] [1,2,3,4] (fun (s:Unit)=>[(72,.agg #[.int .i64 r70.Kind,.int .i64 r70.At,.string (bs r70.S)])]) (fun s=>[]) ?_ (fun hK94=>?_)
         ·rintro _
          refine az ?_
          refine zK [4] (by kernel_rfl) rfl ?_
          refine zk ?_ ?_
          ·refine at' rfl (tc [] call121 (zeJ jx)) ?_
           rintro _ _ ⟨_,⟨rfl,rfl⟩,rfl⟩
           refine sb ?_
           exact aw (hK91 ()) [0,1,2,3]
          exact zC
         refine zK [0] (by kernel_rfl) rfl ?_
         refine zk ?_ ?_
         ·refine at' rfl (tc [] call124 (z2Q jw)) ?_
          rintro _ _ ⟨_,⟨rfl,rfl⟩,rfl⟩
          refine sb ?_
          exact aw (hK94 ()) [0,1,2,3]
         exact zC
        ·refine yn 2 ?_
         refine zg ?_
         obtain ⟨r95,jz,h⟩:=zJ h
         obtain ⟨r98,jc,h⟩:=zJ h
         obtain ⟨jd,h⟩:=zX h
         refine rf [1,1,1,1] fun hS=>?_
         refine aq [2,3] ?_
         refine a2 [7] 0 [1] [1,2,3,4,0,0] (fun (s:Value×Value)=>[(3,s.1)]) (fun s=>[row s.1 3 ((([r95]:List z6)++r98).map z6.enc),row s.2 3 (r98.map z6.enc)]) ?_ (fun hK107=>?_)
         ·rintro ⟨v106,v105⟩
          refine az ?_
          refine z1K (by kernel_rfl) ?_
          refine yn 2 ?_
          obtain ⟨r108,je,h⟩:=zJ h
          refine zt (tc [(1,0)] call138 (q50h je)) ?_
          rintro v110 _ ⟨_,⟨_,rfl,rfl⟩,rfl⟩
          obtain ⟨jf,h⟩:=zX h
          refine lA z6.enc_ok 4 6 jf fun _=>?_
          refine yn 2 ?_
          refine zH (rj [1,3] [0,1,2,3,4] ?_)
          refine yc 3 h (fun _ h=>?_) fun _ h=>?_
          ·refine yn 4 ?_
           exact fs [2] [4] results180 h
          ·refine yn 3 ?_
           refine cl0 [] call124 (fun h=>z2Q h) h (fun r114 h=>?_)
           refine lT z6.enc [r114] fun _=>?_
           obtain ⟨jg,h⟩:=zX h
           refine lA z6.enc_ok 4 5 jg fun _=>?_
           refine yn 2 ?_
           refine zH (rj [1,3] [0,1,2,3,4] ?_)
           refine yn 2 ?_
           refine ob h 7 [1,3] [1,2,3,4,5] (fun s=>[(113,.bool s)]) (fun s=>[]) (fun _ h _ _ j6=>?_) ?_
           ·refine z1c 106 (decide ((s_0.Else.length:Int)=1)) rfl (fun j1=>?_) (fun j1=>?_)
            ·replace h:=z2F h j1
             refine ys ?_
             obtain ⟨x125,jA,jB,j7,h⟩:=zP h
             refine ys ?_
             refine z4a (exAtT (T:=z1S) (i:=(0:Int).toNat) 2 rfl j7) ?_
             rintro ⟨g126,g127,g128⟩
             refine yn 2 ?_
             exact gb j6 [0,1,2,3,4] h
            ·replace h:=z2E h j1
             refine yn 2 ?_
             exact gb j6 [0,1,2,3,4] h
           rintro b119 h
           refine os ?_
           refine yc 1 h (fun _ h=>?_) fun _ h=>?_
           ·refine yn 2 ?_
            obtain ⟨x130,jC,jD,j8,h⟩:=zP h
            refine ys ?_
            refine z4a (exAtT (T:=z1S) (i:=(0:Int).toNat) 2 rfl j8) ?_
            rintro ⟨g131,g132,g133⟩
            refine ys ?_
            obtain ⟨r134,jh,h⟩:=zJ h
            refine zt (tc [(6,0),(7,0),(8,0)] call180 (q51h jh)) ?_
            rintro v136 _ ⟨_,⟨_,rfl,rfl⟩,rfl⟩
            obtain ⟨ji,h⟩:=zX h
            refine lA z6.enc_ok 4 9 ji fun _=>?_
            refine yn 3 ?_
            exact fs [2] [4] results180 h
           ·refine yn 3 ?_
            obtain ⟨r139,jj,h⟩:=zJ h
            refine zt (tc [(2,0)] call138 (q50h jj)) ?_
            rintro v141 _ ⟨_,⟨_,rfl,rfl⟩,rfl⟩
            obtain ⟨jk,h⟩:=zX h
            refine lA z6.enc_ok 4 5 jk fun _=>?_
            refine yn 3 ?_
            exact fs [2] [4] results180 h
         refine a2 [5,2] 2 [1] [1,2,3,4,0,0] (fun (s:Value×Value)=>[(83,s.1),(86,s.2)]) (fun s=>[row s.1 3 (([r95]:List z6).map z6.enc),row s.2 3 (r98.map z6.enc)]) ?_ (fun hK144=>?_)
         ·rintro ⟨v103,v105⟩
          refine az ?_
          refine zK [5] (by kernel_rfl) rfl ?_
          refine zk ?_ ?_
          ·refine lC z6.enc_ok 4 5 jd fun v145=>?_
           refine aq [6] ?_
           exact aw (hK107 (v145,v105)) [0,1,2,3,4,5]
          exact zC
         refine a2 [4,3] 3 [1,85] [1,2,3,4,0] (fun (s:Value)=>[(83,s)]) (fun s=>[row s 3 (([r95]:List z6).map z6.enc)]) ?_ (fun hK146=>?_)
         ·rintro v103
          refine az ?_
          refine zK [4] (by kernel_rfl) rfl ?_
          refine zk ?_ ?_
          ·refine at' rfl (tc [(0,0)] call56 (z9i jc)) ?_
           rintro v147 _ ⟨_,⟨_,rfl,rfl⟩,rfl⟩
           refine sb ?_
           exact aw (hK144 (v103,v147)) [0,1,2,3,4,5]
          exact zC
         refine a2 [1,1,3,2] 3 [1] [1,2,3,4,0] (fun (s:Value)=>[(82,.agg #[.int .i64 r95.Kind,.int .i64 r95.At,.string (bs r95.S)]),(86,s)]) (fun s=>[row s 3 (r98.map z6.enc)]) ?_ (fun hK148=>?_)
         ·rintro v104
          refine az ?_
          refine zK [1] (by kernel_rfl) rfl ?_
          refine zk ?_ ?_
          ·refine lU z6.enc [r95] fun v149=>?_
           exact aw (hK144 (v149,v104)) [0,1,2,3,5,4]
          exact zC
         refine a2 [1,1,2,3] 4 [1,85] [1,2,3,4] (fun (s:Unit)=>[(82,.agg #[.int .i64 r95.Kind,.int .i64 r95.At,.string (bs r95.S)])]) (fun s=>[]) ?_ (fun hK150=>?_)
         ·rintro _
          refine az ?_
          refine zK [1,4] (by kernel_rfl) rfl ?_
          refine zk ?_ ?_
          ·refine lU z6.enc [r95] fun v151=>?_
           exact aw (hK146 v151) [0,1,2,3,4]
          refine zk ?_ ?_
          ·refine at' rfl (tc [(0,0)] call56 (z9i jc)) ?_
           rintro v152 _ ⟨_,⟨_,rfl,rfl⟩,rfl⟩
           refine sb ?_
           exact aw (hK148 v152) [0,1,2,3,4]
          exact zC
         refine zK [0] (by kernel_rfl) rfl ?_
         refine zk ?_ ?_
         ·refine at' rfl (tc [] call124 (z2Q jz)) ?_
          rintro _ _ ⟨_,⟨rfl,rfl⟩,rfl⟩
          refine sb ?_
          exact aw (hK150 ()) [0,1,2,3]
         exact zC
def zb1:Nat→((List zm)→Option ((List z6)))→zm→Option ((List z6))
 | 0,_=>fun _=>none
 | n+1,q48r=>zan n q48r (zb1 n q48r)
theorem zfs {n:Nat} {q48r:(List zm)→Option ((List z6))} (q50h:K34 q48r 138):K35 (zb1 n q48r) 180:=by
 induction n with
 | zero=>intro _ _ _ _ _  h; cases h
 | succ n ih=>exact zci q50h ih
def zhd (n:Nat) (l_0:(List zm)) (q48r:(List zm)→Option ((List z6))):((List z6)×Int)→Option (Lp ((List z6)×Int) (Lp ((List z6)) ((List z6)))):=
 fun (j0,j2)=>
  cond (decide (j2<(l_0.length:Int)))
   (idx l_0 j2 fun x18=>
   obind (zb1 n q48r x18) fun r22=>
   need (j0.length+r22.length≤4294967296) (
   some (.go ((j0++r22),(IntKind.i64.wrap (j2+1))))))
   (some (.stop (.go j0)))
def zca (n:Nat) (q48r:(List zm)→Option ((List z6))) (l_0:(List zm)):Option ((List z6)):=
 obind (z6n [123]) fun r1=>
 bindJ (S:=(List z6))
  (iter (zhd n l_0 q48r) n (([r1]:List z6),0))
 (fun j3 =>
  obind (z6n [125]) fun r27=>
  need (j3.length+([r27]:List z6).length≤4294967296) (
  some (j3++([r27]:List z6))))
theorem ze0 {n:Nat} {q48r:(List zm)→Option ((List z6))} (q50h:K34 q48r 138):K34 (zca n q48r) 138:=by
 intro l_0 jJ r h
 refine zN func138 rfl ntmps138 rfl (fun w0 o0=>?_)
 refine yn 3 ?_
 refine cl0 [] call127 (fun h=>z4b h) h (fun r1 h=>?_)
 refine lT z6.enc [r1] fun _=>?_
 refine ys ?_
 refine zd (jr h [] [0] (fun s (g:Value)=>[(3,g)]) (fun s g=>[row g 3 (s.map z6.enc)]) (fun _ h _ _ hL8=>?_) ?_)
 ·refine yn 4 ?_
  refine lo h [0] [0,1] (fun s (g:Value)=>[(3,g),(4,.int .i64 s.2)]) (fun s g=>[row g 3 (s.1.map z6.enc)]) _ [1,0] ?_
  rintro ⟨j0,j2⟩ _ _ h _ jl j4
  refine rs ?_
  refine yc 4 h (fun _ h=>?_) fun _ h=>?_
  ·refine yn 5 ?_
   obtain ⟨x18,jH,jI,jm,h⟩:=zP h
   refine ys ?_
   refine z4a (exAtT (T:=z1S) (i:=j2.toNat) 1 rfl jm) ?_
   rintro ⟨g19,g20,g21⟩
   refine ys ?_
   obtain ⟨r22,jE,h⟩:=zJ h
   refine zt (tc [(3,0),(4,0),(5,0)] call180 (zfs q50h jE)) ?_
   rintro v24 _ ⟨_,⟨_,rfl,rfl⟩,rfl⟩
   obtain ⟨jF,h⟩:=zX h
   refine lA z6.enc_ok 0 6 jF fun _=>?_
   refine yn 3 ?_
   refine zD (rj [3,4,0] [0,1] ?_)
   refine yn 3 ?_
   exact gj jl _ [0,1] h
  ·refine z1h _ rfl ?_
   exact gk hL8 j4 _ [0] h
 rintro j3 _ h
 refine rs ?_
 refine yn 2 ?_
 refine cl0 [] call127 (fun h=>z4b h) h (fun r27 h=>?_)
 refine lT z6.enc [r27] fun _=>?_
 obtain ⟨jG,h⟩:=zX h
 refine lA z6.enc_ok 0 1 jG fun _=>?_
 refine yn 3 ?_
 exact fs [2] [0] results138 h
def zdZ:Nat→(List zm)→Option ((List z6))
 | 0=>fun _=>none
 | n+1=>zca n  (zdZ n )
theorem zhe {n:Nat}:K34 (zdZ n) 138:=by
 induction n with
 | zero=>intro _ _ _  h; cases h
 | succ n ih=>exact ze0 ih
end Go.Proofs.YtcmaoifiiigggaaGreatDoor
