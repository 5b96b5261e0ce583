/-
  Functions of the program, lifted: part 12.
-/
import Derived.Test.YtcmaoifiiigggaaGreatDoorV8Fk
set_option linter.unusedSimpArgs false
set_option linter.unusedVariables false
namespace Go.Proofs.YtcmaoifiiigggaaGreatDoor
open Go.Abs Tryz
set_option maxRecDepth 20000
set_option maxHeartbeats 4000000
def z14 (w_0:zo) (j3:Int) (s_2:(List UInt8)):Option (zo):=
 need (w_0.l_.length+([(z6.mk j3 0 s_2)]:List z6).length≤4294967296) (
 some (zo.mk (w_0.l_++([(z6.mk j3 0 s_2)]:List z6))))
theorem z17 {w_0:zo} {j3:Int} {s_2:(List UInt8)} {j2:Nat} {j0:Value} {r:zo} (h:z14 w_0 j3 s_2=some r) :
  Meets Tryz.prog 113 [boxP j2 0,.int .i64 j3,.string (bs s_2)] [row j0 3 (w_0.l_.map z6.enc),box j2 [j0]] (fun v G=>∃ v0,v = .tuple #[]∧G=[row v0 3 (r.l_.map z6.enc),box j2 [v0]]):=by
 refine zN func113 rfl ntmps113 rfl (fun w0 o0=>?_)
 refine yn 2 ?_
 refine lT z6.enc [(z6.mk j3 0 s_2)] fun _=>?_
 obtain ⟨hr3,h⟩:=zX h
 refine lA z6.enc_ok 0 2 hr3 fun _=>?_
 refine yn 3 ?_
 exact fs [] [0,1] results113 h
def z5j (l_1:(List (List UInt8))):(Int×(List z6))→Option (Lp (Int×(List z6)) zo):=
 fun (s_1,x_2)=>
  cond (decide (s_1<(l_1.length:Int)))
   (idx l_1 s_1 fun x9=>
   obind (z14 (zo.mk x_2) 2 x9) fun r10=>
   some (.go ((IntKind.i64.wrap (s_1+1)),r10.l_)))
   (some (.stop (zo.mk x_2)))
def zO (n:Nat) (w_0:zo) (l_1:(List (List UInt8))):Option (zo):=
 iter (z5j l_1) n (0,w_0.l_)
theorem zT {n:Nat}:K39 (zO n) 114:=by
 intro w_0 l_1 j2 j0 jx r h
 refine zN func114 rfl ntmps114 rfl (fun w0 o0=>?_)
 refine yn 4 ?_
 refine lo h [0,6,7] [0,0,3] (fun s (g:Value)=>[(8,.int .i64 s.1)]) (fun s g=>[box j2 [g],row g 3 (s.2.map z6.enc)]) _ [1,0,2] ?_
 rintro ⟨_,_⟩ _ _ h _ jf j8
 refine rs ?_
 refine yc 3 h (fun _ h=>?_) fun _ h=>?_
 ·refine yn 4 ?_
  obtain ⟨x9,jy,jz,jA,h⟩:=zP h
  refine yn 3 ?_
  refine cl1 [(1,2),(0,2)] call113 (fun h=>z17 h) h (fun r10 v12 h=>?_)
  refine yn 5 ?_
  exact gj jf _ [4,3,2] h
 ·refine z1h _ rfl ?_
  refine z3d ?_
  obtain rfl:=zU h
  obtain rfl:=j8 _ rfl
  exact ft [] [1,0] results114
def z5i (l_1:(List (List UInt8))):(Int×(List z6))→Option (Lp (Int×(List z6)) zo):=
 fun (s_1,x_2)=>
  cond (decide (s_1<(l_1.length:Int)))
   (idx l_1 s_1 fun x9=>
   obind (z14 (zo.mk x_2) 5 x9) fun r10=>
   some (.go ((IntKind.i64.wrap (s_1+1)),r10.l_)))
   (some (.stop (zo.mk x_2)))
def zW (n:Nat) (w_0:zo) (l_1:(List (List UInt8))):Option (zo):=
 iter (z5i l_1) n (0,w_0.l_)
theorem zZ {n:Nat}:K39 (zW n) 116:=by
 intro w_0 l_1 j2 j0 jx r h
 refine zN func116 rfl ntmps116 rfl (fun w0 o0=>?_)
 refine yn 4 ?_
 refine lo h [0,6,7] [0,0,3] (fun s (g:Value)=>[(8,.int .i64 s.1)]) (fun s g=>[box j2 [g],row g 3 (s.2.map z6.enc)]) _ [1,0,2] ?_
 rintro ⟨_,_⟩ _ _ h _ jf j8
 refine rs ?_
 refine yc 3 h (fun _ h=>?_) fun _ h=>?_
 ·refine yn 4 ?_
  obtain ⟨x9,jy,jz,jA,h⟩:=zP h
  refine yn 3 ?_
  refine cl1 [(1,2),(0,2)] call113 (fun h=>z17 h) h (fun r10 v12 h=>?_)
  refine yn 5 ?_
  exact gj jf _ [4,3,2] h
 ·refine z1h _ rfl ?_
  refine z3d ?_
  obtain rfl:=zU h
  obtain rfl:=j8 _ rfl
  exact ft [] [1,0] results116
def z1E (n:Nat) (q12r:zo→zi→Option (Pn (zo))) (w_0:zo) (x_1:zi):Option (Pn (zo)):=
 cond (decide ((x_1.Args.length:Int)=0))
  (obind (q12r w_0 x_1) fun r3=>
  pbind r3 (fun e6=>
   some (.pan e6)) fun q5=>
  some (.ret q5))
  (obind (zW n w_0 ([[40]]:List (List UInt8))) fun r9=>
  obind (q12r r9 x_1) fun r12=>
  pbind r12 (fun e15=>
   some (.pan e15)) fun q14=>
  obind (zW n q14 ([[41]]:List (List UInt8))) fun r18=>
  some (.ret r18))
theorem z2r {n:Nat} {q12r:zo→zi→Option (Pn (zo))} (q13h:K12 q12r 53):K12 (z1E n q12r) 117:=by
 intro w_0 x_1 j2 j0 j1 r h
 refine z1y func117 rfl ntmps117 rfl (fun w0 o0=>?_)
 refine zh (lB fun b1=>?_)
 refine yc 4 h (fun _ h=>?_) fun _ h=>?_
 ·refine yn 2 ?_
  refine cp1 [(0,2),(1,2),(2,0)] call53 (fun h=>q13h h) h (fun q5 v7 h=>?_)
  refine yn 2 ?_
  exact fs [] [4,5] results117 h
 ·refine yn 3 ?_
  refine lS [[40]] fun _=>?_
  refine cl1 [(0,2),(1,2),(4,1)] call116 (fun h=>zZ h) h (fun r9 v11 h=>?_)
  refine zc (rj [0,3] [2,3,5,6] ?_)
  refine yn 2 ?_
  refine cp1 [(2,2),(3,2),(0,0)] call53 (fun h=>q13h h) h (fun q14 v16 h=>?_)
  refine yn 2 ?_
  refine lS [[41]] fun _=>?_
  refine cl1 [(4,2),(5,2),(6,1)] call116 (fun h=>zZ h) h (fun r18 v20 h=>?_)
  refine yn 2 ?_
  exact fs [] [7,8] results117 h
def z27 (n:Nat) (x_1:zi) (q12r:zo→zi→Option (Pn (zo))):(Int×(List z6))→Option (Lp (Int×(List z6)) (Lp ((List z6)) (Pn (zo)))):=
 fun (j5,jc)=>
  cond (decide (j5<((x_1.Args.drop ((1:Int).toNat)).length:Int)))
   (idx (x_1.Args.drop ((1:Int).toNat)) j5 fun x142=>
   idx ([[40],[44]]:List (List UInt8)) (min j5 1) fun x147=>
   obind (zW n (zo.mk jc) ([x147]:List (List UInt8))) fun r149=>
   obind (q12r r149 x142) fun r152=>
   pbind r152 (fun e155=>
    some (.stop (.stop (.pan e155)))) fun q154=>
   some (.go ((IntKind.i64.wrap (j5+1)),q154.l_)))
   (some (.stop (.go jc)))
def z3j (n:Nat) (q12r:zo→zi→Option (Pn (zo))) (w_0:zo) (x_1:zi):Option (Pn (zo)):=
 bindJ (S:=Unit)
  (bindJ (S := Bool)
   (cond (decide (x_1.Op = 1))
    (some (.go (decide (x_1.Op=1))))
    (cond (decide (x_1.Op = 2))
     (some (.go (decide (x_1.Op=2))))
     (cond (decide (x_1.Op = 3))
      (some (.go (decide (x_1.Op=3))))
      (some (.go (decide (x_1.Op=6)))))))
  (fun s_6 =>
   cond s_6
    (obind (z2I (decide ((x_1.Args.length:Int)=0))) fun r15=>
    pbind r15 (fun e18=>
     some (.stop (.pan e18))) fun q17=>
    some (.go ()))
    (obind (z2I (decide (x_1.S=[]))) fun r19=>
    pbind r19 (fun e22=>
     some (.stop (.pan e22))) fun q21=>
    some (.go ()))))
 (fun _ =>
  cond (decide (x_1.Op=1))
   (obind (z14 w_0 3 x_1.S) fun r24=>
   some (.ret r24))
   (cond (decide (x_1.Op = 2))
    (obind (z14 w_0 4 x_1.S) fun r28=>
    some (.ret r28))
    (cond (decide (x_1.Op = 3))
     (obind (z14 w_0 1 x_1.S) fun r32=>
     some (.ret r32))
     (cond (decide (x_1.Op = 6))
      (obind (zO n w_0 ([[104,101,97,100,101,114]]:List (List UInt8))) fun r37=>
      obind (z14 r37 4 x_1.S) fun r40=>
      some (.ret r40))
      (bindJ (S := Bool)
       (cond (decide (x_1.Op = 4))
        (some (.go (decide (x_1.Op=4))))
        (cond (decide (x_1.Op = 5))
         (some (.go (decide (x_1.Op=5))))
         (some (.go (decide (x_1.Op=7))))))
      (fun jq =>
       cond jq
        (obind (z2I (decide ((x_1.Args.length:Int)=0))) fun r51=>
        pbind r51 (fun e54=>
         some (.pan e54)) fun q53=>
        obind (z84) fun r55=>
        obind (mfold (fun p:((List UInt8)×Int)=>decide (p.2=x_1.Op)) (fun p j9=>
         obind (zO n (zo.mk j9) ([p.1]:List (List UInt8))) fun r76=>
         some r76.l_) r55 w_0.l_) fun jg=>
        some (.ret (zo.mk jg)))
        (cond (decide (x_1.Op = 8))
         (obind (z2I (decide ((x_1.Args.length:Int)=1))) fun r80=>
         pbind r80 (fun e83=>
          some (.pan e83)) fun q82=>
         obind (zW n w_0 ([[45]]:List (List UInt8))) fun r85=>
         idx x_1.Args 0 fun x88=>
         obind (z1E n q12r r85 x88) fun r90=>
         pbind r90 (fun e93=>
          some (.pan e93)) fun q92=>
         some (.ret q92))
         (cond (decide (x_1.Op = 9))
          (obind (z2I (decide ((x_1.Args.length:Int)=1))) fun r96=>
          pbind r96 (fun e99=>
           some (.pan e99)) fun q98=>
          obind (zO n w_0 ([[110,111,116]]:List (List UInt8))) fun r101=>
          idx x_1.Args 0 fun x104=>
          obind (z1E n q12r r101 x104) fun r106=>
          pbind r106 (fun e109=>
           some (.pan e109)) fun q108=>
          some (.ret q108))
          (cond (decide (x_1.Op = 23))
           (obind (z2I (decide (2≤(x_1.Args.length:Int)))) fun r112=>
           pbind r112 (fun e115=>
            some (.pan e115)) fun q114=>
           idx x_1.Args 0 fun x116=>
           obind (z1E n q12r w_0 x116) fun r118=>
           pbind r118 (fun e121=>
            some (.pan e121)) fun q120=>
           obind (zO n q120 ([[105,110]]:List (List UInt8))) fun r124=>
           bindJ (S:=(List z6))
            (need (0≤(1:Int)∧1≤(x_1.Args.length:Int)∧(x_1.Args.length:Int)≤(x_1.Args.length:Int)) (
            iter (z27 n x_1 q12r) n (0,r124.l_)))
           (fun jd =>
            obind (zW n (zo.mk jd) ([[41]]:List (List UInt8))) fun r158=>
            some (.ret r158)))
           (obind (z2I ((decide (10≤x_1.Op) && decide (x_1.Op≤22)) && decide ((x_1.Args.length:Int)=2))) fun r167=>
           pbind r167 (fun e170=>
            some (.pan e170)) fun q169=>
           idx x_1.Args 0 fun x171=>
           obind (z1E n q12r w_0 x171) fun r173=>
           pbind r173 (fun e176=>
            some (.pan e176)) fun q175=>
           bindJ (S:=(List z6))
            (obind (z92) fun r184=>
            obind (mfold (fun p:((List UInt8)×Int)=>decide (p.2=x_1.Op)) (fun p j6=>
             cond (decide (21≤p.2))
              (obind (zO n (zo.mk j6) ([p.1]:List (List UInt8))) fun r206=>
              some r206.l_)
              (obind (zW n (zo.mk j6) ([p.1]:List (List UInt8))) fun r210=>
              some r210.l_)) r184 q175.l_) fun ja=>
            some (.go ja))
           (fun je =>
            idx x_1.Args 1 fun x213=>
            obind (z1E n q12r (zo.mk je) x213) fun r215=>
            pbind r215 (fun e218=>
             some (.pan e218)) fun q217=>
            some (.ret q217))))))))))))
theorem z7i {n:Nat} {q12r:zo→zi→Option (Pn (zo))} (q13h:K12 q12r 53):K12 (z3j n q12r) 53:=by
 intro w_0 x_1 j2 j0 j1 r h
 refine z1y func53 rfl ntmps53 rfl (fun w0 o0=>?_)
 refine zh (lB fun b1=>?_)
 refine zd (jr h [0,3] [2,1,4,3] (fun s (g:Unit)=>[]) (fun s g=>[]) (fun _ h ho3 _ hL4=>?_) ?_)
 ·refine yn 4 ?_
  refine jr h [0,3] [2,1,4,3] (fun s (g:Unit)=>[(16,.bool s)]) (fun s g=>[]) (fun _ h _ _ hL9=>?_) ?_
  ·refine yc 3 h (fun _ h=>?_) fun _ h=>?_
   ·exact run_skip (gj hL9 () [1,0,3,2] h)
   ·refine yc 3 h (fun _ h=>?_) fun _ h=>?_
    ·exact run_skip (gj hL9 () [1,0,3,2] h)
    ·refine yc 3 h (fun _ h=>?_) fun _ h=>?_
     ·exact run_skip (gj hL9 () [1,0,3,2] h)
     ·refine rj [0,3,11] [0,1,2,3] ?_
      refine yn 3 ?_
      exact gj hL9 () [1,0,3,2] h
  rintro s_6 _ h
  refine rs ?_
  refine rc h (fun _ h=>?_) (fun _ h=>?_)
  ·refine yn 2 ?_
   refine cp0 [] call112 (fun h=>z2a h) h (fun _ h=>?_) (hp:=fun e h=>by obtain rfl:=zU h; obtain rfl:=zM ho3; exact finP ⟨_,rfl,rfl⟩)
   refine yn 2 ?_
   exact gj hL4 () [0,1,2,3] h
  ·refine yn 2 ?_
   refine cp0 [] call112 (fun h=>z2a h) h (fun _ h=>?_) (hp:=fun e h=>by obtain rfl:=zU h; obtain rfl:=zM ho3; exact finP ⟨_,rfl,rfl⟩)
   refine yn 2 ?_
   exact gj hL4 () [0,1,2,3] h
 rintro _ _ h
 refine rs ?_
 refine yc 7 h (fun _ h=>?_) fun _ h=>?_
 ·refine yn 2 ?_
  refine cl1 [(1,2),(0,2)] call113 (fun h=>z17 h) h (fun r24 v26 h=>?_)
  refine yn 3 ?_
  exact fs [] [4,5] results53 h
 ·refine yc 3 h (fun _ h=>?_) fun _ h=>?_
  ·refine yn 2 ?_
   refine cl1 [(1,2),(0,2)] call113 (fun h=>z17 h) h (fun r28 v30 h=>?_)
   refine yn 3 ?_
   exact fs [] [4,5] results53 h
  ·refine yc 3 h (fun _ h=>?_) fun _ h=>?_
   ·refine rj [0,3] [0,1,2,3] ?_
    refine yn 2 ?_
    refine cl1 [(1,2),(0,2)] call113 (fun h=>z17 h) h (fun r32 v34 h=>?_)
    refine yn 3 ?_
    exact fs [] [4,5] results53 h
   ·refine zH (rj [0,3,27] [0,1,2,3] ?_)
    refine yc 3 h (fun _ h=>?_) fun _ h=>?_
    ·refine yn 2 ?_
     refine lS [[104,101,97,100,101,114]] fun _=>?_
     refine cl1 [(1,2),(0,2),(4,1)] call114 (fun h=>zT h) h (fun r37 v39 h=>?_)
     refine yn 2 ?_
     refine cl1 [(5,2),(6,2)] call113 (fun h=>z17 h) h (fun r40 v42 h=>?_)
     refine yn 3 ?_
     exact fs [] [7,8] results53 h
    ·refine jr h [0,3,27] [1,2,3,4] (fun s (g:Unit)=>[(111,.bool s)]) (fun s g=>[]) (fun _ h _ _ jh=>?_) ?_
     ·refine yc 3 h (fun _ h=>?_) fun _ h=>?_
      ·exact run_skip (gj jh () [0,1,2,3] h)
      ·refine yc 3 h (fun _ h=>?_) fun _ h=>?_
       ·exact run_skip (gj jh () [0,1,2,3] h)
       ·refine yn 3 ?_
        exact gj jh () [0,1,2,3] h
     rintro jq _ h
     refine rs ?_
     refine rc h (fun _ h=>?_) (fun _ h=>?_)
     ·refine yn 2 ?_
      refine cp0 [] call112 (fun h=>z2a h) h (fun _ h=>?_)
      refine za (cl1 [] call115 (fun h=>zcy h) h (fun _ v57 h=>?_))
      refine zt (zpg 4 underlying179 rfl rfl) ?_
      rintro _ _ ⟨b58,rfl,rfl⟩
      refine yn 2 ?_
      obtain ⟨jg,hm67,h⟩:=zJ h
      refine zn0 (S:=(List z6)) (γ:=Value) hm67 j0 (fun σ γ=>[(0,boxP j2 0),(3,boxP b1 0),(121,boxP b58 0)]) (fun σ γ ℓ=>[box j2 [γ],row γ 3 (σ.map z6.enc),box b1 [.int .i64 x_1.Op,.int .i64 x_1.At,.string (bs x_1.S),j1],nro j1 zj x_1.Args,mapit (fun l:List UInt8=>Value.string (bs l)) (fun n:Int=>Value.int .i64 n) b58 v57 none ℓ]) [0,1,2,3,4] (qv3 rfl rfl rfl) (by decide) rfl ?_
      rintro j9 v62 ll63 hm64 L65 js
      refine rs ?_
      refine zh (zt (zsD 4 rfl rfl) ?_)
      rintro _ _ (⟨hl72,rfl,rfl⟩ | ⟨⟨k68,w69⟩,l70,l71,hl72,rfl,rfl⟩)
      ·subst hl72
       have he:j9=jg:=zkK hm64
       subst j9
       refine ys ?_
       refine zc (z53 rfl ?_)
       refine z1h _ rfl ?_
       refine yn 2 ?_
       exact fs [] [1,0] results53 h
      rcases zj3 hm64 hl72 with ⟨ha73,hm64⟩ | ⟨ha73,h,hz74⟩
      ·skip
       refine ys ?_
       refine zc (z3M rfl ?_)
       refine yn 4 ?_
       refine zq (zlb 4 rfl rfl) ?_
       refine yn 2 ?_
       refine yw ?_
       refine zq ((y_eql rfl rfl).to (v':=.bool false) (congrArg Value.bool ha73)) ?_
       refine zd (z53 rfl ?_)
       refine yn 2 ?_
       refine z2G (uncur 4 rfl) ?_
       exact zej js hl72 j9 v62 [0,1,2,3,4] hm64 (qv3 rfl rfl rfl) (by decide) rfl
      skip
      refine ys ?_
      refine zc (z3M rfl ?_)
      refine yn 4 ?_
      refine zq (zlb 4 rfl rfl) ?_
      refine yn 2 ?_
      refine yw ?_
      refine zq ((y_eql rfl rfl).to (v':=.bool true) (congrArg Value.bool ha73)) ?_
      refine zd (z3M rfl ?_)
      refine rj [0,3,121,4] [0,1,2,3,4] ?_
      refine yn 2 ?_
      refine lS [k68] fun _=>?_
      refine cl1 [(1,2),(0,2),(5,1)] call114 (fun h=>zT h) h (fun r76 v78 h=>?_)
      refine yn 2 ?_
      refine z2G (uncur 4 rfl) ?_
      obtain rfl:=Option.some.inj h
      exact zej js hl72 r76.l_ v78 [7,6,2,3,4] (hz74 _) (qv3 rfl rfl rfl) (by decide) rfl
     ·refine yc 3 h (fun _ h=>?_) fun _ h=>?_
      ·refine yn 2 ?_
       refine cp0 [] call112 (fun h=>z2a h) h (fun _ h=>?_)
       refine yn 2 ?_
       refine lS [[45]] fun _=>?_
       refine cl1 [(1,2),(0,2),(4,1)] call116 (fun h=>zZ h) h (fun r85 v87 h=>?_)
       refine zd (rj [0,3] [2,3,5,6] ?_)
       refine yn 2 ?_
       obtain ⟨x88,jO,jP,jt,h⟩:=zP h
       refine ys ?_
       refine z4a (exAtT (T:=z1b) (i:=(0:Int).toNat) 1 rfl jt) ?_
       rintro (g89:Value)
       refine ys ?_
       refine cp1 [(2,2),(3,2),(5,0)] call117 (fun h=>z2r q13h h) h (fun q92 v94 h=>?_)
       refine yn 3 ?_
       exact fs [] [6,7] results53 h
      ·refine yc 3 h (fun _ h=>?_) fun _ h=>?_
       ·refine yn 2 ?_
        refine cp0 [] call112 (fun h=>z2a h) h (fun _ h=>?_)
        refine zc (rj [0,3] [0,1,2,3] ?_)
        refine yn 2 ?_
        refine lS [[110,111,116]] fun _=>?_
        refine cl1 [(1,2),(0,2),(4,1)] call114 (fun h=>zT h) h (fun r101 v103 h=>?_)
        refine yn 2 ?_
        obtain ⟨x104,jB,jC,ji,h⟩:=zP h
        refine ys ?_
        refine z4a (exAtT (T:=z1b) (i:=(0:Int).toNat) 3 rfl ji) ?_
        rintro (g105:Value)
        refine ys ?_
        refine cp1 [(5,2),(6,2),(8,0)] call117 (fun h=>z2r q13h h) h (fun q108 v110 h=>?_)
        refine yn 3 ?_
        exact fs [] [9,10] results53 h
       ·refine yc 3 h (fun _ h=>?_) fun _ h=>?_
        ·refine yn 2 ?_
         refine cp0 [] call112 (fun h=>z2a h) h (fun _ h=>?_)
         refine zc (rj [0,3] [0,1,2,3] ?_)
         refine yn 2 ?_
         obtain ⟨x116,jD,jE,jj,h⟩:=zP h
         refine ys ?_
         refine z4a (exAtT (T:=z1b) (i:=(0:Int).toNat) 3 rfl jj) ?_
         rintro (g117:Value)
         refine ys ?_
         refine cp1 [(1,2),(0,2),(5,0)] call117 (fun h=>z2r q13h h) h (fun q120 v122 h=>?_)
         refine yn 2 ?_
         refine lS [[105,110]] fun _=>?_
         refine cl1 [(6,2),(7,2),(8,1)] call114 (fun h=>zT h) h (fun r124 v126 h=>?_)
         refine zd (jr h [0] [0,0] (fun s (g:Value)=>[]) (fun s g=>[box j2 [g],row g 3 (s.map z6.enc)]) (fun _ h ju _ jv=>?_) ?_)
         ·refine zH (rj [0,3] [2,3,9,10] ?_)
          refine yn 2 ?_
          obtain ⟨hb133,h⟩:=zX h
          refine zq (zqU (l:=1) (r:=(x_1.Args.length:Int)) 1 runUnderlying45 sizeOf47 rfl rfl z1j (bi1 (kd:=.i64) rfl) bi0 hb133.1 hb133.2.1 hb133.2.2) ?_
          refine zB (zok (C:=zj) (a:=(1:Int).toNat) (b:=((x_1.Args.length:Int)).toNat) 1 rfl (by omega) (by omega)) ?_
          refine zB (retell 4 (g:=nro (subS j1 4 ((1:Int).toNat) (((x_1.Args.length:Int)).toNat)) zj (x_1.Args.drop ((1:Int).toNat))) rfl (by first | (simp; done) | (simp; rfl))) ?_
          refine yn 3 ?_
          refine lo h [0,185,186] [0,0,5] (fun s (g:Value)=>[(187,.int .i64 s.1)]) (fun s g=>[box j2 [g],row g 3 (s.2.map z6.enc)]) _ [3,2,4] ?_
          rintro ⟨j5,_⟩ _ _ h _ jk j7
          refine rs ?_
          refine yc 3 h (fun _ h=>?_) fun _ h=>?_
          ·refine yn 5 ?_
           obtain ⟨x142,jF,jG,jl,h⟩:=zP h
           refine ys ?_
           refine z4a (exAtT (T:=z1b) (i:=j5.toNat) 2 rfl jl) ?_
           rintro (g143:Value)
           refine ys ?_
           refine al fun b144=>?_
           refine yn 3 ?_
           refine lS [[40],[44]] fun _=>?_
           refine ys ?_
           refine zq (y_min rfl rfl) ?_
           obtain ⟨x147,jH,jI,jJ,h⟩:=zP h
           refine ys ?_
           refine lS [x147] fun _=>?_
           refine cl1 [(1,2),(0,2),(7,1)] call116 (fun h=>zZ h) h (fun r149 v151 h=>?_)
           refine zd (rj [187,0,185,186,7] [2,4,5,8,9] ?_)
           refine yn 2 ?_
           refine cp1 [(3,2),(4,2),(1,0)] call53 (fun h=>q13h h) h (fun q154 v156 h=>?_) (hp:=fun e h=>by obtain rfl:=zU h; obtain rfl:=j7 _ rfl; obtain rfl:=zM ju; exact finP ⟨_,rfl,rfl⟩)
           refine yn 5 ?_
           exact gj jk _ [6,5,0] h
          ·refine z1h _ rfl ?_
           exact gk jv j7 _ [0,1] h
         rintro jd v128 h
         refine rs ?_
         refine yn 2 ?_
         refine lS [[41]] fun _=>?_
         refine cl1 [(1,2),(0,2),(2,1)] call116 (fun h=>zZ h) h (fun r158 v160 h=>?_)
         refine yn 3 ?_
         exact fs [] [3,4] results53 h
        ·refine yn 2 ?_
         refine oq 4 31 35 [0,3] [0,1,2,3] (decide (10≤x_1.Op) && decide (x_1.Op≤22)) ?_
         refine ys ?_
         refine oq 5 36 41 [0,3] [0,1,2,3] ((decide (10≤x_1.Op) && decide (x_1.Op≤22)) && decide ((x_1.Args.length:Int)=2)) ?_
         refine cp0 [] call112 (fun h=>z2a h) h (fun _ h=>?_)
         refine yn 2 ?_
         obtain ⟨x171,jK,jL,jm,h⟩:=zP h
         refine ys ?_
         refine z4a (exAtT (T:=z1b) (i:=(0:Int).toNat) 3 rfl jm) ?_
         rintro (g172:Value)
         refine ys ?_
         refine cp1 [(1,2),(0,2),(5,0)] call117 (fun h=>z2r q13h h) h (fun q175 v177 h=>?_)
         refine zd (jr h [0,3] [0,0,3,4] (fun s (g:Value)=>[]) (fun s g=>[box j2 [g],row g 3 (s.map z6.enc)]) (fun _ h _ _ jw=>?_) ?_)
         ·refine zh (cl1 [] call118 (fun h=>zdH h) h (fun _ v186 h=>?_))
          refine zt (zpg 8 underlying179 rfl rfl) ?_
          rintro _ _ ⟨b187,rfl,rfl⟩
          refine yn 2 ?_
          obtain ⟨ja,hm196,h⟩:=zJ h
          refine zn0 (S:=(List z6)) (γ:=Value) hm196 v177 (fun σ γ=>[(0,boxP j2 0),(3,boxP b1 0),(50,boxP b187 0)]) (fun σ γ ℓ=>[box j2 [γ],row γ 3 (σ.map z6.enc),box b1 [.int .i64 x_1.Op,.int .i64 x_1.At,.string (bs x_1.S),j1],nro j1 zj x_1.Args,mapit (fun l:List UInt8=>Value.string (bs l)) (fun n:Int=>Value.int .i64 n) b187 v186 none ℓ]) [7,6,2,3,8] (qv3 rfl rfl rfl) (by decide) rfl ?_
          rintro j6 v191 ll192 hm193 L194 jb
          refine rs ?_
          refine zh (zt (zsD 4 rfl rfl) ?_)
          rintro _ _ (⟨hl201,rfl,rfl⟩ | ⟨⟨k197,w198⟩,l199,l200,hl201,rfl,rfl⟩)
          ·subst hl201
           have he:j6=ja:=zkK hm193
           subst j6
           refine ys ?_
           refine zc (z53 rfl ?_)
           refine z1h _ rfl ?_
           exact gj jw _ [0,1,2,3] h
          rcases zj3 hm193 hl201 with ⟨ha202,hm193⟩ | ⟨ha202,h,hz203⟩
          ·skip
           refine ys ?_
           refine zc (z3M rfl ?_)
           refine yn 4 ?_
           refine zq (zlb 4 rfl rfl) ?_
           refine yn 4 ?_
           refine yw ?_
           refine zq ((y_eql rfl rfl).to (v':=.bool false) (congrArg Value.bool ha202)) ?_
           refine ys ?_
           refine zd (z53 rfl ?_)
           refine zH (rj [0,3,50,8,9] [0,1,2,3,4] ?_)
           refine z8 (yw ?_)
           refine zq ((y_eql rfl rfl).to (v':=.bool false) (congrArg Value.bool ha202)) ?_
           refine ys ?_
           refine zd (z53 rfl ?_)
           refine yn 3 ?_
           refine z2G (uncur 4 rfl) ?_
           exact zej jb hl201 j6 v191 [0,1,2,3,4] hm193 (qv3 rfl rfl rfl) (by decide) rfl
          skip
          refine ys ?_
          refine zc (z3M rfl ?_)
          refine yn 4 ?_
          refine zq (zlb 4 rfl rfl) ?_
          refine yn 4 ?_
          refine yw ?_
          refine zq ((y_eql rfl rfl).to (v':=.bool true) (congrArg Value.bool ha202)) ?_
          refine yc 2 h (fun _ h=>?_) fun _ h=>?_
          ·refine rj [0,3,50,8] [0,1,2,3,4] ?_
           refine yn 2 ?_
           refine lS [k197] fun _=>?_
           refine cl1 [(1,2),(0,2),(5,1)] call114 (fun h=>zT h) h (fun r206 v208 h=>?_)
           refine yn 3 ?_
           refine z2G (uncur 4 rfl) ?_
           obtain rfl:=Option.some.inj h
           exact zej jb hl201 r206.l_ v208 [7,6,2,3,4] (hz203 _) (qv3 rfl rfl rfl) (by decide) rfl
          ·refine zH (rj [0,3,50,8,9] [0,1,2,3,4] ?_)
           refine z8 (yw ?_)
           refine zq ((y_eql rfl rfl).to (v':=.bool true) (congrArg Value.bool ha202)) ?_
           refine ys ?_
           refine zd (z3M rfl ?_)
           refine yn 2 ?_
           refine lS [k197] fun _=>?_
           refine cl1 [(1,2),(0,2),(5,1)] call116 (fun h=>zZ h) h (fun r210 v212 h=>?_)
           refine yn 3 ?_
           refine z2G (uncur 4 rfl) ?_
           obtain rfl:=Option.some.inj h
           exact zej jb hl201 r210.l_ v212 [7,6,2,3,4] (hz203 _) (qv3 rfl rfl rfl) (by decide) rfl
         rintro je v179 h
         refine rs ?_
         refine yn 2 ?_
         obtain ⟨x213,jM,jN,jo,h⟩:=zP h
         refine ys ?_
         refine z4a (exAtT (T:=z1b) (i:=(1:Int).toNat) 3 rfl jo) ?_
         rintro (g214:Value)
         refine ys ?_
         refine cp1 [(1,2),(0,2),(5,0)] call117 (fun h=>z2r q13h h) h (fun q217 v219 h=>?_)
         refine yn 3 ?_
         exact fs [] [6,7] results53 h
def z1D:Nat→zo→zi→Option (Pn (zo))
 | 0=>fun _ _=>none
 | n+1=>z3j n  (z1D n )
theorem z1Q {n:Nat}:K12 (z1D n) 53:=by
 induction n with
 | zero=>intro _ _ _ _ _ _  h; cases h
 | succ n ih=>exact z7i ih
def z74 (n:Nat) (w_0:zo) (a_1:zi):Option (Pn (zo)):=
 obind (z1D n w_0 a_1) fun r1=>
 pbind r1 (fun e4=>
  some (.pan e4)) fun q3=>
 some (.ret q3)
theorem z8q {n:Nat} {w_0:zo} {a_1:zi} {j2:Nat} {j0:Value} {jp:Nat} {j4:Value} {r:Pn (zo)} (h:z74 n w_0 a_1=some r) :
  z4t Tryz.prog 52 [boxP j2 0,boxP jp 0] [row j0 3 (w_0.l_.map z6.enc),box j2 [j0],nro j4 zj a_1.Args,box jp [.int .i64 a_1.Op,.int .i64 a_1.At,.string (bs a_1.S),j4]] (fun v G=>∃ q,r = .ret q∧(∃ v0,v = .tuple #[]∧G=[row v0 3 (q.l_.map z6.enc),box j2 [v0],box jp [.int .i64 a_1.Op,.int .i64 a_1.At,.string (bs a_1.S),j4]])) (fun v=>∃ e,r = .pan e∧v = .iface 27 (.int .i64 e)):=by
 refine z1y func52 rfl ntmps52 rfl (fun w0 o0=>?_)
 refine yn 2 ?_
 obtain ⟨r1,hr2,h⟩:=zJ h
 rcases r1 with q3 | e4
 rotate_left
 ·replace h:=z32 h
  refine z6M (wn rfl) rfl (tp [(0,2),(1,2),(2,0)] call53 (z1Q hr2)) (by rintro _ _ ⟨_,⟨_,hq,_⟩,_⟩; cases hq) ?_
  rintro _ ⟨_,he,rfl⟩
  obtain rfl:=Pn.pan.inj he
  obtain rfl:=zU h
  exact finP ⟨_,rfl,rfl⟩
 replace h:=z33 h
 refine zt (tc [(0,2),(1,2),(2,0)] call53 (z5a (z1Q hr2))) ?_
 rintro _ _ ⟨_,⟨v5,rfl,rfl⟩,rfl⟩
 refine yn 2 ?_
 exact fs [] [4,5,3] results52 h
end Go.Proofs.YtcmaoifiiigggaaGreatDoor
