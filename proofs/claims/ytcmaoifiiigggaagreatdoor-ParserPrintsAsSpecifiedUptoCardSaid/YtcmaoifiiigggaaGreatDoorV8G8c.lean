/-
  Functions that the law ParserPrintsAsSpecified needs, lifted.
-/
import Derived.Test.YtcmaoifiiigggaaGreatDoorV8Fl
set_option linter.unusedSimpArgs false
set_option linter.unusedVariables false
namespace Go.Proofs.YtcmaoifiiigggaaGreatDoor
open Go.Abs Tryz
set_option maxRecDepth 20000
set_option maxHeartbeats 4000000
def z57 (n:Nat) (q32r:zo→(List zm)→Option (Pn (zo))) (q33r:zo→zm→Option (Pn (zo))) (w_0:zo) (s_1:zm):Option (Pn (zo)):=
 obind (z2I (((((decide (s_1.Kind=1) || decide (s_1.Kind=2)) || decide (s_1.Kind=3)) || decide (s_1.Name=[])) && (decide (s_1.Kind=5) || decide ((s_1.Else.length:Int)=0))) && ((decide (s_1.Kind=5) || decide (s_1.Kind=6)) || decide ((s_1.Body.length:Int)=0)))) fun r26=>
 pbind r26 (fun e29=>
  some (.pan e29)) fun q28=>
 bindJ (S:=(List z6))
  (cond (decide (s_1.Kind = 5))
   (obind (zO n w_0 ([[105,102]]:List (List UInt8))) fun r38=>
   obind (z1D n r38 s_1.X) fun r41=>
   pbind r41 (fun e44=>
    some (.stop (.pan e44))) fun q43=>
   obind (q32r q43 s_1.Body) fun r46=>
   pbind r46 (fun e49=>
    some (.stop (.pan e49))) fun q48=>
   bindJ (S:=(List z6))
    (bindJ (S := Bool)
     (cond (decide ((s_1.Else.length : Int) = 1))
      (idx s_1.Else 0 fun x63=>
      some (.go (decide (x63.Kind=5))))
      (some (.go false)))
    (fun b57 =>
     cond b57
      (obind (zO n q48 ([[101,108,115,101]]:List (List UInt8))) fun r69=>
      idx s_1.Else 0 fun x72=>
      obind (q33r r69 x72) fun r76=>
      pbind r76 (fun e79=>
       some (.stop (.stop (.pan e79)))) fun q78=>
      some (.go q78.l_))
      (cond (decide (0 < (s_1.Else.length : Int)))
       (obind (zO n q48 ([[101,108,115,101]]:List (List UInt8))) fun r83=>
       obind (q32r r83 s_1.Else) fun r86=>
       pbind r86 (fun e89=>
        some (.stop (.stop (.pan e89)))) fun q88=>
       some (.go q88.l_))
       (some (.go q48.l_)))))
   (fun jg =>
    some (.stop (.ret (zo.mk jg)))))
   (cond (decide (s_1.Kind = 6))
    (obind (z2I (decide (s_1.X.Op=1))) fun r92=>
    pbind r92 (fun e95=>
     some (.stop (.pan e95))) fun q94=>
    obind (zO n w_0 ([[114,101,112,101,97,116]]:List (List UInt8))) fun r97=>
    obind (z1D n r97 s_1.X) fun r100=>
    pbind r100 (fun e103=>
     some (.stop (.pan e103))) fun q102=>
    obind (q32r q102 s_1.Body) fun r105=>
    pbind r105 (fun e108=>
     some (.stop (.pan e108))) fun q107=>
    some (.stop (.ret q107)))
    (cond (decide (s_1.Kind = 1))
     (obind (zO n w_0 ([[108,101,116]]:List (List UInt8))) fun r112=>
     obind (z14 r112 1 s_1.Name) fun r115=>
     obind (zW n r115 ([[61]]:List (List UInt8))) fun r119=>
     some (.go r119.l_))
     (cond (decide (s_1.Kind = 2))
      (obind (zO n w_0 ([[115,101,116]]:List (List UInt8))) fun r124=>
      obind (z14 r124 1 s_1.Name) fun r127=>
      obind (zW n r127 ([[61]]:List (List UInt8))) fun r131=>
      some (.go r131.l_))
      (cond (decide (s_1.Kind = 3))
       (obind (zO n w_0 ([[115,101,116],[104,101,97,100,101,114]]:List (List UInt8))) fun r136=>
       obind (z14 r136 4 s_1.Name) fun r139=>
       obind (zW n r139 ([[61]]:List (List UInt8))) fun r143=>
       some (.go r143.l_))
       (cond (decide (s_1.Kind = 4))
        (obind (zO n w_0 ([[115,101,116],[115,116,97,116,117,115]]:List (List UInt8))) fun r148=>
        obind (zW n r148 ([[61]]:List (List UInt8))) fun r152=>
        some (.go r152.l_))
        (cond (decide (s_1.Kind = 7))
         (obind (zO n w_0 ([[108,111,103]]:List (List UInt8))) fun r157=>
         some (.go r157.l_))
         (cond (decide (s_1.Kind = 8))
          (obind (zO n w_0 ([[100,101,110,121]]:List (List UInt8))) fun r162=>
          some (.go r162.l_))
          (cond (decide (s_1.Kind = 9))
           (obind (zO n w_0 ([[114,101,112,108,121]]:List (List UInt8))) fun r167=>
           some (.go r167.l_))
           (obind (z2I false) fun r170=>
           pbind r170 (fun e173=>
            some (.stop (.pan e173))) fun q172=>
           some (.go w_0.l_)))))))))))
 (fun jh =>
  obind (z1D n (zo.mk jh) s_1.X) fun r174=>
  pbind r174 (fun e177=>
   some (.pan e177)) fun q176=>
  obind (zW n q176 ([[59]]:List (List UInt8))) fun r180=>
  some (.ret r180))
theorem z6W {n:Nat} {q32r:zo→(List zm)→Option (Pn (zo))} (q34h:K29 q32r 133) {q33r:zo→zm→Option (Pn (zo))} (q35h:K30 q33r 176):K30 (z57 n q32r q33r) 176:=by
 intro w_0 s_1 j7 j4 j0 j2 j3 r h
 refine z1y func176 rfl ntmps176 rfl (fun w0 o0=>?_)
 refine zh (lB fun b1=>?_)
 refine yn 2 ?_
 refine oq 4 8 12 [0,3] [0,1,2,3,4,5] (decide (s_1.Kind=1) || decide (s_1.Kind=2)) ?_
 refine ys ?_
 refine oq 4 13 17 [0,3] [0,1,2,3,4,5] ((decide (s_1.Kind=1) || decide (s_1.Kind=2)) || decide (s_1.Kind=3)) ?_
 refine yn 3 ?_
 refine oq 4 19 23 [0,3] [0,1,2,3,4,5] (((decide (s_1.Kind=1) || decide (s_1.Kind=2)) || decide (s_1.Kind=3)) || decide (s_1.Name=[])) ?_
 refine ys ?_
 refine oe 10 [0,3] [1,2,3,4,5,6] (fun s=>[(34,.bool s)]) ((((decide (s_1.Kind=1) || decide (s_1.Kind=2)) || decide (s_1.Kind=3)) || decide (s_1.Name=[])) && (decide (s_1.Kind=5) || decide ((s_1.Else.length:Int)=0))) (fun _ ji=>?_) ?_
 ·refine z1c 24 (((decide (s_1.Kind=1) || decide (s_1.Kind=2)) || decide (s_1.Kind=3)) || decide (s_1.Name=[])) rfl (fun jb=>?_) (fun jb=>?_)
  ·skip
   refine ys ?_
   refine oq 5 28 33 [0,3,24] [0,1,2,3,4,5] (decide (s_1.Kind=5) || decide ((s_1.Else.length:Int)=0)) ?_
   refine yn 2 ?_
   exact gc ji (decide (s_1.Kind=5) || decide ((s_1.Else.length:Int)=0)) [0,1,2,3,4,5] (hi:=by rw [jb]; simp)
  ·skip
   refine ys ?_
   refine z2p 10 false 28 rfl rfl rfl rfl rfl ?_
   refine z2p 10 false 28 rfl rfl rfl rfl rfl ?_
   refine z2p 10 false 28 rfl rfl rfl rfl rfl ?_
   refine z2p 10 false 28 rfl rfl rfl rfl rfl ?_
   refine yn 2 ?_
   exact gc ji false [0,1,2,3,4,5] (hi:=by rw [jb]; simp)
 refine os ?_
 refine ys ?_
 refine oe 15 [0,3] [1,2,3,4,5,6] (fun s=>[(50,.bool s)]) (((((decide (s_1.Kind=1) || decide (s_1.Kind=2)) || decide (s_1.Kind=3)) || decide (s_1.Name=[])) && (decide (s_1.Kind=5) || decide ((s_1.Else.length:Int)=0))) && ((decide (s_1.Kind=5) || decide (s_1.Kind=6)) || decide ((s_1.Body.length:Int)=0))) (fun _ jj=>?_) ?_
 ·refine z1c 35 ((((decide (s_1.Kind=1) || decide (s_1.Kind=2)) || decide (s_1.Kind=3)) || decide (s_1.Name=[])) && (decide (s_1.Kind=5) || decide ((s_1.Else.length:Int)=0))) rfl (fun jc=>?_) (fun jc=>?_)
  ·skip
   refine ys ?_
   refine oq 4 39 43 [0,3,35] [0,1,2,3,4,5] (decide (s_1.Kind=5) || decide (s_1.Kind=6)) ?_
   refine ys ?_
   refine oq 5 44 49 [0,3,35] [0,1,2,3,4,5] ((decide (s_1.Kind=5) || decide (s_1.Kind=6)) || decide ((s_1.Body.length:Int)=0)) ?_
   refine yn 2 ?_
   exact gc jj ((decide (s_1.Kind=5) || decide (s_1.Kind=6)) || decide ((s_1.Body.length:Int)=0)) [0,1,2,3,4,5] (hi:=by rw [jc]; simp)
  ·skip
   refine ys ?_
   refine z2p 21 false 39 rfl rfl rfl rfl rfl ?_
   refine z2p 21 false 39 rfl rfl rfl rfl rfl ?_
   refine z2p 21 false 39 rfl rfl rfl rfl rfl ?_
   refine ys ?_
   refine z2p 26 false 44 rfl rfl rfl rfl rfl ?_
   refine z2p 26 false 44 rfl rfl rfl rfl rfl ?_
   refine z2p 26 false 44 rfl rfl rfl rfl rfl ?_
   refine z2p 26 false 44 rfl rfl rfl rfl rfl ?_
   refine ys ?_
   refine oh [0,1,2,3,4,5] [row j4 3 (w_0.l_.map z6.enc),box j7 [j4],nro j0 zj s_1.X.Args,nro j2 zE s_1.Body,nro j3 zE s_1.Else,box b1 [.int .i64 s_1.Kind,.int .i64 s_1.At,.string (bs s_1.Name),.int .i64 s_1.X.Op,.int .i64 s_1.X.At,.string (bs s_1.X.S),j0,j2,j3]] ?_
   refine yn 2 ?_
   exact gc jj false [0,1,2,3,4,5] (hi:=by rw [jc]; simp)
 refine os ?_
 refine cp0 [] call112 (fun h=>z2a h) h (fun _ h=>?_)
 refine zd (jr h [0,3] [0,0,6,3,4,5] (fun s (g:Value)=>[]) (fun s g=>[box j7 [g],row g 3 (s.map z6.enc)]) (fun _ h j1 _ j5=>?_) ?_)
 ·refine yc 7 h (fun _ h=>?_) fun _ h=>?_
  ·refine yn 2 ?_
   refine lS [[105,102]] fun _=>?_
   refine cl1 [(0,2),(1,2),(6,1)] call114 (fun h=>zT h) h (fun r38 v40 h=>?_)
   refine zc (rj [0,3] [2,3,4,5,7,8] ?_)
   refine yn 2 ?_
   obtain ⟨r41,jk,h⟩:=zJ h
   rcases r41 with q43 | e44
   rotate_left
   ·replace h:=z32 h
    refine z6M (wn rfl) rfl (tp [(4,2),(5,2),(0,0)] call53 (z1Q jk)) (by rintro _ _ ⟨_,⟨_,hq,_⟩,_⟩; cases hq) ?_
    rintro _ ⟨_,he,rfl⟩
    obtain rfl:=Pn.pan.inj he
    obtain rfl:=zU h
    obtain rfl:=zM j1
    exact finP ⟨_,rfl,rfl⟩
   replace h:=z33 h
   refine zt (tc [(4,2),(5,2),(0,0)] call53 (z5a (z1Q jk))) ?_
   rintro _ _ ⟨_,⟨v45,rfl,rfl⟩,rfl⟩
   refine yn 2 ?_
   refine cp1 [(6,2),(7,2),(1,0)] call133 (fun h=>q34h h) h (fun q48 v50 h=>?_) (hp:=fun e h=>by obtain rfl:=zU h; obtain rfl:=zM j1; exact finP ⟨_,rfl,rfl⟩)
   refine zd (jr h [] [0,0] (fun s (g:Value)=>[]) (fun s g=>[box j7 [g],row g 3 (s.map z6.enc)]) (fun _ h jl _ jd=>?_) ?_)
   ·refine zF (zH (rj [0,3] [0,1,2,3,8,9] ?_))
    refine yn 2 ?_
    refine ob h 7 [0,3] [1,2,3,4,5,6] (fun s=>[(80,.bool s)]) (fun s=>[]) (fun _ h _ _ jm=>?_) ?_
    ·refine z1c 73 (decide ((s_1.Else.length:Int)=1)) rfl (fun je=>?_) (fun je=>?_)
     ·replace h:=z2F h je
      refine ys ?_
      obtain ⟨x63,ju,jv,jo,h⟩:=zP h
      refine ys ?_
      refine z4a (exAtT (T:=z1S) (i:=(0:Int).toNat) 2 rfl jo) ?_
      rintro ⟨g64,g65,g66⟩
      refine yn 2 ?_
      exact gb jm [0,1,2,3,4,5] h
     ·replace h:=z2E h je
      refine yn 2 ?_
      exact gb jm [0,1,2,3,4,5] h
    rintro b57 h
    refine os ?_
    refine yc 2 h (fun _ h=>?_) fun _ h=>?_
    ·refine yn 2 ?_
     refine lS [[101,108,115,101]] fun _=>?_
     refine cl1 [(4,2),(5,2),(6,1)] call114 (fun h=>zT h) h (fun r69 v71 h=>?_)
     refine yn 2 ?_
     obtain ⟨x72,jw,jx,jp,h⟩:=zP h
     refine ys ?_
     refine z4a (exAtT (T:=z1S) (i:=(0:Int).toNat) 2 rfl jp) ?_
     rintro ⟨g73,g74,g75⟩
     refine ys ?_
     refine cp1 [(7,2),(8,2),(10,0),(11,0),(12,0)] call176 (fun h=>q35h h) h (fun q78 v80 h=>?_) (hp:=fun e h=>by obtain rfl:=zU h; obtain rfl:=zM jl; obtain rfl:=zM j1; exact finP ⟨_,rfl,rfl⟩)
     refine yn 2 ?_
     exact gj jd _ [14,13] h
    ·refine yc 3 h (fun _ h=>?_) fun _ h=>?_
     ·refine yn 2 ?_
      refine lS [[101,108,115,101]] fun _=>?_
      refine cl1 [(4,2),(5,2),(6,1)] call114 (fun h=>zT h) h (fun r83 v85 h=>?_)
      refine zd (rj [0,3] [0,1,2,3,7,8] ?_)
      refine yn 2 ?_
      refine cp1 [(4,2),(5,2),(2,0)] call133 (fun h=>q34h h) h (fun q88 v90 h=>?_) (hp:=fun e h=>by obtain rfl:=zU h; obtain rfl:=zM jl; obtain rfl:=zM j1; exact finP ⟨_,rfl,rfl⟩)
      refine yn 2 ?_
      exact gj jd _ [7,6] h
     ·refine yn 2 ?_
      exact gj jd _ [5,4] h
   rintro jg v52 h
   refine rs ?_
   refine zA ?_
   obtain rfl:=zU h
   obtain rfl:=zM j1
   exact ft [] [1,0] results176
  ·refine yc 3 h (fun _ h=>?_) fun _ h=>?_
   ·refine yn 2 ?_
    refine cp0 [] call112 (fun h=>z2a h) h (fun _ h=>?_) (hp:=fun e h=>by obtain rfl:=zU h; obtain rfl:=zM j1; exact finP ⟨_,rfl,rfl⟩)
    refine zc (rj [0,3] [0,1,2,3,4,5] ?_)
    refine yn 2 ?_
    refine lS [[114,101,112,101,97,116]] fun _=>?_
    refine cl1 [(0,2),(1,2),(6,1)] call114 (fun h=>zT h) h (fun r97 v99 h=>?_)
    refine yn 2 ?_
    obtain ⟨r100,j9,h⟩:=zJ h
    rcases r100 with q102 | e103
    rotate_left
    ·replace h:=z32 h
     refine z6M (wn rfl) rfl (tp [(7,2),(8,2),(2,0)] call53 (z1Q j9)) (by rintro _ _ ⟨_,⟨_,hq,_⟩,_⟩; cases hq) ?_
     rintro _ ⟨_,he,rfl⟩
     obtain rfl:=Pn.pan.inj he
     obtain rfl:=zU h
     obtain rfl:=zM j1
     exact finP ⟨_,rfl,rfl⟩
    replace h:=z33 h
    refine zt (tc [(7,2),(8,2),(2,0)] call53 (z5a (z1Q j9))) ?_
    rintro _ _ ⟨_,⟨v104,rfl,rfl⟩,rfl⟩
    refine yn 2 ?_
    refine cp1 [(9,2),(10,2),(3,0)] call133 (fun h=>q34h h) h (fun q107 v109 h=>?_) (hp:=fun e h=>by obtain rfl:=zU h; obtain rfl:=zM j1; exact finP ⟨_,rfl,rfl⟩)
    refine yn 2 ?_
    obtain rfl:=zU h
    obtain rfl:=zM j1
    exact ft [] [11,12] results176
   ·refine yc 3 h (fun _ h=>?_) fun _ h=>?_
    ·refine zH (rj [0,3] [0,1,2,3,4,5] ?_)
     refine yn 2 ?_
     refine lS [[108,101,116]] fun _=>?_
     refine cl1 [(0,2),(1,2),(6,1)] call114 (fun h=>zT h) h (fun r112 v114 h=>?_)
     refine yn 2 ?_
     refine cl1 [(7,2),(8,2)] call113 (fun h=>z17 h) h (fun r115 v117 h=>?_)
     refine yn 2 ?_
     refine lS [[61]] fun _=>?_
     refine cl1 [(9,2),(10,2),(11,1)] call116 (fun h=>zZ h) h (fun r119 v121 h=>?_)
     refine yn 2 ?_
     exact gj j5 _ [13,12,5,2,3,4] h
    ·refine zH (rj [0,3,53] [0,1,2,3,4,5] ?_)
     refine yc 3 h (fun _ h=>?_) fun _ h=>?_
     ·refine yn 2 ?_
      refine lS [[115,101,116]] fun _=>?_
      refine cl1 [(0,2),(1,2),(6,1)] call114 (fun h=>zT h) h (fun r124 v126 h=>?_)
      refine yn 2 ?_
      refine cl1 [(7,2),(8,2)] call113 (fun h=>z17 h) h (fun r127 v129 h=>?_)
      refine zd (rj [0,3] [2,3,4,5,9,10] ?_)
      refine yn 2 ?_
      refine lS [[61]] fun _=>?_
      refine cl1 [(4,2),(5,2),(6,1)] call116 (fun h=>zZ h) h (fun r131 v133 h=>?_)
      refine yn 2 ?_
      exact gj j5 _ [8,7,3,0,1,2] h
     ·refine yc 3 h (fun _ h=>?_) fun _ h=>?_
      ·refine yn 2 ?_
       refine lS [[115,101,116],[104,101,97,100,101,114]] fun _=>?_
       refine cl1 [(0,2),(1,2),(6,1)] call114 (fun h=>zT h) h (fun r136 v138 h=>?_)
       refine yn 2 ?_
       refine cl1 [(7,2),(8,2)] call113 (fun h=>z17 h) h (fun r139 v141 h=>?_)
       refine zd (rj [0,3] [2,3,4,5,9,10] ?_)
       refine yn 2 ?_
       refine lS [[61]] fun _=>?_
       refine cl1 [(4,2),(5,2),(6,1)] call116 (fun h=>zZ h) h (fun r143 v145 h=>?_)
       refine yn 2 ?_
       exact gj j5 _ [8,7,3,0,1,2] h
      ·refine yc 3 h (fun _ h=>?_) fun _ h=>?_
       ·refine yn 2 ?_
        refine lS [[115,101,116],[115,116,97,116,117,115]] fun _=>?_
        refine cl1 [(0,2),(1,2),(6,1)] call114 (fun h=>zT h) h (fun r148 v150 h=>?_)
        refine zd (rj [0,3] [2,3,4,5,7,8] ?_)
        refine yn 2 ?_
        refine lS [[61]] fun _=>?_
        refine cl1 [(4,2),(5,2),(6,1)] call116 (fun h=>zZ h) h (fun r152 v154 h=>?_)
        refine yn 2 ?_
        exact gj j5 _ [8,7,3,0,1,2] h
       ·refine yc 3 h (fun _ h=>?_) fun _ h=>?_
        ·refine rj [0,3] [0,1,2,3,4,5] ?_
         refine yn 2 ?_
         refine lS [[108,111,103]] fun _=>?_
         refine cl1 [(0,2),(1,2),(6,1)] call114 (fun h=>zT h) h (fun r157 v159 h=>?_)
         refine yn 2 ?_
         exact gj j5 _ [8,7,5,2,3,4] h
        ·refine zH (rj [0,3,53] [0,1,2,3,4,5] ?_)
         refine yc 3 h (fun _ h=>?_) fun _ h=>?_
         ·refine yn 2 ?_
          refine lS [[100,101,110,121]] fun _=>?_
          refine cl1 [(0,2),(1,2),(6,1)] call114 (fun h=>zT h) h (fun r162 v164 h=>?_)
          refine yn 2 ?_
          exact gj j5 _ [8,7,5,2,3,4] h
         ·refine yc 3 h (fun _ h=>?_) fun _ h=>?_
          ·refine yn 2 ?_
           refine lS [[114,101,112,108,121]] fun _=>?_
           refine cl1 [(0,2),(1,2),(6,1)] call114 (fun h=>zT h) h (fun r167 v169 h=>?_)
           refine yn 2 ?_
           exact gj j5 _ [8,7,5,2,3,4] h
          ·refine z8 (cp0 [] call112 (fun h=>z2a h) h (fun _ h=>?_) (hp:=fun e h=>by obtain rfl:=zU h; obtain rfl:=zM j1; exact finP ⟨_,rfl,rfl⟩))
           refine yn 2 ?_
           exact gj j5 _ [1,0,5,2,3,4] h
 rintro jh v31 h
 refine rs ?_
 refine yn 2 ?_
 obtain ⟨r174,ja,h⟩:=zJ h
 rcases r174 with q176 | e177
 rotate_left
 ·replace h:=z32 h
  refine z6M (wn rfl) rfl (tp [(1,2),(0,2),(3,0)] call53 (z1Q ja)) (by rintro _ _ ⟨_,⟨_,hq,_⟩,_⟩; cases hq) ?_
  rintro _ ⟨_,he,rfl⟩
  obtain rfl:=Pn.pan.inj he
  obtain rfl:=zU h
  exact finP ⟨_,rfl,rfl⟩
 replace h:=z33 h
 refine zt (tc [(1,2),(0,2),(3,0)] call53 (z5a (z1Q ja))) ?_
 rintro _ _ ⟨_,⟨v178,rfl,rfl⟩,rfl⟩
 refine yn 2 ?_
 refine lS [[59]] fun _=>?_
 refine cl1 [(6,2),(7,2),(8,1)] call116 (fun h=>zZ h) h (fun r180 v182 h=>?_)
 refine yn 2 ?_
 exact fs [] [9,10] results176 h
def z4w:Nat→(zo→(List zm)→Option (Pn (zo)))→zo→zm→Option (Pn (zo))
 | 0,_=>fun _ _=>none
 | n+1,q32r=>z57 n q32r (z4w n q32r)
theorem z5q {n:Nat} {q32r:zo→(List zm)→Option (Pn (zo))} (q34h:K29 q32r 133):K30 (z4w n q32r) 176:=by
 induction n with
 | zero=>intro _ _ _ _ _ _ _ _  h; cases h
 | succ n ih=>exact z6W q34h ih
def z8b (n:Nat) (l_1:(List zm)) (q32r:zo→(List zm)→Option (Pn (zo))):(Int×(List z6))→Option (Lp (Int×(List z6)) (Lp ((List z6)) (Pn (zo)))):=
 fun (j8,jf)=>
  cond (decide (j8<(l_1.length:Int)))
   (idx l_1 j8 fun x19=>
   obind (z4w n q32r (zo.mk jf) x19) fun r27=>
   pbind r27 (fun e30=>
    some (.stop (.stop (.pan e30)))) fun q29=>
   some (.go ((IntKind.i64.wrap (j8+1)),q29.l_)))
   (some (.stop (.go jf)))
def z4X (n:Nat) (q32r:zo→(List zm)→Option (Pn (zo))) (w_0:zo) (l_1:(List zm)):Option (Pn (zo)):=
 obind (zW n w_0 ([[123]]:List (List UInt8))) fun r2=>
 bindJ (S:=(List z6))
  (iter (z8b n l_1 q32r) n (0,r2.l_))
 (fun x_5 =>
  obind (zW n (zo.mk x_5) ([[125]]:List (List UInt8))) fun r33=>
  some (.ret r33))
theorem z6I {n:Nat} {q32r:zo→(List zm)→Option (Pn (zo))} (q34h:K29 q32r 133):K29 (z4X n q32r) 133:=by
 intro w_0 l_1 j7 j4 jA r h
 refine z1y func133 rfl ntmps133 rfl (fun w0 o0=>?_)
 refine yn 2 ?_
 refine lS [[123]] fun _=>?_
 refine cl1 [(0,2),(1,2),(3,1)] call116 (fun h=>zZ h) h (fun r2 v4 h=>?_)
 refine zd (jr h [0] [0,0] (fun s (g:Value)=>[]) (fun s g=>[box j7 [g],row g 3 (s.map z6.enc)]) (fun _ h ho8 _ hL9=>?_) ?_)
 ·refine yn 4 ?_
  refine lo h [0,9,10] [0,0,3] (fun s (g:Value)=>[(11,.int .i64 s.1)]) (fun s g=>[box j7 [g],row g 3 (s.2.map z6.enc)]) _ [5,4,2] ?_
  rintro ⟨j8,jf⟩ v13 _ h _ jq j6
  refine rs ?_
  refine yc 3 h (fun _ h=>?_) fun _ h=>?_
  ·refine yn 4 ?_
   obtain ⟨x19,jy,jz,js,h⟩:=zP h
   refine ys ?_
   refine z4a (exAtT (T:=z1S) (i:=j8.toNat) 2 rfl js) ?_
   rintro ⟨g20,g21,g22⟩
   refine ys ?_
   refine al fun b23=>?_
   refine yn 3 ?_
   obtain ⟨r27,jt,h⟩:=zJ h
   rcases r27 with q29 | e30
   rotate_left
   ·replace h:=z32 h
    refine z6M (wn rfl) rfl (tp [(1,2),(0,2),(4,0),(5,0),(6,0)] call176 (z5q q34h jt)) (by rintro _ _ ⟨_,⟨_,hq,_⟩,_⟩; cases hq) ?_
    rintro _ ⟨_,he,rfl⟩
    obtain rfl:=Pn.pan.inj he
    obtain rfl:=zU h
    obtain rfl:=j6 _ rfl
    skip
    obtain rfl:=zM ho8
    exact finP ⟨_,rfl,rfl⟩
   replace h:=z33 h
   refine zt (tc [(1,2),(0,2),(4,0),(5,0),(6,0)] call176 (z5a (z5q q34h jt))) ?_
   rintro _ _ ⟨_,⟨v31,rfl,rfl⟩,rfl⟩
   refine yn 2 ?_
   refine zD (rj [11,0,9,10] [2,8,9] ?_)
   refine yn 3 ?_
   exact gj jq _ [2,1,0] h
  ·refine z1h _ rfl ?_
   exact gk hL9 j6 _ [0,1] h
 rintro x_5 v6 h
 refine rs ?_
 refine yn 2 ?_
 refine lS [[125]] fun _=>?_
 refine cl1 [(1,2),(0,2),(2,1)] call116 (fun h=>zZ h) h (fun r33 v35 h=>?_)
 refine yn 2 ?_
 exact fs [] [3,4] results133 h
def z4q:Nat→zo→(List zm)→Option (Pn (zo))
 | 0=>fun _ _=>none
 | n+1=>z4X n  (z4q n )
theorem z5h {n:Nat}:K29 (z4q n) 133:=by
 induction n with
 | zero=>intro _ _ _ _ _ _  h; cases h
 | succ n ih=>exact z6I ih
end Go.Proofs.YtcmaoifiiigggaaGreatDoor
