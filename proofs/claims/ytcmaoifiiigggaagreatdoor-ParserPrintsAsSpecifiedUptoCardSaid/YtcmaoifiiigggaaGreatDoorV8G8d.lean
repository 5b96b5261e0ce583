/-
  Functions that the law ParserPrintsAsSpecified needs, lifted.
-/
import Derived.Test.YtcmaoifiiigggaaGreatDoorV8Fm
import Derived.Test.YtcmaoifiiigggaaGreatDoorV8G8b
import Derived.Test.YtcmaoifiiigggaaGreatDoorV8G8c
set_option linter.unusedSimpArgs false
set_option linter.unusedVariables false
namespace Go.Proofs.YtcmaoifiiigggaaGreatDoor
open Go.Abs Tryz
set_option maxRecDepth 20000
set_option maxHeartbeats 4000000
def z8d (n:Nat) (x16:zL):(Int×(List z6))→Option (Lp (Int×(List z6)) (Lp ((List z6)) (Lp (Int×(List z6)) (Lp ((List z6)) (Pn (zo)))))):=
 fun (jc,jl)=>
  cond (decide (jc<(x16.Rules.length:Int)))
   (idx x16.Rules jc fun x45=>
   obind (zO n (zo.mk jl) ([[114,117,108,101]]:List (List UInt8))) fun r50=>
   obind (z14 r50 1 x45.Name) fun r53=>
   obind (z4h n r53 x45.Clauses false) fun r56=>
   pbind r56 (fun e59=>
    some (.stop (.stop (.stop (.stop (.pan e59)))))) fun q58=>
   some (.go ((IntKind.i64.wrap (jc+1)),q58.l_)))
   (some (.stop (.go jl)))
def z8c (n:Nat) (x_1:zG):(Int×(List z6))→Option (Lp (Int×(List z6)) (Lp ((List z6)) (Pn (zo)))):=
 fun (s_8,x_9)=>
  cond (decide (s_8<(x_1.Policies.length:Int)))
   (idx x_1.Policies s_8 fun x16=>
   obind (zO n (zo.mk x_9) ([[112,111,108,105,99,121]]:List (List UInt8))) fun r21=>
   obind (z14 r21 1 x16.Name) fun r24=>
   obind (zW n r24 ([[123]]:List (List UInt8))) fun r28=>
   bindJ (S:=(List z6))
    (iter (z8d n x16) n (0,r28.l_))
   (fun jm =>
    obind (zW n (zo.mk jm) ([[125]]:List (List UInt8))) fun r62=>
    some (.go ((IntKind.i64.wrap (s_8+1)),r62.l_))))
   (some (.stop (.go x_9)))
def z8f (n:Nat) (x73:zI):(Int×(List z6))→Option (Lp (Int×(List z6)) (Lp ((List z6)) (Lp (Int×(List z6)) (Pn (zo))))):=
 fun (je,ji)=>
  cond (decide (je<(x73.Effects.length:Int)))
   (idx x73.Effects je fun x100=>
   obind (z2I (decide (1≤x100) && decide (x100≤6))) fun r104=>
   pbind r104 (fun e107=>
    some (.stop (.stop (.stop (.pan e107))))) fun q106=>
   bindJ (S:=(List z6))
    (cond (decide (je = 0))
     (obind (zO n (zo.mk ji) ([[101,102,102,101,99,116,115]]:List (List UInt8))) fun r116=>
     some (.go r116.l_))
     (obind (zW n (zo.mk ji) ([[44]]:List (List UInt8))) fun r120=>
     some (.go r120.l_)))
   (fun jf =>
    obind (z6O) fun r123=>
    idx r123 (IntKind.i64.wrap (x100 - 1)) fun x126=>
    obind (zO n (zo.mk jf) ([x126]:List (List UInt8))) fun r128=>
    some (.go ((IntKind.i64.wrap (je+1)),r128.l_))))
   (some (.stop (.go ji)))
def z8e (n:Nat) (x_1:zG):(Int×(List z6))→Option (Lp (Int×(List z6)) (Pn (zo))):=
 fun (jd,jo)=>
  cond (decide (jd<(x_1.Programs.length:Int)))
   (idx x_1.Programs jd fun x73=>
   obind (zO n (zo.mk jo) ([[112,114,111,103,114,97,109]]:List (List UInt8))) fun r80=>
   obind (z14 r80 1 x73.Name) fun r83=>
   bindJ (S:=(List z6))
    (iter (z8f n x73) n (0,r83.l_))
   (fun jp =>
    obind (z4q n (zo.mk jp) x73.Code) fun r131=>
    pbind r131 (fun e134=>
     some (.stop (.pan e134))) fun q133=>
    some (.go ((IntKind.i64.wrap (jd+1)),q133.l_))))
   (some (.stop (.ret (zo.mk jo))))
def z5Q (n:Nat) (w_0:zo) (x_1:zG):Option (Pn (zo)):=
 bindJ (S:=(List z6))
  (iter (z8c n x_1) n (0,w_0.l_))
 (fun x_2 =>
  iter (z8e n x_1) n (0,x_2))
theorem z8g {n:Nat} {w_0:zo} {x_1:zG} {j6:Nat} {j7:Value} {j2:Value} {j3:Value} {r:Pn (zo)} (h:z5Q n w_0 x_1=some r) :
  z4t Tryz.prog 67 [boxP j6 0,.agg #[j2,j3]] [row j7 3 (w_0.l_.map z6.enc),box j6 [j7],nro j2 zz x_1.Policies,nro j3 zw x_1.Programs] (fun v G=>∃ q,r = .ret q∧(∃ v0,v = .tuple #[]∧G=[row v0 3 (q.l_.map z6.enc),box j6 [v0]])) (fun v=>∃ e,r = .pan e∧v = .iface 27 (.int .i64 e)):=by
 refine z1y func67 rfl ntmps67 rfl (fun w0 o0=>?_)
 refine zh (lB fun b1=>?_)
 refine zd (jr h [0,3] [0,0,5,3,4] (fun s (g:Value)=>[]) (fun s g=>[box j6 [g],row g 3 (s.map z6.enc)]) (fun _ h ho5 _ hL6=>?_) ?_)
 ·refine yn 4 ?_
  refine lo h [0,3,13,14] [0,0,5,3,4] (fun s (g:Value)=>[(15,.int .i64 s.1)]) (fun s g=>[box j6 [g],row g 3 (s.2.map z6.enc)]) _ [1,0,4,2,3] ?_
  rintro ⟨s_8,_⟩ _ _ h _ jq j9
  refine rs ?_
  refine yc 3 h (fun _ h=>?_) fun _ h=>?_
  ·refine yn 4 ?_
   obtain ⟨x16,jL,jM,js,h⟩:=zP h
   refine ys ?_
   refine z4a (exAt (C:=zz) (i:=s_8.toNat) 3 rfl js) ?_
   rintro (g17:Value)
   refine ys ?_
   refine al fun b18=>?_
   refine yn 3 ?_
   refine lS [[112,111,108,105,99,121]] fun _=>?_
   refine cl1 [(1,2),(0,2),(8,1)] call114 (fun h=>zT h) h (fun r21 v23 h=>?_)
   refine zc (rj [15,0,3,13,14,5] [2,3,4,6,7,9,10] ?_)
   refine yn 2 ?_
   refine cl1 [(5,2),(6,2)] call113 (fun h=>z17 h) h (fun r24 v26 h=>?_)
   refine yn 2 ?_
   refine lS [[123]] fun _=>?_
   refine cl1 [(7,2),(8,2),(9,1)] call116 (fun h=>zZ h) h (fun r28 v30 h=>?_)
   refine zd (jr h [0,3,13,14,15] [0,0,1,2,3] (fun s (g:Value)=>[]) (fun s g=>[box j6 [g],row g 3 (s.map z6.enc)]) (fun _ h jB _ jC=>?_) ?_)
   ·refine yn 4 ?_
    refine lo h [0,3,13,14,15,30,31] [0,0,1,2,3,4] (fun s (g:Value)=>[(32,.int .i64 s.1)]) (fun s g=>[box j6 [g],row g 3 (s.2.map z6.enc)]) _ [11,10,0,1,2,3] ?_
    rintro ⟨jc,_⟩ _ _ h _ jt ja
    refine rs ?_
    refine yc 3 h (fun _ h=>?_) fun _ h=>?_
    ·refine yn 4 ?_
     obtain ⟨x45,jN,jO,ju,h⟩:=zP h
     refine ys ?_
     refine z4a (exAt (C:=zY) (i:=jc.toNat) 5 rfl ju) ?_
     rintro (g46:Value)
     refine ys ?_
     refine al fun b47=>?_
     refine yn 3 ?_
     refine lS [[114,117,108,101]] fun _=>?_
     refine cl1 [(1,2),(0,2),(9,1)] call114 (fun h=>zT h) h (fun r50 v52 h=>?_)
     refine zc (rj [32,0,3,13,14,15,30,31,7] [2,3,4,5,7,8,10,11] ?_)
     refine yn 2 ?_
     refine cl1 [(6,2),(7,2)] call113 (fun h=>z17 h) h (fun r53 v55 h=>?_)
     refine yn 2 ?_
     obtain ⟨r56,jv,h⟩:=zJ h
     rcases r56 with q58 | e59
     rotate_left
     ·replace h:=z32 h
      refine z6M (wn rfl) rfl (tp [(8,2),(9,2),(4,0)] call131 (z4Y jv)) (by rintro _ _ ⟨_,⟨_,hq,_⟩,_⟩; cases hq) ?_
      rintro _ ⟨_,he,rfl⟩
      obtain rfl:=Pn.pan.inj he
      obtain rfl:=zU h
      obtain rfl:=ja _ rfl
      skip
      obtain rfl:=zM jB
      skip
      obtain rfl:=j9 _ rfl
      skip
      obtain rfl:=zM ho5
      exact finP ⟨_,rfl,rfl⟩
     replace h:=z33 h
     refine zt (tc [(8,2),(9,2),(4,0)] call131 (z5a (z4Y jv))) ?_
     rintro _ _ ⟨_,⟨v60,rfl,rfl⟩,rfl⟩
     refine yn 2 ?_
     refine zD (rj [32,0,3,13,14,15,30,31] [0,1,2,3,10,11] ?_)
     refine yn 3 ?_
     exact gj jt _ [5,4,0,1,2,3] h
    ·refine z1h _ rfl ?_
     exact gk jC ja _ [0,1,2,3,4] h
   rintro jm v32 h
   refine rs ?_
   refine yn 2 ?_
   refine lS [[125]] fun _=>?_
   refine cl1 [(1,2),(0,2),(5,1)] call116 (fun h=>zZ h) h (fun r62 v64 h=>?_)
   refine yn 5 ?_
   exact gj jq _ [7,6,2,3,4] h
  ·refine z1h _ rfl ?_
   exact gk hL6 j9 _ [0,1,2,3,4] h
 rintro x_2 v3 h
 refine rs ?_
 refine yn 4 ?_
 refine lo h [0,53,54] [0,0,5] (fun s (g:Value)=>[(55,.int .i64 s.1)]) (fun s g=>[box j6 [g],row g 3 (s.2.map z6.enc)]) _ [0,1,4] ?_
 rintro ⟨jd,_⟩ _ _ h _ jw j8
 refine rs ?_
 refine yc 3 h (fun _ h=>?_) fun _ h=>?_
 ·refine yn 4 ?_
  obtain ⟨x73,jP,jQ,jx,h⟩:=zP h
  refine ys ?_
  refine z4a (exAt (C:=zw) (i:=jd.toNat) 2 rfl jx) ?_
  rintro ⟨g74,g75⟩
  refine ys ?_
  refine al fun b76=>?_
  refine yn 3 ?_
  refine lS [[112,114,111,103,114,97,109]] fun _=>?_
  refine cl1 [(1,2),(0,2),(7,1)] call114 (fun h=>zT h) h (fun r80 v82 h=>?_)
  refine zc (rj [55,0,53,54,9] [2,4,5,6,8,9] ?_)
  refine yn 2 ?_
  refine cl1 [(4,2),(5,2)] call113 (fun h=>z17 h) h (fun r83 v85 h=>?_)
  refine zd (jr h [0,9,53,54,55] [0,0,4,2,3,1] (fun s (g:Value)=>[]) (fun s g=>[box j6 [g],row g 3 (s.map z6.enc)]) (fun _ h jD _ jE=>?_) ?_)
  ·refine yn 4 ?_
   refine lo h [0,9,53,54,55,67,68] [0,0,4,2,3,1] (fun s (g:Value)=>[(69,.int .i64 s.1)]) (fun s g=>[box j6 [g],row g 3 (s.2.map z6.enc)]) _ [7,6,3,1,2,0] ?_
   rintro ⟨_,_⟩ _ _ h _ jy jb
   refine rs ?_
   refine yc 3 h (fun _ h=>?_) fun _ h=>?_
   ·refine yn 5 ?_
    obtain ⟨x100,jF,jG,jH,h⟩:=zP h
    refine yn 3 ?_
    refine oq 3 76 79 [69,0,9,53,54,55,67,68,10,11] [0,1,2,3,4,5] (decide (1≤x100) && decide (x100≤6)) ?_
    refine cp0 [] call112 (fun h=>z2a h) h (fun _ h=>?_) (hp:=fun e h=>by obtain rfl:=zU h; obtain rfl:=jb _ rfl; obtain rfl:=zM jD; obtain rfl:=j8 _ rfl; exact finP ⟨_,rfl,rfl⟩)
    refine zd (jr h [0,9,11,53,54,55,67,68,69] [0,0,3,4,5,6] (fun s (g:Value)=>[]) (fun s g=>[box j6 [g],row g 3 (s.map z6.enc)]) (fun _ h _ _ jg=>?_) ?_)
    ·refine yc 3 h (fun _ h=>?_) fun _ h=>?_
     ·refine yn 2 ?_
      refine lS [[101,102,102,101,99,116,115]] fun _=>?_
      refine cl1 [(1,2),(0,2),(6,1)] call114 (fun h=>zT h) h (fun r116 v118 h=>?_)
      exact zr (gj jg _ [8,7,2,3,4,5] h)
     ·refine yn 2 ?_
      refine lS [[44]] fun _=>?_
      refine cl1 [(1,2),(0,2),(6,1)] call116 (fun h=>zZ h) h (fun r120 v122 h=>?_)
      exact zr (gj jg _ [8,7,2,3,4,5] h)
    rintro jf v109 h
    refine rs ?_
    refine yn 2 ?_
    obtain ⟨r123,jz,h⟩:=zJ h
    refine zt (tc [] call132 (z9C jz)) ?_
    rintro v125 _ ⟨_,⟨_,rfl,rfl⟩,rfl⟩
    refine ys ?_
    obtain ⟨x126,jI,jJ,jK,h⟩:=zP h
    refine ys ?_
    refine lS [x126] fun _=>?_
    refine cl1 [(1,2),(0,2),(7,1)] call114 (fun h=>zT h) h (fun r128 v130 h=>?_)
    refine yn 2 ?_
    refine zD (rj [0,9,53,54,55,67,68,69] [2,3,4,5,8,9] ?_)
    refine yn 3 ?_
    exact gj jy _ [5,4,0,1,2,3] h
   ·refine z1h _ rfl ?_
    exact gk jE jb _ [0,1,2,3,4,5] h
  rintro jp v87 h
  refine rs ?_
  refine yn 2 ?_
  obtain ⟨r131,jh,h⟩:=zJ h
  rcases r131 with q133 | e134
  rotate_left
  ·replace h:=z32 h
   refine z6M (wn rfl) rfl (tp [(1,2),(0,2),(4,0)] call133 (z5h jh)) (by rintro _ _ ⟨_,⟨_,hq,_⟩,_⟩; cases hq) ?_
   rintro _ ⟨_,he,rfl⟩
   obtain rfl:=Pn.pan.inj he
   obtain rfl:=zU h
   obtain rfl:=j8 _ rfl
   exact finP ⟨_,rfl,rfl⟩
  replace h:=z33 h
  refine zt (tc [(1,2),(0,2),(4,0)] call133 (z5a (z5h jh))) ?_
  rintro _ _ ⟨_,⟨v135,rfl,rfl⟩,rfl⟩
  refine yn 5 ?_
  exact gj jw _ [7,6,5] h
 ·refine z1h _ rfl ?_
  refine z3d ?_
  obtain rfl:=zU h
  obtain rfl:=j8 _ rfl
  exact ft [] [1,0] results67
def zc5 (n:Nat) (w_0:zo) (a_1:zG):Option (Pn (zo)):=
 obind (z5Q n w_0 a_1) fun r1=>
 pbind r1 (fun e4=>
  some (.pan e4)) fun q3=>
 some (.ret q3)
theorem za2 {n:Nat} {w_0:zo} {a_1:zG} {j6:Nat} {j7:Value} {jj:Nat} {j0:Value} {j1:Value} {r:Pn (zo)} (h:zc5 n w_0 a_1=some r) :
  z4t Tryz.prog 66 [boxP j6 0,boxP jj 0] [row j7 3 (w_0.l_.map z6.enc),box j6 [j7],nro j0 zz a_1.Policies,nro j1 zw a_1.Programs,box jj [j0,j1]] (fun v G=>∃ q,r = .ret q∧(∃ v0,v = .tuple #[]∧G=[row v0 3 (q.l_.map z6.enc),box j6 [v0],box jj [j0,j1]])) (fun v=>∃ e,r = .pan e∧v = .iface 27 (.int .i64 e)):=by
 refine z1y func66 rfl ntmps66 rfl (fun w0 o0=>?_)
 refine yn 2 ?_
 refine cp1 [(0,2),(1,2),(2,0),(3,0)] call67 (fun h=>z8g h) h (fun q3 v5 h=>?_)
 refine yn 2 ?_
 exact fs [] [5,6,4] results66 h
def zc6 (n:Nat) (all_0_0:zG):Option ((List UInt8)×Int):=
 obind (zc5 n (zo.mk ([]:List z6)) all_0_0) fun r4=>
 pbind r4 (fun e7=>
  some ([],e7)) fun q6=>
 obind (z8n n q6.l_) fun r9=>
 cond (decide (r9.2=1))
  (some ([],3))
  (bindJ (S := Bool)
   (cond (decide (r9.2 ≠ 0))
    (some (.go true))
    (obind (z83 n q6.l_) fun r18=>
    some (.go (decide (0≤r18)))))
  (fun b12 =>
   cond b12
    (some ([],2))
    (some (r9.1,0))))
theorem zdW {n:Nat} {all_0_0:zG} {all_0_0b:Nat} {all_0_0_Policiesv:Value} {all_0_0_Programsv:Value} {r:(List UInt8)×Int} (h:zc6 n all_0_0=some r) :
  Meets Tryz.prog 51 [.func (.func 66) #[] #[boxP all_0_0b 0]] [nro all_0_0_Policiesv zz all_0_0.Policies,nro all_0_0_Programsv zw all_0_0.Programs,box all_0_0b [all_0_0_Policiesv,all_0_0_Programsv],globA] (fun v G=>v = .tuple #[.string (bs r.1),.int .i64 r.2]∧G=[]):=by
 refine zcm func51 rfl ntmps51 rfl (fun w0 o0=>?_)
 refine zh (al fun b1=>?_)
 refine al fun b2=>?_
 refine yn 2 ?_
 refine zet (wn rfl) rfl rfl rfl rfl ?_
 refine yn 2 ?_
 refine lB fun b3=>?_
 refine yn 3 ?_
 refine zB (nilrow 3) ?_
 refine zB (retell 7 (g:=row (.slice none 0 0) 3 (([]:List z6).map z6.enc)) rfl rfl) ?_
 obtain ⟨r4,hr5,h⟩:=zJ h
 rcases r4 with q6 | e7
 rotate_left
 ·replace h:=z32 h
  refine z6M (wn rfl) rfl (zf2 (vs:=[boxP b3 0]) (cs:=[boxP all_0_0b 0]) [(7,2),(6,2),(0,0),(1,0),(2,2)] rfl call66 rfl (za2 hr5) (z2f 7 rfl (z2f 6 rfl (z3U 0 rfl z60 (z3U 1 rfl z60 (z2f 2 rfl z3r))))) rfl (.inl rfl)) (by rintro _ _ ⟨_,⟨_,hq,_⟩,_⟩; cases hq) ?_
  rintro _ ⟨_,he,rfl⟩
  obtain rfl:=Pn.pan.inj he
  refine zaS call111 (zf8 b1 b2 e7 4 5 rfl rfl (by decide)) ?_
  obtain rfl:=zU h
  refine z4R [.cell 2 9,.cell 3 27] [.string (bs []),.int .i64 e7] [] [] results51 rfl (rescons (z52 4 isAgg9 rfl rfl) (rescons (z52 5 isAgg27 rfl rfl) resnil)) (by decide) rfl ?_
  exact ⟨rfl,rfl⟩
 replace h:=z33 h
 refine zt (zbx (vs:=[boxP b3 0]) (cs:=[boxP all_0_0b 0]) [(7,2),(6,2),(0,0),(1,0),(2,2)] rfl call66 rfl (z5a (za2 hr5)) (z2f 7 rfl (z2f 6 rfl (z3U 0 rfl z60 (z3U 1 rfl z60 (z2f 2 rfl z3r))))) rfl (.inl rfl)) ?_
 rintro _ _ ⟨_,⟨v8,rfl,rfl⟩,rfl⟩
 refine zc (rj [2,3,4] [3,4,5,8,9] ?_)
 refine yn 2 ?_
 refine cl0 [(3,1),(0,0)] call16 (fun h=>zaA h) h (fun r9 h=>?_)
 refine yn 3 ?_
 refine zH (rj [2,3,4] [0,1,2,3,4] ?_)
 refine yc 3 h (fun _ h=>?_) fun _ h=>?_
 ·refine yn 4 ?_
  refine zeh call111 (z6X b1 b2 _) ?_
  obtain rfl:=zU h
  refine z4R [.cell 2 9,.cell 3 27] [.string (bs []),.int .i64 3] [] [] results51 rfl (rescons (z52 1 isAgg9 rfl rfl) (rescons (z52 2 isAgg27 rfl rfl) resnil)) (by decide) rfl ?_
  exact ⟨rfl,rfl⟩
 ·refine yn 2 ?_
  refine ob h 7 [2,3] [1,2,3] (fun s=>[(32,.bool s)]) (fun s=>[]) (fun _ h _ _ jA=>?_) ?_
  ·refine z1c 25 (decide (r9.2≠0)) rfl (fun jk=>?_) (fun jk=>?_)
   ·replace h:=z2F h jk
    refine yn 2 ?_
    exact gb jA [0,1,2] h
   ·replace h:=z2E h jk
    refine ys ?_
    refine cl0 [(3,1)] call72 (fun h=>z9M h) h (fun r18 h=>?_)
    refine yn 2 ?_
    exact gb jA [0,1,2] h
  rintro b12 h
  refine os ?_
  refine yc 2 h (fun _ h=>?_) fun _ h=>?_
  ·refine yn 4 ?_
   refine zeh call111 (z6X b1 b2 _) ?_
   obtain rfl:=zU h
   refine z4R [.cell 2 9,.cell 3 27] [.string (bs []),.int .i64 2] [] [] results51 rfl (rescons (z52 1 isAgg9 rfl rfl) (rescons (z52 2 isAgg27 rfl rfl) resnil)) (by decide) rfl ?_
   exact ⟨rfl,rfl⟩
  ·refine yn 6 ?_
   refine zeh call111 (z6X b1 b2 _) ?_
   obtain rfl:=zU h
   refine z4R [.cell 2 9,.cell 3 27] [.string (bs r9.1),.int .i64 0] [] [] results51 rfl (rescons (z52 1 isAgg9 rfl rfl) (rescons (z52 2 isAgg27 rfl rfl) resnil)) (by decide) rfl ?_
   exact ⟨rfl,rfl⟩
def za1 (n:Nat) (x_0:zG):Option ((List UInt8)×Int):=
 obind (zc6 n x_0) fun r2=>
 some (r2.1,r2.2)
theorem z9c {n:Nat} {x_0:zG} {j4:Value} {j5:Value} {r:(List UInt8)×Int} (h:za1 n x_0=some r) :
  Meets Tryz.prog 27 [.agg #[j4,j5]] [nro j4 zz x_0.Policies,nro j5 zw x_0.Programs,globA] (fun v G=>v = .tuple #[.string (bs r.1),.int .i64 r.2]∧G=[]):=by
 refine zN func27 rfl ntmps27 rfl (fun w0 o0=>?_)
 refine zh (lB fun b1=>?_)
 refine yn 3 ?_
 refine cl0 [(0,0),(1,0),(3,2),(2,0)] call51 (fun h=>zdW h) h (fun r2 h=>?_)
 refine yn 3 ?_
 exact fs [2,3] [] results27 h
def zfG (k_0:Int):Option (Bool):=
 some (((((decide (k_0=1) || decide (k_0=2)) || decide (k_0=8)) || decide (k_0=14)) || decide (k_0=15)) || decide (k_0=16))
theorem zgF:K48 zfG 177:=by
 intro k_0 r h
 refine zN func177 rfl ntmps177 rfl (fun w0 o0=>?_)
 refine yn 4 ?_
 refine oq 3 5 8 [0] [] (decide (k_0=1) || decide (k_0=2)) ?_
 refine ys ?_
 refine oq 3 9 12 [0] [] ((decide (k_0=1) || decide (k_0=2)) || decide (k_0=8)) ?_
 refine ys ?_
 refine oq 3 13 16 [0] [] (((decide (k_0=1) || decide (k_0=2)) || decide (k_0=8)) || decide (k_0=14)) ?_
 refine ys ?_
 refine oq 3 17 20 [0] [] ((((decide (k_0=1) || decide (k_0=2)) || decide (k_0=8)) || decide (k_0=14)) || decide (k_0=15)) ?_
 refine ys ?_
 refine oq 3 21 24 [] [] (((((decide (k_0=1) || decide (k_0=2)) || decide (k_0=8)) || decide (k_0=14)) || decide (k_0=15)) || decide (k_0=16)) ?_
 refine yn 3 ?_
 exact fs [2] [] results177 h
def zbP (k_0:Int):Option (Bool):=
 some ((((decide (3≤k_0) && decide (k_0≤7)) || decide (k_0=12)) || decide (k_0=13)) || decide (k_0=17))
theorem zcb:K48 zbP 178:=by
 intro k_0 r h
 refine zN func178 rfl ntmps178 rfl (fun w0 o0=>?_)
 refine yn 4 ?_
 refine oq 3 5 8 [0] [] (decide (3≤k_0) && decide (k_0≤7)) ?_
 refine ys ?_
 refine oq 3 9 12 [0] [] ((decide (3≤k_0) && decide (k_0≤7)) || decide (k_0=12)) ?_
 refine ys ?_
 refine oq 3 13 16 [0] [] (((decide (3≤k_0) && decide (k_0≤7)) || decide (k_0=12)) || decide (k_0=13)) ?_
 refine ys ?_
 refine oq 3 17 20 [] [] ((((decide (3≤k_0) && decide (k_0≤7)) || decide (k_0=12)) || decide (k_0=13)) || decide (k_0=17)) ?_
 refine yn 3 ?_
 exact fs [2] [] results178 h
end Go.Proofs.YtcmaoifiiigggaaGreatDoor
