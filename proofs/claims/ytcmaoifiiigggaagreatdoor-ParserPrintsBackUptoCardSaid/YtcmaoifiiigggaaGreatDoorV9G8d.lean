/-
  Functions that the law ParserPrintsAsSpecified needs, lifted.
-/
import Derived.Test.YtcmaoifiiigggaaGreatDoorFm
import Derived.Test.YtcmaoifiiigggaaGreatDoorV9G8b
import Derived.Test.YtcmaoifiiigggaaGreatDoorV9G8c
set_option linter.unusedSimpArgs false
set_option linter.unusedVariables false
namespace Go.Proofs.YtcmaoifiiigggaaGreatDoor
open Go.Abs
set_option maxRecDepth 20000
set_option maxHeartbeats 4000000
def z8d (n:Nat) (x16:zL):(Int×(List z6))→Option (Lp (Int×(List z6)) (Lp ((List z6)) (Lp (Int×(List z6)) (Lp ((List z6)) (Pn (zo)))))):=
 fun (s_37,x_38)=>
  cond (decide (s_37<(x16.Rules.length:Int)))
   (idx x16.Rules s_37 fun x45=>
   obind (zO n (zo.mk x_38) ([[114,117,108,101]]:List (List UInt8))) fun r50=>
   obind (z14 r50 1 x45.Name) fun r53=>
   obind (z4h n r53 x45.Clauses false) fun r56=>
   pbind r56 (fun e59=>
    some (.stop (.stop (.stop (.stop (.pan e59)))))) fun q58=>
   some (.go ((IntKind.i64.wrap (s_37+1)),q58.l_)))
   (some (.stop (.go x_38)))
def z8c (n:Nat) (x_1:zG):(Int×(List z6))→Option (Lp (Int×(List z6)) (Lp ((List z6)) (Pn (zo)))):=
 fun (s_8,x_9)=>
  cond (decide (s_8<(x_1.Policies.length:Int)))
   (idx x_1.Policies s_8 fun x16=>
   obind (zO n (zo.mk x_9) ([[112,111,108,105,99,121]]:List (List UInt8))) fun r21=>
   obind (z14 r21 1 x16.Name) fun r24=>
   obind (zW n r24 ([[123]]:List (List UInt8))) fun r28=>
   bindJ (S:=(List z6))
    (iter (z8d n x16) n (0,r28.l_))
   (fun x_31 =>
    obind (zW n (zo.mk x_31) ([[125]]:List (List UInt8))) fun r62=>
    some (.go ((IntKind.i64.wrap (s_8+1)),r62.l_))))
   (some (.stop (.go x_9)))
def z8f (n:Nat) (x73:zI):(Int×(List z6))→Option (Lp (Int×(List z6)) (Lp ((List z6)) (Lp (Int×(List z6)) (Pn (zo))))):=
 fun (s_92,x_93)=>
  cond (decide (s_92<(x73.Effects.length:Int)))
   (idx x73.Effects s_92 fun x100=>
   obind (z2I (decide (1≤x100) && decide (x100≤6))) fun r104=>
   pbind r104 (fun e107=>
    some (.stop (.stop (.stop (.pan e107))))) fun q106=>
   bindJ (S:=(List z6))
    (cond (decide (s_92 = 0))
     (obind (zO n (zo.mk x_93) ([[101,102,102,101,99,116,115]]:List (List UInt8))) fun r116=>
     some (.go r116.l_))
     (obind (zW n (zo.mk x_93) ([[44]]:List (List UInt8))) fun r120=>
     some (.go r120.l_)))
   (fun x_108 =>
    obind (z6O) fun r123=>
    idx r123 (IntKind.i64.wrap (x100 - 1)) fun x126=>
    obind (zO n (zo.mk x_108) ([x126]:List (List UInt8))) fun r128=>
    some (.go ((IntKind.i64.wrap (s_92+1)),r128.l_))))
   (some (.stop (.go x_93)))
def z8e (n:Nat) (x_1:zG):(Int×(List z6))→Option (Lp (Int×(List z6)) (Pn (zo))):=
 fun (s_65,x_66)=>
  cond (decide (s_65<(x_1.Programs.length:Int)))
   (idx x_1.Programs s_65 fun x73=>
   obind (zO n (zo.mk x_66) ([[112,114,111,103,114,97,109]]:List (List UInt8))) fun r80=>
   obind (z14 r80 1 x73.Name) fun r83=>
   bindJ (S:=(List z6))
    (iter (z8f n x73) n (0,r83.l_))
   (fun x_86 =>
    obind (z4q n (zo.mk x_86) x73.Code) fun r131=>
    pbind r131 (fun e134=>
     some (.stop (.pan e134))) fun q133=>
    some (.go ((IntKind.i64.wrap (s_65+1)),q133.l_))))
   (some (.stop (.ret (zo.mk x_66))))
def z5Q (n:Nat) (w_0:zo) (x_1:zG):Option (Pn (zo)):=
 bindJ (S:=(List z6))
  (iter (z8c n x_1) n (0,w_0.l_))
 (fun x_2 =>
  iter (z8e n x_1) n (0,x_2))
theorem z8g {n:Nat} {w_0:zo} {x_1:zG} {w_0b:Nat} {w_0_l_v:Value} {x_1_Policiesv:Value} {x_1_Programsv:Value} {r:Pn (zo)} (h:z5Q n w_0 x_1=some r) :
  z4t Tryz.prog 67 [boxP w_0b 0,.agg #[x_1_Policiesv,x_1_Programsv]] [row w_0_l_v 3 (w_0.l_.map z6.enc),box w_0b [w_0_l_v],nro x_1_Policiesv zz x_1.Policies,nro x_1_Programsv zw x_1.Programs] (fun v G=>∃ q,r = .ret q∧(∃ v0,v = .tuple #[]∧G=[row v0 3 (q.l_.map z6.enc),box w_0b [v0]])) (fun v=>∃ e,r = .pan e∧v = .iface 27 (.int .i64 e)):=by
 refine z1y Tryz.func67 rfl Tryz.ntmps67 rfl (fun w0 o0=>?_)
 refine zh ?_
 refine zt (t_box rfl) ?_
 rintro _ _ ⟨b1,rfl,rfl⟩
 refine zd ?_
 refine jr h [0,3] [0,0,5,3,4] (fun s (g:Value)=>[]) (fun s g=>[box w_0b [g],row g 3 (s.map z6.enc)]) (fun _ h ho5 _ hL6=>?_) ?_
 ·refine zh ?_
  refine ys ?_
  refine zd ?_
  refine zF ?_
  refine lo h [0,3,13,14] [0,0,5,3,4] (fun s (g:Value)=>[(15,.int .i64 s.1)]) (fun s g=>[box w_0b [g],row g 3 (s.2.map z6.enc)]) _ [1,0,4,2,3] ?_
  rintro ⟨s_8,_⟩ _ _ h _ hgo12 hstop13
  refine rs ?_
  refine zh ?_
  refine ys ?_
  refine zc ?_
  refine rc h (fun _ h=>?_) (fun _ h=>?_)
  ·refine run_skip ?_
   refine zg ?_
   refine zF ?_
   refine zh ?_
   obtain ⟨x16,hzx16,hlx16,hxx16,h⟩:=zP h
   refine ys ?_
   refine z4a (exAt (C:=zz) (i:=s_8.toNat) 3 rfl hxx16) ?_
   rintro (g17:Value)
   refine ys ?_
   refine al fun b18=>?_
   refine ys ?_
   refine za ?_
   refine ys ?_
   refine zt (t_lit [.string (bs [112,111,108,105,99,121])] Tryz.runUnderlying62 Tryz.sizeOf9 Tryz.zeroValue9 rfl (by decide) (by decide) rfl (by simp [Value.cells,boxP])) ?_
   rintro v20 _ ⟨rfl,_⟩
   refine zB (retell 8 (g:=row v20 1 (([[112,111,108,105,99,121]]:List (List UInt8)).map eStr)) rfl rfl) ?_
   refine cl1 [(1,2),(0,2),(8,1)] Tryz.call114 (fun h=>zT h) h (fun r21 v23 h=>?_)
   refine zc ?_
   refine rj [15,0,3,13,14,5] [2,3,4,6,7,9,10] ?_
   refine z8 ?_
   refine ys ?_
   refine cl1 [(5,2),(6,2)] Tryz.call113 (fun h=>z17 h) h (fun r24 v26 h=>?_)
   refine za ?_
   refine ys ?_
   refine zt (t_lit [.string (bs [123])] Tryz.runUnderlying62 Tryz.sizeOf9 Tryz.zeroValue9 rfl (by decide) (by decide) rfl (by simp [Value.cells,boxP])) ?_
   rintro v27 _ ⟨rfl,_⟩
   refine zB (retell 9 (g:=row v27 1 (([[123]]:List (List UInt8)).map eStr)) rfl rfl) ?_
   refine cl1 [(7,2),(8,2),(9,1)] Tryz.call116 (fun h=>zZ h) h (fun r28 v30 h=>?_)
   refine zd ?_
   refine jr h [0,3,13,14,15] [0,0,1,2,3] (fun s (g:Value)=>[]) (fun s g=>[box w_0b [g],row g 3 (s.map z6.enc)]) (fun _ h ho34 _ hL35=>?_) ?_
   ·refine zh ?_
    refine ys ?_
    refine zd ?_
    refine zF ?_
    refine lo h [0,3,13,14,15,30,31] [0,0,1,2,3,4] (fun s (g:Value)=>[(32,.int .i64 s.1)]) (fun s g=>[box w_0b [g],row g 3 (s.2.map z6.enc)]) _ [11,10,0,1,2,3] ?_
    rintro ⟨s_37,_⟩ _ _ h _ hgo41 hstop42
    refine rs ?_
    refine zh ?_
    refine ys ?_
    refine zc ?_
    refine rc h (fun _ h=>?_) (fun _ h=>?_)
    ·refine run_skip ?_
     refine zg ?_
     refine zF ?_
     refine zh ?_
     obtain ⟨x45,hzx45,hlx45,hxx45,h⟩:=zP h
     refine ys ?_
     refine z4a (exAt (C:=zY) (i:=s_37.toNat) 5 rfl hxx45) ?_
     rintro (g46:Value)
     refine ys ?_
     refine al fun b47=>?_
     refine ys ?_
     refine za ?_
     refine ys ?_
     refine zt (t_lit [.string (bs [114,117,108,101])] Tryz.runUnderlying62 Tryz.sizeOf9 Tryz.zeroValue9 rfl (by decide) (by decide) rfl (by simp [Value.cells,boxP])) ?_
     rintro v49 _ ⟨rfl,_⟩
     refine zB (retell 9 (g:=row v49 1 (([[114,117,108,101]]:List (List UInt8)).map eStr)) rfl rfl) ?_
     refine cl1 [(1,2),(0,2),(9,1)] Tryz.call114 (fun h=>zT h) h (fun r50 v52 h=>?_)
     refine zc ?_
     refine rj [32,0,3,13,14,15,30,31,7] [2,3,4,5,7,8,10,11] ?_
     refine z8 ?_
     refine ys ?_
     refine cl1 [(6,2),(7,2)] Tryz.call113 (fun h=>z17 h) h (fun r53 v55 h=>?_)
     refine zb ?_
     refine ys ?_
     obtain ⟨r56,hr57,h⟩:=zJ h
     rcases r56 with q58 | e59
     rotate_left
     ·replace h:=z32 h
      refine z6M (wn rfl) rfl (tp [(8,2),(9,2),(4,0)] Tryz.call131 (z4Y hr57)) (by rintro _ _ ⟨_,⟨_,hq,_⟩,_⟩; cases hq) ?_
      rintro _ ⟨_,he,rfl⟩
      obtain rfl:=Pn.pan.inj he
      obtain rfl:=zU h
      obtain rfl:=hstop42 _ rfl
      skip
      obtain rfl:=zM ho34
      skip
      obtain rfl:=hstop13 _ rfl
      skip
      obtain rfl:=zM ho5
      exact finP ⟨_,rfl,rfl⟩
     replace h:=z33 h
     refine zt (tc [(8,2),(9,2),(4,0)] Tryz.call131 (z5a (z4Y hr57))) ?_
     rintro _ _ ⟨_,⟨v60,rfl,rfl⟩,rfl⟩
     refine zr ?_
     refine zS ?_
     refine zD ?_
     refine rj [32,0,3,13,14,15,30,31] [0,1,2,3,10,11] ?_
     refine z8 ?_
     refine ys ?_
     refine zr ?_
     exact gj hgo41 _ [5,4,0,1,2,3] h
    ·refine z1h _ rfl ?_
     exact gk hL35 hstop42 _ [0,1,2,3,4] h
   rintro x_31 v32 h
   refine rs ?_
   refine z8 ?_
   refine ys ?_
   refine zt (t_lit [.string (bs [125])] Tryz.runUnderlying62 Tryz.sizeOf9 Tryz.zeroValue9 rfl (by decide) (by decide) rfl (by simp [Value.cells,boxP])) ?_
   rintro v61 _ ⟨rfl,_⟩
   refine zB (retell 5 (g:=row v61 1 (([[125]]:List (List UInt8)).map eStr)) rfl rfl) ?_
   refine cl1 [(1,2),(0,2),(5,1)] Tryz.call116 (fun h=>zZ h) h (fun r62 v64 h=>?_)
   refine zr ?_
   refine zS ?_
   refine zf ?_
   refine ys ?_
   refine zr ?_
   exact gj hgo12 _ [7,6,2,3,4] h
  ·refine z1h _ rfl ?_
   exact gk hL6 hstop13 _ [0,1,2,3,4] h
 rintro x_2 v3 h
 refine rs ?_
 refine zh ?_
 refine ys ?_
 refine zd ?_
 refine zF ?_
 refine lo h [0,53,54] [0,0,5] (fun s (g:Value)=>[(55,.int .i64 s.1)]) (fun s g=>[box w_0b [g],row g 3 (s.2.map z6.enc)]) _ [0,1,4] ?_
 rintro ⟨s_65,_⟩ _ _ h _ hgo69 hstop70
 refine rs ?_
 refine zh ?_
 refine ys ?_
 refine zc ?_
 refine rc h (fun _ h=>?_) (fun _ h=>?_)
 ·refine run_skip ?_
  refine zg ?_
  refine zF ?_
  refine zh ?_
  obtain ⟨x73,hzx73,hlx73,hxx73,h⟩:=zP h
  refine ys ?_
  refine z4a (exAt (C:=zw) (i:=s_65.toNat) 2 rfl hxx73) ?_
  rintro ⟨g74,g75⟩
  refine ys ?_
  refine al fun b76=>?_
  refine ys ?_
  refine za ?_
  refine ys ?_
  refine zt (t_lit [.string (bs [112,114,111,103,114,97,109])] Tryz.runUnderlying62 Tryz.sizeOf9 Tryz.zeroValue9 rfl (by decide) (by decide) rfl (by simp [Value.cells,boxP])) ?_
  rintro v79 _ ⟨rfl,_⟩
  refine zB (retell 7 (g:=row v79 1 (([[112,114,111,103,114,97,109]]:List (List UInt8)).map eStr)) rfl rfl) ?_
  refine cl1 [(1,2),(0,2),(7,1)] Tryz.call114 (fun h=>zT h) h (fun r80 v82 h=>?_)
  refine zc ?_
  refine rj [55,0,53,54,9] [2,4,5,6,8,9] ?_
  refine z8 ?_
  refine ys ?_
  refine cl1 [(4,2),(5,2)] Tryz.call113 (fun h=>z17 h) h (fun r83 v85 h=>?_)
  refine zd ?_
  refine jr h [0,9,53,54,55] [0,0,4,2,3,1] (fun s (g:Value)=>[]) (fun s g=>[box w_0b [g],row g 3 (s.map z6.enc)]) (fun _ h ho89 _ hL90=>?_) ?_
  ·refine zh ?_
   refine ys ?_
   refine zd ?_
   refine zF ?_
   refine lo h [0,9,53,54,55,67,68] [0,0,4,2,3,1] (fun s (g:Value)=>[(69,.int .i64 s.1)]) (fun s g=>[box w_0b [g],row g 3 (s.2.map z6.enc)]) _ [7,6,3,1,2,0] ?_
   rintro ⟨_,_⟩ _ _ h _ hgo96 hstop97
   refine rs ?_
   refine zh ?_
   refine ys ?_
   refine zc ?_
   refine rc h (fun _ h=>?_) (fun _ h=>?_)
   ·refine run_skip ?_
    refine zg ?_
    refine zF ?_
    refine zh ?_
    refine ys ?_
    obtain ⟨x100,hzx100,hlx100,hxx100,h⟩:=zP h
    refine ys ?_
    refine za ?_
    refine ys ?_
    refine oq 3 76 79 [69,0,9,53,54,55,67,68,10,11] [0,1,2,3,4,5] (decide (1≤x100) && decide (x100≤6)) ?_
    refine cp0 [] Tryz.call112 (fun h=>z2a h) h (fun _ h=>?_) (hp:=fun e h=>by obtain rfl:=zU h; obtain rfl:=hstop97 _ rfl; obtain rfl:=zM ho89; obtain rfl:=hstop70 _ rfl; exact finP ⟨_,rfl,rfl⟩)
    refine zd ?_
    refine jr h [0,9,11,53,54,55,67,68,69] [0,0,3,4,5,6] (fun s (g:Value)=>[]) (fun s g=>[box w_0b [g],row g 3 (s.map z6.enc)]) (fun _ h _ _ hL112=>?_) ?_
    ·refine zh ?_
     refine ys ?_
     refine zd ?_
     refine rc h (fun _ h=>?_) (fun _ h=>?_)
     ·refine z8 ?_
      refine ys ?_
      refine zt (t_lit [.string (bs [101,102,102,101,99,116,115])] Tryz.runUnderlying62 Tryz.sizeOf9 Tryz.zeroValue9 rfl (by decide) (by decide) rfl (by simp [Value.cells,boxP])) ?_
      rintro v115 _ ⟨rfl,_⟩
      refine zB (retell 6 (g:=row v115 1 (([[101,102,102,101,99,116,115]]:List (List UInt8)).map eStr)) rfl rfl) ?_
      refine cl1 [(1,2),(0,2),(6,1)] Tryz.call114 (fun h=>zT h) h (fun r116 v118 h=>?_)
      refine zr ?_
      exact gj hL112 _ [8,7,2,3,4,5] h
     ·refine z8 ?_
      refine ys ?_
      refine zt (t_lit [.string (bs [44])] Tryz.runUnderlying62 Tryz.sizeOf9 Tryz.zeroValue9 rfl (by decide) (by decide) rfl (by simp [Value.cells,boxP])) ?_
      rintro v119 _ ⟨rfl,_⟩
      refine zB (retell 6 (g:=row v119 1 (([[44]]:List (List UInt8)).map eStr)) rfl rfl) ?_
      refine cl1 [(1,2),(0,2),(6,1)] Tryz.call116 (fun h=>zZ h) h (fun r120 v122 h=>?_)
      refine zr ?_
      exact gj hL112 _ [8,7,2,3,4,5] h
    rintro x_108 v109 h
    refine rs ?_
    refine z8 ?_
    refine ys ?_
    obtain ⟨r123,hr124,h⟩:=zJ h
    refine zt (tc [] Tryz.call132 (z9C hr124)) ?_
    rintro v125 _ ⟨_,⟨_,rfl,rfl⟩,rfl⟩
    refine ys ?_
    obtain ⟨x126,hzx126,hlx126,hxx126,h⟩:=zP h
    refine ys ?_
    refine zt (t_lit [.string (bs x126)] Tryz.runUnderlying62 Tryz.sizeOf9 Tryz.zeroValue9 rfl (by decide) (by decide) rfl (by simp [Value.cells,boxP])) ?_
    rintro v127 _ ⟨rfl,_⟩
    refine zB (retell 7 (g:=row v127 1 (([x126]:List (List UInt8)).map eStr)) rfl rfl) ?_
    refine cl1 [(1,2),(0,2),(7,1)] Tryz.call114 (fun h=>zT h) h (fun r128 v130 h=>?_)
    refine zr ?_
    refine zS ?_
    refine zD ?_
    refine rj [0,9,53,54,55,67,68,69] [2,3,4,5,8,9] ?_
    refine z8 ?_
    refine ys ?_
    refine zr ?_
    exact gj hgo96 _ [5,4,0,1,2,3] h
   ·refine z1h _ rfl ?_
    exact gk hL90 hstop97 _ [0,1,2,3,4,5] h
  rintro x_86 v87 h
  refine rs ?_
  refine z8 ?_
  refine ys ?_
  obtain ⟨r131,hr132,h⟩:=zJ h
  rcases r131 with q133 | e134
  rotate_left
  ·replace h:=z32 h
   refine z6M (wn rfl) rfl (tp [(1,2),(0,2),(4,0)] Tryz.call133 (z5h hr132)) (by rintro _ _ ⟨_,⟨_,hq,_⟩,_⟩; cases hq) ?_
   rintro _ ⟨_,he,rfl⟩
   obtain rfl:=Pn.pan.inj he
   obtain rfl:=zU h
   obtain rfl:=hstop70 _ rfl
   exact finP ⟨_,rfl,rfl⟩
  replace h:=z33 h
  refine zt (tc [(1,2),(0,2),(4,0)] Tryz.call133 (z5a (z5h hr132))) ?_
  rintro _ _ ⟨_,⟨v135,rfl,rfl⟩,rfl⟩
  refine zr ?_
  refine zS ?_
  refine zf ?_
  refine ys ?_
  refine zr ?_
  exact gj hgo69 _ [7,6,5] h
 ·refine z1h _ rfl ?_
  refine z3d ?_
  obtain rfl:=zU h
  obtain rfl:=hstop70 _ rfl
  exact ft [] [1,0] Tryz.results67
def zc5 (n:Nat) (w_0:zo) (a_1:zG):Option (Pn (zo)):=
 obind (z5Q n w_0 a_1) fun r1=>
 pbind r1 (fun e4=>
  some (.pan e4)) fun q3=>
 some (.ret q3)
theorem za2 {n:Nat} {w_0:zo} {a_1:zG} {w_0b:Nat} {w_0_l_v:Value} {a_1b:Nat} {a_1_Policiesv:Value} {a_1_Programsv:Value} {r:Pn (zo)} (h:zc5 n w_0 a_1=some r) :
  z4t Tryz.prog 66 [boxP w_0b 0,boxP a_1b 0] [row w_0_l_v 3 (w_0.l_.map z6.enc),box w_0b [w_0_l_v],nro a_1_Policiesv zz a_1.Policies,nro a_1_Programsv zw a_1.Programs,box a_1b [a_1_Policiesv,a_1_Programsv]] (fun v G=>∃ q,r = .ret q∧(∃ v0,v = .tuple #[]∧G=[row v0 3 (q.l_.map z6.enc),box w_0b [v0],box a_1b [a_1_Policiesv,a_1_Programsv]])) (fun v=>∃ e,r = .pan e∧v = .iface 27 (.int .i64 e)):=by
 refine z1y Tryz.func66 rfl Tryz.ntmps66 rfl (fun w0 o0=>?_)
 refine z8 ?_
 refine ys ?_
 refine cp1 [(0,2),(1,2),(2,0),(3,0)] Tryz.call67 (fun h=>z8g h) h (fun q3 v5 h=>?_)
 refine zr ?_
 refine z3d ?_
 exact fs [] [5,6,4] Tryz.results66 h
def zc6 (n:Nat) (all_0_0:zG):Option ((List UInt8)×Int):=
 obind (zc5 n (zo.mk ([]:List z6)) all_0_0) fun r4=>
 pbind r4 (fun e7=>
  some ([],e7)) fun q6=>
 obind (z8n n q6.l_) fun r9=>
 cond (decide (r9.2=1))
  (some ([],3))
  (bindJ (S := Bool)
   (cond (decide (r9.2 ≠ 0))
    (some (.go true))
    (obind (z83 n q6.l_) fun r18=>
    some (.go (decide (0≤r18)))))
  (fun b12 =>
   cond b12
    (some ([],2))
    (some (r9.1,0))))
theorem zdW {n:Nat} {all_0_0:zG} {all_0_0b:Nat} {all_0_0_Policiesv:Value} {all_0_0_Programsv:Value} {r:(List UInt8)×Int} (h:zc6 n all_0_0=some r) :
  Meets Tryz.prog 51 [.func (.func 66) #[] #[boxP all_0_0b 0]] [nro all_0_0_Policiesv zz all_0_0.Policies,nro all_0_0_Programsv zw all_0_0.Programs,box all_0_0b [all_0_0_Policiesv,all_0_0_Programsv],globA] (fun v G=>v = .tuple #[.string (bs r.1),.int .i64 r.2]∧G=[]):=by
 refine zcm Tryz.func51 rfl Tryz.ntmps51 rfl (fun w0 o0=>?_)
 refine zh ?_
 refine al fun b1=>?_
 refine al fun b2=>?_
 refine za ?_
 refine ys ?_
 refine zet (wn rfl) rfl rfl rfl rfl ?_
 refine za ?_
 refine ys ?_
 refine zt (t_box rfl) ?_
 rintro _ _ ⟨b3,rfl,rfl⟩
 refine ys ?_
 refine za ?_
 refine ys ?_
 refine zB (nilrow 3) ?_
 refine zB (retell 7 (g:=row (.slice none 0 0) 3 (([]:List z6).map z6.enc)) rfl rfl) ?_
 obtain ⟨r4,hr5,h⟩:=zJ h
 rcases r4 with q6 | e7
 rotate_left
 ·replace h:=z32 h
  refine z6M (wn rfl) rfl (zf2 (vs:=[boxP b3 0]) (cs:=[boxP all_0_0b 0]) [(7,2),(6,2),(0,0),(1,0),(2,2)] rfl Tryz.call66 rfl (za2 hr5) (z2f 7 rfl (z2f 6 rfl (z3U 0 rfl z60 (z3U 1 rfl z60 (z2f 2 rfl z3r))))) rfl (.inl rfl)) (by rintro _ _ ⟨_,⟨_,hq,_⟩,_⟩; cases hq) ?_
  rintro _ ⟨_,he,rfl⟩
  obtain rfl:=Pn.pan.inj he
  refine zaS Tryz.call111 (zf8 b1 b2 e7 4 5 rfl rfl (by decide)) ?_
  obtain rfl:=zU h
  refine z4R [.cell 2 9,.cell 3 27] [.string (bs []),.int .i64 e7] [] [] Tryz.results51 rfl (rescons (z52 4 Tryz.isAgg9 rfl rfl) (rescons (z52 5 Tryz.isAgg27 rfl rfl) resnil)) (by decide) rfl ?_
  exact ⟨rfl,rfl⟩
 replace h:=z33 h
 refine zt (zbx (vs:=[boxP b3 0]) (cs:=[boxP all_0_0b 0]) [(7,2),(6,2),(0,0),(1,0),(2,2)] rfl Tryz.call66 rfl (z5a (za2 hr5)) (z2f 7 rfl (z2f 6 rfl (z3U 0 rfl z60 (z3U 1 rfl z60 (z2f 2 rfl z3r))))) rfl (.inl rfl)) ?_
 rintro _ _ ⟨_,⟨v8,rfl,rfl⟩,rfl⟩
 refine zc ?_
 refine rj [2,3,4] [3,4,5,8,9] ?_
 refine z8 ?_
 refine ys ?_
 refine cl0 [(3,1),(0,0)] Tryz.call16 (fun h=>zaA h) h (fun r9 h=>?_)
 refine ys ?_
 refine zc ?_
 refine zF ?_
 refine zH ?_
 refine rj [2,3,4] [0,1,2,3,4] ?_
 refine z8 ?_
 refine ys ?_
 refine zd ?_
 refine rc h (fun _ h=>?_) (fun _ h=>?_)
 ·refine zh ?_
  refine ys ?_
  refine zd ?_
  refine zA ?_
  refine zeh Tryz.call111 (z6X b1 b2 _) ?_
  obtain rfl:=zU h
  refine z4R [.cell 2 9,.cell 3 27] [.string (bs []),.int .i64 3] [] [] Tryz.results51 rfl (rescons (z52 1 Tryz.isAgg9 rfl rfl) (rescons (z52 2 Tryz.isAgg27 rfl rfl) resnil)) (by decide) rfl ?_
  exact ⟨rfl,rfl⟩
 ·refine zh ?_
  refine ys ?_
  refine ob h 7 [2,3] [1,2,3] (fun s=>[(32,.bool s)]) (fun s=>[]) (fun _ h _ _ hL16=>?_) ?_
  ·refine z1c 25 (decide (r9.2≠0)) rfl (fun hg17=>?_) (fun hg17=>?_)
   ·replace h:=z2F h hg17
    refine ys ?_
    refine zr ?_
    exact gb hL16 [0,1,2] h
   ·replace h:=z2E h hg17
    refine ys ?_
    refine cl0 [(3,1)] Tryz.call72 (fun h=>z9M h) h (fun r18 h=>?_)
    refine ys ?_
    refine zr ?_
    exact gb hL16 [0,1,2] h
  rintro b12 h
  refine os ?_
  refine ys ?_
  refine zd ?_
  refine rc h (fun _ h=>?_) (fun _ h=>?_)
  ·refine zh ?_
   refine ys ?_
   refine zd ?_
   refine zA ?_
   refine zeh Tryz.call111 (z6X b1 b2 _) ?_
   obtain rfl:=zU h
   refine z4R [.cell 2 9,.cell 3 27] [.string (bs []),.int .i64 2] [] [] Tryz.results51 rfl (rescons (z52 1 Tryz.isAgg9 rfl rfl) (rescons (z52 2 Tryz.isAgg27 rfl rfl) resnil)) (by decide) rfl ?_
   exact ⟨rfl,rfl⟩
  ·refine run_skip ?_
   refine zS ?_
   refine ze ?_
   refine ys ?_
   refine zd ?_
   refine zA ?_
   refine zeh Tryz.call111 (z6X b1 b2 _) ?_
   obtain rfl:=zU h
   refine z4R [.cell 2 9,.cell 3 27] [.string (bs r9.1),.int .i64 0] [] [] Tryz.results51 rfl (rescons (z52 1 Tryz.isAgg9 rfl rfl) (rescons (z52 2 Tryz.isAgg27 rfl rfl) resnil)) (by decide) rfl ?_
   exact ⟨rfl,rfl⟩
def za1 (n:Nat) (x_0:zG):Option ((List UInt8)×Int):=
 obind (zc6 n x_0) fun r2=>
 some (r2.1,r2.2)
theorem z9c {n:Nat} {x_0:zG} {x_0_Policiesv:Value} {x_0_Programsv:Value} {r:(List UInt8)×Int} (h:za1 n x_0=some r) :
  Meets Tryz.prog 27 [.agg #[x_0_Policiesv,x_0_Programsv]] [nro x_0_Policiesv zz x_0.Policies,nro x_0_Programsv zw x_0.Programs,globA] (fun v G=>v = .tuple #[.string (bs r.1),.int .i64 r.2]∧G=[]):=by
 refine zN Tryz.func27 rfl Tryz.ntmps27 rfl (fun w0 o0=>?_)
 refine zh ?_
 refine zt (t_box rfl) ?_
 rintro _ _ ⟨b1,rfl,rfl⟩
 refine ys ?_
 refine za ?_
 refine ys ?_
 refine cl0 [(0,0),(1,0),(3,2),(2,0)] Tryz.call51 (fun h=>zdW h) h (fun r2 h=>?_)
 refine ys ?_
 refine zd ?_
 refine zA ?_
 exact fs [2,3] [] Tryz.results27 h
end Go.Proofs.YtcmaoifiiigggaaGreatDoor
