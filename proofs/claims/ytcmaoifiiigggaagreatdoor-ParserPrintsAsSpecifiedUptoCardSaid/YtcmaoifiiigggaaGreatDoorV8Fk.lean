/-
  Functions of the program, lifted: part 11.
-/
import Derived.Test.YtcmaoifiiigggaaGreatDoorV8Fj
set_option linter.unusedSimpArgs false
set_option linter.unusedVariables false
namespace Go.Proofs.YtcmaoifiiigggaaGreatDoor
open Go.Abs Tryz
set_option maxRecDepth 20000
set_option maxHeartbeats 4000000
def z2N (n:Nat) (q8r:z7→Option (Pn ((List zm)×z7))):((List zm)×(List z6)×Int×Int)→Option (Lp ((List zm)×(List z6)×Int×Int) (Lp ((List zm)×(List z6)×Int×Int) (Pn ((List zm)×z7)))):=
 fun (j6,jb,j7,j8)=>
  obind (z10 (z7.mk jb j7 j8) 5 [125]) fun r26=>
  cond (!r26.1)
   (obind (z2j n q8r r26.2) fun r30=>
   pbind r30 (fun e33=>
    some (.stop (.stop (.pan e33)))) fun q32=>
   need (j6.length+([q32.1]:List zm).length≤4294967296) (
   some (.go ((j6++([q32.1]:List zm)),q32.2.l_,q32.2.i_,q32.2.at_))))
   (some (.stop (.go (j6,r26.2.l_,r26.2.i_,r26.2.at_))))
def z3a (n:Nat) (q8r:z7→Option (Pn ((List zm)×z7))) (r_0:z7):Option (Pn ((List zm)×z7)):=
 obind (z19 r_0 5 [123]) fun r1=>
 pbind r1 (fun e4=>
  some (.pan e4)) fun q3=>
 bindJ (S:=(List zm)×(List z6)×Int×Int)
  (iter (z2N n q8r) n (([]:List zm),q3.l_,q3.i_,q3.at_))
 (fun (jk, x_7, x_8, x_9) =>
  some (.ret (jk,(z7.mk x_7 x_8 x_9))))
theorem z6T {n:Nat} {q8r:z7→Option (Pn ((List zm)×z7))} (q10h:K10 q8r 82):K10 (z3a n q8r) 82:=by
 intro r_0 j1 j4 r h
 refine z1y func82 rfl ntmps82 rfl (fun w0 o0=>?_)
 refine yn 4 ?_
 refine cp1 [(0,0),(1,2)] call78 (fun h=>z1u h) h (fun q3 v5 h=>?_)
 refine yn 2 ?_
 refine zd (jr h [] [0,0,0] (fun s (g:V2)=>[(3,g.1)]) (fun s g=>[nrow g.1 zE s.1,box j1 [g.2,.int .i64 s.2.2.1,.int .i64 s.2.2.2],ro g.2 3 (s.2.1.map z6.enc)]) (fun _ h jO _ jP=>?_) ?_)
 ·refine zF (z3x (z1q zE) ?_)
  refine lo h [0] [0,0,0] (fun s (g:V2)=>[(3,g.1)]) (fun s g=>[nrow g.1 zE s.1,box j1 [g.2,.int .i64 s.2.2.1,.int .i64 s.2.2.2],ro g.2 3 (s.2.1.map z6.enc)]) (_,_) [4,3,2] ?_
  rintro ⟨_,_,_,_⟩ ⟨_,_⟩ _ h _ jz j9
  refine rs ?_
  refine yn 3 ?_
  refine cl1 [(2,0),(1,2)] call76 (fun h=>z13 h) h (fun r26 v28 h=>?_)
  refine yc 2 h (fun _ h=>?_) fun _ h=>?_
  ·refine yn 5 ?_
   obtain ⟨r30,jA,h⟩:=zJ h
   rcases r30 with q32 | e33
   rotate_left
   ·replace h:=z32 h
    refine z6M (wn rfl) rfl (tp [(3,0),(4,2)] call145 (z5p q10h jA)) (by rintro _ _ ⟨_,⟨_,hq,_⟩,_⟩; cases hq) ?_
    rintro _ ⟨_,he,rfl⟩
    obtain rfl:=Pn.pan.inj he
    obtain rfl:=zU h
    obtain rfl:=j9 _ rfl
    skip
    obtain rfl:=zM jO
    exact finP ⟨_,rfl,rfl⟩
   replace h:=z33 h
   refine zt (tc [(3,0),(4,2)] call145 (z5a (z5p q10h jA))) ?_
   rintro _ _ ⟨_,⟨v34,v35,v36,v37,rfl,rfl⟩,rfl⟩
   refine zB (z24 5 rfl) ?_
   refine zB (z24 6 rfl) ?_
   refine zB (z24 7 rfl) ?_
   refine z2V 5 rfl z1j (fun jB hs39o=>?_)
   refine z2V 6 rfl z1j (fun jC hs40o=>?_)
   refine z2V 7 rfl z1j (fun jD hs41o=>?_)
   refine zt (t_lit [.agg #[.int .i64 q32.1.Kind,.int .i64 q32.1.At,.string (bs q32.1.Name),.int .i64 q32.1.X.Op,.int .i64 q32.1.X.At,.string (bs q32.1.X.S),v34,v35,v36]] runUnderlying80 sizeOf84 zeroValue84 rfl (by decide) (by decide) rfl (by intro q hq; simp only [y1,y0,or_false] at hq; rcases hq with rfl <;> first | rfl | (rw [jB]; rfl) | (rw [jC]; rfl) | (rw [jD]; rfl))) ?_
   rintro v38 _ ⟨rfl,_⟩
   refine zB (z1p (C:=zE) (l:=([q32.1]:List zm)) 10 [(q32.1,(v34,v35,v36))] rfl (by simp only [yI,List.map_nil,jB,jC,jD]; rfl) rfl (z1o (z2P (T:=z1S) (z1t 5 rfl (z1t 6 rfl (z1t 7 rfl z2u)))) z1x)) ?_
   obtain ⟨jQ,h⟩:=zX h
   refine zt (z3P (C:=zE) 0 10 (by decide) rfl runUnderlying80 rfl runUnderlying80 typeInfo84 rfl (by decide) (by decide) zeroValue84 rfl rfl rfl rfl (z5I 10 rfl) jQ) ?_
   rintro v42 _ rfl
   refine yn 3 ?_
   exact gj jz (_,_) [0,9,8] h
  ·refine z1h _ rfl ?_
   exact gk jP j9 (_,_) [0,4,3] h
 rintro ⟨jk,x_7,x_8,x_9⟩ ⟨v10,v11⟩ h
 refine rs ?_
 refine yn 4 ?_
 exact fs [2] [0,2,1] results82 h
def z2i:Nat→z7→Option (Pn ((List zm)×z7))
 | 0=>fun _=>none
 | n+1=>z3a n  (z2i n )
theorem z5o {n:Nat}:K10 (z2i n) 82:=by
 induction n with
 | zero=>intro _ _ _ _  h; cases h
 | succ n ih=>exact z6T ih
def z2K (n:Nat):((List z6)×Int×Int×(List zQ))→Option (Lp ((List z6)×Int×Int×(List zQ)) (Lp ((List z6)×Int×Int×(List zQ)) (Lp ((List z6)×Int×Int×(List zL)×(List zI)) (Lp ((List zL)×(List zI)×(List z6)×Int×Int) (Pn (zG×z7)))))):=
 fun (jR,jS,jT,ja)=>
  obind (z10 (z7.mk jR jS jT) 5 [125]) fun r65=>
  cond (!r65.1)
   (obind (z1a r65.2) fun r69=>
   obind (z19 r65.2 2 [114,117,108,101]) fun r71=>
   pbind r71 (fun e74=>
    some (.stop (.stop (.stop (.stop (.pan e74)))))) fun q73=>
   obind (z1l q73 1) fun r76=>
   pbind r76 (fun e79=>
    some (.stop (.stop (.stop (.stop (.pan e79)))))) fun q78=>
   obind (z1G n q78.2 false) fun r81=>
   pbind r81 (fun e84=>
    some (.stop (.stop (.stop (.stop (.pan e84)))))) fun q83=>
   need (ja.length+([(zQ.mk q78.1 r69.At q83.1)]:List zQ).length≤4294967296) (
   some (.go (q83.2.l_,q83.2.i_,q83.2.at_,(ja++([(zQ.mk q78.1 r69.At q83.1)]:List zQ))))))
   (some (.stop (.go (r65.2.l_,r65.2.i_,r65.2.at_,ja))))
def z1I (n:Nat):((List z6)×Int×Int×(List zL)×(List zI))→Option (Lp ((List z6)×Int×Int×(List zL)×(List zI)) (Lp ((List zL)×(List zI)×(List z6)×Int×Int) (Pn (zG×z7)))):=
 fun (jf,jg,jb,j7,j8)=>
  cond (decide (jg<(jf.length:Int)))
   (obind (z1a (z7.mk jf jg jb)) fun r28=>
   obind (z10 (z7.mk jf jg jb) 2 [112,111,108,105,99,121]) fun r30=>
   cond r30.1
    (obind (z1l r30.2 1) fun r34=>
    pbind r34 (fun e37=>
     some (.stop (.stop (.pan e37)))) fun q36=>
    obind (z19 q36.2 5 [123]) fun r40=>
    pbind r40 (fun e43=>
     some (.stop (.stop (.pan e43)))) fun q42=>
    bindJ (S:=(List z6)×Int×Int×(List zQ))
     (iter (z2K n) n (q42.l_,q42.i_,q42.at_,([]:List zQ)))
    (fun (jE, jF, jG, jc) =>
     need (j7.length+([(zL.mk q36.1 r28.At jc)]:List zL).length≤4294967296) (
     some (.go (jE,jF,jG,(j7++([(zL.mk q36.1 r28.At jc)]:List zL)),j8)))))
    (obind (z10 r30.2 2 [112,114,111,103,114,97,109]) fun r136=>
    cond r136.1
     (obind (z1l r136.2 1) fun r140=>
     pbind r140 (fun e143=>
      some (.stop (.stop (.pan e143)))) fun q142=>
     bindJ (S:=(List z6)×Int×Int×(List Int))
      (obind (z10 q142.2 2 [101,102,102,101,99,116,115]) fun r156=>
      cond r156.1
       (obind (z5E n r156.2) fun r160=>
       pbind r160 (fun e163=>
        some (.stop (.stop (.stop (.pan e163))))) fun q162=>
       some (.go (q162.2.l_,q162.2.i_,q162.2.at_,q162.1)))
       (some (.go (r156.2.l_,r156.2.i_,r156.2.at_,([]:List Int)))))
     (fun (jl, jm, jo, j5) =>
      obind (z2i n (z7.mk jl jm jo)) fun r167=>
      pbind r167 (fun e170=>
       some (.stop (.stop (.pan e170)))) fun q169=>
      need (j8.length+([(zI.mk q142.1 r28.At j5 q169.1)]:List zI).length≤4294967296) (
      some (.go (q169.2.l_,q169.2.i_,q169.2.at_,j7,(j8++([(zI.mk q142.1 r28.At j5 q169.1)]:List zI)))))))
     (obind (z16 r136.2) fun r180=>
     pbind r180 (fun e183=>
      some (.stop (.stop (.pan e183)))) fun q182=>
     some (.go (r136.2.l_,r136.2.i_,r136.2.at_,j7,j8)))))
   (some (.stop (.go (j7,j8,jf,jg,jb))))
def z2Z (n:Nat) (r_0:z7):Option (Pn (zG×z7)):=
 bindJ (S:=(List zL)×(List zI)×(List z6)×Int×Int)
  (iter (z1I n) n (r_0.l_,r_0.i_,r_0.at_,([]:List zL),([]:List zI)))
 (fun (x_3, x_4, x_5, x_6, x_7) =>
  some (.ret ((zG.mk x_3 x_4),(z7.mk x_5 x_6 x_7))))
theorem z5g {n:Nat} {r_0:z7} {j1:Nat} {j4:Value} {r:Pn (zG×z7)} (h:z2Z n r_0=some r) :
  z4t Tryz.prog 33 [boxP j1 0] [ro j4 3 (r_0.l_.map z6.enc),box j1 [j4,.int .i64 r_0.i_,.int .i64 r_0.at_]] (fun v G=>∃ q,r = .ret q∧(∃ v0 v1 v2,v = .agg #[v0,v1]∧G=[nrow v0 zz q.1.Policies,nrow v1 zw q.1.Programs,ro v2 3 (q.2.l_.map z6.enc),box j1 [v2,.int .i64 q.2.i_,.int .i64 q.2.at_]])) (fun v=>∃ e,r = .pan e∧v = .iface 29 (.agg #[.int .i64 e,.int .i64 180])):=by
 refine z1y func33 rfl ntmps33 rfl (fun w0 o0=>?_)
 refine zh (al fun b1=>?_)
 refine za (al fun b2=>?_)
 refine zd (jr h [2,3] [3,0,0,0,0,0] (fun s (g:V3)=>[]) (fun s g=>[box b2 [g.1,g.2.1],nrow g.1 zz s.1,nrow g.2.1 zw s.2.1,box j1 [g.2.2,.int .i64 s.2.2.2.1,.int .i64 s.2.2.2.2],ro g.2.2 3 (s.2.2.1.map z6.enc)]) (fun _ h j3 _ jy=>?_) ?_)
 ·refine zF (z3x (z1q zz) ?_)
  refine z3x (z1q zw) ?_
  refine lo h [0,2,3] [0,0,3,0,0,0] (fun s (g:V3)=>[]) (fun s g=>[box j1 [g.1,.int .i64 s.2.1,.int .i64 s.2.2.1],ro g.1 3 (s.1.map z6.enc),box b2 [g.2.1,g.2.2],nrow g.2.1 zz s.2.2.2.1,nrow g.2.2 zw s.2.2.2.2]) (_,_,_) [1,0,2,3,4,5] ?_
  rintro ⟨_,_,_,_,_⟩ ⟨_,_,_⟩ _ h _ jd j0
  refine rs ?_
  refine zH (zH (z4U (by kernel_rfl) (by kernel_rfl) ?_))
  refine yu ?_
  refine z2m ?_
  refine yc 1 h (fun _ h=>?_) fun _ h=>?_
  ·refine yn 3 ?_
   refine zH (rj [0,2,3] [0,1,2,3,4,5] ?_)
   refine yn 2 ?_
   refine cl0 [(1,0),(0,2)] call75 (fun h=>z1e h) h (fun r28 h=>?_)
   refine yn 5 ?_
   refine cl1 [(1,0),(6,2)] call76 (fun h=>z13 h) h (fun r30 v32 h=>?_)
   refine yc 2 h (fun _ h=>?_) fun _ h=>?_
   ·refine yn 2 ?_
    refine cp1 [(7,0),(8,2)] call77 (fun h=>z1v h) h (fun q36 v38 h=>?_) (hp:=fun e h=>by obtain rfl:=zU h; obtain rfl:=j0 _ rfl; obtain rfl:=zM j3; exact finP ⟨_,rfl,rfl⟩)
    refine ys ?_
    refine al fun b39=>?_
    refine ys ?_
    refine zc (rj [0,2,3,5] [2,3,4,5,9,10,11] ?_)
    refine yn 2 ?_
    refine cp1 [(4,0),(5,2)] call78 (fun h=>z1u h) h (fun q42 v44 h=>?_) (hp:=fun e h=>by obtain rfl:=zU h; obtain rfl:=j0 _ rfl; obtain rfl:=zM j3; exact finP ⟨_,rfl,rfl⟩)
    refine zd (jr h [0,2,3,5] [0,0,1,2,3,4,0,0] (fun s (g:V2)=>[]) (fun s g=>[box j1 [g.1,.int .i64 s.2.1,.int .i64 s.2.2.1],ro g.1 3 (s.1.map z6.enc),box b39 [.string (bs q36.1),.int .i64 r28.At,g.2],nrow g.2 zY s.2.2.2]) (fun _ h jh _ jU=>?_) ?_)
    ·refine zF (z3x (z1q zY) ?_)
     refine lo h [0,2,3,5] [0,0,1,2,3,4,0,0] (fun s (g:V2)=>[]) (fun s g=>[box j1 [g.1,.int .i64 s.2.1,.int .i64 s.2.2.1],ro g.1 3 (s.1.map z6.enc),box b39 [.string (bs q36.1),.int .i64 r28.At,g.2],nrow g.2 zY s.2.2.2]) (_,_) [8,7,0,1,2,3,6,9] ?_
     rintro ⟨_,_,_,ja⟩ ⟨_,v60⟩ _ h _ jH j2
     refine rs ?_
     refine yn 3 ?_
     refine cl1 [(1,0),(0,2)] call76 (fun h=>z13 h) h (fun r65 v67 h=>?_)
     refine yc 2 h (fun _ h=>?_) fun _ h=>?_
     ·refine yn 5 ?_
      refine cl0 [(8,0),(9,2)] call75 (fun h=>z1e h) h (fun r69 h=>?_)
      refine yn 3 ?_
      refine cp1 [(8,0),(10,2)] call78 (fun h=>z1u h) h (fun q73 v75 h=>?_) (hp:=fun e h=>by obtain rfl:=zU h; obtain rfl:=j2 _ rfl; obtain rfl:=zM jh; obtain rfl:=j0 _ rfl; obtain rfl:=zM j3; exact finP ⟨_,rfl,rfl⟩)
      refine zc (rj [0,2,3,5,6] [2,3,4,5,6,7,11,12] ?_)
      refine yn 2 ?_
      refine cp1 [(6,0),(7,2)] call77 (fun h=>z1v h) h (fun q78 v80 h=>?_) (hp:=fun e h=>by obtain rfl:=zU h; obtain rfl:=j2 _ rfl; obtain rfl:=zM jh; obtain rfl:=j0 _ rfl; obtain rfl:=zM j3; exact finP ⟨_,rfl,rfl⟩)
      refine ys ?_
      refine zd ?_
      obtain ⟨r81,ji,h⟩:=zJ h
      rcases r81 with q83 | e84
      rotate_left
      ·replace h:=z32 h
       refine rf [1,1,1,1,0,0,1,0,1] fun hS=>?_
       refine aq [0,2,3,4] ?_
       refine a2 [5,6] 6 [0,2,3,5,45,46,47] [1,2,3,4,5,6,7,8,9,10] (fun (s:Unit)=>[(44,v60)]) (fun s=>[]) ?_ (fun hK93=>?_)
       ·rintro _
        refine az ?_
        refine zK [5] (by kernel_rfl) rfl ?_
        refine zk ?_ ?_
        ·refine zfL rfl (wn rfl) rfl (zf2 (vs:=[boxP j1 0,.bool false]) (cs:=[]) [(8,0),(9,2)] rfl call79 rfl (z3b ji) (z3U 8 rfl z6h (z2f 9 rfl z3r)) rfl (.inl rfl)) (by rintro _ _ ⟨_,⟨_,hq,_⟩,_⟩; cases hq) ?_
         rintro _ ⟨_,he,rfl⟩
         obtain rfl:=Pn.pan.inj he
         obtain rfl:=zU h
         obtain rfl:=j2 _ rfl
         skip
         obtain rfl:=zM jh
         skip
         obtain rfl:=j0 _ rfl
         skip
         obtain rfl:=zM j3
         exact finP ⟨_,rfl,rfl⟩
        exact zC
       refine zK [1,5] (by kernel_rfl) rfl ?_
       refine zk ?_ ?_
       ·refine ty ?_
        exact aw (hK93 ()) [0,1,2,3,4,5,6,7,8,9]
       refine zk ?_ ?_
       ·refine zfL rfl (wn rfl) rfl (zf2 (vs:=[boxP j1 0,.bool false]) (cs:=[]) [(8,0),(9,2)] rfl call79 rfl (z3b ji) (z3U 8 rfl z6h (z2f 9 rfl z3r)) rfl (.inl rfl)) (by rintro _ _ ⟨_,⟨_,hq,_⟩,_⟩; cases hq) ?_
        rintro _ ⟨_,he,rfl⟩
        obtain rfl:=Pn.pan.inj he
        obtain rfl:=zU h
        obtain rfl:=j2 _ rfl
        skip
        obtain rfl:=zM jh
        skip
        obtain rfl:=j0 _ rfl
        skip
        obtain rfl:=zM j3
        exact finP ⟨_,rfl,rfl⟩
       exact zC
      replace h:=z33 h
      obtain ⟨jV,h⟩:=zX h
      refine rf [1,1,1,1,0,0,1,0,1] fun hS=>?_
      refine aq [0,2,3,4] ?_
      refine a2 [11] 0 [0,2,3,5] [1,2,3,4,0,0,7,8,9,0,0,0,0,0] (fun (s:Value×Value×Value×Value)=>[]) (fun s=>[box b39 [.string (bs q36.1),.int .i64 r28.At,s.1],nrow s.1 zY (ja++([(zQ.mk q78.1 r69.At q83.1)]:List zQ)),HA.emp,nro s.2.1 zp q83.1,ro s.2.2.1 3 (q83.2.l_.map z6.enc),box j1 [s.2.2.1,.int .i64 q83.2.i_,.int .i64 q83.2.at_],nrow s.2.2.2 zY ([(zQ.mk q78.1 r69.At q83.1)]:List zQ)]) ?_ (fun hK110=>?_)
      ·rintro ⟨v108,v100,v101,v106⟩
       refine az ?_
       refine z1K (by kernel_rfl) ?_
       exact zS (gj jH (_,_) [12,11,0,1,2,3,4,5] h)
      refine a2 [10,1] 1 [0,2,3,5] [1,2,3,4,5,0,7,8,9,0,0,0,0,0] (fun (s:Value×Value×Value×Value)=>[(51,s.1),(52,boxP b39 2)]) (fun s=>[nrow s.1 zY (ja++([(zQ.mk q78.1 r69.At q83.1)]:List zQ)),HA.emp,nro s.2.1 zp q83.1,ro s.2.2.1 3 (q83.2.l_.map z6.enc),box j1 [s.2.2.1,.int .i64 q83.2.i_,.int .i64 q83.2.at_],nrow s.2.2.2 zY ([(zQ.mk q78.1 r69.At q83.1)]:List zQ)]) ?_ (fun hK111=>?_)
      ·rintro ⟨v108,v100,v101,v106⟩
       refine az ?_
       refine zK [10] (by kernel_rfl) rfl ?_
       refine zk ?_ ?_
       ·refine z1J 5 rfl z4N (fun je hs112o=>?_)
        refine at' rfl (z55 4 sizeOf74 rfl rfl rfl (by rw [je]; rfl) (by simp [Value.cells,boxP]) (by rw [je]; exact z1s hs112o (z6b))) ?_
        rintro _ _ ⟨rfl,rfl⟩
        refine sb ?_
        refine z1B (retell 4 (g:=box b39 [.string (bs q36.1),.int .i64 r28.At,v108]) rfl (by rw [je]; rfl)) ?_
        exact aw (hK110 (v108,v100,v101,v106)) [0,1,2,3,4,5,6,7,8,9,10,11,12,13]
       exact zC
      refine a2 [8,3] 3 [0,2,3,5] [1,2,3,4,5,6,7,8,9,0,0,0,0,0] (fun (s:Value×Value×Value)=>[(44,v60),(50,s.1)]) (fun s=>[HA.emp,nro s.2.1 zp q83.1,ro s.2.2 3 (q83.2.l_.map z6.enc),box j1 [s.2.2,.int .i64 q83.2.i_,.int .i64 q83.2.at_],nrow s.1 zY ([(zQ.mk q78.1 r69.At q83.1)]:List zQ)]) ?_ (fun hK113=>?_)
      ·rintro ⟨v106,v100,v101⟩
       refine az ?_
       refine zK [8] (by kernel_rfl) rfl ?_
       refine zk ?_ ?_
       ·refine at' rfl (z3P (C:=zY) 5 13 (by decide) rfl runUnderlying74 rfl runUnderlying74 typeInfo79 rfl (by decide) (by decide) zeroValue79 rfl rfl rfl rfl (z5I 13 rfl) jV) ?_
        rintro v114 _ rfl
        refine sb ?_
        refine aq [9] ?_
        exact aw (hK111 (v114,v100,v101,v106)) [0,1,2,3,4,5,6,7,8,9,10,11,12,13]
       exact zC
      refine a2 [7,4] 4 [0,2,3,5] [1,2,3,4,5,6,7,8,9,0,0,0,0] (fun (s:Value×Value)=>[(44,v60),(49,.agg #[.string (bs q78.1),.int .i64 r69.At,s.1])]) (fun s=>[HA.emp,nrow s.1 zp q83.1,ro s.2 3 (q83.2.l_.map z6.enc),box j1 [s.2,.int .i64 q83.2.i_,.int .i64 q83.2.at_]]) ?_ (fun hK115=>?_)
      ·rintro ⟨v100,v101⟩
       refine az ?_
       refine zK [7] (by kernel_rfl) rfl ?_
       refine zk ?_ ?_
       ·refine z3n (z24 10 rfl) ?_
        refine z1J 10 rfl z1j (fun jp hs117o=>?_)
        refine at' rfl (t_lit [.agg #[.string (bs q78.1),.int .i64 r69.At,v100]] runUnderlying74 sizeOf79 zeroValue79 rfl (by decide) (by decide) rfl (by intro q hq; simp only [y1,y0,or_false] at hq; rcases hq with rfl <;> first | rfl | (rw [jp]; rfl))) ?_
        rintro v116 _ ⟨rfl,_⟩
        refine sb ?_
        refine z1B (z1p (C:=zY) (l:=([(zQ.mk q78.1 r69.At q83.1)]:List zQ)) 13 [((zQ.mk q78.1 r69.At q83.1),v100)] rfl (by simp only [yI,List.map_nil,jp]; rfl) rfl (z1o (z1t 10 rfl z2u) z1x)) ?_
        exact aw (hK113 (v116,v100,v101)) [0,1,2,3,4,5,6,7,8,9,10,11,12,13]
       exact zC
      refine a2 [1,1,6,3] 4 [0,2,3,5,43] [1,2,3,4,5,6,7,8,9,0,0,0,0,0] (fun (s:Value×Value×Value)=>[(50,s.1)]) (fun s=>[HA.emp,nro s.2.1 zp q83.1,ro s.2.2 3 (q83.2.l_.map z6.enc),box j1 [s.2.2,.int .i64 q83.2.i_,.int .i64 q83.2.at_],nrow s.1 zY ([(zQ.mk q78.1 r69.At q83.1)]:List zQ)]) ?_ (fun hK118=>?_)
      ·rintro ⟨v104,v98,v99⟩
       refine az ?_
       refine zK [1] (by kernel_rfl) rfl ?_
       refine zk ?_ ?_
       ·refine ty ?_
        exact aw (hK113 (v104,v98,v99)) [0,1,2,3,4,5,6,7,8,9,10,11,12,13]
       exact zC
      refine a2 [6,5] 5 [0,2,3,5,45,46] [1,2,3,4,5,6,7,8,9,0,0,0,0] (fun (s:Value×Value)=>[(44,v60),(48,s.1)]) (fun s=>[HA.emp,nrow s.1 zp q83.1,ro s.2 3 (q83.2.l_.map z6.enc),box j1 [s.2,.int .i64 q83.2.i_,.int .i64 q83.2.at_]]) ?_ (fun hK119=>?_)
      ·rintro ⟨v100,v101⟩
       refine az ?_
       refine zK [6] (by kernel_rfl) rfl ?_
       refine zk ?_ ?_
       ·refine ty ?_
        exact aw (hK115 (v100,v101)) [0,1,2,3,4,5,6,7,8,9,10,11,12]
       exact zC
      refine a2 [1,1,5,4] 5 [0,2,3,5,43] [1,2,3,4,5,6,7,8,9,0,0,0,0] (fun (s:Value×Value)=>[(49,.agg #[.string (bs q78.1),.int .i64 r69.At,s.1])]) (fun s=>[HA.emp,nrow s.1 zp q83.1,ro s.2 3 (q83.2.l_.map z6.enc),box j1 [s.2,.int .i64 q83.2.i_,.int .i64 q83.2.at_]]) ?_ (fun hK121=>?_)
      ·rintro ⟨v98,v99⟩
       refine az ?_
       refine zK [1,7] (by kernel_rfl) rfl ?_
       refine zk ?_ ?_
       ·refine ty ?_
        exact aw (hK115 (v98,v99)) [0,1,2,3,4,5,6,7,8,9,10,11,12]
       refine zk ?_ ?_
       ·refine z3n (z24 10 rfl) ?_
        refine z1J 10 rfl z1j (fun jq hs123o=>?_)
        refine at' rfl (t_lit [.agg #[.string (bs q78.1),.int .i64 r69.At,v98]] runUnderlying74 sizeOf79 zeroValue79 rfl (by decide) (by decide) rfl (by intro q hq; simp only [y1,y0,or_false] at hq; rcases hq with rfl <;> first | rfl | (rw [jq]; rfl))) ?_
        rintro v122 _ ⟨rfl,_⟩
        refine sb ?_
        refine z1B (z1p (C:=zY) (l:=([(zQ.mk q78.1 r69.At q83.1)]:List zQ)) 13 [((zQ.mk q78.1 r69.At q83.1),v98)] rfl (by simp only [yI,List.map_nil,jq]; rfl) rfl (z1o (z1t 10 rfl z2u) z1x)) ?_
        exact aw (hK118 (v122,v98,v99)) [0,1,2,3,4,5,6,7,8,9,10,11,12,13]
       exact zC
      refine a2 [5,6] 6 [0,2,3,5,45,46,47] [1,2,3,4,5,6,7,8,9,10] (fun (s:Unit)=>[(44,v60)]) (fun s=>[]) ?_ (fun hK124=>?_)
      ·rintro _
       refine az ?_
       refine zK [5] (by kernel_rfl) rfl ?_
       refine zk ?_ ?_
       ·refine at' rfl (tc [(8,0),(9,2)] call79 (z5a (z3b ji))) ?_
        rintro v125 _ ⟨_,⟨_,v126,rfl,rfl⟩,rfl⟩
        refine sb ?_
        exact aw (hK119 (v125,v126)) [0,1,2,3,4,5,6,7,8,9,10,11,12]
       exact zC
      refine a2 [1,1,4,5] 6 [0,2,3,5,43,45,46] [1,2,3,4,5,6,7,8,9,0,0,0,0] (fun (s:Value×Value)=>[(48,s.1)]) (fun s=>[HA.emp,nrow s.1 zp q83.1,ro s.2 3 (q83.2.l_.map z6.enc),box j1 [s.2,.int .i64 q83.2.i_,.int .i64 q83.2.at_]]) ?_ (fun hK127=>?_)
      ·rintro ⟨v98,v99⟩
       refine az ?_
       refine zK [1,6] (by kernel_rfl) rfl ?_
       refine zk ?_ ?_
       ·refine ty ?_
        exact aw (hK119 (v98,v99)) [0,1,2,3,4,5,6,7,8,9,10,11,12]
       refine zk ?_ ?_
       ·refine ty ?_
        exact aw (hK121 (v98,v99)) [0,1,2,3,4,5,6,7,8,9,10,11,12]
       exact zC
      refine zK [1,5] (by kernel_rfl) rfl ?_
      refine zk ?_ ?_
      ·refine ty ?_
       exact aw (hK124 ()) [0,1,2,3,4,5,6,7,8,9]
      refine zk ?_ ?_
      ·refine at' rfl (tc [(8,0),(9,2)] call79 (z5a (z3b ji))) ?_
       rintro v129 _ ⟨_,⟨_,v130,rfl,rfl⟩,rfl⟩
       refine sb ?_
       exact aw (hK127 (v129,v130)) [0,1,2,3,4,5,6,7,8,9,10,11,12]
      exact zC
     ·refine z1h _ rfl ?_
      exact gk jU j2 (_,_) [9,8,2,3,4,5,6,7] h
    rintro ⟨jE,jF,jG,jc⟩ ⟨v49,v50⟩ h
    refine rs ?_
    refine yn 2 ?_
    refine zB (z24 7 rfl) ?_
    refine z2V 7 rfl z1j (fun js hs132o=>?_)
    refine zt (t_lit [.agg #[.string (bs q36.1),.int .i64 r28.At,v50]] runUnderlying23 sizeOf76 zeroValue76 rfl (by decide) (by decide) rfl (by intro q hq; simp only [y1,y0,or_false] at hq; rcases hq with rfl <;> first | rfl | (rw [js]; rfl))) ?_
    rintro v131 _ ⟨rfl,_⟩
    refine zB (z1p (C:=zz) (l:=([(zL.mk q36.1 r28.At jc)]:List zL)) 8 [((zL.mk q36.1 r28.At jc),v50)] rfl (by simp only [yI,List.map_nil,js]; rfl) rfl (z1o (z1t 7 rfl z2u) z1x)) ?_
    obtain ⟨jI,h⟩:=zX h
    refine zt (z3P (C:=zz) 4 8 (by decide) rfl runUnderlying23 rfl runUnderlying23 typeInfo76 rfl (by decide) (by decide) zeroValue76 rfl rfl rfl rfl (z5I 8 rfl) jI) ?_
    rintro v133 _ rfl
    refine yn 4 ?_
    exact gj jd (_,_,_) [0,1,2,3,4,5] h
   ·refine yn 2 ?_
    refine cl1 [(7,0),(8,2)] call76 (fun h=>z13 h) h (fun r136 v138 h=>?_)
    refine yc 2 h (fun _ h=>?_) fun _ h=>?_
    ·refine zH (rj [0,2,3,4] [2,3,4,5,9,10] ?_)
     refine yn 2 ?_
     refine cp1 [(4,0),(5,2)] call77 (fun h=>z1v h) h (fun q142 v144 h=>?_) (hp:=fun e h=>by obtain rfl:=zU h; obtain rfl:=j0 _ rfl; obtain rfl:=zM j3; exact finP ⟨_,rfl,rfl⟩)
     refine ys ?_
     refine al fun b145=>?_
     refine ys ?_
     refine zd (jr h [0,2,3,8] [0,0,1,2,3,4,0,0] (fun s (g:V2)=>[]) (fun s g=>[box j1 [g.1,.int .i64 s.2.1,.int .i64 s.2.2.1],ro g.1 3 (s.1.map z6.enc),box b145 [.string (bs q142.1),.int .i64 r28.At,g.2,.slice none 0 0],row g.2 1 (s.2.2.2.map (eInt .i64))]) (fun _ h jJ _ jt=>?_) ?_)
     ·refine yn 2 ?_
      refine cl1 [(6,0),(7,2)] call76 (fun h=>z13 h) h (fun r156 v158 h=>?_)
      refine yc 1 h (fun _ h=>?_) fun _ h=>?_
      ·refine rj [0,2,3,8] [0,1,2,3,8,9,10] ?_
       refine yn 2 ?_
       obtain ⟨r160,ju,h⟩:=zJ h
       rcases r160 with q162 | e163
       rotate_left
       ·replace h:=z32 h
        refine z6M (wn rfl) rfl (tp [(5,0),(6,2)] call80 (z9D ju)) (by rintro _ _ ⟨_,⟨_,hq,_⟩,_⟩; cases hq) ?_
        rintro _ ⟨_,he,rfl⟩
        obtain rfl:=Pn.pan.inj he
        obtain rfl:=zU h
        obtain rfl:=zM jJ
        skip
        obtain rfl:=j0 _ rfl
        skip
        obtain rfl:=zM j3
        exact finP ⟨_,rfl,rfl⟩
       replace h:=z33 h
       refine zt (tc [(5,0),(6,2)] call80 (z5a (z9D ju))) ?_
       rintro v164 _ ⟨_,⟨_,v165,rfl,rfl⟩,rfl⟩
       refine yn 2 ?_
       exact gj jt (_,_) [9,8,0,1,2,3,4,7] h
      ·refine run_skip (z2G (nilrow 1) ?_)
       refine z2G (retell 11 (g:=row (.slice none 0 0) 1 (([]:List Int).map (eInt .i64))) rfl rfl) ?_
       exact gj jt (_,_) [10,9,0,1,2,3,8,11] h
     rintro ⟨jl,jm,jo,j5⟩ ⟨v150,v151⟩ h
     refine rs ?_
     refine yn 2 ?_
     obtain ⟨r167,jv,h⟩:=zJ h
     rcases r167 with q169 | e170
     rotate_left
     ·replace h:=z32 h
      refine z6M (wn rfl) rfl (tp [(1,0),(0,2)] call82 (z5o jv)) (by rintro _ _ ⟨_,⟨_,hq,_⟩,_⟩; cases hq) ?_
      rintro _ ⟨_,he,rfl⟩
      obtain rfl:=Pn.pan.inj he
      obtain rfl:=zU h
      obtain rfl:=j0 _ rfl
      skip
      obtain rfl:=zM j3
      exact finP ⟨_,rfl,rfl⟩
     replace h:=z33 h
     refine zt (tc [(1,0),(0,2)] call82 (z5a (z5o jv))) ?_
     rintro v171 _ ⟨_,⟨_,v172,rfl,rfl⟩,rfl⟩
     refine yn 3 ?_
     refine zB (Go.Abs.freeze 7 rfl) ?_
     refine zB (z24 8 rfl) ?_
     refine zcx 7 rfl z3N (fun jw hs175o=>?_)
     refine z2V 8 rfl z1j (fun jx hs176o=>?_)
     refine zt (t_lit [.agg #[.string (bs q142.1),.int .i64 r28.At,v151,v171]] runUnderlying24 sizeOf82 zeroValue82 rfl (by decide) (by decide) rfl (by intro q hq; simp only [y1,y0,or_false] at hq; rcases hq with rfl <;> first | rfl | (rw [jw]; rfl) | (rw [jx]; rfl))) ?_
     rintro v174 _ ⟨rfl,_⟩
     refine zB (z1p (C:=zw) (l:=([(zI.mk q142.1 r28.At j5 q169.1)]:List zI)) 11 [((zI.mk q142.1 r28.At j5 q169.1),(v151,v171))] rfl (by simp only [yI,List.map_nil,jw,jx]; rfl) rfl (z1o (z1t 7 rfl (z1t 8 rfl z2u)) z1x)) ?_
     obtain ⟨jK,h⟩:=zX h
     refine zt (z3P (C:=zw) 5 11 (by decide) rfl runUnderlying24 rfl runUnderlying24 typeInfo82 rfl (by decide) (by decide) zeroValue82 rfl rfl rfl rfl (z5I 11 rfl) jK) ?_
     rintro v177 _ rfl
     refine yn 4 ?_
     exact gj jd (_,_,_) [10,9,2,3,4,5] h
    ·refine rj [0,2,3] [2,3,4,5,9,10] ?_
     refine yn 2 ?_
     refine cp0 [(4,0),(5,2)] call74 (fun h=>z15 h) h (fun _ h=>?_) (hp:=fun e h=>by obtain rfl:=zU h; obtain rfl:=j0 _ rfl; obtain rfl:=zM j3; exact finP ⟨_,rfl,rfl⟩)
     refine yn 3 ?_
     exact gj jd (_,_,_) [6,4,0,1,2,3] h
  ·refine z1h _ rfl ?_
   exact gk jy j0 (_,_,_) [2,3,4,5,0,1] h
 rintro ⟨x_3,x_4,x_5,x_6,x_7⟩ ⟨v8,v9,v10⟩ h
 refine rs ?_
 refine yn 4 ?_
 exact fr [2,3,5,4] results33 h
def z4c (n:Nat) (s_0:(List UInt8)):Option (zG×z11):=
 obind (z4J n s_0) fun r3=>
 cond (decide (r3.2.E≠0))
  (some ((zG.mk ([]:List zL) ([]:List zI)),r3.2))
  (obind (z83 n r3.1) fun r9=>
  cond (decide (0≤r9))
   (idx r3.1 r9 fun x14=>
   some ((zG.mk ([]:List zL) ([]:List zI)),(z11.mk x14.At 2)))
   (obind (z2Z n (z7.mk r3.1 0 (s_0.length:Int))) fun r17=>
   pbind r17 (fun e20=>
    some ((zG.mk ([]:List zL) ([]:List zI)),(z11.mk e20 180))) fun q19=>
   bindJ (S:=Unit)
    (cond (decide (q19.2.i_ < (r3.1.length : Int)))
     (obind (z16 q19.2) fun r31=>
     pbind r31 (fun e34=>
      some (.stop ((zG.mk ([]:List zL) ([]:List zI)),(z11.mk e34 180)))) fun q33=>
     some (.go ()))
     (some (.go ())))
   (fun _ =>
    some (q19.1,(z11.mk 0 0)))))
theorem z79 {n:Nat} {s_0:(List UInt8)} {r:zG×z11} (h:z4c n s_0=some r) :
  Meets Tryz.prog 32 [.string (bs s_0),.func (.func 33) #[] #[]] [globA] (fun v G=>∃ v0 v1,v = .tuple #[.agg #[v0,v1],.agg #[.int .i64 r.2.At,.int .i64 r.2.E]]∧G=[nro v0 zz r.1.Policies,nro v1 zw r.1.Programs]):=by
 refine zcm func32 rfl ntmps32 rfl (fun w0 o0=>?_)
 refine zh (al fun b1=>?_)
 refine al fun b2=>?_
 refine yn 2 ?_
 refine cl1 [(0,0)] call15 (fun h=>z66 h) h (fun r3 v5 h=>?_)
 refine yn 2 ?_
 refine zH (rj [0,1,4,5,6] [0,1,2,3] ?_)
 refine yc 3 h (fun _ h=>?_) fun _ h=>?_
 ·refine zH (zcY (fun L7 hL8=>?_))
  refine rf [1,1,1,1] fun hS=>?_
  refine aq [0,1] ?_
  refine ast 2 ?_
  refine ast 3 ?_
  refine z1K (by kernel_rfl) ?_
  refine zay hL8 ?_
  refine yn 2 ?_
  refine z1k (zas zz) ?_
  refine z1k (zas zw) ?_
  obtain rfl:=zU h
  refine z4R [.cell 4 26,.cell 5 29] [.agg #[(.slice none 0 0),(.slice none 0 0)],.agg #[.int .i64 r3.2.At,.int .i64 r3.2.E]] [4,5] [nro (.slice none 0 0) zz ([]:List zL),nro (.slice none 0 0) zw ([]:List zI)] results32 rfl (rescons (z5H 1 isAgg26 sizeOf26 rfl rfl rfl) (rescons (z5H 2 isAgg29 sizeOf29 rfl rfl rfl) resnil)) (by decide) rfl ?_
  exact ⟨_,_,rfl,rfl⟩
 ·refine yn 4 ?_
  refine cl0 [(3,1)] call72 (fun h=>z9M h) h (fun r9 h=>?_)
  refine yc 4 h (fun _ h=>?_) fun _ h=>?_
  ·refine zH (rj [4,5,6,7] [0,1,2,3] ?_)
   refine zcY (fun L12 jy=>?_)
   refine rf [1,1,0,1] fun hS=>?_
   refine aq [0,1,2] ?_
   obtain ⟨x14,jX,jY,jZ,h⟩:=zP h
   refine aq [3,4,5,6] ?_
   refine ast 7 ?_
   refine ast 8 ?_
   refine z1K (by kernel_rfl) ?_
   refine zay jy ?_
   refine yn 2 ?_
   refine z1k (zas zz) ?_
   refine z1k (zas zw) ?_
   obtain rfl:=zU h
   refine z4R [.cell 4 26,.cell 5 29] [.agg #[(.slice none 0 0),(.slice none 0 0)],.agg #[.int .i64 x14.At,.int .i64 2]] [4,5] [nro (.slice none 0 0) zz ([]:List zL),nro (.slice none 0 0) zw ([]:List zI)] results32 rfl (rescons (z5H 1 isAgg26 sizeOf26 rfl rfl rfl) (rescons (z5H 2 isAgg29 sizeOf29 rfl rfl rfl) resnil)) (by decide) rfl ?_
   exact ⟨_,_,rfl,rfl⟩
  ·refine run_skip (zg (rj [0,1,4,5,6] [0,1,2,3] ?_))
   refine yn 2 ?_
   refine zet (wn rfl) rfl rfl rfl rfl ?_
   refine yn 2 ?_
   refine zB (Go.Abs.freeze 3 rfl) ?_
   refine lB fun b16=>?_
   refine ys ?_
   refine zc (rj [1,4,5,6,8] [0,1,2,3,4] ?_)
   refine yn 2 ?_
   obtain ⟨r17,jL,h⟩:=zJ h
   rcases r17 with q19 | e20
   rotate_left
   ·replace h:=z32 h
    refine z6M (wn rfl) rfl (tp [(3,0),(4,2)] call33 (z5g jL)) (by rintro _ _ ⟨_,⟨_,hq,_⟩,_⟩; cases hq) ?_
    rintro _ ⟨_,he,rfl⟩
    obtain rfl:=Pn.pan.inj he
    refine zaS call73 (zgz b1 b2 e20 1 2 rfl rfl rfl (by decide)) ?_
    refine z1k (zas zz) ?_
    refine z1k (zas zw) ?_
    obtain rfl:=zU h
    refine z4R [.cell 4 26,.cell 5 29] [.agg #[(.slice none 0 0),(.slice none 0 0)],.agg #[.int .i64 e20,.int .i64 180]] [5,6] [nro (.slice none 0 0) zz ([]:List zL),nro (.slice none 0 0) zw ([]:List zI)] results32 rfl (rescons (z5H 1 isAgg26 sizeOf26 rfl rfl rfl) (rescons (z5H 2 isAgg29 sizeOf29 rfl rfl rfl) resnil)) (by decide) rfl ?_
    exact ⟨_,_,rfl,rfl⟩
   replace h:=z33 h
   refine zt (tc [(3,0),(4,2)] call33 (z5a (z5g jL))) ?_
   rintro _ _ ⟨_,⟨v21,v22,v23,rfl,rfl⟩,rfl⟩
   refine zB (z24 5 rfl) ?_
   refine zB (z24 6 rfl) ?_
   refine ys ?_
   refine zd (jr h [4,5] [2,6,7,3,1] (fun s (g:Unit)=>[]) (fun s g=>[]) (fun _ h jW _ jM=>?_) ?_)
   ·refine yc 3 h (fun _ h=>?_) fun _ h=>?_
    ·refine rj [4,5,8] [0,1,2,5,6,7,8] ?_
     refine yn 2 ?_
     obtain ⟨r31,jN,h⟩:=zJ h
     rcases r31 with q33 | e34
     rotate_left
     ·replace h:=z32 h
      refine z6M (wn rfl) rfl (tp [(5,0),(6,2)] call74 (z15 jN)) (by rintro _ _ ⟨_,⟨_,hq,_⟩,_⟩; cases hq) ?_
      rintro _ ⟨_,he,rfl⟩
      obtain rfl:=Pn.pan.inj he
      refine zaS call73 (zgz b1 b2 e34 1 2 rfl rfl rfl (by decide)) ?_
      refine z1k (zas zz) ?_
      refine z1k (zas zw) ?_
      obtain rfl:=zU h
      obtain rfl:=zM jW
      refine z4R [.cell 4 26,.cell 5 29] [.agg #[(.slice none 0 0),(.slice none 0 0)],.agg #[.int .i64 e34,.int .i64 180]] [7,8] [nro (.slice none 0 0) zz ([]:List zL),nro (.slice none 0 0) zw ([]:List zI)] results32 rfl (rescons (z5H 1 isAgg26 sizeOf26 rfl rfl rfl) (rescons (z5H 2 isAgg29 sizeOf29 rfl rfl rfl) resnil)) (by decide) rfl ?_
      exact ⟨_,_,rfl,rfl⟩
     replace h:=z33 h
     refine zt (tc [(5,0),(6,2)] call74 (z5a (z15 jN))) ?_
     rintro _ _ ⟨_,⟨rfl,rfl⟩,rfl⟩
     exact zr (gj jM () [1,3,4,2,0] h)
    ·exact run_skip (gj jM () [1,5,6,2,0] h)
   rintro _ _ h
   refine rs ?_
   refine yn 4 ?_
   refine zeh call73 (zk1 b1 b2 _) ?_
   obtain rfl:=zU h
   refine z4R [.cell 4 26,.cell 5 29] [.agg #[v21,v22],.agg #[.int .i64 0,.int .i64 0]] [1,2] [nro v21 zz q19.1.Policies,nro v22 zw q19.1.Programs] results32 rfl (rescons (z5H 0 isAgg26 sizeOf26 rfl rfl rfl) (rescons (z5H 3 isAgg29 sizeOf29 rfl rfl rfl) resnil)) (by decide) rfl ?_
   exact ⟨_,_,rfl,rfl⟩
def z39 (n:Nat) (s_0:(List UInt8)):Option (zG×z11):=
 obind (z4c n s_0) fun r3=>
 some (r3.1,r3.2)
theorem z3m {n:Nat} {s_0:(List UInt8)} {r:zG×z11} (h:z39 n s_0=some r) :
  Meets Tryz.prog 12 [.string (bs s_0)] [globA] (fun v G=>∃ v0 v1,v = .tuple #[.agg #[v0,v1],.agg #[.int .i64 r.2.At,.int .i64 r.2.E]]∧G=[nro v0 zz r.1.Policies,nro v1 zw r.1.Programs]):=by
 refine zN func12 rfl ntmps12 rfl (fun w0 o0=>?_)
 refine zh (al fun b1=>?_)
 refine al fun b2=>?_
 refine yn 2 ?_
 refine cl2 [(0,0)] call32 (fun h=>z79 h) h (fun r3 v5 v6 h=>?_)
 refine yn 3 ?_
 exact fr [3,4] results12 h
def zbD (s_0:(List UInt8)):Option (zi):=
 some (zi.mk 1 0 s_0 ([]:List zi))
theorem zaU {s_0:(List UInt8)} {r:zi} (h:zbD s_0=some r) :
  Meets Tryz.prog 30 [.string (bs s_0)] [] (fun v G=>∃ v0,v = .agg #[.int .i64 r.Op,.int .i64 r.At,.string (bs r.S),v0]∧G=[nrow v0 zj r.Args]):=by
 refine zN func30 rfl ntmps30 rfl (fun w0 o0=>?_)
 refine zh (al fun b1=>?_)
 refine yn 4 ?_
 refine z1k (z1q zj) ?_
 exact fr [1] results30 h
def z2I (jj:Bool):Option (Pn (Unit)):=
 cond (!jj)
  (some (.pan 3))
  (some (.ret ()))
theorem z2a {jj:Bool} {r:Pn (Unit)} (h:z2I jj=some r) :
  z4t Tryz.prog 112 [.bool jj] [] (fun v G=>∃ q,r = .ret q∧(v = .tuple #[]∧G=[])) (fun v=>∃ e,r = .pan e∧v = .iface 27 (.int .i64 e)):=by
 refine z1y func112 rfl ntmps112 rfl (fun w0 o0=>?_)
 refine yc 3 h (fun _ h=>?_) fun _ h=>?_
 ·refine z8 (zq (zgc runUnderlying27 rfl rfl) ?_)
  refine zic _ (wn rfl) (zjX rfl) ?_
  obtain rfl:=zU h
  exact finP ⟨_,rfl,rfl⟩
 ·refine yn 2 ?_
  exact fs [] [] results112 h
end Go.Proofs.YtcmaoifiiigggaaGreatDoor
