/-
  Functions of the program, lifted: part 9.
-/
import Derived.Test.YtcmaoifiiigggaaGreatDoorV8Fh
set_option linter.unusedSimpArgs false
set_option linter.unusedVariables false
namespace Go.Proofs.YtcmaoifiiigggaaGreatDoor
open Go.Abs Tryz
set_option maxRecDepth 20000
set_option maxHeartbeats 4000000
def z41 (n:Nat) (r_0:z7) (s_1:zm):Option (Pn (z7×zm)):=
 bindJ (S:=(List z6)×Int×Int×Int×(List UInt8))
  (obind (z10 r_0 2 [115,116,97,116,117,115]) fun r11=>
  cond r11.1
   (some (.go (r11.2.l_,r11.2.i_,r11.2.at_,4,s_1.Name)))
   (obind (z10 r11.2 2 [104,101,97,100,101,114]) fun r15=>
   cond r15.1
    (obind (z1l r15.2 4) fun r19=>
    pbind r19 (fun e22=>
     some (.stop (.pan e22))) fun q21=>
    some (.go (q21.2.l_,q21.2.i_,q21.2.at_,3,q21.1)))
    (obind (z1l r15.2 1) fun r24=>
    pbind r24 (fun e27=>
     some (.stop (.pan e27))) fun q26=>
    some (.go (q26.2.l_,q26.2.i_,q26.2.at_,2,q26.1)))))
 (fun (x_1, x_2, x_3, x_4, x_5) =>
  obind (z2U n (z7.mk x_1 x_2 x_3)) fun r29=>
  pbind r29 (fun e32=>
   some (.pan e32)) fun q31=>
  some (.ret (q31.2,(zm.mk x_4 s_1.At x_5 q31.1 s_1.Body s_1.Else))))
theorem z8U {n:Nat}:K38 (z41 n) 188:=by
 intro r_0 s_1 j4 j3 j5 j0 j1 j2 r h
 refine z1y func188 rfl ntmps188 rfl (fun w0 o0=>?_)
 refine jr h [0,1] [0,0,0,3,4,5] (fun s (g:Value)=>[]) (fun s g=>[box j4 [g,.int .i64 s.2.1,.int .i64 s.2.2.1],ro g 3 (s.1.map z6.enc),box j5 [.int .i64 s.2.2.2.1,.int .i64 s_1.At,.string (bs s.2.2.2.2),.int .i64 s_1.X.Op,.int .i64 s_1.X.At,.string (bs s_1.X.S),j0,j1,j2]]) (fun _ h ho8 _ hL9=>?_) ?_
 ·refine yn 3 ?_
  refine cl1 [(0,0),(1,2)] call76 (fun h=>z13 h) h (fun r11 v13 h=>?_)
  refine yc 2 h (fun _ h=>?_) fun _ h=>?_
  ·refine yn 4 ?_
   exact gj hL9 _ [7,6,5,2,3,4] h
  ·refine yn 2 ?_
   refine cl1 [(6,0),(7,2)] call76 (fun h=>z13 h) h (fun r15 v17 h=>?_)
   refine yc 2 h (fun _ h=>?_) fun _ h=>?_
   ·refine yn 2 ?_
    refine cp1 [(8,0),(9,2)] call77 (fun h=>z1v h) h (fun q21 v23 h=>?_) (hp:=fun e h=>by obtain rfl:=zU h; obtain rfl:=zM ho8; exact finP ⟨_,rfl,rfl⟩)
    refine yn 3 ?_
    exact gj hL9 _ [11,10,5,2,3,4] h
   ·refine yn 2 ?_
    refine cp1 [(8,0),(9,2)] call77 (fun h=>z1v h) h (fun q26 v28 h=>?_) (hp:=fun e h=>by obtain rfl:=zU h; obtain rfl:=zM ho8; exact finP ⟨_,rfl,rfl⟩)
    refine yn 3 ?_
    exact gj hL9 _ [11,10,5,2,3,4] h
 rintro ⟨x_1,x_2,x_3,x_4,x_5⟩ v6 h
 refine rs ?_
 refine yn 2 ?_
 refine cp2 [(1,0),(0,2)] call216 (fun h=>z56 h) h (fun q31 v33 v34 h=>?_)
 refine yn 3 ?_
 exact fs [] [7,8,6,4,5,2] results188 h
def z3E (n:Nat) (q8r:z7→Option (Pn ((List zm)×z7))) (q9r:z7→Option (Pn (zm×z7))) (r_0:z7) (s_1:zm):Option (Pn (z7×zm)):=
 obind (z18 n r_0) fun r1=>
 pbind r1 (fun e4=>
  some (.pan e4)) fun q3=>
 obind (q8r q3.2) fun r8=>
 pbind r8 (fun e11=>
  some (.pan e11)) fun q10=>
 obind (z10 q10.2 2 [101,108,115,101]) fun r15=>
 cond (!r15.1)
  (some (.ret (r15.2,(zm.mk 5 s_1.At s_1.Name q3.1 q10.1 s_1.Else))))
  (obind (z3v r15.2 2 [105,102]) fun r19=>
  cond r19
   (obind (q9r r15.2) fun r22=>
   pbind r22 (fun e25=>
    some (.pan e25)) fun q24=>
   some (.ret (q24.2,(zm.mk 5 s_1.At s_1.Name q3.1 q10.1 ([q24.1]:List zm)))))
   (obind (q8r r15.2) fun r35=>
   pbind r35 (fun e38=>
    some (.pan e38)) fun q37=>
   some (.ret (q37.2,(zm.mk 5 s_1.At s_1.Name q3.1 q10.1 q37.1)))))
theorem z7U {n:Nat} {q8r:z7→Option (Pn ((List zm)×z7))} {q9r:z7→Option (Pn (zm×z7))} (q10h:K10 q8r 82) (q11h:K11 q9r 145):K38 (z3E n q8r q9r) 189:=by
 intro r_0 s_1 j4 j3 j5 j0 j1 j2 r h
 refine z1y func189 rfl ntmps189 rfl (fun w0 o0=>?_)
 refine yn 2 ?_
 obtain ⟨r1,hr2,h⟩:=zJ h
 rcases r1 with q3 | e4
 rotate_left
 ·replace h:=z32 h
  refine z6M (wn rfl) rfl (tp [(0,0),(1,2)] call48 (z2t hr2)) (by rintro _ _ ⟨_,⟨_,hq,_⟩,_⟩; cases hq) ?_
  rintro _ ⟨_,he,rfl⟩
  obtain rfl:=Pn.pan.inj he
  obtain rfl:=zU h
  exact finP ⟨_,rfl,rfl⟩
 replace h:=z33 h
 refine zt (tc [(0,0),(1,2)] call48 (z5a (z2t hr2))) ?_
 rintro _ _ ⟨_,⟨v5,v6,rfl,rfl⟩,rfl⟩
 refine ys ?_
 refine zc (rj [0,1] [2,3,4,5,6,7,8] ?_)
 refine yn 2 ?_
 obtain ⟨r8,hr9,h⟩:=zJ h
 rcases r8 with q10 | e11
 rotate_left
 ·replace h:=z32 h
  refine z6M (wn rfl) rfl (tp [(5,0),(6,2)] call82 (q10h hr9)) (by rintro _ _ ⟨_,⟨_,hq,_⟩,_⟩; cases hq) ?_
  rintro _ ⟨_,he,rfl⟩
  obtain rfl:=Pn.pan.inj he
  obtain rfl:=zU h
  exact finP ⟨_,rfl,rfl⟩
 replace h:=z33 h
 refine zt (tc [(5,0),(6,2)] call82 (z5a (q10h hr9))) ?_
 rintro v12 _ ⟨_,⟨_,v13,rfl,rfl⟩,rfl⟩
 refine yn 4 ?_
 refine cl1 [(8,0),(9,2)] call76 (fun h=>z13 h) h (fun r15 v17 h=>?_)
 refine yc 2 h (fun _ h=>?_) fun _ h=>?_
 ·refine zA ?_
  exact fs [] [10,11,4,7,2,3] results189 h
 ·refine yn 2 ?_
  refine zH (rj [0,1] [0,1,2,3,4,7,10,11] ?_)
  refine yn 2 ?_
  refine cl0 [(6,0),(7,2)] call142 (fun h=>z5P h) h (fun r19 h=>?_)
  refine yc 1 h (fun _ h=>?_) fun _ h=>?_
  ·refine yn 2 ?_
   refine cp4 [(6,0),(8,2)] call145 (fun h=>q11h h) h (fun q24 v26 v27 v28 v29 h=>?_)
   refine zB (z24 9 rfl) ?_
   refine zB (z24 10 rfl) ?_
   refine zB (z24 11 rfl) ?_
   refine z2V 9 rfl z1j (fun j6 hs31o=>?_)
   refine z2V 10 rfl z1j (fun j7 hs32o=>?_)
   refine z2V 11 rfl z1j (fun j8 hs33o=>?_)
   refine zt (t_lit [.agg #[.int .i64 q24.1.Kind,.int .i64 q24.1.At,.string (bs q24.1.Name),.int .i64 q24.1.X.Op,.int .i64 q24.1.X.At,.string (bs q24.1.X.S),v26,v27,v28]] runUnderlying80 sizeOf84 zeroValue84 rfl (by decide) (by decide) rfl (by intro q hq; simp only [y1,y0,or_false] at hq; rcases hq with rfl <;> first | rfl | (rw [j6]; rfl) | (rw [j7]; rfl) | (rw [j8]; rfl))) ?_
   rintro v30 _ ⟨rfl,_⟩
   refine zB (z1p (C:=zE) (l:=([q24.1]:List zm)) 14 [(q24.1,(v26,v27,v28))] rfl (by simp only [yI,List.map_nil,j6,j7,j8]; rfl) rfl (z1o (z2P (T:=z1S) (z1t 9 rfl (z1t 10 rfl (z1t 11 rfl z2u)))) z1x)) ?_
   refine yn 3 ?_
   exact fs [] [12,13,4,5,14,3] results189 h
  ·refine yn 3 ?_
   obtain ⟨r35,j9,h⟩:=zJ h
   rcases r35 with q37 | e38
   rotate_left
   ·replace h:=z32 h
    refine z6M (wn rfl) rfl (tp [(6,0),(8,2)] call82 (q10h j9)) (by rintro _ _ ⟨_,⟨_,hq,_⟩,_⟩; cases hq) ?_
    rintro _ ⟨_,he,rfl⟩
    obtain rfl:=Pn.pan.inj he
    obtain rfl:=zU h
    exact finP ⟨_,rfl,rfl⟩
   replace h:=z33 h
   refine zt (tc [(6,0),(8,2)] call82 (z5a (q10h j9))) ?_
   rintro v39 _ ⟨_,⟨_,v40,rfl,rfl⟩,rfl⟩
   refine yn 3 ?_
   exact fs [] [10,11,4,5,9,3] results189 h
def z3G (q8r:z7→Option (Pn ((List zm)×z7))) (r_0:z7) (s_1:zm):Option (Pn (z7×zm)):=
 obind (z1a r_0) fun r1=>
 obind (z1l r_0 3) fun r3=>
 pbind r3 (fun e6=>
  some (.pan e6)) fun q5=>
 obind (q8r q5.2) fun r8=>
 pbind r8 (fun e11=>
  some (.pan e11)) fun q10=>
 some (.ret (q10.2,(zm.mk 6 s_1.At s_1.Name (zi.mk 1 r1.At q5.1 ([]:List zi)) q10.1 s_1.Else)))
theorem z7Y {q8r:z7→Option (Pn ((List zm)×z7))} (q10h:K10 q8r 82):K38 (z3G q8r) 190:=by
 intro r_0 s_1 j4 j3 j5 j0 j1 j2 r h
 refine z1y func190 rfl ntmps190 rfl (fun w0 o0=>?_)
 refine yn 2 ?_
 refine cl0 [(0,0),(1,2)] call75 (fun h=>z1e h) h (fun r1 h=>?_)
 refine yn 3 ?_
 refine cp1 [(0,0),(6,2)] call77 (fun h=>z1v h) h (fun q5 v7 h=>?_)
 refine ys ?_
 refine zd (rj [0,1] [2,3,4,5,7,8] ?_)
 refine yn 2 ?_
 obtain ⟨r8,hr9,h⟩:=zJ h
 rcases r8 with q10 | e11
 rotate_left
 ·replace h:=z32 h
  refine z6M (wn rfl) rfl (tp [(4,0),(5,2)] call82 (q10h hr9)) (by rintro _ _ ⟨_,⟨_,hq,_⟩,_⟩; cases hq) ?_
  rintro _ ⟨_,he,rfl⟩
  obtain rfl:=Pn.pan.inj he
  obtain rfl:=zU h
  exact finP ⟨_,rfl,rfl⟩
 replace h:=z33 h
 refine zt (tc [(4,0),(5,2)] call82 (z5a (q10h hr9))) ?_
 rintro v12 _ ⟨_,⟨_,v13,rfl,rfl⟩,rfl⟩
 refine yn 3 ?_
 refine z1k (z1q zj) ?_
 exact fs [] [7,8,9,6,2,3] results190 h
def z3Z (n:Nat) (r_0:z7) (s_1:zm):Option (Pn (z7×zm)):=
 obind (z2d n r_0) fun r1=>
 pbind r1 (fun e4=>
  some (.pan e4)) fun q3=>
 some (.ret (q3.2,(zm.mk 7 s_1.At s_1.Name q3.1 s_1.Body s_1.Else)))
theorem z8S {n:Nat}:K38 (z3Z n) 191:=by
 intro r_0 s_1 j4 j3 j5 j0 j1 j2 r h
 refine z1y func191 rfl ntmps191 rfl (fun w0 o0=>?_)
 refine yn 2 ?_
 refine cp2 [(0,0),(1,2)] call217 (fun h=>z3g h) h (fun q3 v5 v6 h=>?_)
 refine yn 3 ?_
 exact fs [] [7,8,6,3,4,5] results191 h
def z3R (n:Nat) (r_0:z7) (s_1:zm):Option (Pn (z7×zm)):=
 obind (z2d n r_0) fun r1=>
 pbind r1 (fun e4=>
  some (.pan e4)) fun q3=>
 some (.ret (q3.2,(zm.mk 8 s_1.At s_1.Name q3.1 s_1.Body s_1.Else)))
theorem z8J {n:Nat}:K38 (z3R n) 192:=by
 intro r_0 s_1 j4 j3 j5 j0 j1 j2 r h
 refine z1y func192 rfl ntmps192 rfl (fun w0 o0=>?_)
 refine yn 2 ?_
 refine cp2 [(0,0),(1,2)] call217 (fun h=>z3g h) h (fun q3 v5 v6 h=>?_)
 refine yn 3 ?_
 exact fs [] [7,8,6,3,4,5] results192 h
def z3L (n:Nat) (r_0:z7) (s_1:zm):Option (Pn (z7×zm)):=
 obind (z2d n r_0) fun r1=>
 pbind r1 (fun e4=>
  some (.pan e4)) fun q3=>
 some (.ret (q3.2,(zm.mk 9 s_1.At s_1.Name q3.1 s_1.Body s_1.Else)))
theorem z8a {n:Nat}:K38 (z3L n) 193:=by
 intro r_0 s_1 j4 j3 j5 j0 j1 j2 r h
 refine z1y func193 rfl ntmps193 rfl (fun w0 o0=>?_)
 refine yn 2 ?_
 refine cp2 [(0,0),(1,2)] call217 (fun h=>z3g h) h (fun q3 v5 v6 h=>?_)
 refine yn 3 ?_
 exact fs [] [7,8,6,3,4,5] results193 h
end Go.Proofs.YtcmaoifiiigggaaGreatDoor
