/-
  Functions of the program, lifted: part 7.
-/
import Derived.Test.YtcmaoifiiigggaaGreatDoorV8Ff
set_option linter.unusedSimpArgs false
set_option linter.unusedVariables false
namespace Go.Proofs.YtcmaoifiiigggaaGreatDoor
open Go.Abs Tryz
set_option maxRecDepth 20000
set_option maxHeartbeats 4000000
def z5d (n:Nat) (q2r:z7→Option (Pn (zi×z7))) (r_0:z7) (j2:Int) (j8:Int):Option (Pn (zi×z7)):=
 zli n (z3w n q2r) r_0 j2 j8
theorem z7e {n:Nat} {q2r:z7→Option (Pn (zi×z7))} (q3h:K9 q2r 48) {r_0:z7} {j2:Int} {j8:Int} {j0:Nat} {j1:Value} {r:Pn (zi×z7)} (h:z5d n q2r r_0 j2 j8=some r) :
  z4t Tryz.prog 107 [boxP j0 0,.int .i64 j2,.int .i64 j8,.func (.func 252) #[boxP j0 0] #[]] [ro j1 3 (r_0.l_.map z6.enc),box j0 [j1,.int .i64 r_0.i_,.int .i64 r_0.at_]] (fun v G=>∃ q,r = .ret q∧(∃ v0 v1,v = .agg #[.int .i64 q.1.Op,.int .i64 q.1.At,.string (bs q.1.S),v0]∧G=[nrow v0 zj q.1.Args,ro v1 3 (q.2.l_.map z6.enc),box j0 [v1,.int .i64 q.2.i_,.int .i64 q.2.at_]])) (fun v=>∃ e,r = .pan e∧v = .iface 29 (.agg #[.int .i64 e,.int .i64 180])):=
 zfW call252 (z7x q3h) h
def z3f (n:Nat) (q2r:z7→Option (Pn (zi×z7))) (r_0:z7):Option (Pn (zi×z7)):=
 obind (z5d n q2r r_0 10 11) fun r2=>
 pbind r2 (fun e5=>
  some (.pan e5)) fun q4=>
 some (.ret (q4.1,q4.2))
theorem z5v {n:Nat} {q2r:z7→Option (Pn (zi×z7))} (q3h:K9 q2r 48):K9 (z3f n q2r) 238:=by
 intro r_0 j0 j1 r h
 refine z1y func238 rfl ntmps238 rfl (fun w0 o0=>?_)
 refine zh (al fun b1=>?_)
 refine yn 2 ?_
 refine cp2 [(0,0),(1,2)] call107 (fun h=>z7e q3h h) h (fun q4 v6 v7 h=>?_)
 refine yn 3 ?_
 exact fr [3,4,5] results238 h
def z2z (q2r:z7→Option (Pn (zi×z7))):((List zi)×(List z6)×Int×Int)→Option (Lp ((List zi)×(List z6)×Int×Int) (Lp ((List zi)×(List z6)×Int×Int) (Pn ((List zi)×z7)))):=
 fun (j4,jk,jl,jm)=>
  obind (z10 (z7.mk jk jl jm) 5 [44]) fun r29=>
  cond r29.1
   (obind (q2r r29.2) fun r33=>
   pbind r33 (fun e36=>
    some (.stop (.stop (.pan e36)))) fun q35=>
   need (j4.length+([q35.1]:List zi).length≤4294967296) (
   some (.go ((j4++([q35.1]:List zi)),q35.2.l_,q35.2.i_,q35.2.at_))))
   (some (.stop (.go (j4,r29.2.l_,r29.2.i_,r29.2.at_))))
def z3p (n:Nat) (q2r:z7→Option (Pn (zi×z7))) (r_0:z7):Option (Pn ((List zi)×z7)):=
 obind (q2r r_0) fun r1=>
 pbind r1 (fun e4=>
  some (.pan e4)) fun q3=>
 bindJ (S:=(List zi)×(List z6)×Int×Int)
  (iter (z2z q2r) n (([q3.1]:List zi),q3.2.l_,q3.2.i_,q3.2.at_))
 (fun (ja, jb, jc, jd) =>
  some (.ret (ja,(z7.mk jb jc jd))))
theorem z29 {n:Nat} {q2r:z7→Option (Pn (zi×z7))} (q3h:K9 q2r 48) {r_0:z7} {j0:Nat} {j1:Value} {r:Pn ((List zi)×z7)} (h:z3p n q2r r_0=some r) :
  z4t Tryz.prog 239 [boxP j0 0,.func (.func 48) #[boxP j0 0] #[]] [ro j1 3 (r_0.l_.map z6.enc),box j0 [j1,.int .i64 r_0.i_,.int .i64 r_0.at_]] (fun v G=>∃ q,r = .ret q∧(∃ v0 v1,v=v0∧G=[nrow v0 zj q.1,ro v1 3 (q.2.l_.map z6.enc),box j0 [v1,.int .i64 q.2.i_,.int .i64 q.2.at_]])) (fun v=>∃ e,r = .pan e∧v = .iface 29 (.agg #[.int .i64 e,.int .i64 180])):=by
 refine z1y func239 rfl ntmps239 rfl (fun w0 o0=>?_)
 refine yn 4 ?_
 refine cp2 [(0,0),(1,2)] call48 (fun h=>q3h h) h (fun q3 v5 v6 h=>?_)
 refine zB (z24 2 rfl) ?_
 refine z2V 2 rfl z1j (fun hs8 hs8o=>?_)
 refine zt (t_lit [.agg #[.int .i64 q3.1.Op,.int .i64 q3.1.At,.string (bs q3.1.S),v5]] runUnderlying45 sizeOf47 zeroValue47 rfl (by decide) (by decide) rfl (by intro q hq; simp only [y1,y0,or_false] at hq; rcases hq with rfl <;> first | rfl | (rw [hs8]; rfl))) ?_
 rintro v7 _ ⟨rfl,_⟩
 refine zB (z1p (C:=zj) (l:=([q3.1]:List zi)) 5 [(q3.1,v5)] rfl (by simp only [yI,List.map_nil,hs8]; rfl) rfl (z1o (z2P (T:=z1b) (z1t 2 rfl z2u)) z1x)) ?_
 refine ys ?_
 refine zd (jr h [] [0,0,0] (fun s (g:V2)=>[(5,g.1)]) (fun s g=>[nrow g.1 zj s.1,box j0 [g.2,.int .i64 s.2.2.1,.int .i64 s.2.2.2],ro g.2 3 (s.2.1.map z6.enc)]) (fun _ h jo _ jp=>?_) ?_)
 ·refine zF (lo h [0,1] [0,0,0] (fun s (g:V2)=>[(5,g.1)]) (fun s g=>[nrow g.1 zj s.1,box j0 [g.2,.int .i64 s.2.2.1,.int .i64 s.2.2.2],ro g.2 3 (s.2.1.map z6.enc)]) (_,_) [5,4,3] ?_)
  rintro ⟨_,_,_,_⟩ ⟨_,_⟩ _ h _ je j5
  refine rs ?_
  refine yn 3 ?_
  refine cl1 [(2,0),(1,2)] call76 (fun h=>z13 h) h (fun r29 v31 h=>?_)
  refine yc 1 h (fun _ h=>?_) fun _ h=>?_
  ·refine yn 5 ?_
   refine cp2 [(3,0),(4,2)] call48 (fun h=>q3h h) h (fun q35 v37 v38 h=>?_) (hp:=fun e h=>by obtain rfl:=zU h; obtain rfl:=j5 _ rfl; obtain rfl:=zM jo; exact finP ⟨_,rfl,rfl⟩)
   refine zB (z24 5 rfl) ?_
   refine z2V 5 rfl z1j (fun jf hs40o=>?_)
   refine zt (t_lit [.agg #[.int .i64 q35.1.Op,.int .i64 q35.1.At,.string (bs q35.1.S),v37]] runUnderlying45 sizeOf47 zeroValue47 rfl (by decide) (by decide) rfl (by intro q hq; simp only [y1,y0,or_false] at hq; rcases hq with rfl <;> first | rfl | (rw [jf]; rfl))) ?_
   rintro v39 _ ⟨rfl,_⟩
   refine zB (z1p (C:=zj) (l:=([q35.1]:List zi)) 8 [(q35.1,v37)] rfl (by simp only [yI,List.map_nil,jf]; rfl) rfl (z1o (z2P (T:=z1b) (z1t 5 rfl z2u)) z1x)) ?_
   obtain ⟨jq,h⟩:=zX h
   refine zt (z3P (C:=zj) 0 8 (by decide) rfl runUnderlying45 rfl runUnderlying45 typeInfo47 rfl (by decide) (by decide) zeroValue47 rfl rfl rfl rfl (z5I 8 rfl) jq) ?_
   rintro v41 _ rfl
   refine yn 3 ?_
   exact gj je (_,_) [0,7,6] h
  ·refine z1h _ rfl ?_
   exact gk jp j5 (_,_) [0,4,3] h
 rintro ⟨ja,jb,jc,jd⟩ ⟨v13,v14⟩ h
 refine rs ?_
 refine yn 4 ?_
 exact fs [4] [0,2,1] results239 h
def z3S (n:Nat) (q2r:z7→Option (Pn (zi×z7))) (r_0:z7):Option (Pn (zi×z7)):=
 obind (z3f n q2r r_0) fun r2=>
 pbind r2 (fun e5=>
  some (.pan e5)) fun q4=>
 obind (z1a q4.2) fun r10=>
 obind (z2J q4.2 15 20) fun r12=>
 cond (decide (0<r12))
  (obind (z3f n q2r (z7.mk q4.2.l_ (IntKind.i64.wrap (q4.2.i_+1)) q4.2.at_)) fun r15=>
  pbind r15 (fun e18=>
   some (.pan e18)) fun q17=>
  some (.ret ((zi.mk r12 r10.At [] ([q4.1,q17.1]:List zi)),q17.2)))
  (obind (z10 q4.2 2 [105,110]) fun r26=>
  cond (!r26.1)
   (some (.ret (q4.1,r26.2)))
   (obind (z19 r26.2 5 [40]) fun r31=>
   pbind r31 (fun e34=>
    some (.pan e34)) fun q33=>
   obind (z3p n q2r q33) fun r38=>
   pbind r38 (fun e41=>
    some (.pan e41)) fun q40=>
   need (([q4.1]:List zi).length+q40.1.length≤4294967296) (
   obind (z19 q40.2 5 [41]) fun r72=>
   pbind r72 (fun e75=>
    some (.pan e75)) fun q74=>
   some (.ret ((zi.mk 23 r10.At [] (([q4.1]:List zi)++q40.1)),q74)))))
theorem z8K {n:Nat} {q2r:z7→Option (Pn (zi×z7))} (q3h:K9 q2r 48):K9 (z3S n q2r) 210:=by
 intro r_0 j0 j1 r h
 refine z1y func210 rfl ntmps210 rfl (fun w0 o0=>?_)
 refine zh (al fun b1=>?_)
 refine yn 2 ?_
 refine cp2 [(0,0),(1,2)] call238 (fun h=>z5v q3h h) h (fun q4 v6 v7 h=>?_)
 refine al fun b8=>?_
 refine yn 3 ?_
 refine cl0 [(4,0),(5,2)] call75 (fun h=>z1e h) h (fun r10 h=>?_)
 refine yn 2 ?_
 refine zH (rj [0,2,3,4] [2,3,4,6,7] ?_)
 refine yn 2 ?_
 refine cl0 [(2,0),(4,2)] call169 (fun h=>z4P h) h (fun r12 h=>?_)
 refine yc 4 h (fun _ h=>?_) fun _ h=>?_
 ·refine yn 2 ?_
  refine zc (rj [0,2,3,4,5] [0,1,2,3,5] ?_)
  refine rf [0,0,1,1] fun hS=>?_
  refine aq [0,1,2,3] ?_
  refine ap2 4 [(2,0),(4,2)] call238 (fun h=>z5v q3h h) h (fun q17 v19 v20 h=>?_)
  refine ao 5 ?_
  refine z3n (z24 1 rfl) ?_
  refine z3n (z24 5 rfl) ?_
  refine z1J 1 rfl z1j (fun j7 hs22o=>?_)
  refine z1J 5 rfl z1j (fun jg hs23o=>?_)
  refine at' rfl (t_lit [.agg #[.int .i64 q4.1.Op,.int .i64 q4.1.At,.string (bs q4.1.S),v6],.agg #[.int .i64 q17.1.Op,.int .i64 q17.1.At,.string (bs q17.1.S),v19]] runUnderlying45 sizeOf47 zeroValue47 rfl (by decide) (by decide) rfl (by intro q hq; simp only [y1,y0,or_false] at hq; rcases hq with rfl | rfl <;> first | rfl | (rw [j7]; rfl) | (rw [jg]; rfl))) ?_
  rintro v21 _ ⟨rfl,_⟩
  refine sb ?_
  refine z1B (z1p (C:=zj) (l:=([q4.1,q17.1]:List zi)) 8 [(q4.1,v6),(q17.1,v19)] rfl (by simp only [yI,List.map_nil,j7,jg]; rfl) rfl (z1o (z2P (T:=z1b) (z1t 1 rfl z2u)) (z1o (z2P (T:=z1b) (z1t 5 rfl z2u)) z1x))) ?_
  refine ao 6 ?_
  refine ty ?_
  refine ast 7 ?_
  refine z1K (by kernel_rfl) ?_
  refine yn 2 ?_
  exact fr [8,6,7] results210 h
 ·refine yn 4 ?_
  refine cl1 [(2,0),(5,2)] call76 (fun h=>z13 h) h (fun r26 v28 h=>?_)
  refine yc 2 h (fun _ h=>?_) fun _ h=>?_
  ·refine zH (rj [2,3] [0,1,3,6,7] ?_)
   refine yn 4 ?_
   exact fr [1,3,4] results210 h
  ·refine run_skip (zg (rj [0,2,3,4] [0,1,3,6,7] ?_))
   refine yn 2 ?_
   refine cp1 [(3,0),(4,2)] call78 (fun h=>z1u h) h (fun q33 v35 h=>?_)
   refine zc ?_
   obtain ⟨r38,j6,h⟩:=zJ h
   rcases r38 with q40 | e41
   rotate_left
   ·replace h:=z32 h
    refine rf [1,0,0,1,0,1] fun hS=>?_
    refine aq [0,3,4,5] ?_
    refine a2 [6,4] 4 [0,2,3,35,38,40] [1,0,3,4,5,6,7,0] (fun (s:Value)=>[(37,s)]) (fun s=>[nro v6 zj q4.1.Args,nrow s zj ([q4.1]:List zi)]) ?_ (fun hK50=>?_)
    ·rintro v48
     refine az ?_
     refine zK [6] (by kernel_rfl) rfl ?_
     refine zk ?_ ?_
     ·refine zfL rfl (wn rfl) rfl (zf2 (vs:=[boxP j0 0,.func (.func 48) #[boxP j0 0] #[]]) (cs:=[]) [(5,0),(6,2)] rfl call239 rfl (z29 q3h j6) (z3U 5 rfl z6h (z2f 6 rfl z3r)) rfl (.inl rfl)) (by rintro _ _ ⟨_,⟨_,hq,_⟩,_⟩; cases hq) ?_
      rintro _ ⟨_,he,rfl⟩
      obtain rfl:=Pn.pan.inj he
      obtain rfl:=zU h
      exact finP ⟨_,rfl,rfl⟩
     exact zC
    refine a2 [2,1,3,4] 5 [0,2,3,35,38,40] [1,2,3,4,5,6,7] (fun (s:Unit)=>[(36,.agg #[.int .i64 q4.1.Op,.int .i64 q4.1.At,.string (bs q4.1.S),v6])]) (fun s=>[]) ?_ (fun hK53=>?_)
    ·rintro _
     refine az ?_
     refine zK [2,6] (by kernel_rfl) rfl ?_
     refine zk ?_ ?_
     ·refine z3n (z24 1 rfl) ?_
      refine z1J 1 rfl z1j (fun jh hs55o=>?_)
      refine at' rfl (t_lit [.agg #[.int .i64 q4.1.Op,.int .i64 q4.1.At,.string (bs q4.1.S),v6]] runUnderlying45 sizeOf47 zeroValue47 rfl (by decide) (by decide) rfl (by intro q hq; simp only [y1,y0,or_false] at hq; rcases hq with rfl <;> first | rfl | (rw [jh]; rfl))) ?_
      rintro v54 _ ⟨rfl,_⟩
      refine sb ?_
      refine z1B (z1p (C:=zj) (l:=([q4.1]:List zi)) 7 [(q4.1,v6)] rfl (by simp only [yI,List.map_nil,jh]; rfl) rfl (z1o (z2P (T:=z1b) (z1t 1 rfl z2u)) z1x)) ?_
      exact aw (hK50 v54) [0,1,2,3,4,5,6,7]
     refine zk ?_ ?_
     ·refine zfL rfl (wn rfl) rfl (zf2 (vs:=[boxP j0 0,.func (.func 48) #[boxP j0 0] #[]]) (cs:=[]) [(5,0),(6,2)] rfl call239 rfl (z29 q3h j6) (z3U 5 rfl z6h (z2f 6 rfl z3r)) rfl (.inl rfl)) (by rintro _ _ ⟨_,⟨_,hq,_⟩,_⟩; cases hq) ?_
      rintro _ ⟨_,he,rfl⟩
      obtain rfl:=Pn.pan.inj he
      obtain rfl:=zU h
      exact finP ⟨_,rfl,rfl⟩
     exact zC
    refine zK [1,6] (by kernel_rfl) rfl ?_
    refine zk ?_ ?_
    ·refine ty ?_
     exact aw (hK53 ()) [0,1,2,3,4,5,6]
    refine zk ?_ ?_
    ·refine zfL rfl (wn rfl) rfl (zf2 (vs:=[boxP j0 0,.func (.func 48) #[boxP j0 0] #[]]) (cs:=[]) [(5,0),(6,2)] rfl call239 rfl (z29 q3h j6) (z3U 5 rfl z6h (z2f 6 rfl z3r)) rfl (.inl rfl)) (by rintro _ _ ⟨_,⟨_,hq,_⟩,_⟩; cases hq) ?_
     rintro _ ⟨_,he,rfl⟩
     obtain rfl:=Pn.pan.inj he
     obtain rfl:=zU h
     exact finP ⟨_,rfl,rfl⟩
    exact zC
   replace h:=z33 h
   obtain ⟨js,h⟩:=zX h
   refine rf [1,0,0,1,0,1] fun hS=>?_
   refine aq [0,3,4,5] ?_
   refine a2 [10] 0 [0,2,3] [1,0,0,4,5,6,0,0,0,0,0] (fun (s:Value×Value×Value)=>[]) (fun s=>[nro v6 zj q4.1.Args,box b8 [.int .i64 23,.int .i64 r10.At,.string (bs []),s.1],HA.emp,nrow s.1 zj (([q4.1]:List zi)++q40.1),nrow s.2.1 zj q40.1,ro s.2.2 3 (q40.2.l_.map z6.enc),box j0 [s.2.2,.int .i64 q40.2.i_,.int .i64 q40.2.at_]]) ?_ (fun hK71=>?_)
   ·rintro ⟨v68,v66,v67⟩
    refine az ?_
    refine z1K (by kernel_rfl) ?_
    refine yn 2 ?_
    refine cp1 [(9,0),(10,2)] call78 (fun h=>z1u h) h (fun q74 v76 h=>?_)
    refine yn 4 ?_
    exact fr [7,11,12] results210 h
   refine a2 [9,1] 1 [0,2,3] [1,0,3,4,5,6,0,0,0,0,0] (fun (s:Value×Value×Value)=>[(43,.agg #[.int .i64 23,.int .i64 r10.At,.string (bs []),s.1])]) (fun s=>[nro v6 zj q4.1.Args,HA.emp,nrow s.1 zj (([q4.1]:List zi)++q40.1),nrow s.2.1 zj q40.1,ro s.2.2 3 (q40.2.l_.map z6.enc),box j0 [s.2.2,.int .i64 q40.2.i_,.int .i64 q40.2.at_]]) ?_ (fun hK78=>?_)
   ·rintro ⟨v68,v66,v67⟩
    refine az ?_
    refine zK [9] (by kernel_rfl) rfl ?_
    refine zk ?_ ?_
    ·refine z1J 7 rfl z4N (fun jt hs79o=>?_)
     refine at' rfl (z55 2 sizeOf47 rfl rfl rfl rfl (by simp [Value.cells,boxP]) (z1s rfl (z1s rfl (z1s rfl (z1s hs79o (z6b)))))) ?_
     rintro _ _ ⟨rfl,rfl⟩
     refine sb ?_
     refine z1B (retell 2 (g:=box b8 [.int .i64 23,.int .i64 r10.At,.string (bs []),v68]) rfl rfl) ?_
     exact aw (hK71 (v68,v66,v67)) [0,1,2,3,4,5,6,7,8,9,10]
    exact zC
   refine a2 [8,2] 2 [0,2,3,35] [1,0,3,4,5,6,0,0,0,0,0] (fun (s:Value×Value×Value)=>[(42,s.1)]) (fun s=>[nro v6 zj q4.1.Args,HA.emp,nrow s.1 zj (([q4.1]:List zi)++q40.1),nrow s.2.1 zj q40.1,ro s.2.2 3 (q40.2.l_.map z6.enc),box j0 [s.2.2,.int .i64 q40.2.i_,.int .i64 q40.2.at_]]) ?_ (fun hK80=>?_)
   ·rintro ⟨v68,v66,v67⟩
    refine az ?_
    refine zK [8] (by kernel_rfl) rfl ?_
    refine zk ?_ ?_
    ·refine ty ?_
     exact aw (hK78 (v68,v66,v67)) [0,1,2,3,4,5,6,7,8,9,10]
    exact zC
   refine a2 [7,3] 3 [0,2,3,35] [1,0,3,4,5,6,0,0,0,0,0] (fun (s:Value×Value×Value)=>[(37,s.1),(41,s.2.1)]) (fun s=>[nro v6 zj q4.1.Args,HA.emp,nrow s.1 zj ([q4.1]:List zi),nrow s.2.1 zj q40.1,ro s.2.2 3 (q40.2.l_.map z6.enc),box j0 [s.2.2,.int .i64 q40.2.i_,.int .i64 q40.2.at_]]) ?_ (fun hK82=>?_)
   ·rintro ⟨v62,v66,v67⟩
    refine az ?_
    refine zK [7] (by kernel_rfl) rfl ?_
    refine zk ?_ ?_
    ·refine at' rfl (z3P (C:=zj) 7 8 (by decide) rfl runUnderlying45 rfl runUnderlying45 typeInfo47 rfl (by decide) (by decide) zeroValue47 rfl rfl rfl rfl (z5I 8 rfl) js) ?_
     rintro v83 _ rfl
     refine sb ?_
     exact aw (hK80 (v83,v66,v67)) [0,1,2,3,4,5,6,7,8,9,10]
    exact zC
   refine a2 [6,4] 4 [0,2,3,35,38,40] [1,0,3,4,5,6,7,0] (fun (s:Value)=>[(37,s)]) (fun s=>[nro v6 zj q4.1.Args,nrow s zj ([q4.1]:List zi)]) ?_ (fun hK84=>?_)
   ·rintro v62
    refine az ?_
    refine zK [6] (by kernel_rfl) rfl ?_
    refine zk ?_ ?_
    ·refine at' rfl (tc [(5,0),(6,2)] call239 (z5a (z29 q3h j6))) ?_
     rintro v85 _ ⟨_,⟨_,v86,rfl,rfl⟩,rfl⟩
     refine sb ?_
     exact aw (hK82 (v62,v85,v86)) [0,1,2,3,4,5,6,7,8,9,10]
    exact zC
   refine a2 [2,1,4,3] 4 [0,2,3,35] [1,2,3,4,5,6,0,0,0,0] (fun (s:Value×Value)=>[(36,.agg #[.int .i64 q4.1.Op,.int .i64 q4.1.At,.string (bs q4.1.S),v6]),(41,s.1)]) (fun s=>[HA.emp,nrow s.1 zj q40.1,ro s.2 3 (q40.2.l_.map z6.enc),box j0 [s.2,.int .i64 q40.2.i_,.int .i64 q40.2.at_]]) ?_ (fun hK87=>?_)
   ·rintro ⟨v64,v65⟩
    refine az ?_
    refine zK [2] (by kernel_rfl) rfl ?_
    refine zk ?_ ?_
    ·refine z3n (z24 1 rfl) ?_
     refine z1J 1 rfl z1j (fun ji hs89o=>?_)
     refine at' rfl (t_lit [.agg #[.int .i64 q4.1.Op,.int .i64 q4.1.At,.string (bs q4.1.S),v6]] runUnderlying45 sizeOf47 zeroValue47 rfl (by decide) (by decide) rfl (by intro q hq; simp only [y1,y0,or_false] at hq; rcases hq with rfl <;> first | rfl | (rw [ji]; rfl))) ?_
     rintro v88 _ ⟨rfl,_⟩
     refine sb ?_
     refine z1B (z1p (C:=zj) (l:=([q4.1]:List zi)) 10 [(q4.1,v6)] rfl (by simp only [yI,List.map_nil,ji]; rfl) rfl (z1o (z2P (T:=z1b) (z1t 1 rfl z2u)) z1x)) ?_
     exact aw (hK82 (v88,v64,v65)) [0,1,2,3,4,5,6,10,7,8,9]
    exact zC
   refine a2 [2,1,3,4] 5 [0,2,3,35,38,40] [1,2,3,4,5,6,7] (fun (s:Unit)=>[(36,.agg #[.int .i64 q4.1.Op,.int .i64 q4.1.At,.string (bs q4.1.S),v6])]) (fun s=>[]) ?_ (fun hK90=>?_)
   ·rintro _
    refine az ?_
    refine zK [2,6] (by kernel_rfl) rfl ?_
    refine zk ?_ ?_
    ·refine z3n (z24 1 rfl) ?_
     refine z1J 1 rfl z1j (fun jj hs92o=>?_)
     refine at' rfl (t_lit [.agg #[.int .i64 q4.1.Op,.int .i64 q4.1.At,.string (bs q4.1.S),v6]] runUnderlying45 sizeOf47 zeroValue47 rfl (by decide) (by decide) rfl (by intro q hq; simp only [y1,y0,or_false] at hq; rcases hq with rfl <;> first | rfl | (rw [jj]; rfl))) ?_
     rintro v91 _ ⟨rfl,_⟩
     refine sb ?_
     refine z1B (z1p (C:=zj) (l:=([q4.1]:List zi)) 7 [(q4.1,v6)] rfl (by simp only [yI,List.map_nil,jj]; rfl) rfl (z1o (z2P (T:=z1b) (z1t 1 rfl z2u)) z1x)) ?_
     exact aw (hK84 v91) [0,1,2,3,4,5,6,7]
    refine zk ?_ ?_
    ·refine at' rfl (tc [(5,0),(6,2)] call239 (z5a (z29 q3h j6))) ?_
     rintro v93 _ ⟨_,⟨_,v94,rfl,rfl⟩,rfl⟩
     refine sb ?_
     exact aw (hK87 (v93,v94)) [0,1,2,3,4,5,6,7,8,9]
    exact zC
   refine a2 [1,2,4,3] 5 [0,2,3,35] [1,2,3,4,5,6,0,0,0,0] (fun (s:Value×Value)=>[(41,s.1)]) (fun s=>[HA.emp,nrow s.1 zj q40.1,ro s.2 3 (q40.2.l_.map z6.enc),box j0 [s.2,.int .i64 q40.2.i_,.int .i64 q40.2.at_]]) ?_ (fun hK95=>?_)
   ·rintro ⟨v60,v61⟩
    refine az ?_
    refine zK [1] (by kernel_rfl) rfl ?_
    refine zk ?_ ?_
    ·refine ty ?_
     exact aw (hK87 (v60,v61)) [0,1,2,3,4,5,6,7,8,9]
    exact zC
   refine zK [1,6] (by kernel_rfl) rfl ?_
   refine zk ?_ ?_
   ·refine ty ?_
    exact aw (hK90 ()) [0,1,2,3,4,5,6]
   refine zk ?_ ?_
   ·refine at' rfl (tc [(5,0),(6,2)] call239 (z5a (z29 q3h j6))) ?_
    rintro v96 _ ⟨_,⟨_,v97,rfl,rfl⟩,rfl⟩
    refine sb ?_
    exact aw (hK95 (v96,v97)) [0,1,2,3,4,5,6,7,8,9]
   exact zC
def z4n (n:Nat) (q2r:z7→Option (Pn (zi×z7))) (q6r:z7→Option (Pn (zi×z7))) (r_0:z7) (j9:Int) (j3:Int) (s_3:(List UInt8)):Option (Pn (zi×z7)):=
 obind (z1a r_0) fun r2=>
 obind (z10 r_0 j3 s_3) fun r4=>
 cond (!r4.1)
  (obind (z3S n q2r r4.2) fun r8=>
  pbind r8 (fun e11=>
   some (.pan e11)) fun q10=>
  some (.ret (q10.1,q10.2)))
  (obind (q6r r4.2) fun r15=>
  pbind r15 (fun e18=>
   some (.pan e18)) fun q17=>
  some (.ret ((zi.mk j9 r2.At [] ([q17.1]:List zi)),q17.2)))
theorem z7X {n:Nat} {q2r:z7→Option (Pn (zi×z7))} {q6r:z7→Option (Pn (zi×z7))} (q3h:K9 q2r 48) (q7h:K9 q6r 170) {r_0:z7} {j9:Int} {j3:Int} {s_3:(List UInt8)} {j0:Nat} {j1:Value} {r:Pn (zi×z7)} (h:z4n n q2r q6r r_0 j9 j3 s_3=some r) :
  z4t Tryz.prog 209 [boxP j0 0,.int .i64 j9,.int .i64 j3,.string (bs s_3),.func (.func 170) #[boxP j0 0] #[],.func (.func 210) #[boxP j0 0] #[]] [ro j1 3 (r_0.l_.map z6.enc),box j0 [j1,.int .i64 r_0.i_,.int .i64 r_0.at_]] (fun v G=>∃ q,r = .ret q∧(∃ v0 v1,v = .agg #[.int .i64 q.1.Op,.int .i64 q.1.At,.string (bs q.1.S),v0]∧G=[nrow v0 zj q.1.Args,ro v1 3 (q.2.l_.map z6.enc),box j0 [v1,.int .i64 q.2.i_,.int .i64 q.2.at_]])) (fun v=>∃ e,r = .pan e∧v = .iface 29 (.agg #[.int .i64 e,.int .i64 180])):=by
 refine z1y func209 rfl ntmps209 rfl (fun w0 o0=>?_)
 refine zh (al fun b1=>?_)
 refine yn 2 ?_
 refine cl0 [(0,0),(1,2)] call75 (fun h=>z1e h) h (fun r2 h=>?_)
 refine yn 4 ?_
 refine cl1 [(0,0),(3,2)] call76 (fun h=>z13 h) h (fun r4 v6 h=>?_)
 refine yc 2 h (fun _ h=>?_) fun _ h=>?_
 ·refine zH (rj [5,12] [2,4,5] ?_)
  refine yn 2 ?_
  refine cp2 [(1,0),(2,2)] call210 (fun h=>z8K q3h h) h (fun q10 v12 v13 h=>?_)
  refine yn 3 ?_
  exact fr [3,4,5] results209 h
 ·refine run_skip (zg (rj [1,4,12,13] [2,4,5] ?_))
  refine yn 2 ?_
  refine cp2 [(1,0),(2,2)] call170 (fun h=>q7h h) h (fun q17 v19 v20 h=>?_)
  refine zB (z24 3 rfl) ?_
  refine z2V 3 rfl z1j (fun j7 hs22o=>?_)
  refine zt (t_lit [.agg #[.int .i64 q17.1.Op,.int .i64 q17.1.At,.string (bs q17.1.S),v19]] runUnderlying45 sizeOf47 zeroValue47 rfl (by decide) (by decide) rfl (by intro q hq; simp only [y1,y0,or_false] at hq; rcases hq with rfl <;> first | rfl | (rw [j7]; rfl))) ?_
  rintro v21 _ ⟨rfl,_⟩
  refine zB (z1p (C:=zj) (l:=([q17.1]:List zi)) 6 [(q17.1,v19)] rfl (by simp only [yI,List.map_nil,j7]; rfl) rfl (z1o (z2P (T:=z1b) (z1t 3 rfl z2u)) z1x)) ?_
  refine yn 3 ?_
  exact fr [6,4,5] results209 h
end Go.Proofs.YtcmaoifiiigggaaGreatDoor
