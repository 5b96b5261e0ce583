/-
  Functions of the program, lifted: part 6.
-/
import Derived.Test.YtcmaoifiiigggaaGreatDoorV8Fe
set_option linter.unusedSimpArgs false
set_option linter.unusedVariables false
namespace Go.Proofs.YtcmaoifiiigggaaGreatDoor
open Go.Abs Tryz
set_option maxRecDepth 20000
set_option maxHeartbeats 4000000
def z3Q (q2r:z7→Option (Pn (zi×z7))) (r_0:z7):Option (Pn (zi×z7)):=
 obind (z1a r_0) fun r2=>
 bindJ (S:=Int×(List UInt8))
  (cond (decide (r2.Kind = 3))
   (some (.go (1,r2.S)))
   (cond (decide (r2.Kind = 4))
    (some (.go (2,r2.S)))
    (cond (decide (r2.Kind = 1))
     (some (.go (3,r2.S)))
     (cond (decide (r2.Kind = 2))
      (obind (z84) fun r16=>
      some (.go (((mget r16 r2.S).getD 0),[])))
      (some (.go (0,r2.S)))))))
 (fun (x_6, x_7) =>
  cond (decide (0<x_6))
   (bindJ (S := (List UInt8) × (List z6) × Int × Int)
    (cond (decide (x_6 = 6))
     (obind (z1l (z7.mk r_0.l_ (IntKind.i64.wrap (r_0.i_+1)) r_0.at_) 4) fun r30=>
     pbind r30 (fun e33=>
      some (.stop (.pan e33))) fun q32=>
     some (.go (q32.1,q32.2.l_,q32.2.i_,q32.2.at_)))
     (some (.go (x_7,r_0.l_,(IntKind.i64.wrap (r_0.i_+1)),r_0.at_))))
   (fun (jg, jh, ji, jj) =>
    some (.ret ((zi.mk x_6 r2.At jg ([]:List zi)),(z7.mk jh ji jj)))))
   (obind (z10 r_0 5 [40]) fun r35=>
   cond r35.1
    (obind (q2r r35.2) fun r39=>
    pbind r39 (fun e42=>
     some (.pan e42)) fun q41=>
    obind (z19 q41.2 5 [41]) fun r46=>
    pbind r46 (fun e49=>
     some (.pan e49)) fun q48=>
    some (.ret (q41.1,q48)))
    (obind (z16 r35.2) fun r52=>
    pbind r52 (fun e55=>
     some (.pan e55)) fun q54=>
    some (.ret ((zi.mk x_6 r2.At x_7 ([]:List zi)),r35.2)))))
theorem z8I {q2r:z7→Option (Pn (zi×z7))} (q3h:K9 q2r 48):K9 (z3Q q2r) 276:=by
 intro r_0 j2 j0 r h
 refine z1y func276 rfl ntmps276 rfl (fun w0 o0=>?_)
 refine zh (al fun b1=>?_)
 refine yn 2 ?_
 refine cl0 [(0,0),(1,2)] call75 (fun h=>z1e h) h (fun r2 h=>?_)
 refine al fun b4=>?_
 refine yn 3 ?_
 refine al fun b5=>?_
 refine ys ?_
 refine zd (jr h [0,2,4] [4,1,3,0] (fun s (g:Unit)=>[]) (fun s g=>[box b5 [.int .i64 s.1,.int .i64 r2.At,.string (bs s.2),.slice none 0 0]]) (fun _ h _ _ ja=>?_) ?_)
 ·refine zH (rj [0,2,3,4] [0,2,3,4,5] ?_)
  refine yc 7 h (fun _ h=>?_) fun _ h=>?_
  ·refine yn 4 ?_
   exact gj ja () [2,0,1,4] h
  ·refine yc 3 h (fun _ h=>?_) fun _ h=>?_
   ·refine yn 4 ?_
    exact gj ja () [2,0,1,4] h
   ·refine yc 3 h (fun _ h=>?_) fun _ h=>?_
    ·refine rj [0,2,4] [0,1,2,4] ?_
     refine yn 4 ?_
     exact gj ja () [2,0,1,3] h
    ·refine zH (rj [0,2,3,4,13] [0,1,2,3,4] ?_)
     refine yc 3 h (fun _ h=>?_) fun _ h=>?_
     ·refine rf [1,1,1,1] fun hS=>?_
      refine aq [1,2] ?_
      refine al1 0 [] call115 (fun h=>zcy h) h (fun r16 _ h=>?_)
      refine ao 3 ?_
      refine zlJ rfl (wn rfl) rfl (zaq (k:=r2.S) (d0:=0) 5 z4A runUnderlying179 runUnderlying9 zeroValue3 rfl rfl rfl) ⟨su,?_⟩
      refine aq [4] ?_
      refine ast 5 ?_
      refine aq [6] ?_
      refine ast 7 ?_
      refine z1K (by kernel_rfl) ?_
      exact zS (gj ja () [2,0,1,4] h)
     ·refine yn 2 ?_
      exact gj ja () [2,0,1,4] h
 rintro ⟨x_6,x_7⟩ _ h
 refine rs ?_
 refine yc 5 h (fun _ h=>?_) fun _ h=>?_
 ·refine yn 2 ?_
  refine zd (jr h [2,4] [3,0,0,0] (fun s (g:Value)=>[]) (fun s g=>[box b5 [.int .i64 x_6,.int .i64 r2.At,.string (bs s.1),.slice none 0 0],box j2 [g,.int .i64 s.2.2.1,.int .i64 s.2.2.2],ro g 3 (s.2.1.map z6.enc)]) (fun _ h jq _ jk=>?_) ?_)
  ·refine zH (rj [0,2,4] [0,1,2,3] ?_)
   refine yc 3 h (fun _ h=>?_) fun _ h=>?_
   ·refine yn 2 ?_
    refine cp1 [(1,0),(0,2)] call77 (fun h=>z1v h) h (fun q32 v34 h=>?_) (hp:=fun e h=>by obtain rfl:=zU h; obtain rfl:=zM jq; exact finP ⟨_,rfl,rfl⟩)
    refine yn 2 ?_
    exact gj jk _ [2,3,5,4] h
   ·exact run_skip (gj jk _ [2,3,0,1] h)
  rintro ⟨jg,jh,ji,jj⟩ v24 h
  refine rs ?_
  refine yn 4 ?_
  refine z1k (z1q zj) ?_
  exact fr [4,3,2] results276 h
 ·refine yn 2 ?_
  refine cl1 [(1,0),(0,2)] call76 (fun h=>z13 h) h (fun r35 v37 h=>?_)
  refine yc 2 h (fun _ h=>?_) fun _ h=>?_
  ·refine yn 2 ?_
   refine cp2 [(4,0),(5,2)] call48 (fun h=>q3h h) h (fun q41 v43 v44 h=>?_)
   refine ys ?_
   refine zc (rj [0,2,4] [2,3,6,7,8] ?_)
   refine yn 2 ?_
   refine cp1 [(3,0),(4,2)] call78 (fun h=>z1u h) h (fun q48 v50 h=>?_)
   refine yn 4 ?_
   exact fr [2,5,6] results276 h
  ·refine yn 4 ?_
   refine cp0 [(4,0),(5,2)] call74 (fun h=>z15 h) h (fun _ h=>?_)
   refine zc (rj [2,4] [2,3,4,6] ?_)
   refine yn 4 ?_
   refine z1k (z1q zj) ?_
   exact fr [4,2,3] results276 h
def z48 (q2r:z7→Option (Pn (zi×z7))) (q4r:z7→Option (Pn (zi×z7))) (r_0:z7) (je:Int) (j8:Int) (s_3:(List UInt8)):Option (Pn (zi×z7)):=
 obind (z1a r_0) fun r2=>
 obind (z10 r_0 j8 s_3) fun r4=>
 cond (!r4.1)
  (obind (z3Q q2r r4.2) fun r8=>
  pbind r8 (fun e11=>
   some (.pan e11)) fun q10=>
  some (.ret (q10.1,q10.2)))
  (obind (q4r r4.2) fun r15=>
  pbind r15 (fun e18=>
   some (.pan e18)) fun q17=>
  some (.ret ((zi.mk je r2.At [] ([q17.1]:List zi)),q17.2)))
theorem z6U {q2r:z7→Option (Pn (zi×z7))} {q4r:z7→Option (Pn (zi×z7))} (q3h:K9 q2r 48) (q5h:K9 q4r 265) {r_0:z7} {je:Int} {j8:Int} {s_3:(List UInt8)} {j2:Nat} {j0:Value} {r:Pn (zi×z7)} (h:z48 q2r q4r r_0 je j8 s_3=some r) :
  z4t Tryz.prog 209 [boxP j2 0,.int .i64 je,.int .i64 j8,.string (bs s_3),.func (.func 265) #[boxP j2 0] #[],.func (.func 276) #[boxP j2 0] #[]] [ro j0 3 (r_0.l_.map z6.enc),box j2 [j0,.int .i64 r_0.i_,.int .i64 r_0.at_]] (fun v G=>∃ q,r = .ret q∧(∃ v0 v1,v = .agg #[.int .i64 q.1.Op,.int .i64 q.1.At,.string (bs q.1.S),v0]∧G=[nrow v0 zj q.1.Args,ro v1 3 (q.2.l_.map z6.enc),box j2 [v1,.int .i64 q.2.i_,.int .i64 q.2.at_]])) (fun v=>∃ e,r = .pan e∧v = .iface 29 (.agg #[.int .i64 e,.int .i64 180])):=by
 refine z1y func209 rfl ntmps209 rfl (fun w0 o0=>?_)
 refine zh (al fun b1=>?_)
 refine yn 2 ?_
 refine cl0 [(0,0),(1,2)] call75 (fun h=>z1e h) h (fun r2 h=>?_)
 refine yn 4 ?_
 refine cl1 [(0,0),(3,2)] call76 (fun h=>z13 h) h (fun r4 v6 h=>?_)
 refine yc 2 h (fun _ h=>?_) fun _ h=>?_
 ·refine zH (rj [5,12] [2,4,5] ?_)
  refine yn 2 ?_
  refine cp2 [(1,0),(2,2)] call276 (fun h=>z8I q3h h) h (fun q10 v12 v13 h=>?_)
  refine yn 3 ?_
  exact fr [3,4,5] results209 h
 ·refine run_skip (zg (rj [1,4,12,13] [2,4,5] ?_))
  refine yn 2 ?_
  refine cp2 [(1,0),(2,2)] call265 (fun h=>q5h h) h (fun q17 v19 v20 h=>?_)
  refine zB (z24 3 rfl) ?_
  refine z2V 3 rfl z1j (fun jl hs22o=>?_)
  refine zt (t_lit [.agg #[.int .i64 q17.1.Op,.int .i64 q17.1.At,.string (bs q17.1.S),v19]] runUnderlying45 sizeOf47 zeroValue47 rfl (by decide) (by decide) rfl (by intro q hq; simp only [y1,y0,or_false] at hq; rcases hq with rfl <;> first | rfl | (rw [jl]; rfl))) ?_
  rintro v21 _ ⟨rfl,_⟩
  refine zB (z1p (C:=zj) (l:=([q17.1]:List zi)) 6 [(q17.1,v19)] rfl (by simp only [yI,List.map_nil,jl]; rfl) rfl (z1o (z2P (T:=z1b) (z1t 3 rfl z2u)) z1x)) ?_
  refine yn 3 ?_
  exact fr [6,4,5] results209 h
def z34 (n:Nat) (q2r:z7→Option (Pn (zi×z7))) (q4r:z7→Option (Pn (zi×z7))) (r_0:z7):Option (Pn (zi×z7)):=
 obind (z48 q2r q4r r_0 8 5 [45]) fun r2=>
 pbind r2 (fun e5=>
  some (.pan e5)) fun q4=>
 some (.ret (q4.1,q4.2))
theorem z6H {n:Nat} {q2r:z7→Option (Pn (zi×z7))} (q3h:K9 q2r 48) {q4r:z7→Option (Pn (zi×z7))} (q5h:K9 q4r 265):K9 (z34 n q2r q4r) 265:=by
 intro r_0 j2 j0 r h
 refine z1y func265 rfl ntmps265 rfl (fun w0 o0=>?_)
 refine zh (al fun b1=>?_)
 refine yn 2 ?_
 refine cp2 [(0,0),(1,2)] call209 (fun h=>z6U q3h q5h h) h (fun q4 v6 v7 h=>?_)
 refine yn 3 ?_
 exact fr [3,4,5] results265 h
def z2Y:Nat→(z7→Option (Pn (zi×z7)))→z7→Option (Pn (zi×z7))
 | 0,_=>fun _=>none
 | n+1,q2r=>z34 n q2r (z2Y n q2r)
theorem z89 {n:Nat} {q2r:z7→Option (Pn (zi×z7))} (q3h:K9 q2r 48):K9 (z2Y n q2r) 265:=by
 induction n with
 | zero=>intro _ _ _ _  h; cases h
 | succ n ih=>exact z6H q3h ih
def z92  : Option ((List ((List UInt8)×Int))):=
 some (mput (mput (mput (mput (mput (mput (mput (mput (mput (mput (mput (mput (mput ([]:(List ((List UInt8)×Int))) [43] (10:Int)) [45] (11:Int)) [42] (12:Int)) [47] (13:Int)) [37] (14:Int)) [60] (15:Int)) [62] (16:Int)) [60,61] (17:Int)) [62,61] (18:Int)) [61,61] (19:Int)) [33,61] (20:Int)) [97,110,100] (21:Int)) [111,114] (22:Int))
theorem zdH:K37 z92 118:=by
 intro  r h
 refine zN func118 rfl ntmps118 rfl (fun w0 o0=>?_)
 refine yn 3 ?_
 refine zt (ziC) ?_
 rintro _ _ ⟨b1,rfl,rfl⟩
 refine zB (retell 0 (g:=mapis b1 (mcells (fun l:List UInt8=>Value.string (bs l)) (fun n:Int=>Value.int .i64 n) ([]:(List ((List UInt8)×Int))))) rfl rfl) ?_
 refine zt (z2L (k:=[43]) (v:=(10:Int)) 0 z4A runUnderlying179 runUnderlying9 rfl rfl rfl rfl true) ?_
 rintro _ _ ⟨rfl,rfl⟩
 refine zt (z2L (k:=[45]) (v:=(11:Int)) 0 z4A runUnderlying179 runUnderlying9 rfl rfl rfl rfl true) ?_
 rintro _ _ ⟨rfl,rfl⟩
 refine zt (z2L (k:=[42]) (v:=(12:Int)) 0 z4A runUnderlying179 runUnderlying9 rfl rfl rfl rfl true) ?_
 rintro _ _ ⟨rfl,rfl⟩
 refine zt (z2L (k:=[47]) (v:=(13:Int)) 0 z4A runUnderlying179 runUnderlying9 rfl rfl rfl rfl true) ?_
 rintro _ _ ⟨rfl,rfl⟩
 refine zt (z2L (k:=[37]) (v:=(14:Int)) 0 z4A runUnderlying179 runUnderlying9 rfl rfl rfl rfl true) ?_
 rintro _ _ ⟨rfl,rfl⟩
 refine zt (z2L (k:=[60]) (v:=(15:Int)) 0 z4A runUnderlying179 runUnderlying9 rfl rfl rfl rfl true) ?_
 rintro _ _ ⟨rfl,rfl⟩
 refine zt (z2L (k:=[62]) (v:=(16:Int)) 0 z4A runUnderlying179 runUnderlying9 rfl rfl rfl rfl true) ?_
 rintro _ _ ⟨rfl,rfl⟩
 refine zt (z2L (k:=[60,61]) (v:=(17:Int)) 0 z4A runUnderlying179 runUnderlying9 rfl rfl rfl rfl true) ?_
 rintro _ _ ⟨rfl,rfl⟩
 refine zt (z2L (k:=[62,61]) (v:=(18:Int)) 0 z4A runUnderlying179 runUnderlying9 rfl rfl rfl rfl true) ?_
 rintro _ _ ⟨rfl,rfl⟩
 refine zt (z2L (k:=[61,61]) (v:=(19:Int)) 0 z4A runUnderlying179 runUnderlying9 rfl rfl rfl rfl true) ?_
 rintro _ _ ⟨rfl,rfl⟩
 refine zt (z2L (k:=[33,61]) (v:=(20:Int)) 0 z4A runUnderlying179 runUnderlying9 rfl rfl rfl rfl true) ?_
 rintro _ _ ⟨rfl,rfl⟩
 refine zt (z2L (k:=[97,110,100]) (v:=(21:Int)) 0 z4A runUnderlying179 runUnderlying9 rfl rfl rfl rfl true) ?_
 rintro _ _ ⟨rfl,rfl⟩
 refine zt (z2L (k:=[111,114]) (v:=(22:Int)) 0 z4A runUnderlying179 runUnderlying9 rfl rfl rfl rfl true) ?_
 rintro _ _ ⟨rfl,rfl⟩
 refine ys ?_
 refine oh [0] [mapis b1 (mcells (fun l:List UInt8=>Value.string (bs l)) (fun n:Int=>Value.int .i64 n) (mput (mput (mput (mput (mput (mput (mput (mput (mput (mput (mput (mput (mput ([]:(List ((List UInt8)×Int))) [43] (10:Int)) [45] (11:Int)) [42] (12:Int)) [47] (13:Int)) [37] (14:Int)) [60] (15:Int)) [62] (16:Int)) [60,61] (17:Int)) [62,61] (18:Int)) [61,61] (19:Int)) [33,61] (20:Int)) [97,110,100] (21:Int)) [111,114] (22:Int)))] ?_
 refine yn 3 ?_
 exact fs [0] [0] results118 h
def z2J (r_0:z7) (j1:Int) (j3:Int):Option (Int):=
 obind (z1a r_0) fun r1=>
 cond (decide (r1.Kind≠5) && decide (r1.Kind≠2))
  (some 0)
  (obind (z92) fun r8=>
  cond (decide (j1≤((mget r8 r1.S).getD 0)) && decide (((mget r8 r1.S).getD 0)≤j3))
   (some ((mget r8 r1.S).getD 0))
   (some 0))
theorem z4P {r_0:z7} {j1:Int} {j3:Int} {j2:Nat} {j0:Value} {r:Int} (h:z2J r_0 j1 j3=some r) :
  Meets Tryz.prog 169 [boxP j2 0,.int .i64 j1,.int .i64 j3] [ro j0 3 (r_0.l_.map z6.enc),box j2 [j0,.int .i64 r_0.i_,.int .i64 r_0.at_]] (fun v G=>v = .int .i64 r∧G=[box j2 [j0,.int .i64 r_0.i_,.int .i64 r_0.at_]]):=by
 refine zN func169 rfl ntmps169 rfl (fun w0 o0=>?_)
 refine yn 4 ?_
 refine cl0 [(0,0),(1,2)] call75 (fun h=>z1e h) h (fun r1 h=>?_)
 refine al fun b3=>?_
 refine yn 4 ?_
 refine oq 4 14 18 [1,2,7] [0,2,3] (decide (r1.Kind≠5) && decide (r1.Kind≠2)) ?_
 refine yc 1 h (fun _ h=>?_) fun _ h=>?_
 ·refine yn 4 ?_
  exact fs [6] [1] results169 h
 ·refine yn 3 ?_
  refine rf [1,1,1] fun hS=>?_
  refine aq [1,2] ?_
  refine al1 0 [] call118 (fun h=>zdH h) h (fun r8 v10 h=>?_)
  refine ao 3 ?_
  refine zlJ rfl (wn rfl) rfl (zaq (k:=r1.S) (d0:=0) 3 z4A runUnderlying179 runUnderlying9 zeroValue3 rfl rfl rfl) ⟨su,?_⟩
  refine aq [4] ?_
  refine z1K (by kernel_rfl) ?_
  refine yn 2 ?_
  refine oq 4 26 30 [8] [0,1] (decide (j1≤((mget r8 r1.S).getD 0)) && decide (((mget r8 r1.S).getD 0)≤j3)) ?_
  refine yc 1 h (fun _ h=>?_) fun _ h=>?_
  ·refine yn 4 ?_
   exact fs [6] [1] results169 h
  ·refine yn 5 ?_
   exact fs [6] [1] results169 h
def zee (n:Nat) (j1:Int) (j3:Int) (u:z7→Option (Pn (zi×z7))):((List z6)×Int×Int×Int×Int×(List UInt8)×(List zi))→Option (Lp ((List z6)×Int×Int×Int×Int×(List UInt8)×(List zi)) (Pn (zi×z7))):=
 fun (jb,jc,jd,j4,j5,j6,j7)=>
  obind (z2J (z7.mk jb jc jd) j1 j3) fun r23=>
  obind (z1a (z7.mk jb jc jd)) fun r25=>
  cond (decide (r23=0))
   (some (.stop (.ret ((zi.mk j4 j5 j6 j7),(z7.mk jb jc jd)))))
   (obind (u (z7.mk jb (IntKind.i64.wrap (jc+1)) jd)) fun r29=>
   pbind r29 (fun e32=>
    some (.stop (.pan e32))) fun q31=>
   some (.go (q31.2.l_,q31.2.i_,q31.2.at_,r23,r25.At,[],([(zi.mk j4 j5 j6 j7),q31.1]:List zi))))
def zli (n:Nat) (u:z7→Option (Pn (zi×z7))) (r_0:z7) (j1:Int) (j3:Int):Option (Pn (zi×z7)):=
 obind (u r_0) fun r2=>
 pbind r2 (fun e5=>
  some (.pan e5)) fun q4=>
 iter (zee n j1 j3 u) n (q4.2.l_,q4.2.i_,q4.2.at_,q4.1.Op,q4.1.At,q4.1.S,q4.1.Args)
def z5e (n:Nat) (q2r:z7→Option (Pn (zi×z7))) (r_0:z7) (j1:Int) (j3:Int):Option (Pn (zi×z7)):=
 zli n (z2Y n q2r) r_0 j1 j3
theorem zfW {n:Nat} {u:z7→Option (Pn (zi×z7))} {F:FuncId} (hF:∀ args w,(callFunc F args).run Tryz.prog w = .ok (.enter F args) w) (hu:K9 u F) {r_0:z7} {j1:Int} {j3:Int} {j2:Nat} {j0:Value} {r:Pn (zi×z7)} (h:zli n u r_0 j1 j3=some r) :
  z4t Tryz.prog 107 [boxP j2 0,.int .i64 j1,.int .i64 j3,.func (.func F) #[boxP j2 0] #[]] [ro j0 3 (r_0.l_.map z6.enc),box j2 [j0,.int .i64 r_0.i_,.int .i64 r_0.at_]] (fun v G=>∃ q,r = .ret q∧(∃ v0 v1,v = .agg #[.int .i64 q.1.Op,.int .i64 q.1.At,.string (bs q.1.S),v0]∧G=[nrow v0 zj q.1.Args,ro v1 3 (q.2.l_.map z6.enc),box j2 [v1,.int .i64 q.2.i_,.int .i64 q.2.at_]])) (fun v=>∃ e,r = .pan e∧v = .iface 29 (.agg #[.int .i64 e,.int .i64 180])):=by
 refine z1y func107 rfl ntmps107 rfl (fun w0 o0=>?_)
 refine zh (al fun b1=>?_)
 refine yn 2 ?_
 refine cp2 [(0,0),(1,2)] hF (fun h=>hu h) h (fun q4 v6 v7 h=>?_)
 refine al fun b8=>?_
 refine yn 3 ?_
 refine lo h [0,1,2,3,8,9] [0,0,3,0,0] (fun s (g:V2)=>[]) (fun s g=>[box j2 [g.1,.int .i64 s.2.1,.int .i64 s.2.2.1],ro g.1 3 (s.1.map z6.enc),box b8 [.int .i64 s.2.2.2.1,.int .i64 s.2.2.2.2.1,.string (bs s.2.2.2.2.2.1),g.2],nrow g.2 zj s.2.2.2.2.2.2]) (_,_) [5,4,2,6,3] ?_
 rintro ⟨jb,jc,jd,j4,j5,j6,j7⟩ ⟨v17,v18⟩ _ h _ jm j9
 refine rs ?_
 refine yn 3 ?_
 refine cl0 [(1,0),(0,2)] call169 (fun h=>z4P h) h (fun r23 h=>?_)
 refine ys ?_
 refine cl0 [(1,0),(5,2)] call75 (fun h=>z1e h) h (fun r25 h=>?_)
 refine yn 2 ?_
 refine zH (rj [0,1,2,3,8,9,10,11] [1,2,3,4,6] ?_)
 refine yc 3 h (fun _ h=>?_) fun _ h=>?_
 ·refine yn 4 ?_
  obtain rfl:=zU h
  obtain rfl:=j9 _ rfl
  exact fq [3,0,4] results107
 ·refine yn 3 ?_
  refine zd (rj [0,1,2,3,8,9,10,11] [0,1,2,3,4] ?_)
  obtain ⟨r29,jf,h⟩:=zJ h
  rcases r29 with q31 | e32
  rotate_left
  ·replace h:=z32 h
   refine rf [1,1] fun hS=>?_
   refine aq [0,1,3] ?_
   refine a2 [4,4] 4 [0,1,2,3,8,9,31,32,34] [1,2,3,4,5] (fun (s:Unit)=>[(33,.agg #[.int .i64 j4,.int .i64 j5,.string (bs j6),v18])]) (fun s=>[]) ?_ (fun hK40=>?_)
   ·rintro _
    refine az ?_
    refine zK [4] (by kernel_rfl) rfl ?_
    refine zk ?_ ?_
    ·refine zfL rfl (wn rfl) rfl (zkf (bs:=[boxP j2 0]) (vs:=[]) (cs:=[]) [(0,0),(4,2)] rfl hF rfl (hu jf) (z3U 0 rfl z6h (z2f 4 rfl z3r)) rfl (.inl rfl)) (by rintro _ _ ⟨_,⟨_,hq,_⟩,_⟩; cases hq) ?_
     rintro _ ⟨_,he,rfl⟩
     obtain rfl:=Pn.pan.inj he
     obtain rfl:=zU h
     obtain rfl:=j9 _ rfl
     exact finP ⟨_,rfl,rfl⟩
    exact zC
   refine zK [2,4] (by kernel_rfl) rfl ?_
   refine zk ?_ ?_
   ·refine ty ?_
    exact aw (hK40 ()) [0,1,2,3,4]
   refine zk ?_ ?_
   ·refine zfL rfl (wn rfl) rfl (zkf (bs:=[boxP j2 0]) (vs:=[]) (cs:=[]) [(0,0),(4,2)] rfl hF rfl (hu jf) (z3U 0 rfl z6h (z2f 4 rfl z3r)) rfl (.inl rfl)) (by rintro _ _ ⟨_,⟨_,hq,_⟩,_⟩; cases hq) ?_
    rintro _ ⟨_,he,rfl⟩
    obtain rfl:=Pn.pan.inj he
    obtain rfl:=zU h
    obtain rfl:=j9 _ rfl
    exact finP ⟨_,rfl,rfl⟩
   exact zC
  replace h:=z33 h
  refine rf [1,1] fun hS=>?_
  refine aq [0,1,3] ?_
  refine a2 [8] 0 [0,1,2,3,8,9] [1,2,0,0,0,0,0,0,0] (fun (s:Value×Value×Value)=>[]) (fun s=>[box b8 [.int .i64 r23,.int .i64 r25.At,.string (bs []),s.1],nro v18 zj j7,HA.emp,nro s.2.1 zj q31.1.Args,ro s.2.2 3 (q31.2.l_.map z6.enc),box j2 [s.2.2,.int .i64 q31.2.i_,.int .i64 q31.2.at_],nrow s.1 zj ([(zi.mk j4 j5 j6 j7),q31.1]:List zi)]) ?_ (fun hK54=>?_)
  ·rintro ⟨v49,v47,v48⟩
   refine az ?_
   refine z1K (by kernel_rfl) ?_
   exact zS (gj jm (_,_) [7,6,1,2,8] h)
  refine a2 [7,1] 1 [0,1,2,3,8,9] [1,2,3,0,0,0,0,0,0] (fun (s:Value×Value×Value)=>[(37,.agg #[.int .i64 r23,.int .i64 r25.At,.string (bs []),s.1])]) (fun s=>[nro v18 zj j7,HA.emp,nro s.2.1 zj q31.1.Args,ro s.2.2 3 (q31.2.l_.map z6.enc),box j2 [s.2.2,.int .i64 q31.2.i_,.int .i64 q31.2.at_],nrow s.1 zj ([(zi.mk j4 j5 j6 j7),q31.1]:List zi)]) ?_ (fun hK55=>?_)
  ·rintro ⟨v49,v47,v48⟩
   refine az ?_
   refine zK [7] (by kernel_rfl) rfl ?_
   refine zk ?_ ?_
   ·refine z1J 8 rfl z4N (fun js hs56o=>?_)
    refine at' rfl (z55 2 sizeOf47 rfl rfl rfl rfl (by simp [Value.cells,boxP]) (z1s rfl (z1s rfl (z1s rfl (z1s hs56o (z6b)))))) ?_
    rintro _ _ ⟨rfl,rfl⟩
    refine sb ?_
    refine z1B (retell 2 (g:=box b8 [.int .i64 r23,.int .i64 r25.At,.string (bs []),v49]) rfl rfl) ?_
    exact aw (hK54 (v49,v47,v48)) [0,1,2,3,4,5,6,7,8]
   exact zC
  refine a2 [6,2] 2 [0,1,2,3,8,9,31,32] [1,2,3,0,0,0,0,0,0] (fun (s:Value×Value×Value)=>[(36,s.1)]) (fun s=>[nro v18 zj j7,HA.emp,nro s.2.1 zj q31.1.Args,ro s.2.2 3 (q31.2.l_.map z6.enc),box j2 [s.2.2,.int .i64 q31.2.i_,.int .i64 q31.2.at_],nrow s.1 zj ([(zi.mk j4 j5 j6 j7),q31.1]:List zi)]) ?_ (fun hK57=>?_)
  ·rintro ⟨v49,v47,v48⟩
   refine az ?_
   refine zK [6] (by kernel_rfl) rfl ?_
   refine zk ?_ ?_
   ·refine ty ?_
    exact aw (hK55 (v49,v47,v48)) [0,1,2,3,4,5,6,7,8]
   exact zC
  refine a2 [5,3] 3 [0,1,2,3,8,9,31,32] [1,2,3,4,0,0,0,0] (fun (s:Value×Value)=>[(33,.agg #[.int .i64 j4,.int .i64 j5,.string (bs j6),v18]),(35,.agg #[.int .i64 q31.1.Op,.int .i64 q31.1.At,.string (bs q31.1.S),s.1])]) (fun s=>[HA.emp,nrow s.1 zj q31.1.Args,ro s.2 3 (q31.2.l_.map z6.enc),box j2 [s.2,.int .i64 q31.2.i_,.int .i64 q31.2.at_]]) ?_ (fun hK59=>?_)
  ·rintro ⟨v47,v48⟩
   refine az ?_
   refine zK [5] (by kernel_rfl) rfl ?_
   refine zk ?_ ?_
   ·refine z3n (z24 3 rfl) ?_
    refine z3n (z24 5 rfl) ?_
    refine z1J 3 rfl z1j (fun jo hs61o=>?_)
    refine z1J 5 rfl z1j (fun jp hs62o=>?_)
    refine at' rfl (t_lit [.agg #[.int .i64 j4,.int .i64 j5,.string (bs j6),v18],.agg #[.int .i64 q31.1.Op,.int .i64 q31.1.At,.string (bs q31.1.S),v47]] runUnderlying45 sizeOf47 zeroValue47 rfl (by decide) (by decide) rfl (by intro q hq; simp only [y1,y0,or_false] at hq; rcases hq with rfl | rfl <;> first | rfl | (rw [jo]; rfl) | (rw [jp]; rfl))) ?_
    rintro v60 _ ⟨rfl,_⟩
    refine sb ?_
    refine z1B (z1p (C:=zj) (l:=([(zi.mk j4 j5 j6 j7),q31.1]:List zi)) 8 [((zi.mk j4 j5 j6 j7),v18),(q31.1,v47)] rfl (by simp only [yI,List.map_nil,jo,jp]; rfl) rfl (z1o (z2P (T:=z1b) (z1t 3 rfl z2u)) (z1o (z2P (T:=z1b) (z1t 5 rfl z2u)) z1x))) ?_
    exact aw (hK57 (v60,v47,v48)) [0,1,2,3,4,5,6,7,8]
   exact zC
  refine a2 [4,4] 4 [0,1,2,3,8,9,31,32,34] [1,2,3,4,5] (fun (s:Unit)=>[(33,.agg #[.int .i64 j4,.int .i64 j5,.string (bs j6),v18])]) (fun s=>[]) ?_ (fun hK63=>?_)
  ·rintro _
   refine az ?_
   refine zK [4] (by kernel_rfl) rfl ?_
   refine zk ?_ ?_
   ·refine at' rfl (zkg (bs:=[boxP j2 0]) (vs:=[]) (cs:=[]) [(0,0),(4,2)] rfl hF rfl (z5a (hu jf)) (z3U 0 rfl z6h (z2f 4 rfl z3r)) rfl (.inl rfl)) ?_
    rintro _ _ ⟨_,⟨v64,v65,rfl,rfl⟩,rfl⟩
    refine sb ?_
    exact aw (hK59 (v64,v65)) [0,1,2,3,4,5,6,7]
   exact zC
  refine a2 [2,1,2,3] 4 [0,1,2,3,8,9,31,32] [1,2,3,4,0,0,0,0] (fun (s:Value×Value)=>[(35,.agg #[.int .i64 q31.1.Op,.int .i64 q31.1.At,.string (bs q31.1.S),s.1])]) (fun s=>[HA.emp,nrow s.1 zj q31.1.Args,ro s.2 3 (q31.2.l_.map z6.enc),box j2 [s.2,.int .i64 q31.2.i_,.int .i64 q31.2.at_]]) ?_ (fun hK66=>?_)
  ·rintro ⟨v45,v46⟩
   refine az ?_
   refine zK [2] (by kernel_rfl) rfl ?_
   refine zk ?_ ?_
   ·refine ty ?_
    exact aw (hK59 (v45,v46)) [0,1,2,3,4,5,6,7]
   exact zC
  refine zK [2,4] (by kernel_rfl) rfl ?_
  refine zk ?_ ?_
  ·refine ty ?_
   exact aw (hK63 ()) [0,1,2,3,4]
  refine zk ?_ ?_
  ·refine at' rfl (zkg (bs:=[boxP j2 0]) (vs:=[]) (cs:=[]) [(0,0),(4,2)] rfl hF rfl (z5a (hu jf)) (z3U 0 rfl z6h (z2f 4 rfl z3r)) rfl (.inl rfl)) ?_
   rintro _ _ ⟨_,⟨v67,v68,rfl,rfl⟩,rfl⟩
   refine sb ?_
   exact aw (hK66 (v67,v68)) [0,1,2,3,4,5,6,7]
  exact zC
theorem z7f {n:Nat} {q2r:z7→Option (Pn (zi×z7))} (q3h:K9 q2r 48) {r_0:z7} {j1:Int} {j3:Int} {j2:Nat} {j0:Value} {r:Pn (zi×z7)} (h:z5e n q2r r_0 j1 j3=some r) :
  z4t Tryz.prog 107 [boxP j2 0,.int .i64 j1,.int .i64 j3,.func (.func 265) #[boxP j2 0] #[]] [ro j0 3 (r_0.l_.map z6.enc),box j2 [j0,.int .i64 r_0.i_,.int .i64 r_0.at_]] (fun v G=>∃ q,r = .ret q∧(∃ v0 v1,v = .agg #[.int .i64 q.1.Op,.int .i64 q.1.At,.string (bs q.1.S),v0]∧G=[nrow v0 zj q.1.Args,ro v1 3 (q.2.l_.map z6.enc),box j2 [v1,.int .i64 q.2.i_,.int .i64 q.2.at_]])) (fun v=>∃ e,r = .pan e∧v = .iface 29 (.agg #[.int .i64 e,.int .i64 180])):=
 zfW call265 (z89 q3h) h
def z3w (n:Nat) (q2r:z7→Option (Pn (zi×z7))) (r_0:z7):Option (Pn (zi×z7)):=
 obind (z5e n q2r r_0 12 14) fun r2=>
 pbind r2 (fun e5=>
  some (.pan e5)) fun q4=>
 some (.ret (q4.1,q4.2))
theorem z7x {n:Nat} {q2r:z7→Option (Pn (zi×z7))} (q3h:K9 q2r 48):K9 (z3w n q2r) 252:=by
 intro r_0 j2 j0 r h
 refine z1y func252 rfl ntmps252 rfl (fun w0 o0=>?_)
 refine zh (al fun b1=>?_)
 refine yn 2 ?_
 refine cp2 [(0,0),(1,2)] call107 (fun h=>z7f q3h h) h (fun q4 v6 v7 h=>?_)
 refine yn 3 ?_
 exact fr [3,4,5] results252 h
end Go.Proofs.YtcmaoifiiigggaaGreatDoor
