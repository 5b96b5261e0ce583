/-
  Functions of the program, lifted: part 8.
-/
import Derived.Test.YtcmaoifiiigggaaGreatDoorV8Fg
set_option linter.unusedSimpArgs false
set_option linter.unusedVariables false
namespace Go.Proofs.YtcmaoifiiigggaaGreatDoor
open Go.Abs Tryz
set_option maxRecDepth 20000
set_option maxHeartbeats 4000000
def z3i (n:Nat) (q2r:z7→Option (Pn (zi×z7))) (q6r:z7→Option (Pn (zi×z7))) (r_0:z7):Option (Pn (zi×z7)):=
 obind (z4n n q2r q6r r_0 9 2 [110,111,116]) fun r2=>
 pbind r2 (fun e5=>
  some (.pan e5)) fun q4=>
 some (.ret (q4.1,q4.2))
theorem z7h {n:Nat} {q2r:z7→Option (Pn (zi×z7))} (q3h:K9 q2r 48) {q6r:z7→Option (Pn (zi×z7))} (q7h:K9 q6r 170):K9 (z3i n q2r q6r) 170:=by
 intro r_0 j2 j0 r h
 refine z1y func170 rfl ntmps170 rfl (fun w0 o0=>?_)
 refine zh (al fun b1=>?_)
 refine yn 2 ?_
 refine cp2 [(0,0),(1,2)] call209 (fun h=>z7X q3h q7h h) h (fun q4 v6 v7 h=>?_)
 refine yn 3 ?_
 exact fr [3,4,5] results170 h
def z3e:Nat→(z7→Option (Pn (zi×z7)))→z7→Option (Pn (zi×z7))
 | 0,_=>fun _=>none
 | n+1,q2r=>z3i n q2r (z3e n q2r)
theorem z8T {n:Nat} {q2r:z7→Option (Pn (zi×z7))} (q3h:K9 q2r 48):K9 (z3e n q2r) 170:=by
 induction n with
 | zero=>intro _ _ _ _  h; cases h
 | succ n ih=>exact z7h q3h ih
def z5c (n:Nat) (q2r:z7→Option (Pn (zi×z7))) (r_0:z7) (j1:Int) (j3:Int):Option (Pn (zi×z7)):=
 zli n (z3e n q2r) r_0 j1 j3
theorem z7d {n:Nat} {q2r:z7→Option (Pn (zi×z7))} (q3h:K9 q2r 48) {r_0:z7} {j1:Int} {j3:Int} {j2:Nat} {j0:Value} {r:Pn (zi×z7)} (h:z5c n q2r r_0 j1 j3=some r) :
  z4t Tryz.prog 107 [boxP j2 0,.int .i64 j1,.int .i64 j3,.func (.func 170) #[boxP j2 0] #[]] [ro j0 3 (r_0.l_.map z6.enc),box j2 [j0,.int .i64 r_0.i_,.int .i64 r_0.at_]] (fun v G=>∃ q,r = .ret q∧(∃ v0 v1,v = .agg #[.int .i64 q.1.Op,.int .i64 q.1.At,.string (bs q.1.S),v0]∧G=[nrow v0 zj q.1.Args,ro v1 3 (q.2.l_.map z6.enc),box j2 [v1,.int .i64 q.2.i_,.int .i64 q.2.at_]])) (fun v=>∃ e,r = .pan e∧v = .iface 29 (.agg #[.int .i64 e,.int .i64 180])):=
 zfW call170 (z8T q3h) h
def z3X (n:Nat) (q2r:z7→Option (Pn (zi×z7))) (r_0:z7):Option (Pn (zi×z7)):=
 obind (z5c n q2r r_0 21 21) fun r2=>
 pbind r2 (fun e5=>
  some (.pan e5)) fun q4=>
 some (.ret (q4.1,q4.2))
theorem z8Q {n:Nat} {q2r:z7→Option (Pn (zi×z7))} (q3h:K9 q2r 48):K9 (z3X n q2r) 108:=by
 intro r_0 j2 j0 r h
 refine z1y func108 rfl ntmps108 rfl (fun w0 o0=>?_)
 refine zh (al fun b1=>?_)
 refine yn 2 ?_
 refine cp2 [(0,0),(1,2)] call107 (fun h=>z7d q3h h) h (fun q4 v6 v7 h=>?_)
 refine yn 3 ?_
 exact fr [3,4,5] results108 h
def z5O (n:Nat) (q2r:z7→Option (Pn (zi×z7))) (r_0:z7) (j1:Int) (j3:Int):Option (Pn (zi×z7)):=
 zli n (z3X n q2r) r_0 j1 j3
theorem z88 {n:Nat} {q2r:z7→Option (Pn (zi×z7))} (q3h:K9 q2r 48) {r_0:z7} {j1:Int} {j3:Int} {j2:Nat} {j0:Value} {r:Pn (zi×z7)} (h:z5O n q2r r_0 j1 j3=some r) :
  z4t Tryz.prog 107 [boxP j2 0,.int .i64 j1,.int .i64 j3,.func (.func 108) #[boxP j2 0] #[]] [ro j0 3 (r_0.l_.map z6.enc),box j2 [j0,.int .i64 r_0.i_,.int .i64 r_0.at_]] (fun v G=>∃ q,r = .ret q∧(∃ v0 v1,v = .agg #[.int .i64 q.1.Op,.int .i64 q.1.At,.string (bs q.1.S),v0]∧G=[nrow v0 zj q.1.Args,ro v1 3 (q.2.l_.map z6.enc),box j2 [v1,.int .i64 q.2.i_,.int .i64 q.2.at_]])) (fun v=>∃ e,r = .pan e∧v = .iface 29 (.agg #[.int .i64 e,.int .i64 180])):=
 zfW call108 (z8Q q3h) h
def z3h (n:Nat) (q2r:z7→Option (Pn (zi×z7))) (r_0:z7):Option (Pn (zi×z7)):=
 obind (z5O n q2r r_0 22 22) fun r2=>
 pbind r2 (fun e5=>
  some (.pan e5)) fun q4=>
 some (.ret (q4.1,q4.2))
theorem z7g {n:Nat} {q2r:z7→Option (Pn (zi×z7))} (q3h:K9 q2r 48):K9 (z3h n q2r) 48:=by
 intro r_0 j2 j0 r h
 refine z1y func48 rfl ntmps48 rfl (fun w0 o0=>?_)
 refine zh (al fun b1=>?_)
 refine yn 2 ?_
 refine cp2 [(0,0),(1,2)] call107 (fun h=>z88 q3h h) h (fun q4 v6 v7 h=>?_)
 refine yn 3 ?_
 exact fr [3,4,5] results48 h
def z18:Nat→z7→Option (Pn (zi×z7))
 | 0=>fun _=>none
 | n+1=>z3h n  (z18 n )
theorem z2t {n:Nat}:K9 (z18 n) 48:=by
 induction n with
 | zero=>intro _ _ _ _  h; cases h
 | succ n ih=>exact z7g ih
def z2d (n:Nat) (r_0:z7):Option (Pn (zi×z7)):=
 obind (z18 n r_0) fun r2=>
 pbind r2 (fun e5=>
  some (.pan e5)) fun q4=>
 obind (z19 q4.2 5 [59]) fun r10=>
 pbind r10 (fun e13=>
  some (.pan e13)) fun q12=>
 some (.ret (q4.1,q12))
theorem z3g {n:Nat}:K9 (z2d n) 217:=by
 intro r_0 j2 j0 r h
 refine z1y func217 rfl ntmps217 rfl (fun w0 o0=>?_)
 refine zh (al fun b1=>?_)
 refine yn 2 ?_
 obtain ⟨r2,hr3,h⟩:=zJ h
 rcases r2 with q4 | e5
 rotate_left
 ·replace h:=z32 h
  refine z6M (wn rfl) rfl (tp [(0,0),(1,2)] call48 (z2t hr3)) (by rintro _ _ ⟨_,⟨_,hq,_⟩,_⟩; cases hq) ?_
  rintro _ ⟨_,he,rfl⟩
  obtain rfl:=Pn.pan.inj he
  obtain rfl:=zU h
  exact finP ⟨_,rfl,rfl⟩
 replace h:=z33 h
 refine zt (tc [(0,0),(1,2)] call48 (z5a (z2t hr3))) ?_
 rintro _ _ ⟨_,⟨v6,v7,rfl,rfl⟩,rfl⟩
 refine al fun b8=>?_
 refine yn 3 ?_
 refine cp1 [(4,0),(5,2)] call78 (fun h=>z1u h) h (fun q12 v14 h=>?_)
 refine yn 4 ?_
 exact fr [3,7,8] results217 h
def z2U (n:Nat) (r_0:z7):Option (Pn (zi×z7)):=
 obind (z19 r_0 5 [61]) fun r2=>
 pbind r2 (fun e5=>
  some (.pan e5)) fun q4=>
 obind (z2d n q4) fun r7=>
 pbind r7 (fun e10=>
  some (.pan e10)) fun q9=>
 some (.ret (q9.1,q9.2))
theorem z56 {n:Nat}:K9 (z2U n) 216:=by
 intro r_0 j2 j0 r h
 refine z1y func216 rfl ntmps216 rfl (fun w0 o0=>?_)
 refine zh (al fun b1=>?_)
 refine yn 2 ?_
 refine cp1 [(0,0),(1,2)] call78 (fun h=>z1u h) h (fun q4 v6 h=>?_)
 refine yn 2 ?_
 refine cp2 [(3,0),(4,2)] call217 (fun h=>z3g h) h (fun q9 v11 v12 h=>?_)
 refine yn 3 ?_
 exact fr [5,6,7] results216 h
def z3Y (n:Nat) (r_0:z7) (s_1:zm):Option (Pn (z7×zm)):=
 obind (z1l r_0 1) fun r1=>
 pbind r1 (fun e4=>
  some (.pan e4)) fun q3=>
 obind (z2U n q3.2) fun r6=>
 pbind r6 (fun e9=>
  some (.pan e9)) fun q8=>
 some (.ret (q8.2,(zm.mk 1 s_1.At q3.1 q8.1 s_1.Body s_1.Else)))
theorem z8R {n:Nat}:K38 (z3Y n) 187:=by
 intro r_0 s_1 j2 j0 j7 j4 j5 j6 r h
 refine z1y func187 rfl ntmps187 rfl (fun w0 o0=>?_)
 refine yn 2 ?_
 refine cp1 [(0,0),(1,2)] call77 (fun h=>z1v h) h (fun q3 v5 h=>?_)
 refine ys ?_
 refine zd (rj [0,1] [2,3,4,5,6,7] ?_)
 refine yn 2 ?_
 refine cp2 [(4,0),(5,2)] call216 (fun h=>z56 h) h (fun q8 v10 v11 h=>?_)
 refine yn 3 ?_
 exact fs [] [7,8,6,1,2,3] results187 h
end Go.Proofs.YtcmaoifiiigggaaGreatDoor
