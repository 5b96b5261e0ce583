/-
  Functions of the program, lifted: part 8.
-/
import Derived.Test.YtcmaoifiiigggaaGreatDoorFg
set_option linter.unusedSimpArgs false
set_option linter.unusedVariables false
namespace Go.Proofs.YtcmaoifiiigggaaGreatDoor
open Go.Abs
set_option maxRecDepth 20000
set_option maxHeartbeats 4000000
def z3i (n:Nat) (rec_weirgate_parser_reader_expr_48:z7→Option (Pn (zi×z7))) (rec_weirgate_parser_reader_not_170:z7→Option (Pn (zi×z7))) (r_0:z7):Option (Pn (zi×z7)):=
 obind (z4n n rec_weirgate_parser_reader_expr_48 rec_weirgate_parser_reader_not_170 r_0 9 2 [110,111,116]) fun r2=>
 pbind r2 (fun e5=>
  some (.pan e5)) fun q4=>
 some (.ret (q4.1,q4.2))
theorem z7h {n:Nat} {rec_weirgate_parser_reader_expr_48:z7→Option (Pn (zi×z7))} (hrec_weirgate_parser_reader_expr_48:K9 rec_weirgate_parser_reader_expr_48 48) {rec_weirgate_parser_reader_not_170:z7→Option (Pn (zi×z7))} (hrec_weirgate_parser_reader_not_170:K9 rec_weirgate_parser_reader_not_170 170):K9 (z3i n rec_weirgate_parser_reader_expr_48 rec_weirgate_parser_reader_not_170) 170:=by
 intro r_0 r_0b r_0_l_v r h
 refine z1y Tryz.func170 rfl Tryz.ntmps170 rfl (fun w0 o0=>?_)
 refine zh ?_
 refine al fun b1=>?_
 refine za ?_
 refine ys ?_
 refine cp2 [(0,0),(1,2)] Tryz.call209 (fun h=>z7X hrec_weirgate_parser_reader_expr_48 hrec_weirgate_parser_reader_not_170 h) h (fun q4 v6 v7 h=>?_)
 refine ys ?_
 refine zd ?_
 refine zA ?_
 exact fr [3,4,5] Tryz.results170 h
def z3e:Nat→(z7→Option (Pn (zi×z7)))→z7→Option (Pn (zi×z7))
 | 0,_=>fun _=>none
 | n+1,rec_weirgate_parser_reader_expr_48=>z3i n rec_weirgate_parser_reader_expr_48 (z3e n rec_weirgate_parser_reader_expr_48)
theorem z8T {n:Nat} {rec_weirgate_parser_reader_expr_48:z7→Option (Pn (zi×z7))} (hrec_weirgate_parser_reader_expr_48:K9 rec_weirgate_parser_reader_expr_48 48):K9 (z3e n rec_weirgate_parser_reader_expr_48) 170:=by
 induction n with
 | zero=>intro _ _ _ _  h; cases h
 | succ n ih=>exact z7h hrec_weirgate_parser_reader_expr_48 ih
def z5c (n:Nat) (rec_weirgate_parser_reader_expr_48:z7→Option (Pn (zi×z7))) (r_0:z7) (from_1:Int) (to_2:Int):Option (Pn (zi×z7)):=
 zli n (z3e n rec_weirgate_parser_reader_expr_48) r_0 from_1 to_2
theorem z7d {n:Nat} {rec_weirgate_parser_reader_expr_48:z7→Option (Pn (zi×z7))} (hrec_weirgate_parser_reader_expr_48:K9 rec_weirgate_parser_reader_expr_48 48) {r_0:z7} {from_1:Int} {to_2:Int} {r_0b:Nat} {r_0_l_v:Value} {r:Pn (zi×z7)} (h:z5c n rec_weirgate_parser_reader_expr_48 r_0 from_1 to_2=some r) :
  z4t Tryz.prog 107 [boxP r_0b 0,.int .i64 from_1,.int .i64 to_2,.func (.func 170) #[boxP r_0b 0] #[]] [ro r_0_l_v 3 (r_0.l_.map z6.enc),box r_0b [r_0_l_v,.int .i64 r_0.i_,.int .i64 r_0.at_]] (fun v G=>∃ q,r = .ret q∧(∃ v0 v1,v = .agg #[.int .i64 q.1.Op,.int .i64 q.1.At,.string (bs q.1.S),v0]∧G=[nrow v0 zj q.1.Args,ro v1 3 (q.2.l_.map z6.enc),box r_0b [v1,.int .i64 q.2.i_,.int .i64 q.2.at_]])) (fun v=>∃ e,r = .pan e∧v = .iface 29 (.agg #[.int .i64 e,.int .i64 180])):=
 zfW Tryz.call170 (z8T hrec_weirgate_parser_reader_expr_48) h
def z3X (n:Nat) (rec_weirgate_parser_reader_expr_48:z7→Option (Pn (zi×z7))) (r_0:z7):Option (Pn (zi×z7)):=
 obind (z5c n rec_weirgate_parser_reader_expr_48 r_0 21 21) fun r2=>
 pbind r2 (fun e5=>
  some (.pan e5)) fun q4=>
 some (.ret (q4.1,q4.2))
theorem z8Q {n:Nat} {rec_weirgate_parser_reader_expr_48:z7→Option (Pn (zi×z7))} (hrec_weirgate_parser_reader_expr_48:K9 rec_weirgate_parser_reader_expr_48 48):K9 (z3X n rec_weirgate_parser_reader_expr_48) 108:=by
 intro r_0 r_0b r_0_l_v r h
 refine z1y Tryz.func108 rfl Tryz.ntmps108 rfl (fun w0 o0=>?_)
 refine zh ?_
 refine al fun b1=>?_
 refine za ?_
 refine ys ?_
 refine cp2 [(0,0),(1,2)] Tryz.call107 (fun h=>z7d hrec_weirgate_parser_reader_expr_48 h) h (fun q4 v6 v7 h=>?_)
 refine ys ?_
 refine zd ?_
 refine zA ?_
 exact fr [3,4,5] Tryz.results108 h
def z5O (n:Nat) (rec_weirgate_parser_reader_expr_48:z7→Option (Pn (zi×z7))) (r_0:z7) (from_1:Int) (to_2:Int):Option (Pn (zi×z7)):=
 zli n (z3X n rec_weirgate_parser_reader_expr_48) r_0 from_1 to_2
theorem z88 {n:Nat} {rec_weirgate_parser_reader_expr_48:z7→Option (Pn (zi×z7))} (hrec_weirgate_parser_reader_expr_48:K9 rec_weirgate_parser_reader_expr_48 48) {r_0:z7} {from_1:Int} {to_2:Int} {r_0b:Nat} {r_0_l_v:Value} {r:Pn (zi×z7)} (h:z5O n rec_weirgate_parser_reader_expr_48 r_0 from_1 to_2=some r) :
  z4t Tryz.prog 107 [boxP r_0b 0,.int .i64 from_1,.int .i64 to_2,.func (.func 108) #[boxP r_0b 0] #[]] [ro r_0_l_v 3 (r_0.l_.map z6.enc),box r_0b [r_0_l_v,.int .i64 r_0.i_,.int .i64 r_0.at_]] (fun v G=>∃ q,r = .ret q∧(∃ v0 v1,v = .agg #[.int .i64 q.1.Op,.int .i64 q.1.At,.string (bs q.1.S),v0]∧G=[nrow v0 zj q.1.Args,ro v1 3 (q.2.l_.map z6.enc),box r_0b [v1,.int .i64 q.2.i_,.int .i64 q.2.at_]])) (fun v=>∃ e,r = .pan e∧v = .iface 29 (.agg #[.int .i64 e,.int .i64 180])):=
 zfW Tryz.call108 (z8Q hrec_weirgate_parser_reader_expr_48) h
def z3h (n:Nat) (rec_weirgate_parser_reader_expr_48:z7→Option (Pn (zi×z7))) (r_0:z7):Option (Pn (zi×z7)):=
 obind (z5O n rec_weirgate_parser_reader_expr_48 r_0 22 22) fun r2=>
 pbind r2 (fun e5=>
  some (.pan e5)) fun q4=>
 some (.ret (q4.1,q4.2))
theorem z7g {n:Nat} {rec_weirgate_parser_reader_expr_48:z7→Option (Pn (zi×z7))} (hrec_weirgate_parser_reader_expr_48:K9 rec_weirgate_parser_reader_expr_48 48):K9 (z3h n rec_weirgate_parser_reader_expr_48) 48:=by
 intro r_0 r_0b r_0_l_v r h
 refine z1y Tryz.func48 rfl Tryz.ntmps48 rfl (fun w0 o0=>?_)
 refine zh ?_
 refine al fun b1=>?_
 refine za ?_
 refine ys ?_
 refine cp2 [(0,0),(1,2)] Tryz.call107 (fun h=>z88 hrec_weirgate_parser_reader_expr_48 h) h (fun q4 v6 v7 h=>?_)
 refine ys ?_
 refine zd ?_
 refine zA ?_
 exact fr [3,4,5] Tryz.results48 h
def z18:Nat→z7→Option (Pn (zi×z7))
 | 0=>fun _=>none
 | n+1=>z3h n  (z18 n )
theorem z2t {n:Nat}:K9 (z18 n) 48:=by
 induction n with
 | zero=>intro _ _ _ _  h; cases h
 | succ n ih=>exact z7g ih
def z2d (n:Nat) (r_0:z7):Option (Pn (zi×z7)):=
 obind (z18 n r_0) fun r2=>
 pbind r2 (fun e5=>
  some (.pan e5)) fun q4=>
 obind (z19 q4.2 5 [59]) fun r10=>
 pbind r10 (fun e13=>
  some (.pan e13)) fun q12=>
 some (.ret (q4.1,q12))
theorem z3g {n:Nat}:K9 (z2d n) 217:=by
 intro r_0 r_0b r_0_l_v r h
 refine z1y Tryz.func217 rfl Tryz.ntmps217 rfl (fun w0 o0=>?_)
 refine zh ?_
 refine al fun b1=>?_
 refine za ?_
 refine ys ?_
 obtain ⟨r2,hr3,h⟩:=zJ h
 rcases r2 with q4 | e5
 rotate_left
 ·replace h:=z32 h
  refine z6M (wn rfl) rfl (tp [(0,0),(1,2)] Tryz.call48 (z2t hr3)) (by rintro _ _ ⟨_,⟨_,hq,_⟩,_⟩; cases hq) ?_
  rintro _ ⟨_,he,rfl⟩
  obtain rfl:=Pn.pan.inj he
  obtain rfl:=zU h
  exact finP ⟨_,rfl,rfl⟩
 replace h:=z33 h
 refine zt (tc [(0,0),(1,2)] Tryz.call48 (z5a (z2t hr3))) ?_
 rintro _ _ ⟨_,⟨v6,v7,rfl,rfl⟩,rfl⟩
 refine al fun b8=>?_
 refine ys ?_
 refine za ?_
 refine ys ?_
 refine cp1 [(4,0),(5,2)] Tryz.call78 (fun h=>z1u h) h (fun q12 v14 h=>?_)
 refine za ?_
 refine ys ?_
 refine zd ?_
 refine zA ?_
 exact fr [3,7,8] Tryz.results217 h
def z2U (n:Nat) (r_0:z7):Option (Pn (zi×z7)):=
 obind (z19 r_0 5 [61]) fun r2=>
 pbind r2 (fun e5=>
  some (.pan e5)) fun q4=>
 obind (z2d n q4) fun r7=>
 pbind r7 (fun e10=>
  some (.pan e10)) fun q9=>
 some (.ret (q9.1,q9.2))
theorem z56 {n:Nat}:K9 (z2U n) 216:=by
 intro r_0 r_0b r_0_l_v r h
 refine z1y Tryz.func216 rfl Tryz.ntmps216 rfl (fun w0 o0=>?_)
 refine zh ?_
 refine al fun b1=>?_
 refine za ?_
 refine ys ?_
 refine cp1 [(0,0),(1,2)] Tryz.call78 (fun h=>z1u h) h (fun q4 v6 h=>?_)
 refine za ?_
 refine ys ?_
 refine cp2 [(3,0),(4,2)] Tryz.call217 (fun h=>z3g h) h (fun q9 v11 v12 h=>?_)
 refine ys ?_
 refine zd ?_
 refine zA ?_
 exact fr [5,6,7] Tryz.results216 h
def z3Y (n:Nat) (r_0:z7) (s_1:zm):Option (Pn (z7×zm)):=
 obind (z1l r_0 1) fun r1=>
 pbind r1 (fun e4=>
  some (.pan e4)) fun q3=>
 obind (z2U n q3.2) fun r6=>
 pbind r6 (fun e9=>
  some (.pan e9)) fun q8=>
 some (.ret (q8.2,(zm.mk 1 s_1.At q3.1 q8.1 s_1.Body s_1.Else)))
theorem z8R {n:Nat}:K38 (z3Y n) 187:=by
 intro r_0 s_1 r_0b r_0_l_v s_1b s_1_X_Argsv s_1_Bodyv s_1_Elsev r h
 refine z1y Tryz.func187 rfl Tryz.ntmps187 rfl (fun w0 o0=>?_)
 refine zh ?_
 refine ys ?_
 refine cp1 [(0,0),(1,2)] Tryz.call77 (fun h=>z1v h) h (fun q3 v5 h=>?_)
 refine ys ?_
 refine zd ?_
 refine rj [0,1] [2,3,4,5,6,7] ?_
 refine z8 ?_
 refine ys ?_
 refine cp2 [(4,0),(5,2)] Tryz.call216 (fun h=>z56 h) h (fun q8 v10 v11 h=>?_)
 refine ys ?_
 refine zr ?_
 refine z3d ?_
 exact fs [] [7,8,6,1,2,3] Tryz.results187 h
end Go.Proofs.YtcmaoifiiigggaaGreatDoor
