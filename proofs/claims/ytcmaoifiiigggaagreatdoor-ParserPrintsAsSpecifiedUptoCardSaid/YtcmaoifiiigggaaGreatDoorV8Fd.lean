/-
  Functions of the program, lifted: part 4.
-/
import Derived.Test.YtcmaoifiiigggaaGreatDoorV8Fc
set_option linter.unusedSimpArgs false
set_option linter.unusedVariables false
namespace Go.Proofs.YtcmaoifiiigggaaGreatDoor
open Go.Abs Tryz
set_option maxRecDepth 20000
set_option maxHeartbeats 4000000
def z22 (r_0:z7):Option (Pn ((List UInt8)×z7)):=
 obind (z1l r_0 4) fun r1=>
 pbind r1 (fun e4=>
  some (.pan e4)) fun q3=>
 some (.ret (q3.1,q3.2))
theorem z2O:K6 z22 182:=by
 intro r_0 j2 j0 r h
 refine z1y func182 rfl ntmps182 rfl (fun w0 o0=>?_)
 refine yn 4 ?_
 refine cp1 [(0,0),(1,2)] call77 (fun h=>z1v h) h (fun q3 v5 h=>?_)
 refine yn 3 ?_
 exact fs [2] [2,3] results182 h
def zbb:((List (List UInt8))×(List z6)×Int×Int)→Option (Lp ((List (List UInt8))×(List z6)×Int×Int) (Lp ((List (List UInt8))×(List z6)×Int×Int) (Pn ((List (List UInt8))×z7)))):=
 fun (j1,j9,ja,jb)=>
  obind (z10 (z7.mk j9 ja jb) 5 [44]) fun r27=>
  cond r27.1
   (obind (z22 r27.2) fun r31=>
   pbind r31 (fun e34=>
    some (.stop (.stop (.pan e34)))) fun q33=>
   need (j1.length+([q33.1]:List (List UInt8)).length≤4294967296) (
   some (.go ((j1++([q33.1]:List (List UInt8))),q33.2.l_,q33.2.i_,q33.2.at_))))
   (some (.stop (.go (j1,r27.2.l_,r27.2.i_,r27.2.at_))))
def z4u (n:Nat) (r_0:z7):Option (Pn ((List (List UInt8))×z7)):=
 obind (z22 r_0) fun r1=>
 pbind r1 (fun e4=>
  some (.pan e4)) fun q3=>
 bindJ (S:=(List (List UInt8))×(List z6)×Int×Int)
  (iter (zbb) n (([q3.1]:List (List UInt8)),q3.2.l_,q3.2.i_,q3.2.at_))
 (fun (j4, x_8, x_9, j7) =>
  some (.ret (j4,(z7.mk x_8 x_9 j7))))
theorem z4B {n:Nat} {r_0:z7} {j2:Nat} {j0:Value} {r:Pn ((List (List UInt8))×z7)} (h:z4u n r_0=some r) :
  z4t Tryz.prog 183 [boxP j2 0,.func (.func 182) #[boxP j2 0] #[]] [ro j0 3 (r_0.l_.map z6.enc),box j2 [j0,.int .i64 r_0.i_,.int .i64 r_0.at_]] (fun v G=>∃ q,r = .ret q∧(∃ v0 v1,v=v0∧G=[row v0 1 (q.1.map eStr),ro v1 3 (q.2.l_.map z6.enc),box j2 [v1,.int .i64 q.2.i_,.int .i64 q.2.at_]])) (fun v=>∃ e,r = .pan e∧v = .iface 29 (.agg #[.int .i64 e,.int .i64 180])):=by
 refine z1y func183 rfl ntmps183 rfl (fun w0 o0=>?_)
 refine yn 4 ?_
 refine cp1 [(0,0),(1,2)] call182 (fun h=>z2O h) h (fun q3 v5 h=>?_)
 refine lS [q3.1] fun _=>?_
 refine ys ?_
 refine zd (jr h [] [0,0,0] (fun s (g:V2)=>[(5,g.1)]) (fun s g=>[row g.1 1 (s.1.map eStr),box j2 [g.2,.int .i64 s.2.2.1,.int .i64 s.2.2.2],ro g.2 3 (s.2.1.map z6.enc)]) (fun _ h jc _ jd=>?_) ?_)
 ·refine zF (lo h [0,1] [0,0,0] (fun s (g:V2)=>[(5,g.1)]) (fun s g=>[row g.1 1 (s.1.map eStr),box j2 [g.2,.int .i64 s.2.2.1,.int .i64 s.2.2.2],ro g.2 3 (s.2.1.map z6.enc)]) (_,_) [4,3,2] ?_)
  rintro ⟨j1,_,_,_⟩ ⟨_,_⟩ _ h _ j8 j3
  refine rs ?_
  refine yn 3 ?_
  refine cl1 [(2,0),(1,2)] call76 (fun h=>z13 h) h (fun r27 v29 h=>?_)
  refine yc 1 h (fun _ h=>?_) fun _ h=>?_
  ·refine yn 5 ?_
   refine cp1 [(3,0),(4,2)] call182 (fun h=>z2O h) h (fun q33 v35 h=>?_) (hp:=fun e h=>by obtain rfl:=zU h; obtain rfl:=j3 _ rfl; obtain rfl:=zM jc; exact finP ⟨_,rfl,rfl⟩)
   refine lS [q33.1] fun _=>?_
   obtain ⟨je,h⟩:=zX h
   refine lA zfB 0 7 je fun _=>?_
   refine yn 3 ?_
   exact gj j8 (_,_) [0,6,5] h
  ·refine z1h _ rfl ?_
   exact gk jd j3 (_,_) [0,4,3] h
 rintro ⟨j4,x_8,x_9,j7⟩ ⟨v11,v12⟩ h
 refine rs ?_
 refine yn 4 ?_
 exact fs [4] [0,2,1] results183 h
def z2s (r_0:z7):Option (Pn ((List UInt8)×z7)):=
 obind (z1l r_0 3) fun r1=>
 pbind r1 (fun e4=>
  some (.pan e4)) fun q3=>
 some (.ret (q3.1,q3.2))
theorem z47:K6 z2s 184:=by
 intro r_0 j2 j0 r h
 refine z1y func184 rfl ntmps184 rfl (fun w0 o0=>?_)
 refine yn 4 ?_
 refine cp1 [(0,0),(1,2)] call77 (fun h=>z1v h) h (fun q3 v5 h=>?_)
 refine yn 3 ?_
 exact fs [2] [2,3] results184 h
def za3:((List (List UInt8))×(List z6)×Int×Int)→Option (Lp ((List (List UInt8))×(List z6)×Int×Int) (Lp ((List (List UInt8))×(List z6)×Int×Int) (Pn ((List (List UInt8))×z7)))):=
 fun (j1,j9,ja,jb)=>
  obind (z10 (z7.mk j9 ja jb) 5 [44]) fun r27=>
  cond r27.1
   (obind (z2s r27.2) fun r31=>
   pbind r31 (fun e34=>
    some (.stop (.stop (.pan e34)))) fun q33=>
   need (j1.length+([q33.1]:List (List UInt8)).length≤4294967296) (
   some (.go ((j1++([q33.1]:List (List UInt8))),q33.2.l_,q33.2.i_,q33.2.at_))))
   (some (.stop (.go (j1,r27.2.l_,r27.2.i_,r27.2.at_))))
def z4C (n:Nat) (r_0:z7):Option (Pn ((List (List UInt8))×z7)):=
 obind (z2s r_0) fun r1=>
 pbind r1 (fun e4=>
  some (.pan e4)) fun q3=>
 bindJ (S:=(List (List UInt8))×(List z6)×Int×Int)
  (iter (za3) n (([q3.1]:List (List UInt8)),q3.2.l_,q3.2.i_,q3.2.at_))
 (fun (j4, x_8, x_9, j7) =>
  some (.ret (j4,(z7.mk x_8 x_9 j7))))
theorem z6v {n:Nat} {r_0:z7} {j2:Nat} {j0:Value} {r:Pn ((List (List UInt8))×z7)} (h:z4C n r_0=some r) :
  z4t Tryz.prog 183 [boxP j2 0,.func (.func 184) #[boxP j2 0] #[]] [ro j0 3 (r_0.l_.map z6.enc),box j2 [j0,.int .i64 r_0.i_,.int .i64 r_0.at_]] (fun v G=>∃ q,r = .ret q∧(∃ v0 v1,v=v0∧G=[row v0 1 (q.1.map eStr),ro v1 3 (q.2.l_.map z6.enc),box j2 [v1,.int .i64 q.2.i_,.int .i64 q.2.at_]])) (fun v=>∃ e,r = .pan e∧v = .iface 29 (.agg #[.int .i64 e,.int .i64 180])):=by
 refine z1y func183 rfl ntmps183 rfl (fun w0 o0=>?_)
 refine yn 4 ?_
 refine cp1 [(0,0),(1,2)] call184 (fun h=>z47 h) h (fun q3 v5 h=>?_)
 refine lS [q3.1] fun _=>?_
 refine ys ?_
 refine zd (jr h [] [0,0,0] (fun s (g:V2)=>[(5,g.1)]) (fun s g=>[row g.1 1 (s.1.map eStr),box j2 [g.2,.int .i64 s.2.2.1,.int .i64 s.2.2.2],ro g.2 3 (s.2.1.map z6.enc)]) (fun _ h jc _ jd=>?_) ?_)
 ·refine zF (lo h [0,1] [0,0,0] (fun s (g:V2)=>[(5,g.1)]) (fun s g=>[row g.1 1 (s.1.map eStr),box j2 [g.2,.int .i64 s.2.2.1,.int .i64 s.2.2.2],ro g.2 3 (s.2.1.map z6.enc)]) (_,_) [4,3,2] ?_)
  rintro ⟨j1,_,_,_⟩ ⟨_,_⟩ _ h _ j8 j3
  refine rs ?_
  refine yn 3 ?_
  refine cl1 [(2,0),(1,2)] call76 (fun h=>z13 h) h (fun r27 v29 h=>?_)
  refine yc 1 h (fun _ h=>?_) fun _ h=>?_
  ·refine yn 5 ?_
   refine cp1 [(3,0),(4,2)] call184 (fun h=>z47 h) h (fun q33 v35 h=>?_) (hp:=fun e h=>by obtain rfl:=zU h; obtain rfl:=j3 _ rfl; obtain rfl:=zM jc; exact finP ⟨_,rfl,rfl⟩)
   refine lS [q33.1] fun _=>?_
   obtain ⟨je,h⟩:=zX h
   refine lA zfB 0 7 je fun _=>?_
   refine yn 3 ?_
   exact gj j8 (_,_) [0,6,5] h
  ·refine z1h _ rfl ?_
   exact gk jd j3 (_,_) [0,4,3] h
 rintro ⟨j4,x_8,x_9,j7⟩ ⟨v11,v12⟩ h
 refine rs ?_
 refine yn 4 ?_
 exact fs [4] [0,2,1] results183 h
def z3T (n:Nat) (r_0:z7) (c_1:zl):Option (Pn (z7×zl)):=
 obind (z22 r_0) fun r1=>
 pbind r1 (fun e4=>
  some (.pan e4)) fun q3=>
 obind (z19 q3.2 2 [105,110]) fun r6=>
 pbind r6 (fun e9=>
  some (.pan e9)) fun q8=>
 obind (z4u n q8) fun r11=>
 pbind r11 (fun e14=>
  some (.pan e14)) fun q13=>
 obind (z10 q13.2 2 [100,101,102,97,117,108,116]) fun r18=>
 cond r18.1
  (obind (z22 r18.2) fun r22=>
  pbind r22 (fun e25=>
   some (.pan e25)) fun q24=>
  some (.ret (q24.2,(zl.mk c_1.Kind c_1.At q3.1 q13.1 c_1.Amount q24.1 true c_1.Conds))))
  (some (.ret (r18.2,(zl.mk c_1.Kind c_1.At q3.1 q13.1 c_1.Amount c_1.Default c_1.HasDefault c_1.Conds))))
theorem z8L {n:Nat}:K7 (z3T n) 185:=by
 intro r_0 c_1 j2 j0 jg j5 j6 r h
 refine z1y func185 rfl ntmps185 rfl (fun w0 o0=>?_)
 refine yn 2 ?_
 refine cp1 [(0,0),(1,2)] call182 (fun h=>z2O h) h (fun q3 v5 h=>?_)
 refine yn 3 ?_
 refine cp1 [(5,0),(6,2)] call78 (fun h=>z1u h) h (fun q8 v10 h=>?_)
 refine zc (rj [0,1] [2,3,4,7,8] ?_)
 refine yn 2 ?_
 obtain ⟨r11,jf,h⟩:=zJ h
 rcases r11 with q13 | e14
 rotate_left
 ·replace h:=z32 h
  refine z6M (wn rfl) rfl (tp [(3,0),(4,2)] call183 (z4B jf)) (by rintro _ _ ⟨_,⟨_,hq,_⟩,_⟩; cases hq) ?_
  rintro _ ⟨_,he,rfl⟩
  obtain rfl:=Pn.pan.inj he
  obtain rfl:=zU h
  exact finP ⟨_,rfl,rfl⟩
 replace h:=z33 h
 refine zt (tc [(3,0),(4,2)] call183 (z5a (z4B jf))) ?_
 rintro v15 _ ⟨_,⟨_,v16,rfl,rfl⟩,rfl⟩
 refine ys ?_
 refine zc (rj [0,1] [0,1,2,5,6,7] ?_)
 refine yn 2 ?_
 refine cl1 [(4,0),(5,2)] call76 (fun h=>z13 h) h (fun r18 v20 h=>?_)
 refine yc 1 h (fun _ h=>?_) fun _ h=>?_
 ·refine yn 2 ?_
  refine cp1 [(6,0),(7,2)] call182 (fun h=>z2O h) h (fun q24 v26 h=>?_)
  refine yn 3 ?_
  exact fs [] [8,9,3,1,2] results185 h
 ·refine yn 2 ?_
  exact fs [] [6,7,3,1,2] results185 h
def z3D (r_0:z7) (c_1:zl):Option (Pn (z7×zl)):=
 obind (z1a r_0) fun r1=>
 obind (z2s r_0) fun r3=>
 pbind r3 (fun e6=>
  some (.pan e6)) fun q5=>
 obind (z1a q5.2) fun r8=>
 cond (decide (r8.Kind=1) && decide (c_1.Kind≠17))
  (some (.ret ((z7.mk q5.2.l_ (IntKind.i64.wrap (q5.2.i_+1)) q5.2.at_),(zl.mk c_1.Kind c_1.At c_1.Name c_1.Texts (z1r.mk q5.1 r8.S r1.At) c_1.Default c_1.HasDefault c_1.Conds))))
  (some (.ret (q5.2,(zl.mk c_1.Kind c_1.At c_1.Name c_1.Texts (z1r.mk q5.1 c_1.Amount.Unit r1.At) c_1.Default c_1.HasDefault c_1.Conds))))
theorem z7T:K7 z3D 186:=by
 intro r_0 c_1 j2 j0 jg j5 j6 r h
 refine z1y func186 rfl ntmps186 rfl (fun w0 o0=>?_)
 refine yn 2 ?_
 refine cl0 [(0,0),(1,2)] call75 (fun h=>z1e h) h (fun r1 h=>?_)
 refine ys ?_
 refine zc (rj [0,1] [0,2,3,4,5] ?_)
 refine yn 2 ?_
 refine cp1 [(0,0),(4,2)] call184 (fun h=>z47 h) h (fun q5 v7 h=>?_)
 refine yn 3 ?_
 refine cl0 [(5,0),(6,2)] call75 (fun h=>z1e h) h (fun r8 h=>?_)
 refine al fun b10=>?_
 refine ys ?_
 refine zc (rj [0,1,4] [1,2,3,5,7,8] ?_)
 refine yn 2 ?_
 refine oq 6 23 29 [0,1,4] [0,1,2,3,4,5] (decide (r8.Kind=1) && decide (c_1.Kind≠17)) ?_
 refine yc 1 h (fun _ h=>?_) fun _ h=>?_
 ·refine yn 6 ?_
  exact fs [] [3,4,0,1,2] results186 h
 ·refine yn 2 ?_
  exact fs [] [3,4,0,1,2] results186 h
end Go.Proofs.YtcmaoifiiigggaaGreatDoor
