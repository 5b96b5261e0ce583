/-
  Functions that the law ParserPrintsAsSpecified needs, lifted.
-/
import Derived.Test.YtcmaoifiiigggaaGreatDoorV8Fl
set_option linter.unusedSimpArgs false
set_option linter.unusedVariables false
namespace Go.Proofs.YtcmaoifiiigggaaGreatDoor
open Go.Abs Tryz
set_option maxRecDepth 20000
set_option maxHeartbeats 4000000
def zeH (j0:Int) (x16:zl):(Int×Int)→Option (Lp (Int×Int) (Lp (Int) (Lp (Int×Int) (Lp (Int) (Int))))):=
 fun (jt,jm)=>
  cond (decide (jm<(x16.Texts.length:Int)))
   (idx x16.Texts jm fun x44=>
   cond (decide (300<(x44.length:Int)))
    (some (.stop (.stop (.stop (.stop (IntKind.i64.wrap (j0+1)))))))
    (some (.go ((IntKind.i64.wrap (jt+1)),(IntKind.i64.wrap (jm+1))))))
   (some (.stop (.go jt)))
def zeG (n:Nat) (l_0:(List zl)) (j0:Int) (q24r:(List zl)→Int→Option (Int)):(Int×Int)→Option (Lp (Int×Int) (Lp (Int) (Int))):=
 fun (n_6,i_7)=>
  cond (decide (i_7<(l_0.length:Int)) && decide (n_6≤j0))
   (idx l_0 i_7 fun x16=>
   cond (((decide (300<(x16.Name.length:Int)) || decide (300<(x16.Default.length:Int))) || decide (300<(x16.Amount.Number.length:Int))) || decide (300<(x16.Amount.Unit.length:Int)))
    (some (.stop (.stop (IntKind.i64.wrap (j0+1)))))
    (bindJ (S := Int)
     (iter (zeH j0 x16) n (n_6,0))
    (fun jo =>
     obind (q24r x16.Conds (IntKind.i64.wrap (j0 - jo))) fun r46=>
     some (.go ((IntKind.i64.wrap ((IntKind.i64.wrap (jo+1))+r46)),(IntKind.i64.wrap (i_7+1)))))))
   (some (.stop (.go n_6)))
def z9E (n:Nat) (q24r:(List zl)→Int→Option (Int)) (l_0:(List zl)) (j0:Int):Option (Int):=
 bindJ (S:=Int)
  (iter (zeG n l_0 j0 q24r) n (0,0))
 (fun n_1 =>
  some n_1)
theorem zbO {n:Nat} {q24r:(List zl)→Int→Option (Int)} (q25h:K25 q24r 63):K25 (z9E n q24r) 63:=by
 intro l_0 j0 ji r h
 refine zN func63 rfl ntmps63 rfl (fun w0 o0=>?_)
 refine yn 4 ?_
 refine zd (jr h [] [] (fun s (g:Unit)=>[(5,.int .i64 s)]) (fun s g=>[]) (fun _ h ho3 _ hL4=>?_) ?_)
 ·refine yn 4 ?_
  refine lo h [0,1] [1] (fun s (g:Unit)=>[(5,.int .i64 s.1),(6,.int .i64 s.2)]) (fun s g=>[]) () [0] ?_
  rintro ⟨n_6,i_7⟩ _ _ h _ jp j3
  refine rs ?_
  refine yn 3 ?_
  refine oq 4 13 17 [5,6,0,1] [0] (decide (i_7<(l_0.length:Int)) && decide (n_6≤j0)) ?_
  refine yc 1 h (fun _ h=>?_) fun _ h=>?_
  ·refine yn 5 ?_
   obtain ⟨x16,ju,jv,j7,h⟩:=zP h
   refine ys ?_
   refine z4a (exAtT (T:=z1W) (i:=i_7.toNat) 0 rfl j7) ?_
   rintro ⟨g17,g18⟩
   refine ys ?_
   refine al fun b19=>?_
   refine yn 4 ?_
   refine oe 5 [5,6,0,1,7] [1,3,4,5] (fun s=>[(33,.bool s)]) (decide (300<(x16.Name.length:Int)) || decide (300<(x16.Default.length:Int))) (fun _ jw=>?_) ?_
   ·refine z1c 28 (decide (300<(x16.Name.length:Int))) rfl (fun jq=>?_) (fun jq=>?_)
    ·skip
     refine ys ?_
     refine oh [0,2,3,4] [nro ji zp l_0,ro g17 1 (x16.Texts.map eStr),nro g18 zp x16.Conds,box b19 [.int .i64 x16.Kind,.int .i64 x16.At,.string (bs x16.Name),g17,.string (bs x16.Amount.Number),.string (bs x16.Amount.Unit),.int .i64 x16.Amount.At,.string (bs x16.Default),.bool x16.HasDefault,g18]] ?_
     refine yn 2 ?_
     exact gc jw true [0,1,2,3] (hi:=by rw [jq]; simp)
    ·skip
     refine ys ?_
     refine oh [0,2,3,4] [nro ji zp l_0,ro g17 1 (x16.Texts.map eStr),nro g18 zp x16.Conds,box b19 [.int .i64 x16.Kind,.int .i64 x16.At,.string (bs x16.Name),g17,.string (bs x16.Amount.Number),.string (bs x16.Amount.Unit),.int .i64 x16.Amount.At,.string (bs x16.Default),.bool x16.HasDefault,g18]] ?_
     refine yn 2 ?_
     exact gc jw (decide (300<(x16.Default.length:Int))) [0,1,2,3] (hi:=by rw [jq]; simp)
   refine os ?_
   refine ys ?_
   refine oq 6 34 40 [5,6,0,1,7] [0,1,2,3] ((decide (300<(x16.Name.length:Int)) || decide (300<(x16.Default.length:Int))) || decide (300<(x16.Amount.Number.length:Int))) ?_
   refine ys ?_
   refine oq 6 41 47 [5,6,0,1,7] [0,1,2,3] (((decide (300<(x16.Name.length:Int)) || decide (300<(x16.Default.length:Int))) || decide (300<(x16.Amount.Number.length:Int))) || decide (300<(x16.Amount.Unit.length:Int))) ?_
   refine yc 1 h (fun _ h=>?_) fun _ h=>?_
   ·refine yn 4 ?_
    obtain rfl:=zU h
    obtain rfl:=j3 _ rfl
    skip
    obtain rfl:=zM ho3
    exact ft [4] [] results63
   ·refine run_skip (zD (jr h [0,1,6,7] [1,4,2,3] (fun s (g:Unit)=>[(5,.int .i64 s)]) (fun s g=>[]) (fun _ h jK _ jL=>?_) ?_))
    ·refine yn 4 ?_
     refine lo h [0,1,6,7] [1,4,2,3] (fun s (g:Unit)=>[(5,.int .i64 s.1),(8,.int .i64 s.2)]) (fun s g=>[]) () [0,3,1,2] ?_
     rintro ⟨_,_⟩ _ _ h _ jx ja
     refine rs ?_
     refine yc 4 h (fun _ h=>?_) fun _ h=>?_
     ·refine yn 5 ?_
      refine zc (rj [5,8,0,1,6,7] [0,1,2,3] ?_)
      refine yn 2 ?_
      obtain ⟨x44,jT,jU,jV,h⟩:=zP h
      refine yc 2 h (fun _ h=>?_) fun _ h=>?_
      ·refine yn 4 ?_
       obtain rfl:=zU h
       obtain rfl:=ja _ rfl
       skip
       obtain rfl:=zM jK
       skip
       obtain rfl:=j3 _ rfl
       skip
       obtain rfl:=zM ho3
       exact ft [4] [] results63
      ·refine yn 5 ?_
       exact gj jx () [0,1,2,3] h
     ·refine z1h _ rfl ?_
      exact gk jL ja () [0,1,2,3] h
    rintro jo _ h
    refine rs ?_
    refine yn 2 ?_
    refine cl0 [(3,0)] call63 (fun h=>q25h h) h (fun r46 h=>?_)
    refine yn 3 ?_
    refine zD (rj [5,0,1,6] [0] ?_)
    refine yn 3 ?_
    exact gj jp () [0] h
  ·refine z1h _ rfl ?_
   exact gk hL4 j3 () [] h
 rintro n_1 _ h
 refine rs ?_
 refine yn 4 ?_
 exact fs [4] [] results63 h
def zad:Nat→(List zl)→Int→Option (Int)
 | 0=>fun _ _=>none
 | n+1=>z9E n  (zad n )
theorem zeI {n:Nat}:K25 (zad n) 63:=by
 induction n with
 | zero=>intro _ _ _ _  h; cases h
 | succ n ih=>exact zbO ih
def zir (x_0:zi) (j0:Int) (q26r:zi→Int→Option (Int)):(Int×Int)→Option (Lp (Int×Int) (Lp (Int) (Int))):=
 fun (n_8,i_9)=>
  cond (decide (i_9<(x_0.Args.length:Int)) && decide (n_8≤j0))
   (idx x_0.Args i_9 fun x18=>
   obind (q26r x18 (IntKind.i64.wrap (j0 - n_8))) fun r20=>
   some (.go ((IntKind.i64.wrap (n_8+r20)),(IntKind.i64.wrap (i_9+1)))))
   (some (.stop (.go n_8)))
def zcT (n:Nat) (q26r:zi→Int→Option (Int)) (x_0:zi) (j0:Int):Option (Int):=
 cond (decide (300<(x_0.S.length:Int)))
  (some (IntKind.i64.wrap (j0+1)))
  (bindJ (S := Int)
   (iter (zir x_0 j0 q26r) n (1,0))
  (fun n_3 =>
   some n_3))
theorem zeO {n:Nat} {q26r:zi→Int→Option (Int)} (q27h:K26 q26r 65):K26 (zcT n q26r) 65:=by
 intro x_0 j0 j4 r h
 refine zN func65 rfl ntmps65 rfl (fun w0 o0=>?_)
 refine zh (lB fun b1=>?_)
 refine yc 5 h (fun _ h=>?_) fun _ h=>?_
 ·refine yn 4 ?_
  exact fs [4] [] results65 h
 ·refine yn 3 ?_
  refine zd (jr h [] [] (fun s (g:Unit)=>[(5,.int .i64 s)]) (fun s g=>[]) (fun _ h _ _ hL6=>?_) ?_)
  ·refine yn 4 ?_
   refine lo h [1,2] [2,1] (fun s (g:Unit)=>[(5,.int .i64 s.1),(6,.int .i64 s.2)]) (fun s g=>[]) () [1,0] ?_
   rintro ⟨n_8,i_9⟩ _ _ h _ jy jj
   refine rs ?_
   refine yn 3 ?_
   refine oq 4 18 22 [5,6,1,2] [0,1] (decide (i_9<(x_0.Args.length:Int)) && decide (n_8≤j0)) ?_
   refine yc 1 h (fun _ h=>?_) fun _ h=>?_
   ·refine yn 5 ?_
    obtain ⟨x18,jW,jX,jz,h⟩:=zP h
    refine ys ?_
    refine z4a (exAtT (T:=z1b) (i:=i_9.toNat) 1 rfl jz) ?_
    rintro (g19:Value)
    refine ys ?_
    refine cl0 [(3,0)] call65 (fun h=>q27h h) h (fun r20 h=>?_)
    refine yn 3 ?_
    refine zD (rj [5,6,1,2] [0,1] ?_)
    refine yn 3 ?_
    exact gj jy () [0,1] h
   ·refine z1h _ rfl ?_
    exact gk hL6 jj () [] h
  rintro n_3 _ h
  refine rs ?_
  refine yn 4 ?_
  exact fs [4] [] results65 h
def zdk:Nat→zi→Int→Option (Int)
 | 0=>fun _ _=>none
 | n+1=>zcT n  (zdk n )
theorem zeP {n:Nat}:K26 (zdk n) 65:=by
 induction n with
 | zero=>intro _ _ _ _  h; cases h
 | succ n ih=>exact zeO ih
def zfP (n:Nat) (l_0:(List zm)) (j0:Int) (q28r:(List zm)→Int→Option (Int)):(Int×Int)→Option (Lp (Int×Int) (Lp (Int) (Int))):=
 fun (n_6,i_7)=>
  cond (decide (i_7<(l_0.length:Int)) && decide (n_6≤j0))
   (idx l_0 i_7 fun x16=>
   cond (decide (300<(x16.Name.length:Int)))
    (some (.stop (.stop (IntKind.i64.wrap (j0+1)))))
    (obind (zdk n x16.X (IntKind.i64.wrap (j0 - n_6))) fun r21=>
    obind (q28r x16.Body (IntKind.i64.wrap (j0 - (IntKind.i64.wrap ((IntKind.i64.wrap (n_6+1))+r21))))) fun r26=>
    obind (q28r x16.Else (IntKind.i64.wrap (j0 - (IntKind.i64.wrap ((IntKind.i64.wrap ((IntKind.i64.wrap (n_6+1))+r21))+r26))))) fun r31=>
    some (.go ((IntKind.i64.wrap ((IntKind.i64.wrap ((IntKind.i64.wrap ((IntKind.i64.wrap (n_6+1))+r21))+r26))+r31)),(IntKind.i64.wrap (i_7+1))))))
   (some (.stop (.go n_6)))
def zaE (n:Nat) (q28r:(List zm)→Int→Option (Int)) (l_0:(List zm)) (j0:Int):Option (Int):=
 bindJ (S:=Int)
  (iter (zfP n l_0 j0 q28r) n (0,0))
 (fun n_1 =>
  some n_1)
theorem zcF {n:Nat} {q28r:(List zm)→Int→Option (Int)} (q29h:K27 q28r 64):K27 (zaE n q28r) 64:=by
 intro l_0 j0 ji r h
 refine zN func64 rfl ntmps64 rfl (fun w0 o0=>?_)
 refine yn 4 ?_
 refine zd (jr h [] [] (fun s (g:Unit)=>[(5,.int .i64 s)]) (fun s g=>[]) (fun _ h ho3 _ hL4=>?_) ?_)
 ·refine yn 4 ?_
  refine lo h [0,1] [1] (fun s (g:Unit)=>[(5,.int .i64 s.1),(6,.int .i64 s.2)]) (fun s g=>[]) () [0] ?_
  rintro ⟨n_6,i_7⟩ _ _ h _ jp j3
  refine rs ?_
  refine yn 3 ?_
  refine oq 4 11 15 [5,6,0,1] [0] (decide (i_7<(l_0.length:Int)) && decide (n_6≤j0)) ?_
  refine yc 1 h (fun _ h=>?_) fun _ h=>?_
  ·refine yn 6 ?_
   obtain ⟨x16,ju,jv,j7,h⟩:=zP h
   refine ys ?_
   refine z4a (exAtT (T:=z1S) (i:=i_7.toNat) 0 rfl j7) ?_
   rintro ⟨g17,g18,g19⟩
   refine yc 2 h (fun _ h=>?_) fun _ h=>?_
   ·refine yn 4 ?_
    obtain rfl:=zU h
    obtain rfl:=j3 _ rfl
    skip
    obtain rfl:=zM ho3
    exact ft [4] [] results64
   ·refine yn 3 ?_
    refine oh [0,2] [nro ji zE l_0,nro g17 zj x16.X.Args] ?_
    refine ys ?_
    obtain ⟨r21,jM,h⟩:=zJ h
    refine zt (tc [(1,0)] call65 (zeP jM)) ?_
    rintro _ _ ⟨_,⟨rfl,rfl⟩,rfl⟩
    refine yn 3 ?_
    refine z4a (exAtT (T:=z1S) (i:=i_7.toNat) 0 rfl j7) ?_
    rintro ⟨g23,g24,g25⟩
    refine ys ?_
    refine cl0 [(4,0)] call64 (fun h=>q29h h) h (fun r26 h=>?_)
    refine ys ?_
    refine zd (rj [6,0,1,5] [0] ?_)
    refine yn 2 ?_
    refine z4a (exAtT (T:=z1S) (i:=i_7.toNat) 0 rfl j7) ?_
    rintro ⟨g28,g29,g30⟩
    refine ys ?_
    refine cl0 [(4,0)] call64 (fun h=>q29h h) h (fun r31 h=>?_)
    refine yn 3 ?_
    refine zD (rj [6,0,1,5] [0] ?_)
    refine yn 3 ?_
    exact gj jp () [0] h
  ·refine z1h _ rfl ?_
   exact gk hL4 j3 () [] h
 rintro n_1 _ h
 refine rs ?_
 refine yn 4 ?_
 exact fs [4] [] results64 h
def zbL:Nat→(List zm)→Int→Option (Int)
 | 0=>fun _ _=>none
 | n+1=>zaE n  (zbL n )
theorem zfQ {n:Nat}:K27 (zbL n) 64:=by
 induction n with
 | zero=>intro _ _ _ _  h; cases h
 | succ n ih=>exact zcF ih
def zk4 (n:Nat) (x_0:zG) (j0:Int) (i_8:Int):(Int×Int)→Option (Lp (Int×Int) (Lp (Int) (Lp (Int×Int) (Lp (Int) (Bool))))):=
 fun (je,j8)=>
  idx x_0.Policies i_8 fun x31=>
  cond (decide (j8<(x31.Rules.length:Int)) && decide (je≤j0))
   (idx x31.Rules j8 fun x38=>
   cond (decide (300<(x38.Name.length:Int)))
    (some (.stop (.stop (.stop (.stop false)))))
    (obind (zad n x38.Clauses (IntKind.i64.wrap (j0 - je))) fun r43=>
    some (.go ((IntKind.i64.wrap ((IntKind.i64.wrap (je+1))+r43)),(IntKind.i64.wrap (j8+1))))))
   (some (.stop (.go je)))
def zk3 (n:Nat) (x_0:zG) (j0:Int):(Int×Int)→Option (Lp (Int×Int) (Lp (Int) (Bool))):=
 fun (n_7,i_8)=>
  cond (decide (i_8<(x_0.Policies.length:Int)) && decide (n_7≤j0))
   (bindJ (S := Int)
    (idx x_0.Policies i_8 fun x22=>
    cond (decide (300<(x22.Name.length:Int)))
     (some (.stop (.stop (.stop false))))
     (iter (zk4 n x_0 j0 i_8) n (n_7,0)))
   (fun jA =>
    some (.go (jA,(IntKind.i64.wrap (i_8+1))))))
   (some (.stop (.go n_7)))
def zk5 (n:Nat) (x_0:zG) (j0:Int):(Int×Int)→Option (Lp (Int×Int) (Lp (Int) (Bool))):=
 fun (jf,j9)=>
  cond (decide (j9<(x_0.Programs.length:Int)) && decide (jf≤j0))
   (idx x_0.Programs j9 fun x60=>
   cond (decide (300<(x60.Name.length:Int)))
    (some (.stop (.stop false)))
    (obind (zbL n x60.Code (IntKind.i64.wrap (j0 - jf))) fun r66=>
    some (.go ((IntKind.i64.wrap ((IntKind.i64.wrap (jf+(x60.Effects.length:Int)))+r66)),(IntKind.i64.wrap (j9+1))))))
   (some (.stop (.go jf)))
def zii (n:Nat) (x_0:zG) (j0:Int):Option (Bool):=
 bindJ (S:=Int)
  (iter (zk3 n x_0 j0) n ((IntKind.i64.wrap ((x_0.Policies.length:Int)+(x_0.Programs.length:Int))),0))
 (fun n_2 =>
  bindJ (S:=Int)
   (iter (zk5 n x_0 j0) n (n_2,0))
  (fun jB =>
   some (decide (jB≤j0))))
theorem zgB {n:Nat} {x_0:zG} {j0:Int} {j1:Value} {j2:Value} {r:Bool} (h:zii n x_0 j0=some r) :
  Meets Tryz.prog 25 [.agg #[j1,j2],.int .i64 j0] [nro j1 zz x_0.Policies,nro j2 zw x_0.Programs] (fun v G=>v = .bool r∧G=[]):=by
 refine zN func25 rfl ntmps25 rfl (fun w0 o0=>?_)
 refine zh (lB fun b1=>?_)
 refine yn 3 ?_
 refine zd (jr h [1,2] [3,1,2] (fun s (g:Unit)=>[(5,.int .i64 s)]) (fun s g=>[]) (fun _ h ho4 _ hL5=>?_) ?_)
 ·refine zH (rj [1,2,5] [0,1,2] ?_)
  refine yn 4 ?_
  refine lo h [1,2] [3,1,2] (fun s (g:Unit)=>[(5,.int .i64 s.1),(6,.int .i64 s.2)]) (fun s g=>[]) () [2,0,1] ?_
  rintro ⟨n_7,i_8⟩ _ _ h _ jC j6
  refine rs ?_
  refine yn 3 ?_
  refine oq 4 21 25 [5,6,1,2] [0,1,2] (decide (i_8<(x_0.Policies.length:Int)) && decide (n_7≤j0)) ?_
  refine yc 1 h (fun _ h=>?_) fun _ h=>?_
  ·refine run_skip (zD (jr h [1,2,6] [1,2,3] (fun s (g:Unit)=>[(5,.int .i64 s)]) (fun s g=>[]) (fun _ h jD _ jN=>?_) ?_))
   ·refine yn 4 ?_
    obtain ⟨x22,jY,jZ,jE,h⟩:=zP h
    refine ys ?_
    refine z4a (exAt (C:=zz) (i:=i_8.toNat) 1 rfl jE) ?_
    rintro (g23:Value)
    refine yc 2 h (fun _ h=>?_) fun _ h=>?_
    ·refine zH (rj [] [] ?_)
     refine yn 4 ?_
     obtain rfl:=zU h
     obtain rfl:=zM jD
     skip
     obtain rfl:=j6 _ rfl
     skip
     obtain rfl:=zM ho4
     exact ft [4] [] results25
    ·refine run_skip (zg (rj [5,6,1,2] [0,1,2] ?_))
     refine yn 4 ?_
     refine lo h [1,2,6] [1,2,3] (fun s (g:Unit)=>[(5,.int .i64 s.1),(7,.int .i64 s.2)]) (fun s g=>[]) () [0,1,2] ?_
     rintro ⟨je,j8⟩ _ _ h _ jF jb
     refine rs ?_
     refine yn 3 ?_
     obtain ⟨x31,j00,j01,jg,h⟩:=zP h
     refine ys ?_
     refine z4a (exAt (C:=zz) (i:=i_8.toNat) 1 rfl jg) ?_
     rintro (g32:Value)
     refine ys ?_
     refine oq 4 45 49 [5,7,1,2,6] [0,1,2] (decide (j8<(x31.Rules.length:Int)) && decide (je≤j0)) ?_
     refine yc 1 h (fun _ h=>?_) fun _ h=>?_
     ·refine yn 6 ?_
      refine z4a (exAt (C:=zz) (i:=i_8.toNat) 1 rfl jg) ?_
      rintro (g37:Value)
      refine ys ?_
      obtain ⟨x38,j02,j03,jk,h⟩:=zP h
      refine ys ?_
      refine z4a (exAt (C:=zY) (i:=j8.toNat) 4 rfl jk) ?_
      rintro (g39:Value)
      refine yc 2 h (fun _ h=>?_) fun _ h=>?_
      ·refine zH (rj [] [] ?_)
       refine yn 4 ?_
       obtain rfl:=zU h
       obtain rfl:=jb _ rfl
       skip
       obtain rfl:=zM jD
       skip
       obtain rfl:=j6 _ rfl
       skip
       obtain rfl:=zM ho4
       exact ft [4] [] results25
      ·refine run_skip (zD (rj [5,7,1,2,6] [0,1,2] ?_))
       refine yn 2 ?_
       refine z4a (exAt (C:=zz) (i:=i_8.toNat) 1 rfl jg) ?_
       rintro (g41:Value)
       refine ys ?_
       refine z4a (exAt (C:=zY) (i:=j8.toNat) 4 rfl jk) ?_
       rintro (g42:Value)
       refine ys ?_
       obtain ⟨r43,jO,h⟩:=zJ h
       refine zt (tc [(6,0)] call63 (zeI jO)) ?_
       rintro _ _ ⟨_,⟨rfl,rfl⟩,rfl⟩
       refine oh [0,1,2] [box b1 [j1,j2],nro j1 zz x_0.Policies,nro j2 zw x_0.Programs] ?_
       refine yn 6 ?_
       exact gj jF () [0,1,2] h
     ·refine z1h _ rfl ?_
      exact zS (gk jN jb () [0,1,2] h)
   rintro jA _ h
   refine rs ?_
   refine yn 3 ?_
   exact gj jC () [0,1,2] h
  ·refine z1h _ rfl ?_
   exact gk hL5 j6 () [0,1,2] h
 rintro n_2 _ h
 refine rs ?_
 refine jr h [1] [] (fun s (g:Unit)=>[(5,.int .i64 s)]) (fun s g=>[]) (fun _ h jP _ jQ=>?_) ?_
 ·refine yn 4 ?_
  refine lo h [1,2] [1,2,3] (fun s (g:Unit)=>[(5,.int .i64 s.1),(8,.int .i64 s.2)]) (fun s g=>[]) () [0,1,2] ?_
  rintro ⟨jf,j9⟩ _ _ h _ jG jc
  refine rs ?_
  refine yn 3 ?_
  refine oq 4 86 90 [5,8,1,2] [0,1,2] (decide (j9<(x_0.Programs.length:Int)) && decide (jf≤j0)) ?_
  refine yc 1 h (fun _ h=>?_) fun _ h=>?_
  ·refine yn 6 ?_
   obtain ⟨x60,j04,j05,jl,h⟩:=zP h
   refine ys ?_
   refine z4a (exAt (C:=zw) (i:=j9.toNat) 2 rfl jl) ?_
   rintro ⟨g61,g62⟩
   refine yc 2 h (fun _ h=>?_) fun _ h=>?_
   ·refine zH (rj [] [] ?_)
    refine yn 4 ?_
    obtain rfl:=zU h
    obtain rfl:=jc _ rfl
    skip
    obtain rfl:=zM jP
    exact ft [4] [] results25
   ·refine run_skip (zD (rj [5,8,1,2] [0,1,2] ?_))
    refine rf [1,1,1] fun hS=>?_
    refine aq [0,1,2,3,4] ?_
    refine z9T (exAt (C:=zw) (i:=j9.toNat) 2 rfl jl) ?_
    rintro ⟨g64,g65⟩
    refine ag [1,1,1,1] ?_
    refine ag [1,1,1,1,1] ?_
    refine ag [1,1,1,1,1,1] ?_
    refine aq [5,6,7,8,9,10,11,12,13,14,15,16,17] ?_
    refine ao 18 ?_
    obtain ⟨r66,jR,h⟩:=zJ h
    refine at' rfl (tc [(5,0)] call64 (zfQ jR)) ?_
    rintro _ _ ⟨_,⟨rfl,rfl⟩,rfl⟩
    refine sb ?_
    refine aq [19,20] ?_
    refine z1K (by kernel_rfl) ?_
    refine zS (zD (rj [5,8,1,2] [0,1,2] ?_))
    refine yn 3 ?_
    exact gj jG () [0,1,2] h
  ·refine z1h _ rfl ?_
   exact gk jQ jc () [] h
 rintro jB _ h
 refine rs ?_
 refine yn 4 ?_
 exact fs [4] [] results25 h
def zhC (n:Nat) (x_0:zi) (j0:Int):Option (Bool):=
 obind (zdk n x_0 j0) fun r2=>
 some (decide (r2≤j0))
theorem zil {n:Nat} {x_0:zi} {j0:Int} {j4:Value} {r:Bool} (h:zhC n x_0 j0=some r) :
  Meets Tryz.prog 26 [.agg #[.int .i64 x_0.Op,.int .i64 x_0.At,.string (bs x_0.S),j4],.int .i64 j0] [nro j4 zj x_0.Args] (fun v G=>v = .bool r∧G=[]):=by
 refine zN func26 rfl ntmps26 rfl (fun w0 o0=>?_)
 refine zh (lB fun b1=>?_)
 refine yn 3 ?_
 obtain ⟨r2,hr3,h⟩:=zJ h
 refine zt (tc [(0,0)] call65 (zeP hr3)) ?_
 rintro _ _ ⟨_,⟨rfl,rfl⟩,rfl⟩
 refine yn 3 ?_
 exact fs [4] [] results26 h
def z8h (n:Nat) (j5:Int) (l_2:(List (List UInt8))):(Int×(List z6))→Option (Lp (Int×(List z6)) (Pn (zo))):=
 fun (s_1,x_2)=>
  cond (decide (s_1<(l_2.length:Int)))
   (idx l_2 s_1 fun x9=>
   bindJ (S:=(List z6))
    (cond (decide (0 < s_1))
     (obind (zW n (zo.mk x_2) ([[44]]:List (List UInt8))) fun r18=>
     some (.go r18.l_))
     (some (.go x_2)))
   (fun jH =>
    obind (z14 (zo.mk jH) j5 x9) fun r21=>
    some (.go ((IntKind.i64.wrap (s_1+1)),r21.l_))))
   (some (.stop (.ret (zo.mk x_2))))
def z30 (n:Nat) (w_0:zo) (j5:Int) (l_2:(List (List UInt8))):Option (Pn (zo)):=
 iter (z8h n j5 l_2) n (0,w_0.l_)
theorem z3k {n:Nat} {w_0:zo} {j5:Int} {l_2:(List (List UInt8))} {jh:Nat} {jd:Value} {jI:Value} {r:Pn (zo)} (h:z30 n w_0 j5 l_2=some r) :
  z4t Tryz.prog 213 [boxP jh 0,.int .i64 j5,jI] [row jd 3 (w_0.l_.map z6.enc),box jh [jd],ro jI 1 (l_2.map eStr)] (fun v G=>∃ q,r = .ret q∧(∃ v0,v = .tuple #[]∧G=[row v0 3 (q.l_.map z6.enc),box jh [v0]])) (fun v=>∃ e,r = .pan e∧v = .iface 27 (.int .i64 e)):=by
 refine z1y func213 rfl ntmps213 rfl (fun w0 o0=>?_)
 refine yn 4 ?_
 refine lo h [0,1,8,9] [0,0,3] (fun s (g:Value)=>[(10,.int .i64 s.1)]) (fun s g=>[box jh [g],row g 3 (s.2.map z6.enc)]) _ [1,0,2] ?_
 rintro ⟨_,_⟩ _ _ h _ jS js
 refine rs ?_
 refine yc 3 h (fun _ h=>?_) fun _ h=>?_
 ·refine yn 5 ?_
  obtain ⟨x9,j06,j07,j08,h⟩:=zP h
  refine ys ?_
  refine zd (jr h [0,1,7,8,9,10] [0,0,3] (fun s (g:Value)=>[]) (fun s g=>[box jh [g],row g 3 (s.map z6.enc)]) (fun _ h _ _ jJ=>?_) ?_)
  ·refine yc 3 h (fun _ h=>?_) fun _ h=>?_
   ·refine rj [10,0,1,8,9,7] [0,1,2] ?_
    refine yn 2 ?_
    refine lS [[44]] fun _=>?_
    refine cl1 [(1,2),(0,2),(3,1)] call116 (fun h=>zZ h) h (fun r18 v20 h=>?_)
    exact zr (gj jJ _ [5,4,2] h)
   ·exact run_skip (gj jJ _ [0,1,2] h)
  rintro jH v11 h
  refine rs ?_
  refine yn 2 ?_
  refine cl1 [(1,2),(0,2)] call113 (fun h=>z17 h) h (fun r21 v23 h=>?_)
  refine yn 5 ?_
  exact gj jS _ [4,3,2] h
 ·refine z1h _ rfl ?_
  refine z3d ?_
  obtain rfl:=zU h
  obtain rfl:=js _ rfl
  exact ft [] [1,0] results213
end Go.Proofs.YtcmaoifiiigggaaGreatDoor
