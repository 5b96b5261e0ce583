/-
  Functions that the law ParserPrintsAsSpecified needs, lifted.
-/
import Derived.Test.YtcmaoifiiigggaaGreatDoorV8G5a
import Derived.Test.YtcmaoifiiigggaaGreatDoorV8G8e
set_option linter.unusedSimpArgs false
set_option linter.unusedVariables false
namespace Go.Proofs.YtcmaoifiiigggaaGreatDoor
open Go.Abs Tryz
set_option maxRecDepth 20000
set_option maxHeartbeats 4000000
def zeK (n:Nat) (l_0:(List zm)) (q44r:(List zm)→Option (Bool)):(Int)→Option (Lp (Int) (Lp (Unit) (Bool))):=
 fun i_5=>
  cond (decide (i_5<(l_0.length:Int)))
   (idx l_0 i_5 fun x11=>
   bindJ (S:=Bool)
    (cond ((decide (x11.Kind < 1) || decide (9 < x11.Kind)) || ((!((decide (x11.Kind = 1) || decide (x11.Kind = 2)) || decide (x11.Kind = 3))) && (!decide (x11.Name = []))))
     (some (.go true))
     (obind (z93 n x11.X) fun r40=>
     some (.go (!r40))))
   (fun b34 =>
    cond b34
     (some (.stop (.stop false)))
     (cond (((decide (x11.Kind ≠ 5) && decide (0 < (x11.Else.length : Int))) || ((decide (x11.Kind ≠ 5) && decide (x11.Kind ≠ 6)) && decide (0 < (x11.Body.length : Int)))) || (decide (x11.Kind = 6) && decide (x11.X.Op ≠ 1)))
      (some (.stop (.stop false)))
      (obind (q44r x11.Body) fun r62=>
      bindJ (S:=Bool)
       (cond (!r62)
        (some (.go true))
        (obind (q44r x11.Else) fun r70=>
        some (.go (!r70))))
      (fun b64 =>
       cond b64
        (some (.stop (.stop false)))
        (some (.go (IntKind.i64.wrap (i_5+1)))))))))
   (some (.stop (.go ())))
def z9F (n:Nat) (q44r:(List zm)→Option (Bool)) (l_0:(List zm)):Option (Bool):=
 bindJ (S:=Unit)
  (iter (zeK n l_0 q44r) n 0)
 (fun _ =>
  some true)
theorem zbR {n:Nat} {q44r:(List zm)→Option (Bool)} (q45h:K32 q44r 135):K32 (z9F n q44r) 135:=by
 intro l_0 jx r h
 refine zN func135 rfl ntmps135 rfl (fun w0 o0=>?_)
 refine yn 2 ?_
 refine zd (jr h [] [] (fun s (g:Unit)=>[]) (fun s g=>[]) (fun _ h ho2 _ hL3=>?_) ?_)
 ·refine yn 4 ?_
  refine lo h [0] [1] (fun s (g:Unit)=>[(3,.int .i64 s)]) (fun s g=>[]) () [0] ?_
  rintro i_5 _ _ h _ jy j3
  refine rs ?_
  refine yc 4 h (fun _ h=>?_) fun _ h=>?_
  ·refine yn 5 ?_
   obtain ⟨x11,jI,jJ,ji,h⟩:=zP h
   refine ys ?_
   refine z4a (exAtT (T:=z1S) (i:=i_5.toNat) 0 rfl ji) ?_
   rintro ⟨g12,g13,g14⟩
   refine ys ?_
   refine al fun b15=>?_
   refine ys ?_
   refine zc (rj [3,0,4] [0,2,3,4,5] ?_)
   refine yn 2 ?_
   refine oq 4 19 23 [3,0,4] [0,1,2,3,4] (decide (x11.Kind=1) || decide (x11.Kind=2)) ?_
   refine ys ?_
   refine oq 4 24 28 [3,0,4] [0,1,2,3,4] ((decide (x11.Kind=1) || decide (x11.Kind=2)) || decide (x11.Kind=3)) ?_
   refine yn 4 ?_
   refine oq 4 32 36 [3,0,4,5] [0,1,2,3,4] (decide (x11.Kind<1) || decide (9<x11.Kind)) ?_
   refine ys ?_
   refine oe 8 [3,0,4] [1,2,3,4,5] (fun s=>[(45,.bool s)]) ((decide (x11.Kind<1) || decide (9<x11.Kind)) || ((!((decide (x11.Kind=1) || decide (x11.Kind=2)) || decide (x11.Kind=3))) && (!decide (x11.Name=[])))) (fun _ jj=>?_) ?_
   ·refine z1c 37 (decide (x11.Kind<1) || decide (9<x11.Kind)) rfl (fun jb=>?_) (fun jb=>?_)
    ·skip
     refine ys ?_
     refine z2p 11 true 40 rfl rfl rfl rfl rfl ?_
     refine z2p 11 true 40 rfl rfl rfl rfl rfl ?_
     refine z2p 11 true 40 rfl rfl rfl rfl rfl ?_
     refine yn 2 ?_
     exact gc jj true [0,1,2,3,4] (hi:=by rw [jb]; simp)
    ·skip
     refine ys ?_
     refine oq 4 40 44 [3,0,4,37] [0,1,2,3,4] ((!((decide (x11.Kind=1) || decide (x11.Kind=2)) || decide (x11.Kind=3))) && (!decide (x11.Name=[]))) ?_
     refine yn 2 ?_
     exact gc jj ((!((decide (x11.Kind=1) || decide (x11.Kind=2)) || decide (x11.Kind=3))) && (!decide (x11.Name=[]))) [0,1,2,3,4] (hi:=by rw [jb]; simp)
   refine os ?_
   refine ys ?_
   refine ob h 5 [3,0,4] [1,2,3,4,5] (fun s=>[(51,.bool s)]) (fun s=>[]) (fun _ h _ _ jk=>?_) ?_
   ·refine z1c 46 ((decide (x11.Kind<1) || decide (9<x11.Kind)) || ((!((decide (x11.Kind=1) || decide (x11.Kind=2)) || decide (x11.Kind=3))) && (!decide (x11.Name=[])))) rfl (fun jc=>?_) (fun jc=>?_)
    ·replace h:=z2F h jc
     refine yn 2 ?_
     exact gb jk [0,1,2,3,4] h
    ·replace h:=z2E h jc
     refine ys ?_
     obtain ⟨r40,jz,h⟩:=zJ h
     refine zt (tc [(1,0)] call54 (zdI jz)) ?_
     rintro _ _ ⟨_,⟨rfl,rfl⟩,rfl⟩
     refine yn 2 ?_
     exact gb jk [0,1,2,3,4] h
   rintro b34 h
   refine os ?_
   refine yc 1 h (fun _ h=>?_) fun _ h=>?_
   ·refine yn 4 ?_
    obtain rfl:=zU h
    obtain rfl:=j3 _ rfl
    skip
    obtain rfl:=zM ho2
    exact ft [2] [] results135
   ·refine yn 4 ?_
    refine oq 5 55 60 [3,0,4] [0,1,2,3,4] (decide (x11.Kind≠5) && decide (0<(x11.Else.length:Int))) ?_
    refine ys ?_
    refine oe 15 [3,0,4] [1,2,3,4,5] (fun s=>[(76,.bool s)]) ((decide (x11.Kind≠5) && decide (0<(x11.Else.length:Int))) || ((decide (x11.Kind≠5) && decide (x11.Kind≠6)) && decide (0<(x11.Body.length:Int)))) (fun _ jl=>?_) ?_
    ·refine z1c 61 (decide (x11.Kind≠5) && decide (0<(x11.Else.length:Int))) rfl (fun jd=>?_) (fun jd=>?_)
     ·skip
      refine ys ?_
      refine z2p 13 true 65 rfl rfl rfl rfl rfl ?_
      refine z2p 13 true 65 rfl rfl rfl rfl rfl ?_
      refine z2p 13 true 65 rfl rfl rfl rfl rfl ?_
      refine ys ?_
      refine z2p 18 true 70 rfl rfl rfl rfl rfl ?_
      refine z2p 18 true 70 rfl rfl rfl rfl rfl ?_
      refine z2p 18 true 70 rfl rfl rfl rfl rfl ?_
      refine z2p 18 true 70 rfl rfl rfl rfl rfl ?_
      refine ys ?_
      refine oh [0,1,2,3,4] [nro jx zE l_0,nro g12 zj x11.X.Args,nro g13 zE x11.Body,nro g14 zE x11.Else,box b15 [.int .i64 x11.Kind,.int .i64 x11.At,.string (bs x11.Name),.int .i64 x11.X.Op,.int .i64 x11.X.At,.string (bs x11.X.S),g12,g13,g14]] ?_
      refine yn 2 ?_
      exact gc jl true [0,1,2,3,4] (hi:=by rw [jd]; simp)
     ·skip
      refine ys ?_
      refine oq 4 65 69 [3,0,4,61] [0,1,2,3,4] (decide (x11.Kind≠5) && decide (x11.Kind≠6)) ?_
      refine ys ?_
      refine oq 5 70 75 [3,0,4,61] [0,1,2,3,4] ((decide (x11.Kind≠5) && decide (x11.Kind≠6)) && decide (0<(x11.Body.length:Int))) ?_
      refine yn 2 ?_
      exact gc jl ((decide (x11.Kind≠5) && decide (x11.Kind≠6)) && decide (0<(x11.Body.length:Int))) [0,1,2,3,4] (hi:=by rw [jd]; simp)
    refine os ?_
    refine ys ?_
    refine oe 10 [3,0,4] [1,2,3,4,5] (fun s=>[(87,.bool s)]) (((decide (x11.Kind≠5) && decide (0<(x11.Else.length:Int))) || ((decide (x11.Kind≠5) && decide (x11.Kind≠6)) && decide (0<(x11.Body.length:Int)))) || (decide (x11.Kind=6) && decide (x11.X.Op≠1))) (fun _ jm=>?_) ?_
    ·refine z1c 77 ((decide (x11.Kind≠5) && decide (0<(x11.Else.length:Int))) || ((decide (x11.Kind≠5) && decide (x11.Kind≠6)) && decide (0<(x11.Body.length:Int)))) rfl (fun je=>?_) (fun je=>?_)
     ·skip
      refine ys ?_
      refine z2p 29 true 81 rfl rfl rfl rfl rfl ?_
      refine z2p 29 true 81 rfl rfl rfl rfl rfl ?_
      refine z2p 29 true 81 rfl rfl rfl rfl rfl ?_
      refine z2p 29 true 81 rfl rfl rfl rfl rfl ?_
      refine yn 2 ?_
      exact gc jm true [0,1,2,3,4] (hi:=by rw [je]; simp)
     ·skip
      refine ys ?_
      refine oq 5 81 86 [3,0,4,77] [0,1,2,3,4] (decide (x11.Kind=6) && decide (x11.X.Op≠1)) ?_
      refine yn 2 ?_
      exact gc jm (decide (x11.Kind=6) && decide (x11.X.Op≠1)) [0,1,2,3,4] (hi:=by rw [je]; simp)
    refine os ?_
    refine yc 1 h (fun _ h=>?_) fun _ h=>?_
    ·refine yn 4 ?_
     obtain rfl:=zU h
     obtain rfl:=j3 _ rfl
     skip
     obtain rfl:=zM ho2
     exact ft [2] [] results135
    ·refine yn 3 ?_
     refine cl0 [(2,0)] call135 (fun h=>q45h h) h (fun r62 h=>?_)
     refine ys ?_
     refine ob h 5 [3,0] [1] (fun s=>[(97,.bool s)]) (fun s=>[]) (fun _ h _ _ jo=>?_) ?_
     ·refine z1c 92 (!r62) rfl (fun jf=>?_) (fun jf=>?_)
      ·replace h:=z2F h jf
       refine yn 2 ?_
       exact gb jo [0] h
      ·replace h:=z2E h jf
       refine ys ?_
       refine cl0 [(3,0)] call135 (fun h=>q45h h) h (fun r70 h=>?_)
       refine yn 2 ?_
       exact gb jo [0] h
     rintro b64 h
     refine os ?_
     refine yc 1 h (fun _ h=>?_) fun _ h=>?_
     ·refine yn 4 ?_
      obtain rfl:=zU h
      obtain rfl:=j3 _ rfl
      skip
      obtain rfl:=zM ho2
      exact ft [2] [] results135
     ·refine yn 5 ?_
      exact gj jy () [0] h
  ·refine z1h _ rfl ?_
   exact gk hL3 j3 () [] h
 rintro _ _ h
 refine rs ?_
 refine yn 4 ?_
 exact fs [2] [] results135 h
def zah:Nat→(List zm)→Option (Bool)
 | 0=>fun _=>none
 | n+1=>z9F n  (zah n )
theorem zeL {n:Nat}:K32 (zah n) 135:=by
 induction n with
 | zero=>intro _ _ _  h; cases h
 | succ n ih=>exact zbR ih
def zh8 (n:Nat) (x_0:zG) (i_6:Int):(Int)→Option (Lp (Int) (Lp (Unit) (Lp (Int) (Lp (Unit) (Bool))))):=
 fun j7=>
  idx x_0.Policies i_6 fun x21=>
  cond (decide (j7<(x21.Rules.length:Int)))
   (idx x21.Rules j7 fun x25=>
   obind (z8z n x25.Clauses false) fun r27=>
   cond (!r27)
    (some (.stop (.stop (.stop (.stop false)))))
    (some (.go (IntKind.i64.wrap (j7+1)))))
   (some (.stop (.go ())))
def zh7 (n:Nat) (x_0:zG):(Int)→Option (Lp (Int) (Lp (Unit) (Bool))):=
 fun i_6=>
  cond (decide (i_6<(x_0.Policies.length:Int)))
   (bindJ (S := Unit)
    (iter (zh8 n x_0 i_6) n 0)
   (fun _ =>
    some (.go (IntKind.i64.wrap (i_6+1)))))
   (some (.stop (.go ())))
def zha (x_0:zG) (j2:Int):(Int)→Option (Lp (Int) (Lp (Unit) (Lp (Int) (Lp (Unit) (Bool))))):=
 fun jg=>
  idx x_0.Programs j2 fun x49=>
  cond (decide (jg<(x49.Effects.length:Int)))
   (idx x49.Effects jg fun x55=>
   cond (decide (x55<1) || decide (6<x55))
    (some (.stop (.stop (.stop (.stop false)))))
    (some (.go (IntKind.i64.wrap (jg+1)))))
   (some (.stop (.go ())))
def zh9 (n:Nat) (x_0:zG):(Int)→Option (Lp (Int) (Lp (Unit) (Bool))):=
 fun j2=>
  cond (decide (j2<(x_0.Programs.length:Int)))
   (bindJ (S := Unit)
    (iter (zha x_0 j2) n 0)
   (fun _ =>
    idx x_0.Programs j2 fun x60=>
    obind (zah n x60.Code) fun r63=>
    cond (!r63)
     (some (.stop (.stop false)))
     (some (.go (IntKind.i64.wrap (j2+1))))))
   (some (.stop (.go ())))
def zgC (n:Nat) (x_0:zG):Option (Bool):=
 bindJ (S:=Unit)
  (iter (zh7 n x_0) n 0)
 (fun _ =>
  bindJ (S:=Unit)
   (iter (zh9 n x_0) n 0)
  (fun _ =>
   some true))
theorem zhb {n:Nat} {x_0:zG} {j1:Value} {j0:Value} {r:Bool} (h:zgC n x_0=some r) :
  Meets Tryz.prog 68 [.agg #[j1,j0]] [nro j1 zz x_0.Policies,nro j0 zw x_0.Programs] (fun v G=>v = .bool r∧G=[]):=by
 refine zN func68 rfl ntmps68 rfl (fun w0 o0=>?_)
 refine zh (lB fun b1=>?_)
 refine ys ?_
 refine zd (jr h [1] [3,1,2] (fun s (g:Unit)=>[]) (fun s g=>[]) (fun _ h ho3 _ hL4=>?_) ?_)
 ·refine yn 4 ?_
  refine lo h [1] [3,1,2] (fun s (g:Unit)=>[(3,.int .i64 s)]) (fun s g=>[]) () [2,0,1] ?_
  rintro i_6 _ _ h _ jA j8
  refine rs ?_
  refine yc 4 h (fun _ h=>?_) fun _ h=>?_
  ·refine run_skip (zD (jr h [1,3] [1,2,3] (fun s (g:Unit)=>[]) (fun s g=>[]) (fun _ h jB _ jC=>?_) ?_))
   ·refine yn 5 ?_
    refine lo h [1,3] [1,2,3] (fun s (g:Unit)=>[(4,.int .i64 s)]) (fun s g=>[]) () [0,1,2] ?_
    rintro j7 _ _ h _ jp j5
    refine rs ?_
    refine yn 3 ?_
    obtain ⟨x21,jK,jL,j9,h⟩:=zP h
    refine ys ?_
    refine z4a (exAt (C:=zz) (i:=i_6.toNat) 1 rfl j9) ?_
    rintro (g22:Value)
    refine yc 2 h (fun _ h=>?_) fun _ h=>?_
    ·refine yn 3 ?_
     refine zH (rj [4,1,3] [0,1,2] ?_)
     refine yn 2 ?_
     refine z4a (exAt (C:=zz) (i:=i_6.toNat) 1 rfl j9) ?_
     rintro (g24:Value)
     refine ys ?_
     obtain ⟨x25,jM,jN,jq,h⟩:=zP h
     refine ys ?_
     refine z4a (exAt (C:=zY) (i:=j7.toNat) 4 rfl jq) ?_
     rintro (g26:Value)
     refine ys ?_
     obtain ⟨r27,jD,h⟩:=zJ h
     refine zt (tc [(6,0)] call134 (zcS jD)) ?_
     rintro _ _ ⟨_,⟨rfl,rfl⟩,rfl⟩
     refine ys ?_
     refine zc (rj [4,1,3,5] [0,1,2] ?_)
     refine yc 3 h (fun _ h=>?_) fun _ h=>?_
     ·refine yn 4 ?_
      obtain rfl:=zU h
      obtain rfl:=j5 _ rfl
      skip
      obtain rfl:=zM jB
      skip
      obtain rfl:=j8 _ rfl
      skip
      obtain rfl:=zM ho3
      exact ft [2] [] results68
     ·refine yn 5 ?_
      exact gj jp () [0,1,2] h
    ·refine z1h _ rfl ?_
     exact zS (gk jC j5 () [0,1,2] h)
   rintro _ _ h
   refine rs ?_
   refine yn 3 ?_
   exact gj jA () [0,1,2] h
  ·refine z1h _ rfl ?_
   exact gk hL4 j8 () [0,1,2] h
 rintro _ _ h
 refine rs ?_
 refine jr h [] [] (fun s (g:Unit)=>[]) (fun s g=>[]) (fun _ h js _ jE=>?_) ?_
 ·refine yn 4 ?_
  refine lo h [1] [1,2,3] (fun s (g:Unit)=>[(6,.int .i64 s)]) (fun s g=>[]) () [0,1,2] ?_
  rintro j2 _ _ h _ jt j4
  refine rs ?_
  refine yc 4 h (fun _ h=>?_) fun _ h=>?_
  ·refine yn 3 ?_
   refine jr h [1,6] [1,2,3] (fun s (g:Unit)=>[]) (fun s g=>[]) (fun _ h jF _ jG=>?_) ?_
   ·refine yn 4 ?_
    refine lo h [1,6] [1,2,3] (fun s (g:Unit)=>[(7,.int .i64 s)]) (fun s g=>[]) () [0,1,2] ?_
    rintro _ _ _ h _ ju j6
    refine rs ?_
    refine yn 3 ?_
    obtain ⟨x49,jO,jP,ja,h⟩:=zP h
    refine ys ?_
    refine z4a (exAt (C:=zw) (i:=j2.toNat) 2 rfl ja) ?_
    rintro ⟨g50,g51⟩
    refine yc 2 h (fun _ h=>?_) fun _ h=>?_
    ·refine yn 3 ?_
     refine zH (rj [7,1,6] [0,1,2] ?_)
     refine yn 2 ?_
     refine z4a (exAt (C:=zw) (i:=j2.toNat) 2 rfl ja) ?_
     rintro ⟨g53,g54⟩
     refine ys ?_
     obtain ⟨x55,jQ,jR,jS,h⟩:=zP h
     refine ys ?_
     refine oe 11 [7,1,6] [1,2,3] (fun s=>[(79,.bool s)]) (decide (x55<1) || decide (6<x55)) (fun _ jv=>?_) ?_
     ·refine z1c 68 (decide (x55<1)) rfl (fun jh=>?_) (fun jh=>?_)
      ·skip
       refine ys ?_
       refine oh [0,1,2] [box b1 [j1,j0],nro j1 zz x_0.Policies,nro j0 zw x_0.Programs] ?_
       refine yn 2 ?_
       exact gc jv true [0,1,2] (hi:=by rw [jh]; simp)
      ·skip
       refine ys ?_
       refine oh [0,1,2,3,4,5] [box b1 [j1,j0],nro j1 zz x_0.Policies,nro j0 zw x_0.Programs,atc j0 (j2.toNat*4) [.string (bs x49.Name),.int .i64 x49.At,g53,g54],ro g53 1 (x49.Effects.map (eInt .i64)),nro g54 zE x49.Code] ?_
       refine yn 2 ?_
       exact gc jv (decide (6<x55)) [0,1,2] (hi:=by rw [jh]; simp)
     refine os ?_
     refine yc 1 h (fun _ h=>?_) fun _ h=>?_
     ·refine yn 4 ?_
      obtain rfl:=zU h
      obtain rfl:=j6 _ rfl
      skip
      obtain rfl:=zM jF
      skip
      obtain rfl:=j4 _ rfl
      skip
      obtain rfl:=zM js
      exact ft [2] [] results68
     ·refine yn 5 ?_
      exact gj ju () [0,1,2] h
    ·refine z1h _ rfl ?_
     exact gk jG j6 () [0,1,2] h
   rintro _ _ h
   refine rs ?_
   refine yn 2 ?_
   obtain ⟨x60,jT,jU,jw,h⟩:=zP h
   refine ys ?_
   refine z4a (exAt (C:=zw) (i:=j2.toNat) 2 rfl jw) ?_
   rintro ⟨g61,g62⟩
   refine ys ?_
   obtain ⟨r63,jH,h⟩:=zJ h
   refine zt (tc [(5,0)] call135 (zeL jH)) ?_
   rintro _ _ ⟨_,⟨rfl,rfl⟩,rfl⟩
   refine ys ?_
   refine zc (rj [1,6,8] [0,1,2] ?_)
   refine yc 3 h (fun _ h=>?_) fun _ h=>?_
   ·refine yn 4 ?_
    obtain rfl:=zU h
    obtain rfl:=j4 _ rfl
    skip
    obtain rfl:=zM js
    exact ft [2] [] results68
   ·refine yn 5 ?_
    exact gj jt () [0,1,2] h
  ·refine z1h _ rfl ?_
   exact gk jE j4 () [] h
 rintro _ _ h
 refine rs ?_
 refine yn 4 ?_
 exact fs [2] [] results68 h
end Go.Proofs.YtcmaoifiiigggaaGreatDoor
