/-
  Functions that the law ParserReadsExpressions needs, lifted.
-/
import Derived.Test.YtcmaoifiiigggaaGreatDoorFh
import Derived.Test.YtcmaoifiiigggaaGreatDoorV5G3k
set_option linter.unusedSimpArgs false
set_option linter.unusedVariables false
namespace Go.Proofs.YtcmaoifiiigggaaGreatDoor
open Go.Abs
set_option maxRecDepth 20000
set_option maxHeartbeats 4000000
def z4k (n:Nat) (s_0:(List UInt8)):Option (zi×z11):=
 obind (z4J n s_0) fun r3=>
 cond (decide (r3.2.E≠0))
  (some ((zi.mk 0 0 [] ([]:List zi)),r3.2))
  (obind (z83 n r3.1) fun r9=>
  cond (decide (0≤r9))
   (idx r3.1 r9 fun x14=>
   some ((zi.mk 0 0 [] ([]:List zi)),(z11.mk x14.At 2)))
   (obind (z18 n (z7.mk r3.1 0 (s_0.length:Int))) fun r17=>
   pbind r17 (fun e20=>
    some ((zi.mk 0 0 [] ([]:List zi)),(z11.mk e20 180))) fun q19=>
   bindJ (S:=Unit)
    (cond (decide (q19.2.i_ < (r3.1.length : Int)))
     (obind (z16 q19.2) fun r29=>
     pbind r29 (fun e32=>
      some (.stop ((zi.mk 0 0 [] ([]:List zi)),(z11.mk e32 180)))) fun q31=>
     some (.go ()))
     (some (.go ())))
   (fun _ =>
    some (q19.1,(z11.mk 0 0)))))
theorem z7K {n:Nat} {s_0:(List UInt8)} {r:zi×z11} (h:z4k n s_0=some r) :
  Meets Tryz.prog 47 [.string (bs s_0),.func (.func 48) #[] #[]] [globA] (fun v G=>∃ v0,v = .tuple #[.agg #[.int .i64 r.1.Op,.int .i64 r.1.At,.string (bs r.1.S),v0],.agg #[.int .i64 r.2.At,.int .i64 r.2.E]]∧G=[nro v0 zj r.1.Args]):=by
 refine zcm Tryz.func47 rfl Tryz.ntmps47 rfl (fun w0 o0=>?_)
 refine zh ?_
 refine al fun b1=>?_
 refine al fun b2=>?_
 refine za ?_
 refine ys ?_
 refine cl1 [(0,0)] Tryz.call15 (fun h=>z66 h) h (fun r3 v5 h=>?_)
 refine ys ?_
 refine zc ?_
 refine zH ?_
 refine rj [0,1,4,5,6] [0,1,2,3] ?_
 refine z8 ?_
 refine ys ?_
 refine zd ?_
 refine rc h (fun _ h=>?_) (fun _ h=>?_)
 ·refine zH ?_
  refine zcY (fun L7 hL8=>?_)
  refine rf [1,1,1,1] fun hS=>?_
  refine aq [0,1] ?_
  refine ast 2 ?_
  refine ast 3 ?_
  refine z1K (by kernel_rfl) ?_
  refine zay hL8 ?_
  refine zD ?_
  refine zA ?_
  refine z1k (zas zj) ?_
  obtain rfl:=zU h
  refine z4R [.cell 4 47,.cell 5 29] [.agg #[.int .i64 0,.int .i64 0,.string (bs []),(.slice none 0 0)],.agg #[.int .i64 r3.2.At,.int .i64 r3.2.E]] [4] [nro (.slice none 0 0) zj ([]:List zi)] Tryz.results47 rfl (rescons (z5H 1 Tryz.isAgg47 Tryz.sizeOf47 rfl rfl rfl) (rescons (z5H 2 Tryz.isAgg29 Tryz.sizeOf29 rfl rfl rfl) resnil)) (by decide) rfl ?_
  exact ⟨_,rfl,rfl⟩
 ·refine run_skip ?_
  refine zg ?_
  refine zh ?_
  refine ys ?_
  refine cl0 [(3,1)] Tryz.call72 (fun h=>z9M h) h (fun r9 h=>?_)
  refine ys ?_
  refine za ?_
  refine ys ?_
  refine zd ?_
  refine rc h (fun _ h=>?_) (fun _ h=>?_)
  ·refine zH ?_
   refine rj [4,5,6,7] [0,1,2,3] ?_
   refine zcY (fun L12 hL13=>?_)
   refine rf [1,1,0,1] fun hS=>?_
   refine aq [0,1,2] ?_
   obtain ⟨x14,hzx14,hlx14,hxx14,h⟩:=zP h
   refine aq [3,4,5,6] ?_
   refine ast 7 ?_
   refine ast 8 ?_
   refine z1K (by kernel_rfl) ?_
   refine zay hL13 ?_
   refine zD ?_
   refine zA ?_
   refine z1k (zas zj) ?_
   obtain rfl:=zU h
   refine z4R [.cell 4 47,.cell 5 29] [.agg #[.int .i64 0,.int .i64 0,.string (bs []),(.slice none 0 0)],.agg #[.int .i64 x14.At,.int .i64 2]] [4] [nro (.slice none 0 0) zj ([]:List zi)] Tryz.results47 rfl (rescons (z5H 1 Tryz.isAgg47 Tryz.sizeOf47 rfl rfl rfl) (rescons (z5H 2 Tryz.isAgg29 Tryz.sizeOf29 rfl rfl rfl) resnil)) (by decide) rfl ?_
   exact ⟨_,rfl,rfl⟩
  ·refine run_skip ?_
   refine zg ?_
   refine rj [0,1,4,5,6] [0,1,2,3] ?_
   refine z8 ?_
   refine ys ?_
   refine zet (wn rfl) rfl rfl rfl rfl ?_
   refine za ?_
   refine ys ?_
   refine zB (Go.Abs.freeze 3 rfl) ?_
   refine zt (t_box rfl) ?_
   rintro _ _ ⟨b16,rfl,rfl⟩
   refine ys ?_
   refine zc ?_
   refine rj [1,4,5,6,8] [0,1,2,3,4] ?_
   refine z8 ?_
   refine ys ?_
   obtain ⟨r17,hr18,h⟩:=zJ h
   rcases r17 with q19 | e20
   rotate_left
   ·replace h:=z32 h
    refine z6M (wn rfl) rfl (tp [(3,0),(4,2)] Tryz.call48 (z2t hr18)) (by rintro _ _ ⟨_,⟨_,hq,_⟩,_⟩; cases hq) ?_
    rintro _ ⟨_,he,rfl⟩
    obtain rfl:=Pn.pan.inj he
    refine zaS Tryz.call106 (zgA b1 b2 e20 1 2 rfl rfl rfl (by decide)) ?_
    refine z1k (zas zj) ?_
    obtain rfl:=zU h
    refine z4R [.cell 4 47,.cell 5 29] [.agg #[.int .i64 0,.int .i64 0,.string (bs []),(.slice none 0 0)],.agg #[.int .i64 e20,.int .i64 180]] [5] [nro (.slice none 0 0) zj ([]:List zi)] Tryz.results47 rfl (rescons (z5H 1 Tryz.isAgg47 Tryz.sizeOf47 rfl rfl rfl) (rescons (z5H 2 Tryz.isAgg29 Tryz.sizeOf29 rfl rfl rfl) resnil)) (by decide) rfl ?_
    exact ⟨_,rfl,rfl⟩
   replace h:=z33 h
   refine zt (tc [(3,0),(4,2)] Tryz.call48 (z5a (z2t hr18))) ?_
   rintro _ _ ⟨_,⟨v21,v22,rfl,rfl⟩,rfl⟩
   refine zB (z24 5 rfl) ?_
   refine ys ?_
   refine zd ?_
   refine jr h [4,5] [2,6,3,1] (fun s (g:Unit)=>[]) (fun s g=>[]) (fun _ h ho25 _ hL26=>?_) ?_
   ·refine zh ?_
    refine ys ?_
    refine zd ?_
    refine rc h (fun _ h=>?_) (fun _ h=>?_)
    ·refine rj [4,5,8] [0,1,2,5,6,7] ?_
     refine z8 ?_
     refine ys ?_
     obtain ⟨r29,hr30,h⟩:=zJ h
     rcases r29 with q31 | e32
     rotate_left
     ·replace h:=z32 h
      refine z6M (wn rfl) rfl (tp [(4,0),(5,2)] Tryz.call74 (z15 hr30)) (by rintro _ _ ⟨_,⟨_,hq,_⟩,_⟩; cases hq) ?_
      rintro _ ⟨_,he,rfl⟩
      obtain rfl:=Pn.pan.inj he
      refine zaS Tryz.call106 (zgA b1 b2 e32 1 2 rfl rfl rfl (by decide)) ?_
      refine z1k (zas zj) ?_
      obtain rfl:=zU h
      obtain rfl:=zM ho25
      refine z4R [.cell 4 47,.cell 5 29] [.agg #[.int .i64 0,.int .i64 0,.string (bs []),(.slice none 0 0)],.agg #[.int .i64 e32,.int .i64 180]] [6] [nro (.slice none 0 0) zj ([]:List zi)] Tryz.results47 rfl (rescons (z5H 1 Tryz.isAgg47 Tryz.sizeOf47 rfl rfl rfl) (rescons (z5H 2 Tryz.isAgg29 Tryz.sizeOf29 rfl rfl rfl) resnil)) (by decide) rfl ?_
      exact ⟨_,rfl,rfl⟩
     replace h:=z33 h
     refine zt (tc [(4,0),(5,2)] Tryz.call74 (z5a (z15 hr30))) ?_
     rintro _ _ ⟨_,⟨rfl,rfl⟩,rfl⟩
     refine zr ?_
     exact gj hL26 () [1,3,2,0] h
    ·refine run_skip ?_
     exact gj hL26 () [1,5,2,0] h
   rintro _ _ h
   refine rs ?_
   refine zh ?_
   refine ys ?_
   refine zd ?_
   refine zA ?_
   refine zeh Tryz.call106 (zk2 b1 b2 _) ?_
   obtain rfl:=zU h
   refine z4R [.cell 4 47,.cell 5 29] [.agg #[.int .i64 q19.1.Op,.int .i64 q19.1.At,.string (bs q19.1.S),v21],.agg #[.int .i64 0,.int .i64 0]] [1] [nro v21 zj q19.1.Args] Tryz.results47 rfl (rescons (z5H 0 Tryz.isAgg47 Tryz.sizeOf47 rfl rfl rfl) (rescons (z5H 2 Tryz.isAgg29 Tryz.sizeOf29 rfl rfl rfl) resnil)) (by decide) rfl ?_
   exact ⟨_,rfl,rfl⟩
def z8Z (n:Nat) (s_0:(List UInt8)):Option (zi×z11):=
 obind (z4k n s_0) fun r3=>
 some (r3.1,r3.2)
theorem zeu {n:Nat} {s_0:(List UInt8)} {r:zi×z11} (h:z8Z n s_0=some r) :
  Meets Tryz.prog 17 [.string (bs s_0)] [globA] (fun v G=>∃ v0,v = .tuple #[.agg #[.int .i64 r.1.Op,.int .i64 r.1.At,.string (bs r.1.S),v0],.agg #[.int .i64 r.2.At,.int .i64 r.2.E]]∧G=[nro v0 zj r.1.Args]):=by
 refine zN Tryz.func17 rfl Tryz.ntmps17 rfl (fun w0 o0=>?_)
 refine zh ?_
 refine al fun b1=>?_
 refine al fun b2=>?_
 refine za ?_
 refine ys ?_
 refine cl1 [(0,0)] Tryz.call47 (fun h=>z7K h) h (fun r3 v5 h=>?_)
 refine ys ?_
 refine zd ?_
 refine zA ?_
 exact fr [3] Tryz.results17 h
def zeC (n:Nat) (s_0:(List UInt8)):Option (z4Z):=
 obind (z6w n s_0) fun r2=>
 cond (decide (r2.P.E≠0))
  (some (z4Z.mk (zi.mk 0 0 [] ([]:List zi)) r2.P))
  (obind (zcO n r2.L) fun r8=>
  cond (decide (0≤r8))
   (idx r2.L r8 fun x11=>
   some (z4Z.mk (zi.mk 0 0 [] ([]:List zi)) (z11.mk x11.At 2)))
   (obind (z4O n r2.L 0) fun r12=>
   cond (r12.Bad || decide (r12.I<(r2.L.length:Int)))
    (obind (zbu s_0 r2.L r12.I) fun r21=>
    some (z4Z.mk (zi.mk 0 0 [] ([]:List zi)) r21))
    (some (z4Z.mk r12.X (z11.mk 0 0)))))
theorem zjl {n:Nat} {s_0:(List UInt8)} {r:z4Z} (h:zeC n s_0=some r) :
  Meets Tryz.prog 18 [.string (bs s_0)] [] (fun v G=>∃ v0,v = .agg #[.int .i64 r.X.Op,.int .i64 r.X.At,.string (bs r.X.S),v0,.int .i64 r.P.At,.int .i64 r.P.E]∧G=[nro v0 zj r.X.Args]):=by
 refine zN Tryz.func18 rfl Tryz.ntmps18 rfl (fun w0 o0=>?_)
 refine zh ?_
 refine al fun b1=>?_
 refine za ?_
 refine ys ?_
 refine cl1 [] Tryz.call34 (fun h=>zaW h) h (fun r2 v4 h=>?_)
 refine al fun b5=>?_
 refine ys ?_
 refine zc ?_
 refine zh ?_
 refine ys ?_
 refine zd ?_
 refine rc h (fun _ h=>?_) (fun _ h=>?_)
 ·refine zH ?_
  refine rj [2,3] [0,1,2] ?_
  refine z8 ?_
  refine ys ?_
  refine zd ?_
  refine zA ?_
  refine z1k (zas zj) ?_
  exact fr [3] Tryz.results18 h
 ·refine run_skip ?_
  refine zg ?_
  refine rj [0,2,3] [0,1,2] ?_
  refine z8 ?_
  refine ys ?_
  refine cl0 [(1,1)] Tryz.call35 (fun h=>zcP h) h (fun r8 h=>?_)
  refine ys ?_
  refine zc ?_
  refine zh ?_
  refine ys ?_
  refine zd ?_
  refine rc h (fun _ h=>?_) (fun _ h=>?_)
  ·refine zh ?_
   refine ys ?_
   obtain ⟨x11,hzx11,hlx11,hxx11,h⟩:=zP h
   refine ys ?_
   refine zd ?_
   refine zA ?_
   refine z1k (zas zj) ?_
   exact fr [3] Tryz.results18 h
  ·refine run_skip ?_
   refine ze ?_
   refine ys ?_
   refine zB (Go.Abs.freeze 1 rfl) ?_
   obtain ⟨r12,hr13,h⟩:=zJ h
   refine zt (tc [(1,0)] Tryz.call49 (zaH hr13)) ?_
   rintro _ _ ⟨_,⟨v14,rfl,rfl⟩,rfl⟩
   refine al fun b15=>?_
   refine ys ?_
   refine zc ?_
   refine zH ?_
   refine rj [0,2,3,5] [0,1,2,3,4] ?_
   refine z8 ?_
   refine ys ?_
   refine oq 7 33 40 [0,2,3,5] [0,1,2,3,4] (r12.Bad || decide (r12.I<(r2.L.length:Int))) ?_
   refine zd ?_
   refine rc h (fun _ h=>?_) (fun _ h=>?_)
   ·refine zh ?_
    refine ys ?_
    refine cl0 [(1,0)] Tryz.call37 (fun h=>zeV h) h (fun r21 h=>?_)
    refine ys ?_
    refine zd ?_
    refine zA ?_
    refine z1k (zas zj) ?_
    exact fr [5] Tryz.results18 h
   ·refine run_skip ?_
    refine ze ?_
    refine ys ?_
    refine zd ?_
    refine zA ?_
    exact fr [3] Tryz.results18 h
def zdj (op_0:Int):Option (Int):=
 cond (decide (op_0=23))
  (some (-1))
  (cond (decide (1 ≤ op_0) && decide (op_0 ≤ 7))
   (some 0)
   (cond (decide (op_0 = 8) || decide (op_0 = 9))
    (some 1)
    (cond (decide (10 ≤ op_0) && decide (op_0 ≤ 22))
     (some 2)
     (some (-2)))))
theorem zim {op_0:Int} {r:Int} (h:zdj op_0=some r) :
  Meets Tryz.prog 119 [.int .i64 op_0] [] (fun v G=>v = .int .i64 r∧G=[]):=by
 refine zN Tryz.func119 rfl Tryz.ntmps119 rfl (fun w0 o0=>?_)
 refine zh ?_
 refine ys ?_
 refine zc ?_
 refine zh ?_
 refine ys ?_
 refine zd ?_
 refine rc h (fun _ h=>?_) (fun _ h=>?_)
 ·refine zh ?_
  refine ys ?_
  refine zd ?_
  refine zA ?_
  exact fs [2] [] Tryz.results119 h
 ·refine run_skip ?_
  refine zg ?_
  refine zh ?_
  refine ys ?_
  refine oq 3 7 10 [0] [] (decide (1≤op_0) && decide (op_0≤7)) ?_
  refine zd ?_
  refine rc h (fun _ h=>?_) (fun _ h=>?_)
  ·refine zh ?_
   refine ys ?_
   refine zd ?_
   refine zA ?_
   exact fs [2] [] Tryz.results119 h
  ·refine run_skip ?_
   refine zg ?_
   refine zh ?_
   refine ys ?_
   refine oq 3 13 16 [0] [] (decide (op_0=8) || decide (op_0=9)) ?_
   refine zd ?_
   refine rc h (fun _ h=>?_) (fun _ h=>?_)
   ·refine zh ?_
    refine ys ?_
    refine zd ?_
    refine zA ?_
    exact fs [2] [] Tryz.results119 h
   ·refine run_skip ?_
    refine zg ?_
    refine zh ?_
    refine ys ?_
    refine oq 3 19 22 [] [] (decide (10≤op_0) && decide (op_0≤22)) ?_
    refine zd ?_
    refine rc h (fun _ h=>?_) (fun _ h=>?_)
    ·refine zh ?_
     refine ys ?_
     refine zd ?_
     refine zA ?_
     exact fs [2] [] Tryz.results119 h
    ·refine run_skip ?_
     refine ze ?_
     refine ys ?_
     refine zd ?_
     refine zA ?_
     exact fs [2] [] Tryz.results119 h
def zaZ (x_0:zi) (rec_ref19_formed:zi→Option (Bool)):(Int)→Option (Lp (Int) (Lp (Unit) (Bool))):=
 fun i_34=>
  cond (decide (i_34<(x_0.Args.length:Int)))
   (idx x_0.Args i_34 fun x40=>
   obind (rec_ref19_formed x40) fun r42=>
   cond (!r42)
    (some (.stop (.stop false)))
    (some (.go (IntKind.i64.wrap (i_34+1)))))
   (some (.stop (.go ())))
def z7E (n:Nat) (rec_ref19_formed:zi→Option (Bool)) (x_0:zi):Option (Bool):=
 obind (zdj x_0.Op) fun r2=>
 cond (((decide (0≤r2) && decide ((x_0.Args.length:Int)≠r2)) || (decide (r2=(-1)) && decide ((x_0.Args.length:Int)<2))) || decide (r2=(-2)))
  (some false)
  (cond ((!(((decide (x_0.Op = 1) || decide (x_0.Op = 2)) || decide (x_0.Op = 3)) || decide (x_0.Op = 6))) && (!decide (x_0.S = [])))
   (some false)
   (bindJ (S := Unit)
    (iter (zaZ x_0 rec_ref19_formed) n 0)
   (fun _ =>
    some true)))
theorem ze2 {n:Nat} {rec_ref19_formed:zi→Option (Bool)} (hrec_ref19_formed:K19 rec_ref19_formed 54):K19 (z7E n rec_ref19_formed) 54:=by
 intro x_0 x_0_Argsv r h
 refine zN Tryz.func54 rfl Tryz.ntmps54 rfl (fun w0 o0=>?_)
 refine zh ?_
 refine zt (t_box rfl) ?_
 rintro _ _ ⟨b1,rfl,rfl⟩
 refine ys ?_
 refine za ?_
 refine ys ?_
 refine cl0 [] Tryz.call119 (fun h=>zim h) h (fun r2 h=>?_)
 refine ys ?_
 refine zc ?_
 refine zh ?_
 refine ys ?_
 refine oq 6 12 18 [1,3] [0,1] (decide (0≤r2) && decide ((x_0.Args.length:Int)≠r2)) ?_
 refine ys ?_
 refine oe 9 [1,3] [1,2] (fun s=>[(28,.bool s)]) ((decide (0≤r2) && decide ((x_0.Args.length:Int)≠r2)) || (decide (r2=(-1)) && decide ((x_0.Args.length:Int)<2))) (fun _ hL8=>?_) ?_
 ·refine z1c 19 (decide (0≤r2) && decide ((x_0.Args.length:Int)≠r2)) rfl (fun hg9=>?_) (fun hg9=>?_)
  ·skip
   refine ys ?_
   refine z2p 12 true 22 rfl rfl rfl rfl rfl ?_
   refine z2p 12 true 22 rfl rfl rfl rfl rfl ?_
   refine z2p 12 true 22 rfl rfl rfl rfl rfl ?_
   refine z2p 12 true 22 rfl rfl rfl rfl rfl ?_
   refine ys ?_
   refine zr ?_
   exact gc hL8 true [0,1] (hi:=by rw [hg9]; simp)
  ·skip
   refine ys ?_
   refine oq 5 22 27 [1,3,19] [0,1] (decide (r2=(-1)) && decide ((x_0.Args.length:Int)<2)) ?_
   refine ys ?_
   refine zr ?_
   exact gc hL8 (decide (r2=(-1)) && decide ((x_0.Args.length:Int)<2)) [0,1] (hi:=by rw [hg9]; simp)
 refine os ?_
 refine ys ?_
 refine oq 3 29 32 [1] [0,1] (((decide (0≤r2) && decide ((x_0.Args.length:Int)≠r2)) || (decide (r2=(-1)) && decide ((x_0.Args.length:Int)<2))) || decide (r2=(-2))) ?_
 refine zd ?_
 refine rc h (fun _ h=>?_) (fun _ h=>?_)
 ·refine zh ?_
  refine ys ?_
  refine zd ?_
  refine zA ?_
  exact fs [2] [] Tryz.results54 h
 ·refine run_skip ?_
  refine ze ?_
  refine ys ?_
  refine oq 4 36 40 [1] [0,1] (decide (x_0.Op=1) || decide (x_0.Op=2)) ?_
  refine ys ?_
  refine oq 4 41 45 [1] [0,1] ((decide (x_0.Op=1) || decide (x_0.Op=2)) || decide (x_0.Op=3)) ?_
  refine ys ?_
  refine oq 4 46 50 [1] [0,1] (((decide (x_0.Op=1) || decide (x_0.Op=2)) || decide (x_0.Op=3)) || decide (x_0.Op=6)) ?_
  refine ys ?_
  refine zc ?_
  refine zh ?_
  refine ys ?_
  refine oq 4 53 57 [1] [0,1] ((!(((decide (x_0.Op=1) || decide (x_0.Op=2)) || decide (x_0.Op=3)) || decide (x_0.Op=6))) && (!decide (x_0.S=[]))) ?_
  refine zd ?_
  refine rc h (fun _ h=>?_) (fun _ h=>?_)
  ·refine zh ?_
   refine ys ?_
   refine zd ?_
   refine zA ?_
   exact fs [2] [] Tryz.results54 h
  ·refine run_skip ?_
   refine zD ?_
   refine jr h [] [] (fun s (g:Unit)=>[]) (fun s g=>[]) (fun _ h ho31 _ hL32=>?_) ?_
   ·refine zh ?_
    refine ys ?_
    refine zd ?_
    refine zF ?_
    refine lo h [1] [2,1] (fun s (g:Unit)=>[(5,.int .i64 s)]) (fun s g=>[]) () [1,0] ?_
    rintro i_34 _ _ h _ hgo36 hstop37
    refine rs ?_
    refine zH ?_
    refine zh ?_
    refine ys ?_
    refine zd ?_
    refine rc h (fun _ h=>?_) (fun _ h=>?_)
    ·refine run_skip ?_
     refine zg ?_
     refine zF ?_
     refine zh ?_
     refine ys ?_
     obtain ⟨x40,hzx40,hlx40,hxx40,h⟩:=zP h
     refine ys ?_
     refine z4a (exAtT (T:=z1b) (i:=i_34.toNat) 1 rfl hxx40) ?_
     rintro (g41:Value)
     refine ys ?_
     refine cl0 [(3,0)] Tryz.call54 (fun h=>hrec_ref19_formed h) h (fun r42 h=>?_)
     refine ys ?_
     refine zc ?_
     refine rj [5,1,6] [0,1] ?_
     refine z8 ?_
     refine ys ?_
     refine zd ?_
     refine rc h (fun _ h=>?_) (fun _ h=>?_)
     ·refine zh ?_
      refine ys ?_
      refine zd ?_
      refine zA ?_
      obtain rfl:=zU h
      obtain rfl:=hstop37 _ rfl
      skip
      obtain rfl:=zM ho31
      exact ft [2] [] Tryz.results54
     ·refine run_skip ?_
      refine zS ?_
      refine zf ?_
      refine ys ?_
      refine zr ?_
      exact gj hgo36 () [0,1] h
    ·refine z1h _ rfl ?_
     exact gk hL32 hstop37 () [] h
   rintro _ _ h
   refine rs ?_
   refine zh ?_
   refine ys ?_
   refine zd ?_
   refine zA ?_
   exact fs [2] [] Tryz.results54 h
def z93:Nat→zi→Option (Bool)
 | 0=>fun _=>none
 | n+1=>z7E n  (z93 n )
theorem zdI {n:Nat}:K19 (z93 n) 54:=by
 induction n with
 | zero=>intro _ _ _  h; cases h
 | succ n ih=>exact ze2 ih
def zhD (s_0:(List UInt8)):Option (z6):=
 some (z6.mk 3 0 s_0)
theorem zeJ:K46 zhD 121:=by
 intro s_0 r h
 refine zN Tryz.func121 rfl Tryz.ntmps121 rfl (fun w0 o0=>?_)
 refine zh ?_
 refine al fun b1=>?_
 refine za ?_
 refine ys ?_
 refine zd ?_
 refine zA ?_
 exact fr [] Tryz.results121 h
def zfH (s_0:(List UInt8)):Option (z6):=
 some (z6.mk 4 0 s_0)
theorem zbo:K46 zfH 122:=by
 intro s_0 r h
 refine zN Tryz.func122 rfl Tryz.ntmps122 rfl (fun w0 o0=>?_)
 refine zh ?_
 refine al fun b1=>?_
 refine za ?_
 refine ys ?_
 refine zd ?_
 refine zA ?_
 exact fr [] Tryz.results122 h
def zdK (s_0:(List UInt8)):Option (z6):=
 some (z6.mk 1 0 s_0)
theorem z9s:K46 zdK 123:=by
 intro s_0 r h
 refine zN Tryz.func123 rfl Tryz.ntmps123 rfl (fun w0 o0=>?_)
 refine zh ?_
 refine al fun b1=>?_
 refine za ?_
 refine ys ?_
 refine zd ?_
 refine zA ?_
 exact fr [] Tryz.results123 h
def z5b (s_0:(List UInt8)):Option (z6):=
 some (z6.mk 2 0 s_0)
theorem z2Q:K46 z5b 124:=by
 intro s_0 r h
 refine zN Tryz.func124 rfl Tryz.ntmps124 rfl (fun w0 o0=>?_)
 refine zh ?_
 refine al fun b1=>?_
 refine za ?_
 refine ys ?_
 refine zd ?_
 refine zA ?_
 exact fr [] Tryz.results124 h
def z6n (s_0:(List UInt8)):Option (z6):=
 some (z6.mk 5 0 s_0)
theorem z4b:K46 z6n 127:=by
 intro s_0 r h
 refine zN Tryz.func127 rfl Tryz.ntmps127 rfl (fun w0 o0=>?_)
 refine zh ?_
 refine al fun b1=>?_
 refine za ?_
 refine ys ?_
 refine zd ?_
 refine zA ?_
 exact fr [] Tryz.results127 h
def z9P (op_0:Int):Option (z6):=
 cond (decide (op_0=9))
  (obind (z5b [110,111,116]) fun r3=>
  some r3)
  (cond (decide (op_0 = 21))
   (obind (z5b [97,110,100]) fun r6=>
   some r6)
   (cond (decide (op_0 = 22))
    (obind (z5b [111,114]) fun r9=>
    some r9)
    (idx ([[45],[],[43],[45],[42],[47],[37],[60],[62],[60,61],[62,61],[61,61],[33,61]]:List (List UInt8)) (IntKind.i64.wrap (op_0 - 8)) fun x12=>
    obind (z6n x12) fun r13=>
    some r13)))
theorem z9y {op_0:Int} {r:z6} (h:z9P op_0=some r) :
  Meets Tryz.prog 125 [.int .i64 op_0] [] (fun v G=>v = .agg #[.int .i64 r.Kind,.int .i64 r.At,.string (bs r.S)]∧G=[]):=by
 refine zN Tryz.func125 rfl Tryz.ntmps125 rfl (fun w0 o0=>?_)
 refine zh ?_
 refine al fun b1=>?_
 refine zc ?_
 refine zh ?_
 refine ys ?_
 refine zd ?_
 refine rc h (fun _ h=>?_) (fun _ h=>?_)
 ·refine zh ?_
  refine cl0 [] Tryz.call124 (fun h=>z2Q h) h (fun r3 h=>?_)
  refine ys ?_
  refine zd ?_
  refine zA ?_
  exact fr [] Tryz.results125 h
 ·refine run_skip ?_
  refine zg ?_
  refine zh ?_
  refine ys ?_
  refine zd ?_
  refine rc h (fun _ h=>?_) (fun _ h=>?_)
  ·refine zh ?_
   refine cl0 [] Tryz.call124 (fun h=>z2Q h) h (fun r6 h=>?_)
   refine ys ?_
   refine zd ?_
   refine zA ?_
   exact fr [] Tryz.results125 h
  ·refine run_skip ?_
   refine zg ?_
   refine zh ?_
   refine ys ?_
   refine zd ?_
   refine rc h (fun _ h=>?_) (fun _ h=>?_)
   ·refine zh ?_
    refine cl0 [] Tryz.call124 (fun h=>z2Q h) h (fun r9 h=>?_)
    refine ys ?_
    refine zd ?_
    refine zA ?_
    exact fr [] Tryz.results125 h
   ·refine run_skip ?_
    refine ze ?_
    refine zt (t_lit [.string (bs [45]),.string (bs []),.string (bs [43]),.string (bs [45]),.string (bs [42]),.string (bs [47]),.string (bs [37]),.string (bs [60]),.string (bs [62]),.string (bs [60,61]),.string (bs [62,61]),.string (bs [61,61]),.string (bs [33,61])] Tryz.runUnderlying62 Tryz.sizeOf9 Tryz.zeroValue9 rfl (by decide) (by decide) rfl (by simp [Value.cells,boxP])) ?_
    rintro v11 _ ⟨rfl,_⟩
    refine zB (retell 1 (g:=row v11 1 (([[45],[],[43],[45],[42],[47],[37],[60],[62],[60,61],[62,61],[61,61],[33,61]]:List (List UInt8)).map eStr)) rfl rfl) ?_
    refine ys ?_
    refine zc ?_
    refine rj [0,2,3] [0,1] ?_
    refine z8 ?_
    refine ys ?_
    obtain ⟨x12,hzx12,hlx12,hxx12,h⟩:=zP h
    refine ys ?_
    refine cl0 [] Tryz.call127 (fun h=>z4b h) h (fun r13 h=>?_)
    refine ys ?_
    refine zd ?_
    refine zA ?_
    exact fr [] Tryz.results125 h
def z6A (rec_ref19_tokens:zi→Option ((List z6))) (x_0:zi):Option ((List z6)):=
 cond (decide ((x_0.Args.length:Int)=0))
  (obind (rec_ref19_tokens x_0) fun r3=>
  some r3)
  (obind (z6n [40]) fun r6=>
  obind (rec_ref19_tokens x_0) fun r9=>
  need (([r6]:List z6).length+r9.length≤4294967296) (
  obind (z6n [41]) fun r14=>
  need ((([r6]:List z6)++r9).length+([r14]:List z6).length≤4294967296) (
  some ((([r6]:List z6)++r9)++([r14]:List z6)))))
theorem z7q {rec_ref19_tokens:zi→Option ((List z6))} (hrec_ref19_tokens:K20 rec_ref19_tokens 56):K20 (z6A rec_ref19_tokens) 126:=by
 intro x_0 x_0_Argsv r h
 refine zN Tryz.func126 rfl Tryz.ntmps126 rfl (fun w0 o0=>?_)
 refine zh ?_
 refine zt (t_box rfl) ?_
 rintro _ _ ⟨b1,rfl,rfl⟩
 refine ys ?_
 refine zc ?_
 refine zh ?_
 refine ys ?_
 refine zd ?_
 refine rc h (fun _ h=>?_) (fun _ h=>?_)
 ·refine zh ?_
  refine ys ?_
  obtain ⟨r3,hr4,h⟩:=zJ h
  refine zt (tc [(0,0)] Tryz.call56 (hrec_ref19_tokens hr4)) ?_
  rintro v5 _ ⟨_,⟨_,rfl,rfl⟩,rfl⟩
  refine ys ?_
  refine zd ?_
  refine zA ?_
  exact fs [2] [2] Tryz.results126 h
 ·refine run_skip ?_
  refine zg ?_
  obtain ⟨r6,hr7,h⟩:=zJ h
  obtain ⟨r9,hr10,h⟩:=zJ h
  obtain ⟨hr13,h⟩:=zX h
  obtain ⟨r14,hr15,h⟩:=zJ h
  obtain ⟨hr18,h⟩:=zX h
  refine rf [1,1] fun hS=>?_
  refine aq [2] ?_
  refine a2 [9] 0 [] [1,2,0,0,0] (fun (s:Value×Value×Value)=>[(2,s.1)]) (fun s=>[row s.1 3 (((([r6]:List z6)++r9)++([r14]:List z6)).map z6.enc),row s.2.1 3 (r9.map z6.enc),row s.2.2 3 (([r14]:List z6).map z6.enc)]) ?_ (fun hK25=>?_)
  ·rintro ⟨v24,v21,v23⟩
   refine az ?_
   refine z1K (by kernel_rfl) ?_
   refine zD ?_
   refine zA ?_
   exact fs [2] [2] Tryz.results126 h
  refine a2 [7,2] 2 [2] [1,2,0,0,0] (fun (s:Value×Value×Value)=>[(13,s.1),(15,s.2.1)]) (fun s=>[row s.1 3 ((([r6]:List z6)++r9).map z6.enc),row s.2.2 3 (r9.map z6.enc),row s.2.1 3 (([r14]:List z6).map z6.enc)]) ?_ (fun hK26=>?_)
  ·rintro ⟨v22,v23,v21⟩
   refine az ?_
   refine zK [7] (by kernel_rfl) rfl ?_
   refine zk ?_ ?_
   ·refine at' rfl (z1U (es:=3) 2 rfl Tryz.runUnderlying37 rfl Tryz.runUnderlying37 (.inr ⟨_,rfl⟩) Tryz.typeInfo41 rfl (by decide) Tryz.zeroValue41 rfl rfl rfl rfl (z1C 4 rfl z1d (z42 z6.enc_ok _)) (z1T hr18 (by decide)) (z2H hr18)) ?_
    rintro v27 _ rfl
    refine sb ?_
    refine z1B (retell 2 (g:=row v27 3 (((([r6]:List z6)++r9)++([r14]:List z6)).map z6.enc)) rfl (congrArg (row _ _) List.map_append.symm)) ?_
    refine aq [8] ?_
    exact aw (hK25 (v27,v21,v23)) [0,1,2,3,4]
   exact zC
  refine a2 [6,3] 3 [2] [1,2,0,0] (fun (s:Value×Value)=>[(13,s.1),(14,.agg #[.int .i64 r14.Kind,.int .i64 r14.At,.string (bs r14.S)])]) (fun s=>[row s.1 3 ((([r6]:List z6)++r9).map z6.enc),row s.2 3 (r9.map z6.enc)]) ?_ (fun hK28=>?_)
  ·rintro ⟨v22,v21⟩
   refine az ?_
   refine zK [6] (by kernel_rfl) rfl ?_
   refine zk ?_ ?_
   ·refine at' rfl (t_lit [.agg #[.int .i64 r14.Kind,.int .i64 r14.At,.string (bs r14.S)]] Tryz.runUnderlying37 Tryz.sizeOf41 Tryz.zeroValue41 rfl (by decide) (by decide) rfl (by simp [Value.cells,boxP])) ?_
    rintro v29 _ ⟨rfl,_⟩
    refine sb ?_
    refine z1B (retell 4 (g:=row v29 3 (([r14]:List z6).map z6.enc)) rfl rfl) ?_
    exact aw (hK26 (v22,v29,v21)) [0,1,2,3,4]
   exact zC
  refine a2 [5,4] 4 [2] [1,2,0,0] (fun (s:Value×Value)=>[(13,s.1)]) (fun s=>[row s.1 3 ((([r6]:List z6)++r9).map z6.enc),row s.2 3 (r9.map z6.enc)]) ?_ (fun hK30=>?_)
  ·rintro ⟨v22,v21⟩
   refine az ?_
   refine zK [5] (by kernel_rfl) rfl ?_
   refine zk ?_ ?_
   ·refine at' rfl (tc [] Tryz.call127 (z4b hr15)) ?_
    rintro _ _ ⟨_,⟨rfl,rfl⟩,rfl⟩
    refine sb ?_
    exact aw (hK28 (v22,v21)) [0,1,2,3]
   exact zC
  refine a2 [4,5] 5 [2] [1,2,0,0] (fun (s:Value×Value)=>[(10,s.1),(12,s.2)]) (fun s=>[row s.1 3 (([r6]:List z6).map z6.enc),row s.2 3 (r9.map z6.enc)]) ?_ (fun hK31=>?_)
  ·rintro ⟨v19,v21⟩
   refine az ?_
   refine zK [4] (by kernel_rfl) rfl ?_
   refine zk ?_ ?_
   ·refine at' rfl (z1U (es:=3) 2 rfl Tryz.runUnderlying37 rfl Tryz.runUnderlying37 (.inr ⟨_,rfl⟩) Tryz.typeInfo41 rfl (by decide) Tryz.zeroValue41 rfl rfl rfl rfl (z1C 3 rfl z1d (z42 z6.enc_ok _)) (z1T hr13 (by decide)) (z2H hr13)) ?_
    rintro v32 _ rfl
    refine sb ?_
    refine z1B (retell 2 (g:=row v32 3 ((([r6]:List z6)++r9).map z6.enc)) rfl (congrArg (row _ _) List.map_append.symm)) ?_
    exact aw (hK30 (v32,v21)) [0,1,2,3]
   exact zC
  refine a2 [3,6] 6 [2,11] [1,2,0] (fun (s:Value)=>[(10,s)]) (fun s=>[row s 3 (([r6]:List z6).map z6.enc)]) ?_ (fun hK33=>?_)
  ·rintro v19
   refine az ?_
   refine zK [3] (by kernel_rfl) rfl ?_
   refine zk ?_ ?_
   ·refine at' rfl (tc [(0,0)] Tryz.call56 (hrec_ref19_tokens hr10)) ?_
    rintro v34 _ ⟨_,⟨_,rfl,rfl⟩,rfl⟩
    refine sb ?_
    exact aw (hK31 (v19,v34)) [0,1,2,3]
   exact zC
  refine a2 [1,1,2,5] 6 [2] [1,2,0] (fun (s:Value)=>[(9,.agg #[.int .i64 r6.Kind,.int .i64 r6.At,.string (bs r6.S)]),(12,s)]) (fun s=>[row s 3 (r9.map z6.enc)]) ?_ (fun hK35=>?_)
  ·rintro v20
   refine az ?_
   refine zK [1] (by kernel_rfl) rfl ?_
   refine zk ?_ ?_
   ·refine at' rfl (t_lit [.agg #[.int .i64 r6.Kind,.int .i64 r6.At,.string (bs r6.S)]] Tryz.runUnderlying37 Tryz.sizeOf41 Tryz.zeroValue41 rfl (by decide) (by decide) rfl (by simp [Value.cells,boxP])) ?_
    rintro v36 _ ⟨rfl,_⟩
    refine sb ?_
    refine z1B (retell 3 (g:=row v36 3 (([r6]:List z6).map z6.enc)) rfl rfl) ?_
    exact aw (hK31 (v36,v20)) [0,1,3,2]
   exact zC
  refine a2 [1,1,1,6] 7 [2,11] [1,2] (fun (s:Unit)=>[(9,.agg #[.int .i64 r6.Kind,.int .i64 r6.At,.string (bs r6.S)])]) (fun s=>[]) ?_ (fun hK37=>?_)
  ·rintro _
   refine az ?_
   refine zK [1,3] (by kernel_rfl) rfl ?_
   refine zk ?_ ?_
   ·refine at' rfl (t_lit [.agg #[.int .i64 r6.Kind,.int .i64 r6.At,.string (bs r6.S)]] Tryz.runUnderlying37 Tryz.sizeOf41 Tryz.zeroValue41 rfl (by decide) (by decide) rfl (by simp [Value.cells,boxP])) ?_
    rintro v38 _ ⟨rfl,_⟩
    refine sb ?_
    refine z1B (retell 2 (g:=row v38 3 (([r6]:List z6).map z6.enc)) rfl rfl) ?_
    exact aw (hK33 v38) [0,1,2]
   refine zk ?_ ?_
   ·refine at' rfl (tc [(0,0)] Tryz.call56 (hrec_ref19_tokens hr10)) ?_
    rintro v39 _ ⟨_,⟨_,rfl,rfl⟩,rfl⟩
    refine sb ?_
    exact aw (hK35 v39) [0,1,2]
   exact zC
  refine zK [0] (by kernel_rfl) rfl ?_
  refine zk ?_ ?_
  ·refine at' rfl (tc [] Tryz.call127 (z4b hr7)) ?_
   rintro _ _ ⟨_,⟨rfl,rfl⟩,rfl⟩
   refine sb ?_
   exact aw (hK37 ()) [0,1]
  exact zC
end Go.Proofs.YtcmaoifiiigggaaGreatDoor
