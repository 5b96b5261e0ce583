/-
  Functions that the law ParserReadsExpressions needs, lifted.
-/
import Derived.Test.YtcmaoifiiigggaaGreatDoorFh
import Derived.Test.YtcmaoifiiigggaaGreatDoorFa
set_option linter.unusedSimpArgs false
set_option linter.unusedVariables false
namespace Go.Proofs.YtcmaoifiiigggaaGreatDoor
open Go.Abs
set_option maxRecDepth 20000
set_option maxHeartbeats 4000000
def z4k (n:Nat) (s_0:(List UInt8)):Option (zi×z11):=
 obind (z4J n s_0) fun r3=>
 cond (decide (r3.2.E≠0))
  (some ((zi.mk 0 0 [] ([]:List zi)),r3.2))
  (obind (z83 n r3.1) fun r9=>
  cond (decide (0≤r9))
   (idx r3.1 r9 fun x14=>
   some ((zi.mk 0 0 [] ([]:List zi)),(z11.mk x14.At 2)))
   (obind (z18 n (z7.mk r3.1 0 (s_0.length:Int))) fun r17=>
   pbind r17 (fun e20=>
    some ((zi.mk 0 0 [] ([]:List zi)),(z11.mk e20 180))) fun q19=>
   bindJ (S:=Unit)
    (cond (decide (q19.2.i_ < (r3.1.length : Int)))
     (obind (z16 q19.2) fun r29=>
     pbind r29 (fun e32=>
      some (.stop ((zi.mk 0 0 [] ([]:List zi)),(z11.mk e32 180)))) fun q31=>
     some (.go ()))
     (some (.go ())))
   (fun _ =>
    some (q19.1,(z11.mk 0 0)))))
theorem z7K {n:Nat} {s_0:(List UInt8)} {r:zi×z11} (h:z4k n s_0=some r) :
  Meets Tryz.prog 47 [.string (bs s_0),.func (.func 48) #[] #[]] [globA] (fun v G=>∃ v0,v = .tuple #[.agg #[.int .i64 r.1.Op,.int .i64 r.1.At,.string (bs r.1.S),v0],.agg #[.int .i64 r.2.At,.int .i64 r.2.E]]∧G=[nro v0 zj r.1.Args]):=by
 refine zcm Tryz.func47 rfl Tryz.ntmps47 rfl (fun w0 o0=>?_)
 refine zh ?_
 refine al fun b1=>?_
 refine al fun b2=>?_
 refine za ?_
 refine ys ?_
 refine cl1 [(0,0)] Tryz.call15 (fun h=>z66 h) h (fun r3 v5 h=>?_)
 refine ys ?_
 refine zc ?_
 refine zH ?_
 refine rj [0,1,4,5,6] [0,1,2,3] ?_
 refine z8 ?_
 refine ys ?_
 refine zd ?_
 refine rc h (fun _ h=>?_) (fun _ h=>?_)
 ·refine zH ?_
  refine zcY (fun L7 hL8=>?_)
  refine rf [1,1,1,1] fun hS=>?_
  refine aq [0,1] ?_
  refine ast 2 ?_
  refine ast 3 ?_
  refine z1K (by kernel_rfl) ?_
  refine zay hL8 ?_
  refine zD ?_
  refine zA ?_
  refine z1k (zas zj) ?_
  obtain rfl:=zU h
  refine z4R [.cell 4 47,.cell 5 29] [.agg #[.int .i64 0,.int .i64 0,.string (bs []),(.slice none 0 0)],.agg #[.int .i64 r3.2.At,.int .i64 r3.2.E]] [4] [nro (.slice none 0 0) zj ([]:List zi)] Tryz.results47 rfl (rescons (z5H 1 Tryz.isAgg47 Tryz.sizeOf47 rfl rfl rfl) (rescons (z5H 2 Tryz.isAgg29 Tryz.sizeOf29 rfl rfl rfl) resnil)) (by decide) rfl ?_
  exact ⟨_,rfl,rfl⟩
 ·refine run_skip ?_
  refine zg ?_
  refine zh ?_
  refine ys ?_
  refine cl0 [(3,1)] Tryz.call72 (fun h=>z9M h) h (fun r9 h=>?_)
  refine ys ?_
  refine za ?_
  refine ys ?_
  refine zd ?_
  refine rc h (fun _ h=>?_) (fun _ h=>?_)
  ·refine zH ?_
   refine rj [4,5,6,7] [0,1,2,3] ?_
   refine zcY (fun L12 hL13=>?_)
   refine rf [1,1,0,1] fun hS=>?_
   refine aq [0,1,2] ?_
   obtain ⟨x14,hzx14,hlx14,hxx14,h⟩:=zP h
   refine aq [3,4,5,6] ?_
   refine ast 7 ?_
   refine ast 8 ?_
   refine z1K (by kernel_rfl) ?_
   refine zay hL13 ?_
   refine zD ?_
   refine zA ?_
   refine z1k (zas zj) ?_
   obtain rfl:=zU h
   refine z4R [.cell 4 47,.cell 5 29] [.agg #[.int .i64 0,.int .i64 0,.string (bs []),(.slice none 0 0)],.agg #[.int .i64 x14.At,.int .i64 2]] [4] [nro (.slice none 0 0) zj ([]:List zi)] Tryz.results47 rfl (rescons (z5H 1 Tryz.isAgg47 Tryz.sizeOf47 rfl rfl rfl) (rescons (z5H 2 Tryz.isAgg29 Tryz.sizeOf29 rfl rfl rfl) resnil)) (by decide) rfl ?_
   exact ⟨_,rfl,rfl⟩
  ·refine run_skip ?_
   refine zg ?_
   refine rj [0,1,4,5,6] [0,1,2,3] ?_
   refine z8 ?_
   refine ys ?_
   refine zet (wn rfl) rfl rfl rfl rfl ?_
   refine za ?_
   refine ys ?_
   refine zB (Go.Abs.freeze 3 rfl) ?_
   refine zt (t_box rfl) ?_
   rintro _ _ ⟨b16,rfl,rfl⟩
   refine ys ?_
   refine zc ?_
   refine rj [1,4,5,6,8] [0,1,2,3,4] ?_
   refine z8 ?_
   refine ys ?_
   obtain ⟨r17,hr18,h⟩:=zJ h
   rcases r17 with q19 | e20
   rotate_left
   ·replace h:=z32 h
    refine z6M (wn rfl) rfl (tp [(3,0),(4,2)] Tryz.call48 (z2t hr18)) (by rintro _ _ ⟨_,⟨_,hq,_⟩,_⟩; cases hq) ?_
    rintro _ ⟨_,he,rfl⟩
    obtain rfl:=Pn.pan.inj he
    refine zaS Tryz.call106 (zgA b1 b2 e20 1 2 rfl rfl rfl (by decide)) ?_
    refine z1k (zas zj) ?_
    obtain rfl:=zU h
    refine z4R [.cell 4 47,.cell 5 29] [.agg #[.int .i64 0,.int .i64 0,.string (bs []),(.slice none 0 0)],.agg #[.int .i64 e20,.int .i64 180]] [5] [nro (.slice none 0 0) zj ([]:List zi)] Tryz.results47 rfl (rescons (z5H 1 Tryz.isAgg47 Tryz.sizeOf47 rfl rfl rfl) (rescons (z5H 2 Tryz.isAgg29 Tryz.sizeOf29 rfl rfl rfl) resnil)) (by decide) rfl ?_
    exact ⟨_,rfl,rfl⟩
   replace h:=z33 h
   refine zt (tc [(3,0),(4,2)] Tryz.call48 (z5a (z2t hr18))) ?_
   rintro _ _ ⟨_,⟨v21,v22,rfl,rfl⟩,rfl⟩
   refine zB (z24 5 rfl) ?_
   refine ys ?_
   refine zd ?_
   refine jr h [4,5] [2,6,3,1] (fun s (g:Unit)=>[]) (fun s g=>[]) (fun _ h ho25 _ hL26=>?_) ?_
   ·refine zh ?_
    refine ys ?_
    refine zd ?_
    refine rc h (fun _ h=>?_) (fun _ h=>?_)
    ·refine rj [4,5,8] [0,1,2,5,6,7] ?_
     refine z8 ?_
     refine ys ?_
     obtain ⟨r29,hr30,h⟩:=zJ h
     rcases r29 with q31 | e32
     rotate_left
     ·replace h:=z32 h
      refine z6M (wn rfl) rfl (tp [(4,0),(5,2)] Tryz.call74 (z15 hr30)) (by rintro _ _ ⟨_,⟨_,hq,_⟩,_⟩; cases hq) ?_
      rintro _ ⟨_,he,rfl⟩
      obtain rfl:=Pn.pan.inj he
      refine zaS Tryz.call106 (zgA b1 b2 e32 1 2 rfl rfl rfl (by decide)) ?_
      refine z1k (zas zj) ?_
      obtain rfl:=zU h
      obtain rfl:=zM ho25
      refine z4R [.cell 4 47,.cell 5 29] [.agg #[.int .i64 0,.int .i64 0,.string (bs []),(.slice none 0 0)],.agg #[.int .i64 e32,.int .i64 180]] [6] [nro (.slice none 0 0) zj ([]:List zi)] Tryz.results47 rfl (rescons (z5H 1 Tryz.isAgg47 Tryz.sizeOf47 rfl rfl rfl) (rescons (z5H 2 Tryz.isAgg29 Tryz.sizeOf29 rfl rfl rfl) resnil)) (by decide) rfl ?_
      exact ⟨_,rfl,rfl⟩
     replace h:=z33 h
     refine zt (tc [(4,0),(5,2)] Tryz.call74 (z5a (z15 hr30))) ?_
     rintro _ _ ⟨_,⟨rfl,rfl⟩,rfl⟩
     refine zr ?_
     exact gj hL26 () [1,3,2,0] h
    ·refine run_skip ?_
     exact gj hL26 () [1,5,2,0] h
   rintro _ _ h
   refine rs ?_
   refine zh ?_
   refine ys ?_
   refine zd ?_
   refine zA ?_
   refine zeh Tryz.call106 (zk2 b1 b2 _) ?_
   obtain rfl:=zU h
   refine z4R [.cell 4 47,.cell 5 29] [.agg #[.int .i64 q19.1.Op,.int .i64 q19.1.At,.string (bs q19.1.S),v21],.agg #[.int .i64 0,.int .i64 0]] [1] [nro v21 zj q19.1.Args] Tryz.results47 rfl (rescons (z5H 0 Tryz.isAgg47 Tryz.sizeOf47 rfl rfl rfl) (rescons (z5H 2 Tryz.isAgg29 Tryz.sizeOf29 rfl rfl rfl) resnil)) (by decide) rfl ?_
   exact ⟨_,rfl,rfl⟩
def z8Z (n:Nat) (s_0:(List UInt8)):Option (zi×z11):=
 obind (z4k n s_0) fun r3=>
 some (r3.1,r3.2)
theorem zeu {n:Nat} {s_0:(List UInt8)} {r:zi×z11} (h:z8Z n s_0=some r) :
  Meets Tryz.prog 17 [.string (bs s_0)] [globA] (fun v G=>∃ v0,v = .tuple #[.agg #[.int .i64 r.1.Op,.int .i64 r.1.At,.string (bs r.1.S),v0],.agg #[.int .i64 r.2.At,.int .i64 r.2.E]]∧G=[nro v0 zj r.1.Args]):=by
 refine zN Tryz.func17 rfl Tryz.ntmps17 rfl (fun w0 o0=>?_)
 refine zh ?_
 refine al fun b1=>?_
 refine al fun b2=>?_
 refine za ?_
 refine ys ?_
 refine cl1 [(0,0)] Tryz.call47 (fun h=>z7K h) h (fun r3 v5 h=>?_)
 refine ys ?_
 refine zd ?_
 refine zA ?_
 exact fr [3] Tryz.results17 h
end Go.Proofs.YtcmaoifiiigggaaGreatDoor
