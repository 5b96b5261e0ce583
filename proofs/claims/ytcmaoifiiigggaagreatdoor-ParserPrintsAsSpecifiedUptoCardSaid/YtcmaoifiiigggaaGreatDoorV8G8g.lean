/-
  Functions that the law ParserPrintsAsSpecified needs, lifted.
-/
import Derived.Test.YtcmaoifiiigggaaGreatDoorV8G5b
import Derived.Test.YtcmaoifiiigggaaGreatDoorV8G8d
set_option linter.unusedSimpArgs false
set_option linter.unusedVariables false
namespace Go.Proofs.YtcmaoifiiigggaaGreatDoor
open Go.Abs Tryz
set_option maxRecDepth 20000
set_option maxHeartbeats 4000000
def zdt (c_0:zl):((List z6)×Int)→Option (Lp ((List z6)×Int) (Lp ((List z6)) ((List z6)))):=
 fun (j1,jb)=>
  cond (decide (jb<(c_0.Texts.length:Int)))
   (bindJ (S := (List z6))
    (bindJ (S := (List z6))
     (cond (decide (0 < jb))
      (obind (z6n [44]) fun r68=>
      need (j1.length+([r68]:List z6).length≤4294967296) (
      some (.go (j1++([r68]:List z6)))))
      (some (.go j1)))
    (fun j2 =>
     cond (decide (c_0.Kind=16))
      (idx c_0.Texts jb fun x74=>
      obind (zhD x74) fun r75=>
      need (j2.length+([r75]:List z6).length≤4294967296) (
      some (.go (j2++([r75]:List z6)))))
      (idx c_0.Texts jb fun x80=>
      obind (zfH x80) fun r81=>
      need (j2.length+([r81]:List z6).length≤4294967296) (
      some (.go (j2++([r81]:List z6)))))))
   (fun jc =>
    some (.go (jc,(IntKind.i64.wrap (jb+1))))))
   (some (.stop (.go j1)))
def zbj (n:Nat) (q46r:(List zl)→Option ((List z6))) (c_0:zl):Option ((List z6)):=
 obind (z7C) fun r2=>
 idx r2 (IntKind.i64.wrap (c_0.Kind - 1)) fun x5=>
 obind (z5b x5) fun r6=>
 cond (decide (c_0.Kind=9))
  (obind (q46r c_0.Conds) fun r10=>
  need (([r6]:List z6).length+r10.length≤4294967296) (
  some (([r6]:List z6)++r10)))
  (bindJ (S := (List z6))
   (cond (decide (c_0.Kind = 11))
    (obind (zdK c_0.Name) fun r22=>
    need (([r6]:List z6).length+([r22]:List z6).length≤4294967296) (
    some (.go (([r6]:List z6)++([r22]:List z6)))))
    (some (.go ([r6]:List z6))))
  (fun j7 =>
   bindJ (S:=(List z6))
    (cond (decide (c_0.Kind = 8))
     (obind (zfH c_0.Name) fun r34=>
     obind (z5b [105,110]) fun r36=>
     need (j7.length+([r34,r36]:List z6).length≤4294967296) (
     some (.go (j7++([r34,r36]:List z6)))))
     (some (.go j7)))
   (fun jd =>
    bindJ (S:=(List z6))
     (iter (zdt c_0) n (jd,0))
    (fun j8 =>
     bindJ (S:=(List z6))
      (cond c_0.HasDefault
       (obind (z5b [100,101,102,97,117,108,116]) fun r93=>
       obind (zfH c_0.Default) fun r95=>
       need (j8.length+([r93,r95]:List z6).length≤4294967296) (
       some (.go (j8++([r93,r95]:List z6)))))
       (some (.go j8)))
     (fun j0 =>
      bindJ (S:=(List z6))
       (obind (zbP c_0.Kind) fun r106=>
       cond r106
        (obind (zhD c_0.Amount.Number) fun r109=>
        need (j0.length+([r109]:List z6).length≤4294967296) (
        cond (!decide (c_0.Amount.Unit=[]))
         (obind (zdK c_0.Amount.Unit) fun r115=>
         need ((j0++([r109]:List z6)).length+([r115]:List z6).length≤4294967296) (
         some (.go ((j0++([r109]:List z6))++([r115]:List z6)))))
         (some (.go (j0++([r109]:List z6))))))
        (some (.go j0)))
      (fun j9 =>
       obind (z6n [59]) fun r120=>
       need (j9.length+([r120]:List z6).length≤4294967296) (
       some (j9++([r120]:List z6)))))))))
theorem zdu {n:Nat} {q46r:(List zl)→Option ((List z6))} (q47h:K33 q46r 136) {c_0:zl} {j3:Value} {j4:Value} {r:(List z6)} (h:zbj n q46r c_0=some r) :
  Meets Tryz.prog 179 [.agg #[.int .i64 c_0.Kind,.int .i64 c_0.At,.string (bs c_0.Name),j3,.string (bs c_0.Amount.Number),.string (bs c_0.Amount.Unit),.int .i64 c_0.Amount.At,.string (bs c_0.Default),.bool c_0.HasDefault,j4]] [ro j3 1 (c_0.Texts.map eStr),nro j4 zp c_0.Conds] (fun v G=>∃ v0,v=v0∧G=[row v0 3 (r.map z6.enc)]):=by
 refine zN func179 rfl ntmps179 rfl (fun w0 o0=>?_)
 refine zh (lB fun b1=>?_)
 refine yn 2 ?_
 obtain ⟨r2,hr3,h⟩:=zJ h
 refine zt (tc [] call214 (zae hr3)) ?_
 rintro v4 _ ⟨_,⟨_,rfl,rfl⟩,rfl⟩
 refine yn 3 ?_
 obtain ⟨x5,jR,jS,jT,h⟩:=zP h
 refine ys ?_
 refine cl0 [] call124 (fun h=>z2Q h) h (fun r6 h=>?_)
 refine lT z6.enc [r6] fun _=>?_
 refine yn 2 ?_
 refine zH (rj [1,4] [0,1,2,4] ?_)
 refine yc 3 h (fun _ h=>?_) fun _ h=>?_
 ·refine yn 2 ?_
  obtain ⟨r10,jk,h⟩:=zJ h
  refine zt (tc [(1,0)] call136 (q47h jk)) ?_
  rintro v12 _ ⟨_,⟨_,rfl,rfl⟩,rfl⟩
  obtain ⟨jy,h⟩:=zX h
  refine lA z6.enc_ok 3 4 jy fun _=>?_
  refine yn 3 ?_
  exact fs [2] [3] results179 h
 ·refine run_skip (zD (jr h [1] [0,3,1,2] (fun s (g:Value)=>[(4,g)]) (fun s g=>[row g 3 (s.map z6.enc)]) (fun _ h _ _ jl=>?_) ?_))
  ·refine yc 3 h (fun _ h=>?_) fun _ h=>?_
   ·refine yn 2 ?_
    refine cl0 [] call123 (fun h=>z9s h) h (fun r22 h=>?_)
    refine lT z6.enc [r22] fun _=>?_
    obtain ⟨jz,h⟩:=zX h
    refine lA z6.enc_ok 3 4 jz fun _=>?_
    refine yn 2 ?_
    exact gj jl _ [3,2,0,1] h
   ·exact run_skip (gj jl _ [3,2,0,1] h)
  rintro j7 v16 h
  refine rs ?_
  refine jr h [1] [0,2,3,4] (fun s (g:Value)=>[(4,g)]) (fun s g=>[row g 3 (s.map z6.enc)]) (fun _ h _ _ jm=>?_) ?_
  ·refine yc 3 h (fun _ h=>?_) fun _ h=>?_
   ·refine yn 2 ?_
    refine cl0 [] call122 (fun h=>zbo h) h (fun r34 h=>?_)
    refine cl0 [] call124 (fun h=>z2Q h) h (fun r36 h=>?_)
    refine lT z6.enc [r34,r36] fun _=>?_
    obtain ⟨jA,h⟩:=zX h
    refine lA z6.enc_ok 0 4 jA fun _=>?_
    refine yn 2 ?_
    exact gj jm _ [0,1,2,3] h
   ·exact run_skip (gj jm _ [0,1,2,3] h)
  rintro jd v28 h
  refine rs ?_
  refine jr h [1] [0,2,3,4] (fun s (g:Value)=>[(4,g)]) (fun s g=>[row g 3 (s.map z6.enc)]) (fun _ h _ _ jB=>?_) ?_
  ·refine yn 4 ?_
   refine lo h [1] [0,2,3,4] (fun s (g:Value)=>[(4,g),(5,.int .i64 s.2)]) (fun s g=>[row g 3 (s.1.map z6.enc)]) _ [0,1,2,3] ?_
   rintro ⟨j1,_⟩ _ _ h _ jo ji
   refine rs ?_
   refine yc 4 h (fun _ h=>?_) fun _ h=>?_
   ·refine run_skip (zD (jr h [1,5] [0,2,3,4] (fun s (g:Value)=>[(4,g)]) (fun s g=>[row g 3 (s.map z6.enc)]) (fun _ h _ _ jp=>?_) ?_))
    ·refine zF (jr h [1,5] [0,2,3,4] (fun s (g:Value)=>[(4,g)]) (fun s g=>[row g 3 (s.map z6.enc)]) (fun _ h _ _ jq=>?_) ?_)
     ·refine yc 3 h (fun _ h=>?_) fun _ h=>?_
      ·refine yn 2 ?_
       refine cl0 [] call127 (fun h=>z4b h) h (fun r68 h=>?_)
       refine lT z6.enc [r68] fun _=>?_
       obtain ⟨jC,h⟩:=zX h
       refine lA z6.enc_ok 0 4 jC fun _=>?_
       refine yn 2 ?_
       exact gj jq _ [0,1,2,3] h
      ·exact run_skip (gj jq _ [0,1,2,3] h)
     rintro j2 _ h
     refine rs ?_
     refine yc 3 h (fun _ h=>?_) fun _ h=>?_
     ·refine yn 2 ?_
      obtain ⟨x74,jJ,jK,jL,h⟩:=zP h
      refine ys ?_
      refine cl0 [] call121 (fun h=>zeJ h) h (fun r75 h=>?_)
      refine lT z6.enc [r75] fun _=>?_
      obtain ⟨jD,h⟩:=zX h
      refine lA z6.enc_ok 0 4 jD fun _=>?_
      refine yn 3 ?_
      exact gj jp _ [0,1,2,3] h
     ·refine yn 2 ?_
      obtain ⟨x80,jM,jN,jO,h⟩:=zP h
      refine ys ?_
      refine cl0 [] call122 (fun h=>zbo h) h (fun r81 h=>?_)
      refine lT z6.enc [r81] fun _=>?_
      obtain ⟨jE,h⟩:=zX h
      refine lA z6.enc_ok 0 4 jE fun _=>?_
      refine yn 3 ?_
      exact gj jp _ [0,1,2,3] h
    rintro jc v56 h
    refine rs ?_
    refine yn 3 ?_
    exact gj jo _ [0,1,2,3] h
   ·refine z1h _ rfl ?_
    exact gk jB ji _ [0,1,2,3] h
  rintro j8 v42 h
  refine rs ?_
  refine jr h [1] [0,2,3,4] (fun s (g:Value)=>[(4,g)]) (fun s g=>[row g 3 (s.map z6.enc)]) (fun _ h _ _ js=>?_) ?_
  ·refine yc 3 h (fun _ h=>?_) fun _ h=>?_
   ·refine rf [0,1,1,1] fun hS=>?_
    refine aq [0,2,3] ?_
    refine al0 1 [] call124 (fun h=>z2Q h) h (fun r93 h=>?_)
    refine al0 4 [] call122 (fun h=>zbo h) h (fun r95 h=>?_)
    refine ao 5 ?_
    refine lU z6.enc [r93,r95] fun _=>?_
    refine ao 6 ?_
    obtain ⟨jF,h⟩:=zX h
    refine lC z6.enc_ok 0 4 jF fun _=>?_
    refine aq [7] ?_
    refine z1K (by kernel_rfl) ?_
    exact gj js _ [0,1,2,3] h
   ·exact run_skip (gj js _ [0,1,2,3] h)
  rintro j0 v87 h
  refine rs ?_
  refine jr h [] [0] (fun s (g:Value)=>[(4,g)]) (fun s g=>[row g 3 (s.map z6.enc)]) (fun _ h _ _ je=>?_) ?_
  ·refine yn 2 ?_
   refine cl0 [] call178 (fun h=>zcb h) h (fun r106 h=>?_)
   refine yc 1 h (fun _ h=>?_) fun _ h=>?_
   ·refine yn 2 ?_
    refine cl0 [] call121 (fun h=>zeJ h) h (fun r109 h=>?_)
    refine lT z6.enc [r109] fun _=>?_
    obtain ⟨jt,h⟩:=zX h
    refine lA z6.enc_ok 0 4 jt fun _=>?_
    refine ys ?_
    refine zc (rj [4,1] [0,1,2,3] ?_)
    refine yc 3 h (fun _ h=>?_) fun _ h=>?_
    ·refine yn 2 ?_
     refine cl0 [] call123 (fun h=>z9s h) h (fun r115 h=>?_)
     refine lT z6.enc [r115] fun _=>?_
     obtain ⟨ju,h⟩:=zX h
     refine lA z6.enc_ok 0 4 ju fun _=>?_
     refine yn 2 ?_
     exact gj je _ [0] h
    ·exact run_skip (gj je _ [0] h)
   ·exact run_skip (gj je _ [0] h)
  rintro j9 _ h
  refine rs ?_
  refine yn 2 ?_
  refine cl0 [] call127 (fun h=>z4b h) h (fun r120 h=>?_)
  refine lT z6.enc [r120] fun _=>?_
  obtain ⟨jv,h⟩:=zX h
  refine lA z6.enc_ok 0 1 jv fun _=>?_
  refine yn 3 ?_
  exact fs [2] [0] results179 h
def zcM (n:Nat) (l_0:(List zl)) (q46r:(List zl)→Option ((List z6))):((List z6)×Int)→Option (Lp ((List z6)×Int) (Lp ((List z6)) ((List z6)))):=
 fun (ja,jf)=>
  cond (decide (jf<(l_0.length:Int)))
   (idx l_0 jf fun x18=>
   obind (zbj n q46r x18) fun r21=>
   need (ja.length+r21.length≤4294967296) (
   some (.go ((ja++r21),(IntKind.i64.wrap (jf+1))))))
   (some (.stop (.go ja)))
def z8x (n:Nat) (q46r:(List zl)→Option ((List z6))) (l_0:(List zl)):Option ((List z6)):=
 obind (z6n [123]) fun r1=>
 bindJ (S:=(List z6))
  (iter (zcM n l_0 q46r) n (([r1]:List z6),0))
 (fun jg =>
  obind (z6n [125]) fun r26=>
  need (jg.length+([r26]:List z6).length≤4294967296) (
  some (jg++([r26]:List z6))))
theorem zat {n:Nat} {q46r:(List zl)→Option ((List z6))} (q47h:K33 q46r 136):K33 (z8x n q46r) 136:=by
 intro l_0 jU r h
 refine zN func136 rfl ntmps136 rfl (fun w0 o0=>?_)
 refine yn 3 ?_
 refine cl0 [] call127 (fun h=>z4b h) h (fun r1 h=>?_)
 refine lT z6.enc [r1] fun _=>?_
 refine ys ?_
 refine zd (jr h [] [0] (fun s (g:Value)=>[(3,g)]) (fun s g=>[row g 3 (s.map z6.enc)]) (fun _ h _ _ hL8=>?_) ?_)
 ·refine yn 4 ?_
  refine lo h [0] [0,1] (fun s (g:Value)=>[(3,g),(4,.int .i64 s.2)]) (fun s g=>[row g 3 (s.1.map z6.enc)]) _ [1,0] ?_
  rintro ⟨ja,jf⟩ _ _ h _ jw jj
  refine rs ?_
  refine yc 4 h (fun _ h=>?_) fun _ h=>?_
  ·refine yn 5 ?_
   obtain ⟨x18,jP,jQ,jx,h⟩:=zP h
   refine ys ?_
   refine z4a (exAtT (T:=z1W) (i:=jf.toNat) 1 rfl jx) ?_
   rintro ⟨g19,g20⟩
   refine ys ?_
   obtain ⟨r21,jG,h⟩:=zJ h
   refine zt (tc [(3,0),(4,0)] call179 (zdu q47h jG)) ?_
   rintro v23 _ ⟨_,⟨_,rfl,rfl⟩,rfl⟩
   obtain ⟨jH,h⟩:=zX h
   refine lA z6.enc_ok 0 5 jH fun _=>?_
   refine yn 3 ?_
   refine zD (rj [3,4,0] [0,1] ?_)
   refine yn 3 ?_
   exact gj jw _ [0,1] h
  ·refine z1h _ rfl ?_
   exact gk hL8 jj _ [0] h
 rintro jg _ h
 refine rs ?_
 refine yn 2 ?_
 refine cl0 [] call127 (fun h=>z4b h) h (fun r26 h=>?_)
 refine lT z6.enc [r26] fun _=>?_
 obtain ⟨jI,h⟩:=zX h
 refine lA z6.enc_ok 0 1 jI fun _=>?_
 refine yn 3 ?_
 exact fs [2] [0] results136 h
def z8w:Nat→(List zl)→Option ((List z6))
 | 0=>fun _=>none
 | n+1=>z8x n  (z8w n )
theorem zcN {n:Nat}:K33 (z8w n) 136:=by
 induction n with
 | zero=>intro _ _ _  h; cases h
 | succ n ih=>exact zat ih
def z4v (n:Nat) (j5:(List z6)) (x_1:zi):Option ((List z6)):=
 obind (z5X n x_1) fun r2=>
 need (j5.length+r2.length≤4294967296) (
 obind (z6n [59]) fun r7=>
 need ((j5++r2).length+([r7]:List z6).length≤4294967296) (
 some ((j5++r2)++([r7]:List z6))))
theorem z4g {n:Nat} {j5:(List z6)} {x_1:zi} {jh:Value} {j6:Value} {r:(List z6)} (h:z4v n j5 x_1=some r) :
  Meets Tryz.prog 215 [jh,.agg #[.int .i64 x_1.Op,.int .i64 x_1.At,.string (bs x_1.S),j6]] [row jh 3 (j5.map z6.enc),nro j6 zj x_1.Args] (fun v G=>∃ v0,v=v0∧G=[row v0 3 (r.map z6.enc)]):=by
 refine zN func215 rfl ntmps215 rfl (fun w0 o0=>?_)
 refine zh (lB fun b1=>?_)
 refine yn 3 ?_
 obtain ⟨r2,hr3,h⟩:=zJ h
 refine zt (tc [(1,0)] call56 (z9i hr3)) ?_
 rintro v4 _ ⟨_,⟨_,rfl,rfl⟩,rfl⟩
 obtain ⟨hr6,h⟩:=zX h
 refine lA z6.enc_ok 0 3 hr6 fun _=>?_
 refine cl0 [] call127 (fun h=>z4b h) h (fun r7 h=>?_)
 refine lT z6.enc [r7] fun _=>?_
 obtain ⟨jk,h⟩:=zX h
 refine lA z6.enc_ok 0 4 jk fun _=>?_
 refine yn 3 ?_
 exact fs [4] [0] results215 h
end Go.Proofs.YtcmaoifiiigggaaGreatDoor
