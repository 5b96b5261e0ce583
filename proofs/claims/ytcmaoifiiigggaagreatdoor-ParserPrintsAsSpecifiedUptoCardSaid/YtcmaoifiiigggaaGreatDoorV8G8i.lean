/-
  Functions that the law ParserPrintsAsSpecified needs, lifted.
-/
import Derived.Test.YtcmaoifiiigggaaGreatDoorV8G3d
import Derived.Test.YtcmaoifiiigggaaGreatDoorV8G8f
import Derived.Test.YtcmaoifiiigggaaGreatDoorV8G8h
set_option linter.unusedSimpArgs false
set_option linter.unusedVariables false
namespace Go.Proofs.YtcmaoifiiigggaaGreatDoor
open Go.Abs Tryz
set_option maxRecDepth 20000
set_option maxHeartbeats 4000000
def zdx (n:Nat) (x16:zL):((List z6)×Int)→Option (Lp ((List z6)×Int) (Lp ((List z6)) (Lp ((List z6)×Int) (Lp ((List z6)) ((List z6)))))):=
 fun (j6,jf)=>
  cond (decide (jf<(x16.Rules.length:Int)))
   (idx x16.Rules jf fun x43=>
   obind (z5b [114,117,108,101]) fun r45=>
   obind (zdK x43.Name) fun r47=>
   need (j6.length+([r45,r47]:List z6).length≤4294967296) (
   obind (z8w n x43.Clauses) fun r53=>
   need ((j6++([r45,r47]:List z6)).length+r53.length≤4294967296) (
   some (.go (((j6++([r45,r47]:List z6))++r53),(IntKind.i64.wrap (jf+1)))))))
   (some (.stop (.go j6)))
def zdw (n:Nat) (x_0:zG):((List z6)×Int)→Option (Lp ((List z6)×Int) (Lp ((List z6)) ((List z6)))):=
 fun (jd,i_9)=>
  cond (decide (i_9<(x_0.Policies.length:Int)))
   (idx x_0.Policies i_9 fun x16=>
   obind (z5b [112,111,108,105,99,121]) fun r20=>
   obind (zdK x16.Name) fun r22=>
   obind (z6n [123]) fun r24=>
   need (jd.length+([r20,r22,r24]:List z6).length≤4294967296) (
   bindJ (S:=(List z6))
    (iter (zdx n x16) n ((jd++([r20,r22,r24]:List z6)),0))
   (fun jb =>
    obind (z6n [125]) fun r58=>
    need (jb.length+([r58]:List z6).length≤4294967296) (
    some (.go ((jb++([r58]:List z6)),(IntKind.i64.wrap (i_9+1))))))))
   (some (.stop (.go jd)))
def zdz (r63:(List (List UInt8))) (x80:zI):((List z6)×Int)→Option (Lp ((List z6)×Int) (Lp ((List z6)) (Lp ((List z6)×Int) (Lp ((List z6)) ((List z6)))))):=
 fun (j4,je)=>
  cond (decide (je<(x80.Effects.length:Int)))
   (bindJ (S := (List z6))
    (cond (decide (je = 0))
     (obind (z5b [101,102,102,101,99,116,115]) fun r114=>
     need (j4.length+([r114]:List z6).length≤4294967296) (
     some (.go (j4++([r114]:List z6)))))
     (obind (z6n [44]) fun r119=>
     need (j4.length+([r119]:List z6).length≤4294967296) (
     some (.go (j4++([r119]:List z6))))))
   (fun j7 =>
    idx x80.Effects je fun x124=>
    idx r63 (IntKind.i64.wrap (x124 - 1)) fun x125=>
    obind (z5b x125) fun r126=>
    need (j7.length+([r126]:List z6).length≤4294967296) (
    some (.go ((j7++([r126]:List z6)),(IntKind.i64.wrap (je+1)))))))
   (some (.stop (.go j4)))
def zdy (n:Nat) (x_0:zG) (r63:(List (List UInt8))):((List z6)×Int)→Option (Lp ((List z6)×Int) (Lp ((List z6)) ((List z6)))):=
 fun (j8,jg)=>
  cond (decide (jg<(x_0.Programs.length:Int)))
   (idx x_0.Programs jg fun x80=>
   obind (z5b [112,114,111,103,114,97,109]) fun r86=>
   obind (zdK x80.Name) fun r88=>
   need (j8.length+([r86,r88]:List z6).length≤4294967296) (
   bindJ (S:=(List z6))
    (iter (zdz r63 x80) n ((j8++([r86,r88]:List z6)),0))
   (fun jc =>
    obind (zdZ n x80.Code) fun r131=>
    need (jc.length+r131.length≤4294967296) (
    some (.go ((jc++r131),(IntKind.i64.wrap (jg+1))))))))
   (some (.stop (.go j8)))
def zbq (n:Nat) (x_0:zG):Option ((List z6)):=
 bindJ (S:=(List z6))
  (iter (zdw n x_0) n (([]:List z6),0))
 (fun jm =>
  obind (z7D) fun r63=>
  bindJ (S:=(List z6))
   (iter (zdy n x_0 r63) n (jm,0))
  (fun jh =>
   some jh))
theorem zdA {n:Nat} {x_0:zG} {j0:Value} {j1:Value} {r:(List z6)} (h:zbq n x_0=some r) :
  Meets Tryz.prog 69 [.agg #[j0,j1]] [nro j0 zz x_0.Policies,nro j1 zw x_0.Programs] (fun v G=>∃ v0,v=v0∧G=[row v0 3 (r.map z6.enc)]):=by
 refine zN func69 rfl ntmps69 rfl (fun w0 o0=>?_)
 refine zh (lB fun b1=>?_)
 refine yn 3 ?_
 refine zd (jr h [1] [0,3,1,2] (fun s (g:Value)=>[(3,g)]) (fun s g=>[row g 3 (s.map z6.enc)]) (fun _ h _ _ hL6=>?_) ?_)
 ·refine yn 4 ?_
  refine z3x (nilrow 3) ?_
  refine z3x (retell 3 (g:=row (.slice none 0 0) 3 (([]:List z6).map z6.enc)) rfl rfl) ?_
  refine lo h [1] [0,3,1,2] (fun s (g:Value)=>[(3,g),(4,.int .i64 s.2)]) (fun s g=>[row g 3 (s.1.map z6.enc)]) _ [3,2,0,1] ?_
  rintro ⟨jd,i_9⟩ _ _ h _ jw jj
  refine rs ?_
  refine yc 4 h (fun _ h=>?_) fun _ h=>?_
  ·refine yn 5 ?_
   obtain ⟨x16,j07,j08,jx,h⟩:=zP h
   refine ys ?_
   refine z4a (exAt (C:=zz) (i:=i_9.toNat) 2 rfl jx) ?_
   rintro (g17:Value)
   refine ys ?_
   refine al fun b18=>?_
   refine ys ?_
   refine zc (rj [3,4,1,5] [0,1,2,3,5,6] ?_)
   refine rf [0,1,1,1,1,1] fun hS=>?_
   refine aq [0,2,3] ?_
   refine al0 1 [] call124 (fun h=>z2Q h) h (fun r20 h=>?_)
   refine al0 4 [] call123 (fun h=>z9s h) h (fun r22 h=>?_)
   refine al0 5 [] call127 (fun h=>z4b h) h (fun r24 h=>?_)
   refine ao 6 ?_
   refine lU z6.enc [r20,r22,r24] fun _=>?_
   refine ao 7 ?_
   obtain ⟨jt,h⟩:=zX h
   refine lC z6.enc_ok 0 6 jt fun _=>?_
   refine aq [8] ?_
   refine z1K (by kernel_rfl) ?_
   refine zD (jr h [1,4] [0,2,3,4] (fun s (g:Value)=>[(3,g)]) (fun s g=>[row g 3 (s.map z6.enc)]) (fun _ h _ _ jN=>?_) ?_)
   ·refine zH (rj [3,4,1,5] [0,1,2,3,4,5] ?_)
    refine yn 4 ?_
    refine lo h [1,4,5] [0,2,3,4,6,5] (fun s (g:Value)=>[(3,g),(6,.int .i64 s.2)]) (fun s g=>[row g 3 (s.1.map z6.enc)]) _ [0,1,2,3,5,4] ?_
    rintro ⟨j6,jf⟩ _ _ h _ jy jk
    refine rs ?_
    refine yc 4 h (fun _ h=>?_) fun _ h=>?_
    ·refine yn 4 ?_
     refine rf [0,1,1,1,1,1] fun hS=>?_
     refine aq [0,2,3,4] ?_
     obtain ⟨x43,j09,j0a,jo,h⟩:=zP h
     refine aq [5] ?_
     refine z9T (exAt (C:=zY) (i:=jf.toNat) 5 rfl jo) ?_
     rintro (g44:Value)
     refine ag [0,1,1,1,1,1,1] ?_
     refine ag [0,1,1,1,1,1,1,1] ?_
     refine aq [6,7] ?_
     refine al0 1 [] call124 (fun h=>z2Q h) h (fun r45 h=>?_)
     refine al0 8 [] call123 (fun h=>z9s h) h (fun r47 h=>?_)
     refine ao 9 ?_
     refine lU z6.enc [r45,r47] fun _=>?_
     refine ao 10 ?_
     obtain ⟨jO,h⟩:=zX h
     refine lC z6.enc_ok 0 8 jO fun _=>?_
     refine aq [11] ?_
     refine z1K (by kernel_rfl) ?_
     refine zD (rj [3,6,1,4,5] [0,1,2,3,4,5] ?_)
     refine yn 2 ?_
     refine z4a (exAt (C:=zY) (i:=jf.toNat) 5 rfl jo) ?_
     rintro (g52:Value)
     refine ys ?_
     obtain ⟨r53,jP,h⟩:=zJ h
     refine zt (tc [(7,0)] call136 (zcN jP)) ?_
     rintro v55 _ ⟨_,⟨_,rfl,rfl⟩,rfl⟩
     obtain ⟨jQ,h⟩:=zX h
     refine lA z6.enc_ok 0 8 jQ fun _=>?_
     refine yn 3 ?_
     refine zD (rj [3,6,1,4,5] [0,1,2,3,4,5] ?_)
     refine yn 3 ?_
     exact gj jy _ [0,1,2,3,4,5] h
    ·refine z1h _ rfl ?_
     exact gk jN jk _ [0,1,2,3] h
   rintro jb _ h
   refine rs ?_
   refine yn 2 ?_
   refine cl0 [] call127 (fun h=>z4b h) h (fun r58 h=>?_)
   refine lT z6.enc [r58] fun _=>?_
   obtain ⟨jR,h⟩:=zX h
   refine lA z6.enc_ok 0 4 jR fun _=>?_
   refine yn 6 ?_
   exact gj jw _ [0,1,2,3] h
  ·refine z1h _ rfl ?_
   exact gk hL6 jj _ [0,1,2,3] h
 rintro jm v3 h
 refine rs ?_
 refine zh ?_
 obtain ⟨r63,jS,h⟩:=zJ h
 refine zt (tc [] call137 (zag jS)) ?_
 rintro v65 _ ⟨_,⟨_,rfl,rfl⟩,rfl⟩
 refine ys ?_
 refine zd (jr h [] [0] (fun s (g:Value)=>[(3,g)]) (fun s g=>[row g 3 (s.map z6.enc)]) (fun _ h _ _ jT=>?_) ?_)
 ·refine yn 4 ?_
  refine lo h [1,7] [0,2,3,4,5] (fun s (g:Value)=>[(3,g),(8,.int .i64 s.2)]) (fun s g=>[row g 3 (s.1.map z6.enc)]) _ [0,1,2,3,4] ?_
  rintro ⟨j8,jg⟩ _ _ h _ jz jl
  refine rs ?_
  refine yc 4 h (fun _ h=>?_) fun _ h=>?_
  ·refine yn 5 ?_
   obtain ⟨x80,j0b,j0c,jA,h⟩:=zP h
   refine ys ?_
   refine z4a (exAt (C:=zw) (i:=jg.toNat) 3 rfl jA) ?_
   rintro ⟨g81,g82⟩
   refine ys ?_
   refine al fun b83=>?_
   refine ys ?_
   refine zc (rj [3,8,1,7,9] [0,1,2,3,4,6,7,8] ?_)
   refine rf [0,1,1,1,1,1,1,1] fun hS=>?_
   refine aq [0,2,3] ?_
   refine al0 1 [] call124 (fun h=>z2Q h) h (fun r86 h=>?_)
   refine al0 4 [] call123 (fun h=>z9s h) h (fun r88 h=>?_)
   refine ao 5 ?_
   refine lU z6.enc [r86,r88] fun _=>?_
   refine ao 6 ?_
   obtain ⟨jU,h⟩:=zX h
   refine lC z6.enc_ok 0 8 jU fun _=>?_
   refine aq [7] ?_
   refine z1K (by kernel_rfl) ?_
   refine zD (jr h [1,7,8,9] [0,2,3,4,5,8,6,7] (fun s (g:Value)=>[(3,g)]) (fun s g=>[row g 3 (s.map z6.enc)]) (fun _ h _ _ jV=>?_) ?_)
   ·refine zH (rj [3,8,1,7,9] [0,1,2,3,4,5,6,7] ?_)
    refine yn 4 ?_
    refine lo h [1,7,8,9] [0,2,3,4,5,8,6,7] (fun s (g:Value)=>[(3,g),(10,.int .i64 s.2)]) (fun s g=>[row g 3 (s.1.map z6.enc)]) _ [0,1,2,3,4,7,5,6] ?_
    rintro ⟨j4,_⟩ _ _ h _ ju ji
    refine rs ?_
    refine yc 4 h (fun _ h=>?_) fun _ h=>?_
    ·refine yn 3 ?_
     refine jr h [1,7,8,9,10] [0,2,3,4,5,6,7,8] (fun s (g:Value)=>[(3,g)]) (fun s g=>[row g 3 (s.map z6.enc)]) (fun _ h _ _ jp=>?_) ?_
     ·refine yc 3 h (fun _ h=>?_) fun _ h=>?_
      ·refine yn 2 ?_
       refine cl0 [] call124 (fun h=>z2Q h) h (fun r114 h=>?_)
       refine lT z6.enc [r114] fun _=>?_
       obtain ⟨jB,h⟩:=zX h
       refine lA z6.enc_ok 0 8 jB fun _=>?_
       refine yn 2 ?_
       exact gj jp _ [0,1,2,3,4,5,6,7] h
      ·refine yn 2 ?_
       refine cl0 [] call127 (fun h=>z4b h) h (fun r119 h=>?_)
       refine lT z6.enc [r119] fun _=>?_
       obtain ⟨jC,h⟩:=zX h
       refine lA z6.enc_ok 0 8 jC fun _=>?_
       refine yn 2 ?_
       exact gj jp _ [0,1,2,3,4,5,6,7] h
     rintro j7 _ h
     refine rs ?_
     refine yn 2 ?_
     obtain ⟨x124,jW,jX,jY,h⟩:=zP h
     refine ys ?_
     obtain ⟨x125,jZ,j00,j01,h⟩:=zP h
     refine ys ?_
     refine cl0 [] call124 (fun h=>z2Q h) h (fun r126 h=>?_)
     refine lT z6.enc [r126] fun _=>?_
     obtain ⟨jD,h⟩:=zX h
     refine lA z6.enc_ok 0 8 jD fun _=>?_
     refine yn 3 ?_
     refine zD (rj [3,1,7,8,9,10] [0,1,2,3,4,5,6,7] ?_)
     refine yn 3 ?_
     exact gj ju _ [0,1,2,3,4,5,6,7] h
    ·refine z1h _ rfl ?_
     exact gk jV ji _ [0,1,2,3,4,5,6,7] h
   rintro jc _ h
   refine rs ?_
   refine yn 2 ?_
   obtain ⟨r131,jE,h⟩:=zJ h
   refine zt (tc [(7,0)] call138 (zhe jE)) ?_
   rintro v133 _ ⟨_,⟨_,rfl,rfl⟩,rfl⟩
   obtain ⟨jF,h⟩:=zX h
   refine lA z6.enc_ok 0 8 jF fun _=>?_
   refine yn 6 ?_
   exact gj jz _ [0,1,2,3,4] h
  ·refine z1h _ rfl ?_
   exact gk jT jl _ [0] h
 rintro jh v67 h
 refine rs ?_
 refine yn 4 ?_
 exact fs [2] [0] results69 h
def zhB (n:Nat) (x_0:zG):Option (z2n):=
 obind (zgC n x_0) fun r3=>
 cond (!r3)
  (some (z2n.mk [] 3))
  (obind (zbq n x_0) fun r6=>
  obind (z9t n r6) fun r9=>
  some r9)
theorem zik {n:Nat} {x_0:zG} {j0:Value} {j1:Value} {r:z2n} (h:zhB n x_0=some r) :
  Meets Tryz.prog 28 [.agg #[j0,j1]] [nro j0 zz x_0.Policies,nro j1 zw x_0.Programs] (fun v G=>v = .agg #[.string (bs r.S),.int .i64 r.E]∧G=[]):=by
 refine zN func28 rfl ntmps28 rfl (fun w0 o0=>?_)
 refine zh (lB fun b1=>?_)
 refine al fun b2=>?_
 refine yn 2 ?_
 refine cl0 [(0,0),(1,0)] call68 (fun h=>zhb h) h (fun r3 h=>?_)
 refine yc 5 h (fun _ h=>?_) fun _ h=>?_
 ·refine yn 4 ?_
  exact fr [] results28 h
 ·refine yn 3 ?_
  obtain ⟨r6,hr7,h⟩:=zJ h
  refine zt (tc [(0,0),(1,0)] call69 (zdA hr7)) ?_
  rintro v8 _ ⟨_,⟨_,rfl,rfl⟩,rfl⟩
  refine cl0 [(4,1)] call55 (fun h=>zcV h) h (fun r9 h=>?_)
  refine yn 3 ?_
  exact fr [] results28 h
def zdY (l_0:(List zl)) (q52r:(List zl)→Option ((List zl))):((List zl)×Int)→Option (Lp ((List zl)×Int) (Lp ((List zl)) ((List zl)))):=
 fun (j2,i_8)=>
  cond (decide (i_8<(l_0.length:Int)))
   (idx l_0 i_8 fun x15=>
   obind (q52r x15.Conds) fun r21=>
   need (j2.length+([(zl.mk x15.Kind 0 x15.Name x15.Texts (z1r.mk x15.Amount.Number x15.Amount.Unit 0) x15.Default x15.HasDefault r21)]:List zl).length≤4294967296) (
   some (.go ((j2++([(zl.mk x15.Kind 0 x15.Name x15.Texts (z1r.mk x15.Amount.Number x15.Amount.Unit 0) x15.Default x15.HasDefault r21)]:List zl)),(IntKind.i64.wrap (i_8+1))))))
   (some (.stop (.go j2)))
def z9p (n:Nat) (q52r:(List zl)→Option ((List zl))) (l_0:(List zl)):Option ((List zl)):=
 bindJ (S:=(List zl))
  (iter (zdY l_0 q52r) n (([]:List zl),0))
 (fun j5 =>
  some j5)
theorem zbi {n:Nat} {q52r:(List zl)→Option ((List zl))} (q53h:K22 q52r 70):K22 (z9p n q52r) 70:=by
 intro l_0 jG r h
 refine zN func70 rfl ntmps70 rfl (fun w0 o0=>?_)
 refine yn 4 ?_
 refine zd (jr h [] [0] (fun s (g:Value)=>[(3,g)]) (fun s g=>[nrow g zp s]) (fun _ h _ _ hL5=>?_) ?_)
 ·refine yn 4 ?_
  refine z3x (z1q zp) ?_
  refine lo h [0] [0,1] (fun s (g:Value)=>[(3,g),(4,.int .i64 s.2)]) (fun s g=>[nrow g zp s.1]) _ [1,0] ?_
  rintro ⟨_,i_8⟩ _ _ h _ j9 j3
  refine rs ?_
  refine yc 4 h (fun _ h=>?_) fun _ h=>?_
  ·refine yn 5 ?_
   obtain ⟨x15,jq,js,ja,h⟩:=zP h
   refine ys ?_
   refine z4a (exAtT (T:=z1W) (i:=i_8.toNat) 1 rfl ja) ?_
   rintro ⟨g16,g17⟩
   refine ys ?_
   refine al fun b18=>?_
   refine ys ?_
   refine zc (rj [3,4,0,5] [0,1,3,4,5] ?_)
   refine yn 6 ?_
   obtain ⟨r21,j02,h⟩:=zJ h
   refine zt (tc [(3,0)] call70 (q53h j02)) ?_
   rintro v23 _ ⟨_,⟨_,rfl,rfl⟩,rfl⟩
   refine ys ?_
   refine zd (rj [3,4,0,5] [0,1,2,4,5] ?_)
   refine yn 2 ?_
   refine zB (z24 4 rfl) ?_
   refine zcx 2 rfl z3N (fun jH hs26o=>?_)
   refine z2V 4 rfl z1j (fun jI hs27o=>?_)
   refine zt (t_lit [.agg #[.int .i64 x15.Kind,.int .i64 0,.string (bs x15.Name),g16,.string (bs x15.Amount.Number),.string (bs x15.Amount.Unit),.int .i64 0,.string (bs x15.Default),.bool x15.HasDefault,v23]] runUnderlying77 sizeOf88 zeroValue88 rfl (by decide) (by decide) rfl (by intro q hq; simp only [y1,y0,or_false] at hq; rcases hq with rfl <;> first | rfl | (rw [jH]; rfl) | (rw [jI]; rfl))) ?_
   rintro v25 _ ⟨rfl,_⟩
   refine zB (z1p (C:=zp) (l:=([(zl.mk x15.Kind 0 x15.Name x15.Texts (z1r.mk x15.Amount.Number x15.Amount.Unit 0) x15.Default x15.HasDefault r21)]:List zl)) 5 [((zl.mk x15.Kind 0 x15.Name x15.Texts (z1r.mk x15.Amount.Number x15.Amount.Unit 0) x15.Default x15.HasDefault r21),(g16,v23))] rfl (by simp only [yI,List.map_nil,jH,jI]; rfl) rfl (z1o (z2P (T:=z1W) (z1t 2 rfl (z1t 4 rfl z2u))) z1x)) ?_
   obtain ⟨j03,h⟩:=zX h
   refine zt (z3P (C:=zp) 0 5 (by decide) rfl runUnderlying77 rfl runUnderlying77 typeInfo88 rfl (by decide) (by decide) zeroValue88 rfl rfl rfl rfl (z5I 5 rfl) j03) ?_
   rintro v28 _ rfl
   refine yn 6 ?_
   exact gj j9 _ [0,1] h
  ·refine z1h _ rfl ?_
   exact gk hL5 j3 _ [0] h
 rintro j5 v2 h
 refine rs ?_
 refine yn 4 ?_
 exact fs [2] [0] results70 h
def z9x:Nat→(List zl)→Option ((List zl))
 | 0=>fun _=>none
 | n+1=>z9p n  (z9x n )
theorem za9 {n:Nat}:K22 (z9x n) 70:=by
 induction n with
 | zero=>intro _ _ _  h; cases h
 | succ n ih=>exact zbi ih
def zfn (l_0:(List zi)) (q54r:(List zi)→Option ((List zi))):((List zi)×Int)→Option (Lp ((List zi)×Int) (Lp ((List zi)) ((List zi)))):=
 fun (j2,i_8)=>
  cond (decide (i_8<(l_0.length:Int)))
   (idx l_0 i_8 fun x15=>
   obind (q54r x15.Args) fun r17=>
   need (j2.length+([(zi.mk x15.Op 0 x15.S r17)]:List zi).length≤4294967296) (
   some (.go ((j2++([(zi.mk x15.Op 0 x15.S r17)]:List zi)),(IntKind.i64.wrap (i_8+1))))))
   (some (.stop (.go j2)))
def zaa (n:Nat) (q54r:(List zi)→Option ((List zi))) (l_0:(List zi)):Option ((List zi)):=
 bindJ (S:=(List zi))
  (iter (zfn l_0 q54r) n (([]:List zi),0))
 (fun j5 =>
  some j5)
theorem zch {n:Nat} {q54r:(List zi)→Option ((List zi))} (q55h:K36 q54r 139):K36 (zaa n q54r) 139:=by
 intro l_0 jG r h
 refine zN func139 rfl ntmps139 rfl (fun w0 o0=>?_)
 refine yn 4 ?_
 refine zd (jr h [] [0] (fun s (g:Value)=>[(3,g)]) (fun s g=>[nrow g zj s]) (fun _ h _ _ hL5=>?_) ?_)
 ·refine yn 4 ?_
  refine z3x (z1q zj) ?_
  refine lo h [0] [0,1] (fun s (g:Value)=>[(3,g),(4,.int .i64 s.2)]) (fun s g=>[nrow g zj s.1]) _ [1,0] ?_
  rintro ⟨_,i_8⟩ _ _ h _ j9 j3
  refine rs ?_
  refine yc 4 h (fun _ h=>?_) fun _ h=>?_
  ·refine yn 3 ?_
   refine rf [0,1] fun hS=>?_
   refine aq [0,1,2] ?_
   obtain ⟨x15,jq,js,ja,h⟩:=zP h
   refine aq [3] ?_
   refine z9T (exAtT (T:=z1b) (i:=i_8.toNat) 1 rfl ja) ?_
   rintro (g16:Value)
   refine ag [0,1,1] ?_
   refine ag [0,1,1,1] ?_
   refine aq [4,5,6,7,8,9,10,11,12,13,14,15] ?_
   refine ao 16 ?_
   obtain ⟨r17,j04,h⟩:=zJ h
   refine at' rfl (tc [(3,0)] call139 (q55h j04)) ?_
   rintro v19 _ ⟨_,⟨_,rfl,rfl⟩,rfl⟩
   refine sb ?_
   refine ao 17 ?_
   refine ty ?_
   refine ao 18 ?_
   refine z3n (z24 4 rfl) ?_
   refine z1J 4 rfl z1j (fun jJ hs22o=>?_)
   refine at' rfl (t_lit [.agg #[.int .i64 x15.Op,.int .i64 0,.string (bs x15.S),v19]] runUnderlying45 sizeOf47 zeroValue47 rfl (by decide) (by decide) rfl (by intro q hq; simp only [y1,y0,or_false] at hq; rcases hq with rfl <;> first | rfl | (rw [jJ]; rfl))) ?_
   rintro v21 _ ⟨rfl,_⟩
   refine sb ?_
   refine z1B (z1p (C:=zj) (l:=([(zi.mk x15.Op 0 x15.S r17)]:List zi)) 5 [((zi.mk x15.Op 0 x15.S r17),v19)] rfl (by simp only [yI,List.map_nil,jJ]; rfl) rfl (z1o (z2P (T:=z1b) (z1t 4 rfl z2u)) z1x)) ?_
   refine ao 19 ?_
   obtain ⟨jv,h⟩:=zX h
   refine at' rfl (z3P (C:=zj) 0 5 (by decide) rfl runUnderlying45 rfl runUnderlying45 typeInfo47 rfl (by decide) (by decide) zeroValue47 rfl rfl rfl rfl (z5I 5 rfl) jv) ?_
   rintro v23 _ rfl
   refine sb ?_
   refine aq [20] ?_
   refine z1K (by kernel_rfl) ?_
   refine zS (zD (rj [3,4,0] [0,1] ?_))
   refine yn 3 ?_
   exact gj j9 _ [0,1] h
  ·refine z1h _ rfl ?_
   exact gk hL5 j3 _ [0] h
 rintro j5 v2 h
 refine rs ?_
 refine yn 4 ?_
 exact fs [2] [0] results139 h
def zaX:Nat→(List zi)→Option ((List zi))
 | 0=>fun _=>none
 | n+1=>zaa n  (zaX n )
theorem zfo {n:Nat}:K36 (zaX n) 139:=by
 induction n with
 | zero=>intro _ _ _  h; cases h
 | succ n ih=>exact zch ih
def zfR (n:Nat) (l_0:(List zm)) (q56r:(List zm)→Option ((List zm))):((List zm)×Int)→Option (Lp ((List zm)×Int) (Lp ((List zm)) ((List zm)))):=
 fun (j2,i_8)=>
  cond (decide (i_8<(l_0.length:Int)))
   (idx l_0 i_8 fun x15=>
   obind (zaX n x15.X.Args) fun r23=>
   obind (q56r x15.Body) fun r27=>
   obind (q56r x15.Else) fun r31=>
   need (j2.length+([(zm.mk x15.Kind 0 x15.Name (zi.mk x15.X.Op 0 x15.X.S r23) r27 r31)]:List zm).length≤4294967296) (
   some (.go ((j2++([(zm.mk x15.Kind 0 x15.Name (zi.mk x15.X.Op 0 x15.X.S r23) r27 r31)]:List zm)),(IntKind.i64.wrap (i_8+1))))))
   (some (.stop (.go j2)))
def zaF (n:Nat) (q56r:(List zm)→Option ((List zm))) (l_0:(List zm)):Option ((List zm)):=
 bindJ (S:=(List zm))
  (iter (zfR n l_0 q56r) n (([]:List zm),0))
 (fun j5 =>
  some j5)
theorem zcL {n:Nat} {q56r:(List zm)→Option ((List zm))} (q57h:K24 q56r 71):K24 (zaF n q56r) 71:=by
 intro l_0 jG r h
 refine zN func71 rfl ntmps71 rfl (fun w0 o0=>?_)
 refine yn 4 ?_
 refine zd (jr h [] [0] (fun s (g:Value)=>[(3,g)]) (fun s g=>[nrow g zE s]) (fun _ h _ _ hL5=>?_) ?_)
 ·refine yn 4 ?_
  refine z3x (z1q zE) ?_
  refine lo h [0] [0,1] (fun s (g:Value)=>[(3,g),(4,.int .i64 s.2)]) (fun s g=>[nrow g zE s.1]) _ [1,0] ?_
  rintro ⟨_,i_8⟩ _ _ h _ j9 j3
  refine rs ?_
  refine yc 4 h (fun _ h=>?_) fun _ h=>?_
  ·refine yn 5 ?_
   obtain ⟨x15,jq,js,ja,h⟩:=zP h
   refine ys ?_
   refine z4a (exAtT (T:=z1S) (i:=i_8.toNat) 1 rfl ja) ?_
   rintro ⟨g16,g17,g18⟩
   refine ys ?_
   refine al fun b19=>?_
   refine ys ?_
   refine zc (rj [3,4,0,5] [0,1,3,4,5,6] ?_)
   refine yn 6 ?_
   obtain ⟨r23,jv,h⟩:=zJ h
   refine zt (tc [(2,0)] call139 (zfo jv)) ?_
   rintro v25 _ ⟨_,⟨_,rfl,rfl⟩,rfl⟩
   refine ys ?_
   refine zc (rj [3,4,0,5] [0,1,3,4,5,6] ?_)
   refine yn 2 ?_
   obtain ⟨r27,jt,h⟩:=zJ h
   refine zt (tc [(2,0)] call71 (q57h jt)) ?_
   rintro v29 _ ⟨_,⟨_,rfl,rfl⟩,rfl⟩
   refine yn 3 ?_
   obtain ⟨r31,j05,h⟩:=zJ h
   refine zt (tc [(3,0)] call71 (q57h j05)) ?_
   rintro v33 _ ⟨_,⟨_,rfl,rfl⟩,rfl⟩
   refine ys ?_
   refine zd (rj [3,4,0,5] [0,1,4,5,6,7] ?_)
   refine yn 2 ?_
   refine zB (z24 3 rfl) ?_
   refine zB (z24 4 rfl) ?_
   refine zB (z24 5 rfl) ?_
   refine z2V 3 rfl z1j (fun jK hs36o=>?_)
   refine z2V 4 rfl z1j (fun jL hs37o=>?_)
   refine z2V 5 rfl z1j (fun jM hs38o=>?_)
   refine zt (t_lit [.agg #[.int .i64 x15.Kind,.int .i64 0,.string (bs x15.Name),.int .i64 x15.X.Op,.int .i64 0,.string (bs x15.X.S),v25,v29,v33]] runUnderlying80 sizeOf84 zeroValue84 rfl (by decide) (by decide) rfl (by intro q hq; simp only [y1,y0,or_false] at hq; rcases hq with rfl <;> first | rfl | (rw [jK]; rfl) | (rw [jL]; rfl) | (rw [jM]; rfl))) ?_
   rintro v35 _ ⟨rfl,_⟩
   refine zB (z1p (C:=zE) (l:=([(zm.mk x15.Kind 0 x15.Name (zi.mk x15.X.Op 0 x15.X.S r23) r27 r31)]:List zm)) 6 [((zm.mk x15.Kind 0 x15.Name (zi.mk x15.X.Op 0 x15.X.S r23) r27 r31),(v25,v29,v33))] rfl (by simp only [yI,List.map_nil,jK,jL,jM]; rfl) rfl (z1o (z2P (T:=z1S) (z1t 3 rfl (z1t 4 rfl (z1t 5 rfl z2u)))) z1x)) ?_
   obtain ⟨j06,h⟩:=zX h
   refine zt (z3P (C:=zE) 0 6 (by decide) rfl runUnderlying80 rfl runUnderlying80 typeInfo84 rfl (by decide) (by decide) zeroValue84 rfl rfl rfl rfl (z5I 6 rfl) j06) ?_
   rintro v39 _ rfl
   refine yn 6 ?_
   exact gj j9 _ [0,1] h
  ·refine z1h _ rfl ?_
   exact gk hL5 j3 _ [0] h
 rintro j5 v2 h
 refine rs ?_
 refine yn 4 ?_
 exact fs [2] [0] results71 h
def zbN:Nat→(List zm)→Option ((List zm))
 | 0=>fun _=>none
 | n+1=>zaF n  (zbN n )
theorem zc9 {n:Nat}:K24 (zbN n) 71:=by
 induction n with
 | zero=>intro _ _ _  h; cases h
 | succ n ih=>exact zcL ih
end Go.Proofs.YtcmaoifiiigggaaGreatDoor
