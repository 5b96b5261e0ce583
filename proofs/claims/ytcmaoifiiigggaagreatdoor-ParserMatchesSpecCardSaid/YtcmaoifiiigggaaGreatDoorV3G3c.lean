/-
  Functions that the law ParserMatchesSpec needs, lifted.
-/
import Derived.Test.YtcmaoifiiigggaaGreatDoorV3G3b
set_option linter.unusedSimpArgs false
set_option linter.unusedVariables false
namespace Go.Proofs.YtcmaoifiiigggaaGreatDoor
open Go.Abs
set_option maxRecDepth 20000
set_option maxHeartbeats 4000000
def zeT (n:Nat) (l_0:(List z6)) (c_1:zl) (i_2:Int):Option (z12):=
 obind (z3q l_0 i_2) fun r3=>
 cond (decide (r3≠4))
  (some (z12.mk ([]:List zl) i_2 true))
  (obind (z35 l_0 i_2) fun r6=>
  obind (z2R l_0 (IntKind.i64.wrap (i_2+1)) [105,110]) fun r8=>
  cond (!r8)
   (some (z12.mk ([]:List zl) (IntKind.i64.wrap (i_2+1)) true))
   (obind (zai n l_0 (zl.mk c_1.Kind c_1.At r6 c_1.Texts c_1.Amount c_1.Default c_1.HasDefault c_1.Conds) (IntKind.i64.wrap (i_2+2)) 4) fun r11=>
   cond r11.Bad
    (some r11)
    (idx r11.L 0 fun x18=>
    obind (z2R l_0 r11.I [100,101,102,97,117,108,116]) fun r23=>
    cond (!r23)
     (obind (z6B l_0 x18 r11.I) fun r26=>
     some r26)
     (obind (z3q l_0 (IntKind.i64.wrap (r11.I+1))) fun r30=>
     cond (decide (r30≠4))
      (some (z12.mk ([]:List zl) (IntKind.i64.wrap (r11.I+1)) true))
      (obind (z35 l_0 (IntKind.i64.wrap (r11.I+1))) fun r33=>
      obind (z6B l_0 (zl.mk x18.Kind x18.At x18.Name x18.Texts x18.Amount r33 true x18.Conds) (IntKind.i64.wrap (r11.I+2))) fun r35=>
      some r35)))))
theorem zjq {n:Nat}:K44 (zeT n) 222:=by
 intro l_0 c_1 i_2 j5 j0 j1 r h
 refine zN Tryz.func222 rfl Tryz.ntmps222 rfl (fun w0 o0=>?_)
 refine zh (zt (t_box rfl) ?_)
 rintro _ _ ⟨b1,rfl,rfl⟩
 refine al fun b2=>?_
 refine zc (zh (ys ?_))
 refine cl0 [(0,0)] Tryz.call152 (fun h=>z2A h) h (fun r3 h=>?_)
 refine ys ?_
 refine zd (rc h (fun _ h=>?_) (fun _ h=>?_))
 ·refine zh (ys ?_)
  refine zd (zA ?_)
  refine z1k (z1q zp) ?_
  exact fr [5] Tryz.results222 h
 ·refine run_skip (ze ?_)
  refine ys ?_
  refine cl0 [(0,0)] Tryz.call153 (fun h=>z2b h) h (fun r6 h=>?_)
  refine ys ?_
  refine zc (zH (rj [0,2,4,6] [0,1,2,3,4] ?_))
  refine z8 (ys ?_)
  refine cl0 [(0,0)] Tryz.call86 (fun h=>z25 h) h (fun r8 h=>?_)
  refine ys ?_
  refine zd (rc h (fun _ h=>?_) (fun _ h=>?_))
  ·refine zh (ys ?_)
   refine zd (zA ?_)
   refine z1k (z1q zp) ?_
   exact fr [5] Tryz.results222 h
  ·refine run_skip (ze ?_)
   refine ys ?_
   refine zB (Go.Abs.freeze 1 rfl) ?_
   refine zB (z24 2 rfl) ?_
   refine cl1 [(0,0),(1,0),(2,0)] Tryz.call243 (fun h=>zdJ h) h (fun r11 v13 h=>?_)
   refine al fun b14=>?_
   refine ys ?_
   refine zc (zH (rj [0,4,6,7] [0,1,2,3,4,5,6] ?_))
   refine z8 (ys ?_)
   refine zd (rc h (fun _ h=>?_) (fun _ h=>?_))
   ·refine zh (ys ?_)
    refine zd (zA ?_)
    exact fr [5] Tryz.results222 h
   ·refine run_skip (ze ?_)
    refine ys ?_
    obtain ⟨x18,jj,jk,ja,h⟩:=zP h
    refine ys ?_
    refine zt (znj (T:=z1W) (zfJ (C:=zp) (i:=(0:Int).toNat) 5 Tryz.isAgg88 Tryz.sizeOf88 rfl rfl ja)) ?_
    rintro _ _ ⟨⟨g19,g20⟩,rfl,rfl⟩
    refine ys ?_
    refine zc (zh (ys ?_))
    refine cl0 [(0,0)] Tryz.call86 (fun h=>z25 h) h (fun r23 h=>?_)
    refine ys ?_
    refine zd (rc h (fun _ h=>?_) (fun _ h=>?_))
    ·refine zH (rj [0,4,6,7] [0,3,4,5,6,7,8] ?_)
     refine z8 (ys ?_)
     refine cl1 [(0,0),(5,0),(6,0)] Tryz.call220 (fun h=>z6C h) h (fun r26 v28 h=>?_)
     refine ys ?_
     refine zd (zA ?_)
     exact fr [7] Tryz.results222 h
    ·refine run_skip (zg (zH (rj [0,4,6,7] [0,3,4,5,6,7,8] ?_)))
     refine z8 (ys ?_)
     refine cl0 [(0,0)] Tryz.call152 (fun h=>z2A h) h (fun r30 h=>?_)
     refine ys ?_
     refine zd (rc h (fun _ h=>?_) (fun _ h=>?_))
     ·refine zh (ys ?_)
      refine zd (zA ?_)
      refine z1k (z1q zp) ?_
      exact fr [7] Tryz.results222 h
     ·refine run_skip (ze ?_)
      refine ys ?_
      refine cl0 [(0,0)] Tryz.call153 (fun h=>z2b h) h (fun r33 h=>?_)
      refine ys ?_
      refine zc (rj [0,4,6,7] [0,1,2,3,4,5,6] ?_)
      refine z8 (ys ?_)
      refine za (ys ?_)
      refine cl1 [(0,0),(5,0),(6,0)] Tryz.call220 (fun h=>z6C h) h (fun r35 v37 h=>?_)
      refine ys ?_
      refine zd (zA ?_)
      exact fr [7] Tryz.results222 h
def zaG (l_0:(List z6)) (c_1:zl) (i_2:Int):Option (z12):=
 obind (z2B l_0 i_2 [59]) fun r3=>
 cond (!r3)
  (some (z12.mk ([]:List zl) i_2 true))
  (some (z12.mk ([c_1]:List zl) (IntKind.i64.wrap (i_2+1)) false))
theorem zcQ:K44 zaG 220:=by
 intro l_0 c_1 i_2 j5 j0 j1 r h
 refine zN Tryz.func220 rfl Tryz.ntmps220 rfl (fun w0 o0=>?_)
 refine zh (zt (t_box rfl) ?_)
 rintro _ _ ⟨b1,rfl,rfl⟩
 refine al fun b2=>?_
 refine zc (zh (ys ?_))
 refine cl0 [(0,0)] Tryz.call85 (fun h=>z1M h) h (fun r3 h=>?_)
 refine ys ?_
 refine zd (rc h (fun _ h=>?_) (fun _ h=>?_))
 ·refine zh (ys ?_)
  refine zd (zA ?_)
  refine z1k (z1q zp) ?_
  exact fr [5] Tryz.results220 h
 ·refine run_skip (ze ?_)
  refine ys ?_
  refine zB (Go.Abs.freeze 1 rfl) ?_
  refine zB (z24 2 rfl) ?_
  refine zcx 1 rfl z3N (fun hs7 hs7o=>?_)
  refine z2V 2 rfl z1j (fun hs8 hs8o=>?_)
  refine zt (t_lit [.agg #[.int .i64 c_1.Kind,.int .i64 c_1.At,.string (bs c_1.Name),j0,.string (bs c_1.Amount.Number),.string (bs c_1.Amount.Unit),.int .i64 c_1.Amount.At,.string (bs c_1.Default),.bool c_1.HasDefault,j1]] Tryz.runUnderlying77 Tryz.sizeOf88 Tryz.zeroValue88 rfl (by decide) (by decide) rfl (by intro q hq; simp only [y1,y0,or_false] at hq; rcases hq with rfl <;> first | rfl | (rw [hs7]; rfl) | (rw [hs8]; rfl))) ?_
  rintro v6 _ ⟨rfl,_⟩
  refine zB (z1p (C:=zp) (l:=([c_1]:List zl)) 5 [(c_1,(j0,j1))] rfl (by simp only [yI,List.map_nil,hs7,hs8]; rfl) rfl (z1o (z2P (T:=z1W) (z1t 1 rfl (z1t 2 rfl z2u))) z1x)) ?_
  refine ys ?_
  refine zd (zA ?_)
  exact fr [5] Tryz.results220 h
def zbM (l_0:(List z6)) (c_1:zl) (i_2:Int) (j3:Bool):Option (z12):=
 obind (z3q l_0 i_2) fun r3=>
 cond (decide (r3≠3))
  (some (z12.mk ([]:List zl) i_2 true))
  (obind (z35 l_0 i_2) fun r6=>
  obind (z5F l_0 i_2) fun r8=>
  bindJ (S:=Bool)
   (cond j3
    (obind (z3q l_0 (IntKind.i64.wrap (i_2+1))) fun r16=>
    some (.go (decide (r16=1))))
    (some (.go false)))
  (fun b10 =>
   cond b10
    (obind (z35 l_0 (IntKind.i64.wrap (i_2+1))) fun r19=>
    obind (z6B l_0 (zl.mk c_1.Kind c_1.At c_1.Name c_1.Texts (z1r.mk r6 r19 r8) c_1.Default c_1.HasDefault c_1.Conds) (IntKind.i64.wrap (i_2+2))) fun r21=>
    some r21)
    (obind (z6B l_0 (zl.mk c_1.Kind c_1.At c_1.Name c_1.Texts (z1r.mk r6 [] r8) c_1.Default c_1.HasDefault c_1.Conds) (IntKind.i64.wrap (i_2+1))) fun r25=>
    some r25)))
theorem zhc {l_0:(List z6)} {c_1:zl} {i_2:Int} {j3:Bool} {j5:Value} {j0:Value} {j1:Value} {r:z12} (h:zbM l_0 c_1 i_2 j3=some r) :
  Meets Tryz.prog 223 [j5,.agg #[.int .i64 c_1.Kind,.int .i64 c_1.At,.string (bs c_1.Name),j0,.string (bs c_1.Amount.Number),.string (bs c_1.Amount.Unit),.int .i64 c_1.Amount.At,.string (bs c_1.Default),.bool c_1.HasDefault,j1],.int .i64 i_2,.bool j3] [ro j5 3 (l_0.map z6.enc),row j0 1 (c_1.Texts.map eStr),nrow j1 zp c_1.Conds] (fun v G=>∃ v0,v = .agg #[v0,.int .i64 r.I,.bool r.Bad]∧G=[nrow v0 zp r.L]):=by
 refine zN Tryz.func223 rfl Tryz.ntmps223 rfl (fun w0 o0=>?_)
 refine zh (zt (t_box rfl) ?_)
 rintro _ _ ⟨b1,rfl,rfl⟩
 refine al fun b2=>?_
 refine zc (zh (ys ?_))
 refine cl0 [(0,0)] Tryz.call152 (fun h=>z2A h) h (fun r3 h=>?_)
 refine ys ?_
 refine zd (rc h (fun _ h=>?_) (fun _ h=>?_))
 ·refine zh (ys ?_)
  refine zd (zA ?_)
  refine z1k (z1q zp) ?_
  exact fr [5] Tryz.results223 h
 ·refine run_skip (ze ?_)
  refine ys ?_
  refine cl0 [(0,0)] Tryz.call153 (fun h=>z2b h) h (fun r6 h=>?_)
  refine ys ?_
  refine cl0 [(0,0)] Tryz.call154 (fun h=>z38 h) h (fun r8 h=>?_)
  refine ys ?_
  refine zc (zH (rj [0,2,3,5,8] [0,1,2,3,4] ?_))
  refine z8 (ys ?_)
  refine ob h 6 [0,2,5,8] [1,2,3,4,5] (fun s=>[(30,.bool s)]) (fun s=>[]) (fun _ h _ _ jb=>?_) ?_
  ·refine z1c 24 j3 rfl (fun j7=>?_) (fun j7=>?_)
   ·replace h:=z2F h j7
    refine ys ?_
    refine cl0 [(0,0)] Tryz.call152 (fun h=>z2A h) h (fun r16 h=>?_)
    refine ys ?_
    exact zr (gb jb [0,1,2,3,4] h)
   ·replace h:=z2E h j7
    refine ys ?_
    exact zr (gb jb [0,1,2,3,4] h)
  rintro b10 h
  refine os ?_
  refine zd (rc h (fun _ h=>?_) (fun _ h=>?_))
  ·refine zh (ys ?_)
   refine cl0 [(0,0)] Tryz.call153 (fun h=>z2b h) h (fun r19 h=>?_)
   refine ys ?_
   refine za (ys ?_)
   refine zB (Go.Abs.freeze 1 rfl) ?_
   refine zB (z24 2 rfl) ?_
   refine cl1 [(0,0),(1,0),(2,0)] Tryz.call220 (fun h=>z6C h) h (fun r21 v23 h=>?_)
   refine ys ?_
   refine zd (zA ?_)
   exact fr [5] Tryz.results223 h
  ·refine run_skip (ze ?_)
   refine ys ?_
   refine zB (Go.Abs.freeze 1 rfl) ?_
   refine zB (z24 2 rfl) ?_
   refine cl1 [(0,0),(1,0),(2,0)] Tryz.call220 (fun h=>z6C h) h (fun r25 v27 h=>?_)
   refine ys ?_
   refine zd (zA ?_)
   exact fr [5] Tryz.results223 h
def zac (n:Nat) (q0r:(List z6)→Int→Bool→Option (z12)) (l_0:(List z6)) (i_1:Int) (j2:Bool):Option (z12):=
 obind (z8v n l_0 i_1 j2) fun r2=>
 obind (z5F l_0 i_1) fun r4=>
 cond (decide (r2=0))
  (some (z12.mk ([]:List zl) i_1 true))
  (cond (decide (r2 = 1))
   (obind (z3q l_0 (IntKind.i64.wrap (i_1+1))) fun r9=>
   cond (decide (r9≠4))
    (some (z12.mk ([]:List zl) (IntKind.i64.wrap (i_1+1)) true))
    (obind (z35 l_0 (IntKind.i64.wrap (i_1+1))) fun r12=>
    obind (zbk l_0 (zl.mk r2 r4 [] ([r12]:List (List UInt8)) (z1r.mk [] [] 0) [] false ([]:List zl)) (IntKind.i64.wrap (i_1+2))) fun r16=>
    some r16))
   (bindJ (S := Bool)
    (cond (decide (r2 = 2))
     (some (.go (decide (r2=2))))
     (cond (decide (r2 = 14))
      (some (.go (decide (r2=14))))
      (some (.go (decide (r2=15))))))
   (fun jc =>
    cond jc
     (obind (zbt n l_0 (zl.mk r2 r4 [] ([]:List (List UInt8)) (z1r.mk [] [] 0) [] false ([]:List zl)) (IntKind.i64.wrap (i_1+1)) 4) fun r28=>
     some r28)
     (cond (decide (r2 = 16))
      (obind (zbt n l_0 (zl.mk r2 r4 [] ([]:List (List UInt8)) (z1r.mk [] [] 0) [] false ([]:List zl)) (IntKind.i64.wrap (i_1+1)) 3) fun r33=>
      some r33)
      (cond (decide (r2 = 8))
       (obind (zeT n l_0 (zl.mk r2 r4 [] ([]:List (List UInt8)) (z1r.mk [] [] 0) [] false ([]:List zl)) (IntKind.i64.wrap (i_1+1))) fun r38=>
       some r38)
       (cond (decide (r2 = 10))
        (obind (zaG l_0 (zl.mk r2 r4 [] ([]:List (List UInt8)) (z1r.mk [] [] 0) [] false ([]:List zl)) (IntKind.i64.wrap (i_1+1))) fun r43=>
        some r43)
        (cond (decide (r2 = 11))
         (obind (z3q l_0 (IntKind.i64.wrap (i_1+1))) fun r48=>
         cond (decide (r48≠1))
          (some (z12.mk ([]:List zl) (IntKind.i64.wrap (i_1+1)) true))
          (obind (z35 l_0 (IntKind.i64.wrap (i_1+1))) fun r51=>
          obind (zaG l_0 (zl.mk r2 r4 r51 ([]:List (List UInt8)) (z1r.mk [] [] 0) [] false ([]:List zl)) (IntKind.i64.wrap (i_1+2))) fun r53=>
          some r53))
         (cond (decide (r2 = 9))
          (obind (q0r l_0 (IntKind.i64.wrap (i_1+1)) true) fun r58=>
          some (z12.mk ([(zl.mk r2 r4 [] [] (z1r.mk [] [] 0) [] false r58.L)]:List zl) r58.I r58.Bad))
          (obind (zbM l_0 (zl.mk r2 r4 [] ([]:List (List UInt8)) (z1r.mk [] [] 0) [] false ([]:List zl)) (IntKind.i64.wrap (i_1+1)) (decide (r2≠17))) fun r68=>
          some r68)))))))))
theorem zhg {n:Nat} {q0r:(List z6)→Int→Bool→Option (z12)} (q1h:K16 q0r 155):K16 (zac n q0r) 198:=by
 intro l_0 i_1 j2 j5 r h
 refine zN Tryz.func198 rfl Tryz.ntmps198 rfl (fun w0 o0=>?_)
 refine zh (al fun b1=>?_)
 refine za (ys ?_)
 refine cl0 [(0,0)] Tryz.call219 (fun h=>zeF h) h (fun r2 h=>?_)
 refine ys ?_
 refine za (ys ?_)
 refine cl0 [(0,0)] Tryz.call154 (fun h=>z38 h) h (fun r4 h=>?_)
 refine ys ?_
 refine al fun b6=>?_
 refine ys ?_
 refine zc (zH (rj [0,1,6,7,8] [0,1,2] ?_))
 refine z8 (ys ?_)
 refine zd (zF (zh (ys ?_)))
 refine zd (rc h (fun _ h=>?_) (fun _ h=>?_))
 ·refine zh (ys ?_)
  refine zd (zA ?_)
  refine z1k (z1q zp) ?_
  exact fr [3] Tryz.results198 h
 ·refine zh (ys ?_)
  refine zd (rc h (fun _ h=>?_) (fun _ h=>?_))
  ·refine zH (zh (ys ?_))
   refine cl0 [(0,0)] Tryz.call152 (fun h=>z2A h) h (fun r9 h=>?_)
   refine ys ?_
   refine zd (rc h (fun _ h=>?_) (fun _ h=>?_))
   ·refine zH (rj [1,6] [1] ?_)
    refine z8 (ys ?_)
    refine zd (zA ?_)
    refine z1k (z1q zp) ?_
    exact fr [1] Tryz.results198 h
   ·refine run_skip (zg (rj [0,1,6,8] [0,1,2] ?_))
    refine z8 (ys ?_)
    refine cl0 [(0,0)] Tryz.call153 (fun h=>z2b h) h (fun r12 h=>?_)
    refine zt (t_lit [.string (bs r12)] Tryz.runUnderlying62 Tryz.sizeOf9 Tryz.zeroValue9 rfl (by decide) (by decide) rfl (by simp [Value.cells,boxP])) ?_
    rintro v14 _ ⟨rfl,_⟩
    refine zB (retell 3 (g:=row v14 1 (([r12]:List (List UInt8)).map eStr)) rfl rfl) ?_
    refine ys ?_
    refine za (ys ?_)
    refine zB (z1q zp) ?_
    refine zB (Go.Abs.freeze 3 rfl) ?_
    refine cl1 [(0,0),(3,0),(4,2)] Tryz.call220 (fun h=>zjn h) h (fun r16 v18 h=>?_)
    refine ys ?_
    refine zd (zA ?_)
    exact fr [5] Tryz.results198 h
  ·refine jr h [0,1,6,7,8,19] [1,2,3] (fun s (g:Unit)=>[(45,.bool s)]) (fun s g=>[]) (fun _ h _ _ j8=>?_) ?_
   ·refine zh (ys ?_)
    refine zd (rc h (fun _ h=>?_) (fun _ h=>?_))
    ·exact run_skip (gj j8 () [0,1,2] h)
    ·refine zh (ys ?_)
     refine zd (rc h (fun _ h=>?_) (fun _ h=>?_))
     ·exact run_skip (gj j8 () [0,1,2] h)
     ·refine rj [0,1,6,7,8,19] [0,1,2] ?_
      refine z8 (ys ?_)
      exact zr (gj j8 () [0,1,2] h)
   rintro jc _ h
   refine rs ?_
   refine rc h (fun _ h=>?_) (fun _ h=>?_)
   ·refine zh (ys ?_)
    refine zB (nilrow 1) ?_
    refine zB (retell 3 (g:=row (.slice none 0 0) 1 (([]:List (List UInt8)).map eStr)) rfl rfl) ?_
    refine zB (z1q zp) ?_
    refine cl1 [(0,0),(3,2),(4,2)] Tryz.call221 (fun h=>zeU h) h (fun r28 v30 h=>?_)
    refine ys ?_
    refine zd (zA ?_)
    exact fr [5] Tryz.results198 h
   ·refine zh (ys ?_)
    refine zd (rc h (fun _ h=>?_) (fun _ h=>?_))
    ·refine zh (ys ?_)
     refine zB (nilrow 1) ?_
     refine zB (retell 3 (g:=row (.slice none 0 0) 1 (([]:List (List UInt8)).map eStr)) rfl rfl) ?_
     refine zB (z1q zp) ?_
     refine cl1 [(0,0),(3,2),(4,2)] Tryz.call221 (fun h=>zeU h) h (fun r33 v35 h=>?_)
     refine ys ?_
     refine zd (zA ?_)
     exact fr [5] Tryz.results198 h
    ·refine zh (ys ?_)
     refine zd (rc h (fun _ h=>?_) (fun _ h=>?_))
     ·refine zh (ys ?_)
      refine zB (nilrow 1) ?_
      refine zB (retell 3 (g:=row (.slice none 0 0) 1 (([]:List (List UInt8)).map eStr)) rfl rfl) ?_
      refine zB (z1q zp) ?_
      refine cl1 [(0,0),(3,2),(4,2)] Tryz.call222 (fun h=>zjq h) h (fun r38 v40 h=>?_)
      refine ys ?_
      refine zd (zA ?_)
      exact fr [5] Tryz.results198 h
     ·refine zh (ys ?_)
      refine zd (rc h (fun _ h=>?_) (fun _ h=>?_))
      ·refine zh (ys ?_)
       refine zB (nilrow 1) ?_
       refine zB (retell 3 (g:=row (.slice none 0 0) 1 (([]:List (List UInt8)).map eStr)) rfl rfl) ?_
       refine zB (z1q zp) ?_
       refine cl1 [(0,0),(3,2),(4,2)] Tryz.call220 (fun h=>zcQ h) h (fun r43 v45 h=>?_)
       refine ys ?_
       refine zd (zA ?_)
       exact fr [5] Tryz.results198 h
      ·refine zh (ys ?_)
       refine zd (rc h (fun _ h=>?_) (fun _ h=>?_))
       ·refine zH (zH (rj [0,1,6,8] [0,1,2] ?_))
        refine z8 (ys ?_)
        refine cl0 [(0,0)] Tryz.call152 (fun h=>z2A h) h (fun r48 h=>?_)
        refine ys ?_
        refine zd (rc h (fun _ h=>?_) (fun _ h=>?_))
        ·refine zh (ys ?_)
         refine zd (zA ?_)
         refine z1k (z1q zp) ?_
         exact fr [3] Tryz.results198 h
        ·refine run_skip (ze ?_)
         refine ys ?_
         refine cl0 [(0,0)] Tryz.call153 (fun h=>z2b h) h (fun r51 h=>?_)
         refine ys ?_
         refine zc (rj [0,1,6,8] [0,1,2] ?_)
         refine z8 (ys ?_)
         refine zB (nilrow 1) ?_
         refine zB (retell 3 (g:=row (.slice none 0 0) 1 (([]:List (List UInt8)).map eStr)) rfl rfl) ?_
         refine zB (z1q zp) ?_
         refine cl1 [(0,0),(3,2),(4,2)] Tryz.call220 (fun h=>zcQ h) h (fun r53 v55 h=>?_)
         refine ys ?_
         refine zd (zA ?_)
         exact fr [5] Tryz.results198 h
       ·refine zH (rj [0,1,6,7,8,19] [0,1,2] ?_)
        refine z8 (ys ?_)
        refine zd (rc h (fun _ h=>?_) (fun _ h=>?_))
        ·refine zh (ys ?_)
         refine cl1 [(0,0)] Tryz.call155 (fun h=>q1h h) h (fun r58 v60 h=>?_)
         refine al fun b61=>?_
         refine ys ?_
         refine zc (rj [6,8,9] [1,2,3,4] ?_)
         refine z8 (ys ?_)
         refine za (ys ?_)
         refine zB (z24 2 rfl) ?_
         refine z2V 2 rfl z1j (fun jd hs65o=>?_)
         refine zt (t_lit [.agg #[.int .i64 r2,.int .i64 r4,.string (bs []),.slice none 0 0,.string (bs []),.string (bs []),.int .i64 0,.string (bs []),.bool false,v60]] Tryz.runUnderlying77 Tryz.sizeOf88 Tryz.zeroValue88 rfl (by decide) (by decide) rfl (by intro q hq; simp only [y1,y0,or_false] at hq; rcases hq with rfl <;> first | rfl | (rw [jd]; rfl))) ?_
         rintro v64 _ ⟨rfl,_⟩
         refine zB (z1p (C:=zp) (l:=([(zl.mk r2 r4 [] [] (z1r.mk [] [] 0) [] false r58.L)]:List zl)) 4 [((zl.mk r2 r4 [] [] (z1r.mk [] [] 0) [] false r58.L),((.slice none 0 0),v60))] rfl (by simp only [yI,List.map_nil,jd]; rfl) rfl (z1o (z2P (T:=z1W) (zjQ zmF (z1t 2 rfl z2u))) z1x)) ?_
         refine ys ?_
         refine zd (zA ?_)
         exact fr [4] Tryz.results198 h
        ·refine run_skip (zS (ze ?_))
         refine ys ?_
         refine zB (nilrow 1) ?_
         refine zB (retell 3 (g:=row (.slice none 0 0) 1 (([]:List (List UInt8)).map eStr)) rfl rfl) ?_
         refine zB (z1q zp) ?_
         refine cl1 [(0,0),(3,2),(4,2)] Tryz.call223 (fun h=>zhc h) h (fun r68 v70 h=>?_)
         refine ys ?_
         refine zd (zA ?_)
         exact fr [5] Tryz.results198 h
def z6z (n:Nat) (l_0:(List z6)) (j2:Bool) (q0r:(List z6)→Int→Bool→Option (z12)):((List zl)×Int×Bool)→Option (Lp ((List zl)×Int×Bool) (Lp ((List zl)×Int×Bool) (z12))):=
 fun (j6,j9,jf)=>
  obind (z2B l_0 j9 [125]) fun r22=>
  cond (!r22)
   (obind (zac n q0r l_0 j9 j2) fun r25=>
   need (j6.length+r25.L.length≤4294967296) (
   cond r25.Bad
    (some (.stop (.stop (z12.mk (j6++r25.L) r25.I r25.Bad))))
    (some (.go ((j6++r25.L),r25.I,r25.Bad)))))
   (some (.stop (.go (j6,j9,jf))))
def z5G (n:Nat) (q0r:(List z6)→Int→Bool→Option (z12)) (l_0:(List z6)) (i_1:Int) (j2:Bool):Option (z12):=
 obind (z2B l_0 i_1 [123]) fun r2=>
 cond (!r2)
  (some (z12.mk ([]:List zl) i_1 true))
  (bindJ (S := (List zl) × Int × Bool)
   (iter (z6z n l_0 j2 q0r) n (([]:List zl),(IntKind.i64.wrap (i_1+1)),false))
  (fun (x_6, x_7, x_8) =>
   some (z12.mk x_6 (IntKind.i64.wrap (x_7+1)) x_8)))
theorem zdv {n:Nat} {q0r:(List z6)→Int→Bool→Option (z12)} (q1h:K16 q0r 155):K16 (z5G n q0r) 155:=by
 intro l_0 i_1 j2 j5 r h
 refine zN Tryz.func155 rfl Tryz.ntmps155 rfl (fun w0 o0=>?_)
 refine zh (al fun b1=>?_)
 refine zc (zh (ys ?_))
 refine cl0 [(0,0)] Tryz.call85 (fun h=>z1M h) h (fun r2 h=>?_)
 refine ys ?_
 refine zd (rc h (fun _ h=>?_) (fun _ h=>?_))
 ·refine zh (ys ?_)
  refine zd (zA ?_)
  refine z1k (z1q zp) ?_
  exact fr [2] Tryz.results155 h
 ·refine run_skip (ze ?_)
  refine ys ?_
  refine al fun b5=>?_
  refine ys ?_
  refine zd (jr h [6,7] [2,0,0] (fun s (g:Value)=>[]) (fun s g=>[box b5 [g,.int .i64 s.2.1,.bool s.2.2],nrow g zp s.1]) (fun _ h jg _ jh=>?_) ?_)
  ·refine zF (z3x (z1q zp) ?_)
   refine lo h [0,2,6,7] [1,2,0,0] (fun s (g:Value)=>[]) (fun s g=>[box b5 [g,.int .i64 s.2.1,.bool s.2.2],nrow g zp s.1]) _ [0,1,2,3] ?_
   rintro ⟨_,_,_⟩ _ _ h _ je j4
   refine rs ?_
   refine zH (zh (ys ?_))
   refine cl0 [(0,0)] Tryz.call85 (fun h=>z1M h) h (fun r22 h=>?_)
   refine ys ?_
   refine zd (rc h (fun _ h=>?_) (fun _ h=>?_))
   ·refine run_skip (zD (zF (zh (ys ?_))))
    refine cl1 [(0,0)] Tryz.call198 (fun h=>zhg q1h h) h (fun r25 v27 h=>?_)
    refine al fun b28=>?_
    refine ys ?_
    refine zc (rj [0,2,6,7,8] [0,1,2,3,4,5] ?_)
    refine rf [1,1,0,0,1,1] fun hS=>?_
    refine aq [0,2,3,5,6,7,8] ?_
    refine zK [1] (by kernel_rfl) rfl (zk ?_ zC)
    refine ty ?_
    refine zK [4] (by kernel_rfl) rfl (zk ?_ zC)
    obtain ⟨ji,h⟩:=zX h
    refine at' rfl (z3P (C:=zp) 3 4 (by decide) rfl Tryz.runUnderlying77 rfl Tryz.runUnderlying77 Tryz.typeInfo88 rfl (by decide) (by decide) Tryz.zeroValue88 rfl rfl rfl rfl (z5I 4 rfl) ji) ?_
    rintro v30 _ rfl
    refine sb ?_
    refine zK [9] (by kernel_rfl) rfl (zk ?_ zC)
    refine ty ?_
    refine ast 10 ?_
    refine z1K (by kernel_rfl) ?_
    refine zg (rj [0,2,6,7] [0,1,2,3] ?_)
    refine z8 (ys ?_)
    refine zd (rc h (fun _ h=>?_) (fun _ h=>?_))
    ·refine zh (ys ?_)
     refine zd (zA ?_)
     obtain rfl:=zU h
     obtain rfl:=j4 _ rfl
     skip
     obtain rfl:=zM jg
     exact fq [3] Tryz.results155
    ·exact run_skip (zS (gj je _ [0,1,2,3] h))
   ·refine z1h _ rfl ?_
    exact gk jh j4 _ [1,2,3] h
  rintro ⟨x_6,x_7,x_8⟩ v9 h
  refine rs ?_
  refine zh (ys ?_)
  refine za (ys ?_)
  refine zd (zA ?_)
  exact fr [2] Tryz.results155 h
def z6y:Nat→(List z6)→Int→Bool→Option (z12)
 | 0=>fun _ _ _=>none
 | n+1=>z5G n  (z6y n )
theorem zgE {n:Nat}:K16 (z6y n) 155:=by
 induction n with
 | zero=>intro _ _ _ _ _  h; cases h
 | succ n ih=>exact zdv ih
end Go.Proofs.YtcmaoifiiigggaaGreatDoor
