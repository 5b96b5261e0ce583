/-
  Functions that the law ParserIgnoresSpaces needs, lifted.
-/
import Derived.Test.YtcmaoifiiigggaaGreatDoorV8Fa
set_option linter.unusedSimpArgs false
set_option linter.unusedVariables false
namespace Go.Proofs.YtcmaoifiiigggaaGreatDoor
open Go.Abs Tryz
set_option maxRecDepth 20000
set_option maxHeartbeats 4000000
def z2k (s_0:(List zL)):Option ((List zL)):=
 need (([]:List zL).length+s_0.length≤4294967296) (
 some (([]:List zL)++s_0))
theorem z2W {s_0:(List zL)} {j1:Value} {r:(List zL)} (h:z2k s_0=some r) :
  Meets Tryz.prog 58 [j1] [nro j1 zz s_0] (fun v G=>∃ v0,v=v0∧G=[nrow v0 zz r]):=by
 refine zN func58 rfl ntmps58 rfl (fun w0 o0=>?_)
 refine yn 5 ?_
 refine zt (tin 0 runUnderlying23 rfl rfl rfl) ?_
 rintro _ _ ⟨b1,rfl,rfl,hb2⟩
 refine zd (z8D b1 rfl (fun hc3=>?_) (fun hc3=>?_))
 ·obtain rfl:s_0=[]:=hb2 hc3
  obtain ⟨_,h⟩:=zX h
  refine yn 4 ?_
  refine z1k (z1q zz) ?_
  exact fs [2] [1] results58 h
 ·skip
  refine yn 2 ?_
  refine zt (t_lit [] runUnderlying23 sizeOf76 zeroValue76 rfl (by decide) (by decide) rfl (by intro q hq; cases hq)) ?_
  rintro v4 _ ⟨rfl,_⟩
  refine zB (z1p (C:=zz) (l:=([]:List zL)) 1 [] rfl rfl rfl z1x) ?_
  refine ys ?_
  obtain ⟨hr6,h⟩:=zX h
  refine zt (z3P (C:=zz) 1 0 (by decide) rfl runUnderlying23 rfl runUnderlying23 typeInfo76 rfl (by decide) (by decide) zeroValue76 rfl rfl rfl rfl (zhI 0 rfl) hr6) ?_
  rintro v5 _ rfl
  refine yn 3 ?_
  exact fs [2] [1] results58 h
def z2e (s_0:(List zI)):Option ((List zI)):=
 need (([]:List zI).length+s_0.length≤4294967296) (
 some (([]:List zI)++s_0))
theorem z2S {s_0:(List zI)} {j1:Value} {r:(List zI)} (h:z2e s_0=some r) :
  Meets Tryz.prog 59 [j1] [nro j1 zw s_0] (fun v G=>∃ v0,v=v0∧G=[nrow v0 zw r]):=by
 refine zN func59 rfl ntmps59 rfl (fun w0 o0=>?_)
 refine yn 5 ?_
 refine zt (tin 0 runUnderlying24 rfl rfl rfl) ?_
 rintro _ _ ⟨b1,rfl,rfl,hb2⟩
 refine zd (z8D b1 rfl (fun hc3=>?_) (fun hc3=>?_))
 ·obtain rfl:s_0=[]:=hb2 hc3
  obtain ⟨_,h⟩:=zX h
  refine yn 4 ?_
  refine z1k (z1q zw) ?_
  exact fs [2] [1] results59 h
 ·skip
  refine yn 2 ?_
  refine zt (t_lit [] runUnderlying24 sizeOf82 zeroValue82 rfl (by decide) (by decide) rfl (by intro q hq; cases hq)) ?_
  rintro v4 _ ⟨rfl,_⟩
  refine zB (z1p (C:=zw) (l:=([]:List zI)) 1 [] rfl rfl rfl z1x) ?_
  refine ys ?_
  obtain ⟨hr6,h⟩:=zX h
  refine zt (z3P (C:=zw) 1 0 (by decide) rfl runUnderlying24 rfl runUnderlying24 typeInfo82 rfl (by decide) (by decide) zeroValue82 rfl rfl rfl rfl (zhI 0 rfl) hr6) ?_
  rintro v5 _ rfl
  refine yn 3 ?_
  exact fs [2] [1] results59 h
def z2C (s_0:(List zQ)):Option ((List zQ)):=
 need (([]:List zQ).length+s_0.length≤4294967296) (
 some (([]:List zQ)++s_0))
theorem z4L {s_0:(List zQ)} {j1:Value} {r:(List zQ)} (h:z2C s_0=some r) :
  Meets Tryz.prog 60 [j1] [nro j1 zY s_0] (fun v G=>∃ v0,v=v0∧G=[nrow v0 zY r]):=by
 refine zN func60 rfl ntmps60 rfl (fun w0 o0=>?_)
 refine yn 5 ?_
 refine zt (tin 0 runUnderlying74 rfl rfl rfl) ?_
 rintro _ _ ⟨b1,rfl,rfl,hb2⟩
 refine zd (z8D b1 rfl (fun hc3=>?_) (fun hc3=>?_))
 ·obtain rfl:s_0=[]:=hb2 hc3
  obtain ⟨_,h⟩:=zX h
  refine yn 4 ?_
  refine z1k (z1q zY) ?_
  exact fs [2] [1] results60 h
 ·skip
  refine yn 2 ?_
  refine zt (t_lit [] runUnderlying74 sizeOf79 zeroValue79 rfl (by decide) (by decide) rfl (by intro q hq; cases hq)) ?_
  rintro v4 _ ⟨rfl,_⟩
  refine zB (z1p (C:=zY) (l:=([]:List zQ)) 1 [] rfl rfl rfl z1x) ?_
  refine ys ?_
  obtain ⟨hr6,h⟩:=zX h
  refine zt (z3P (C:=zY) 1 0 (by decide) rfl runUnderlying74 rfl runUnderlying74 typeInfo79 rfl (by decide) (by decide) zeroValue79 rfl rfl rfl rfl (zhI 0 rfl) hr6) ?_
  rintro v5 _ rfl
  refine yn 3 ?_
  exact fs [2] [1] results60 h
def z2h (s_0:(List zl)):Option ((List zl)):=
 need (([]:List zl).length+s_0.length≤4294967296) (
 some (([]:List zl)++s_0))
theorem z4o:K22 z2h 128:=by
 intro s_0 j1 r h
 refine zN func128 rfl ntmps128 rfl (fun w0 o0=>?_)
 refine yn 5 ?_
 refine zt (tin 0 runUnderlying77 rfl rfl rfl) ?_
 rintro _ _ ⟨b1,rfl,rfl,hb2⟩
 refine zd (z8D b1 rfl (fun hc3=>?_) (fun hc3=>?_))
 ·obtain rfl:s_0=[]:=hb2 hc3
  obtain ⟨_,h⟩:=zX h
  refine yn 4 ?_
  refine z1k (z1q zp) ?_
  exact fs [2] [1] results128 h
 ·skip
  refine yn 2 ?_
  refine zt (t_lit [] runUnderlying77 sizeOf88 zeroValue88 rfl (by decide) (by decide) rfl (by intro q hq; cases hq)) ?_
  rintro v4 _ ⟨rfl,_⟩
  refine zB (z1p (C:=zp) (l:=([]:List zl)) 1 [] rfl rfl rfl z1x) ?_
  refine ys ?_
  obtain ⟨hr6,h⟩:=zX h
  refine zt (z3P (C:=zp) 1 0 (by decide) rfl runUnderlying77 rfl runUnderlying77 typeInfo88 rfl (by decide) (by decide) zeroValue88 rfl rfl rfl rfl (zhI 0 rfl) hr6) ?_
  rintro v5 _ rfl
  refine yn 3 ?_
  exact fs [2] [1] results128 h
def z77 (q36r:(List zl)→Option ((List zl))) (r1:(List zl)):(Int×(List zl))→Option (Lp (Int×(List zl)) (Lp ((List zl)) ((List zl)))):=
 fun (s_9,j0)=>
  cond (decide (s_9<(r1.length:Int)))
   (idx j0 s_9 fun x16=>
   obind (q36r x16.Conds) fun r22=>
   idx (j0.set s_9.toNat (zl.mk x16.Kind 0 x16.Name x16.Texts x16.Amount x16.Default x16.HasDefault x16.Conds)) s_9 fun x25=>
   idx ((j0.set s_9.toNat (zl.mk x16.Kind 0 x16.Name x16.Texts x16.Amount x16.Default x16.HasDefault x16.Conds)).set s_9.toNat (zl.mk x25.Kind x25.At x25.Name x25.Texts (z1r.mk x25.Amount.Number x25.Amount.Unit 0) x25.Default x25.HasDefault x25.Conds)) s_9 fun x26=>
   some (.go ((IntKind.i64.wrap (s_9+1)),(((j0.set s_9.toNat (zl.mk x16.Kind 0 x16.Name x16.Texts x16.Amount x16.Default x16.HasDefault x16.Conds)).set s_9.toNat (zl.mk x25.Kind x25.At x25.Name x25.Texts (z1r.mk x25.Amount.Number x25.Amount.Unit 0) x25.Default x25.HasDefault x25.Conds)).set s_9.toNat (zl.mk x26.Kind x26.At x26.Name x26.Texts x26.Amount x26.Default x26.HasDefault r22)))))
   (some (.stop (.go j0)))
def z59 (n:Nat) (q36r:(List zl)→Option ((List zl))) (l_0:(List zl)):Option ((List zl)):=
 obind (z2h l_0) fun r1=>
 bindJ (S:=(List zl))
  (iter (z77 q36r r1) n (0,r1))
 (fun x_4 =>
  some x_4)
theorem zaV {n:Nat} {q36r:(List zl)→Option ((List zl))} (q37h:K22 q36r 61):K22 (z59 n q36r) 61:=by
 intro l_0 jJ r h
 refine zN func61 rfl ntmps61 rfl (fun w0 o0=>?_)
 refine yn 4 ?_
 obtain ⟨r1,hr2,h⟩:=zJ h
 refine zt (tc [(0,0)] call128 (z4o hr2)) ?_
 rintro v3 _ ⟨_,⟨_,rfl,rfl⟩,rfl⟩
 refine ys ?_
 refine zd (jr h [3] [0] (fun s (g:Unit)=>[]) (fun s g=>[nrow v3 zp s]) (fun _ h _ _ hL7=>?_) ?_)
 ·refine yn 4 ?_
  refine lo h [3,8,9] [0] (fun s (g:Unit)=>[(10,.int .i64 s.1)]) (fun s g=>[nrow v3 zp s.2]) () [1] ?_
  rintro ⟨s_9,j0⟩ _ _ h _ j8 j2
  refine rs ?_
  refine yc 3 h (fun _ h=>?_) fun _ h=>?_
  ·refine yn 5 ?_
   obtain ⟨x16,ju,jv,j3,h⟩:=zP h
   refine ys ?_
   refine zt (znj (T:=z1W) (zfJ (C:=zp) (i:=s_9.toNat) 0 isAgg88 sizeOf88 rfl rfl j3)) ?_
   rintro _ _ ⟨⟨g17,g18⟩,rfl,rfl⟩
   refine al fun b19=>?_
   refine yn 3 ?_
   obtain ⟨r22,jK,h⟩:=zJ h
   refine zt (tc [(2,0)] call61 (q37h jK)) ?_
   rintro v24 _ ⟨_,⟨_,rfl,rfl⟩,rfl⟩
   refine oh [0,4] [nrow v3 zp j0,nrow v24 zp r22] ?_
   refine ys ?_
   refine zt (zbY (C:=zp) (i:=s_9.toNat) (j:=1) (b:=(zl.mk x16.Kind 0 x16.Name x16.Texts x16.Amount x16.Default x16.HasDefault x16.Conds)) 0 (fun γ=>(γ.1,γ.2)) [] sizeOf3 rfl rfl rfl (by simp [Value.cells,Value.oneCell',boxP]) rfl j3 (by decide) (fun γ=>rfl) z2u (by intro h hh; cases hh) (fun γ=>by first | exact tS mlx | exact mlx)) ?_
   rintro _ _ ⟨rfl,rfl⟩
   obtain ⟨x25,jV,jW,jw,h⟩:=zP h
   refine ys ?_
   refine zt (zbY (C:=zp) (i:=s_9.toNat) (j:=6) (b:=(zl.mk x25.Kind x25.At x25.Name x25.Texts (z1r.mk x25.Amount.Number x25.Amount.Unit 0) x25.Default x25.HasDefault x25.Conds)) 0 (fun γ=>(γ.1,γ.2)) [] sizeOf3 rfl rfl rfl (by simp [Value.cells,Value.oneCell',boxP]) rfl jw (by decide) (fun γ=>rfl) z2u (by intro h hh; cases hh) (fun γ=>by first | exact tS mlx | exact mlx)) ?_
   rintro _ _ ⟨rfl,rfl⟩
   obtain ⟨x26,jX,jY,jx,h⟩:=zP h
   refine ys ?_
   refine zB (z24 1 rfl) ?_
   refine z2V 1 rfl z1j (fun jk hs27o=>?_)
   refine zt (zbY (C:=zp) (i:=s_9.toNat) (j:=9) (b:=(zl.mk x26.Kind x26.At x26.Name x26.Texts x26.Amount x26.Default x26.HasDefault r22)) 0 (fun γ=>(γ.1,v24)) [nro v24 zp r22] sizeOf77 rfl rfl (by rw [jk]; rfl) (by rw [jk]; intro u hu; replace hu:u∈([v24]:List Value):=hu; simp only [y1,y0,or_false] at hu; rcases hu with rfl <;> first | rfl | assumption) rfl jx (by decide) (fun γ=>(by rw [jk]; rfl)) (z1t 1 rfl z2u) (by intro h hh; simp only [y1,y0,or_false] at hh; rcases hh with rfl <;> first | exact zb8 | exact z6r) (fun γ=>by first | exact tS mlx | exact mlx)) ?_
   rintro _ _ ⟨rfl,rfl⟩
   refine yn 2 ?_
   refine zD (rj [10,3,8,9] [0] ?_)
   refine yn 3 ?_
   exact gj j8 () [0] h
  ·refine z1h _ rfl ?_
   exact gk hL7 j2 () [0] h
 rintro x_4 _ h
 refine rs ?_
 refine yn 4 ?_
 exact fs [2] [0] results61 h
def z5D:Nat→(List zl)→Option ((List zl))
 | 0=>fun _=>none
 | n+1=>z59 n  (z5D n )
theorem zdr {n:Nat}:K22 (z5D n) 61:=by
 induction n with
 | zero=>intro _ _ _  h; cases h
 | succ n ih=>exact zaV ih
def z2y (s_0:(List zm)):Option ((List zm)):=
 need (([]:List zm).length+s_0.length≤4294967296) (
 some (([]:List zm)++s_0))
theorem z4y:K24 z2y 129:=by
 intro s_0 j1 r h
 refine zN func129 rfl ntmps129 rfl (fun w0 o0=>?_)
 refine yn 5 ?_
 refine zt (tin 0 runUnderlying80 rfl rfl rfl) ?_
 rintro _ _ ⟨b1,rfl,rfl,hb2⟩
 refine zd (z8D b1 rfl (fun hc3=>?_) (fun hc3=>?_))
 ·obtain rfl:s_0=[]:=hb2 hc3
  obtain ⟨_,h⟩:=zX h
  refine yn 4 ?_
  refine z1k (z1q zE) ?_
  exact fs [2] [1] results129 h
 ·skip
  refine yn 2 ?_
  refine zt (t_lit [] runUnderlying80 sizeOf84 zeroValue84 rfl (by decide) (by decide) rfl (by intro q hq; cases hq)) ?_
  rintro v4 _ ⟨rfl,_⟩
  refine zB (z1p (C:=zE) (l:=([]:List zm)) 1 [] rfl rfl rfl z1x) ?_
  refine ys ?_
  obtain ⟨hr6,h⟩:=zX h
  refine zt (z3P (C:=zE) 1 0 (by decide) rfl runUnderlying80 rfl runUnderlying80 typeInfo84 rfl (by decide) (by decide) zeroValue84 rfl rfl rfl rfl (zhI 0 rfl) hr6) ?_
  rintro v5 _ rfl
  refine yn 3 ?_
  exact fs [2] [1] results129 h
def z2x (s_0:(List zi)):Option ((List zi)):=
 need (([]:List zi).length+s_0.length≤4294967296) (
 some (([]:List zi)++s_0))
theorem z4x:K36 z2x 174:=by
 intro s_0 j1 r h
 refine zN func174 rfl ntmps174 rfl (fun w0 o0=>?_)
 refine yn 5 ?_
 refine zt (tin 0 runUnderlying45 rfl rfl rfl) ?_
 rintro _ _ ⟨b1,rfl,rfl,hb2⟩
 refine zd (z8D b1 rfl (fun hc3=>?_) (fun hc3=>?_))
 ·obtain rfl:s_0=[]:=hb2 hc3
  obtain ⟨_,h⟩:=zX h
  refine yn 4 ?_
  refine z1k (z1q zj) ?_
  exact fs [2] [1] results174 h
 ·skip
  refine yn 2 ?_
  refine zt (t_lit [] runUnderlying45 sizeOf47 zeroValue47 rfl (by decide) (by decide) rfl (by intro q hq; cases hq)) ?_
  rintro v4 _ ⟨rfl,_⟩
  refine zB (z1p (C:=zj) (l:=([]:List zi)) 1 [] rfl rfl rfl z1x) ?_
  refine ys ?_
  obtain ⟨hr6,h⟩:=zX h
  refine zt (z3P (C:=zj) 1 0 (by decide) rfl runUnderlying45 rfl runUnderlying45 typeInfo47 rfl (by decide) (by decide) zeroValue47 rfl rfl rfl rfl (zhI 0 rfl) hr6) ?_
  rintro v5 _ rfl
  refine yn 3 ?_
  exact fs [2] [1] results174 h
def z91 (q38r:zi→Option (zi)) (r3:(List zi)):(Int×(List zi))→Option (Lp (Int×(List zi)) (Lp ((List zi)) (zi))):=
 fun (j5,jl)=>
  cond (decide (j5<(r3.length:Int)))
   (idx jl j5 fun x19=>
   obind (q38r x19) fun r21=>
   some (.go ((IntKind.i64.wrap (j5+1)),(jl.set j5.toNat r21))))
   (some (.stop (.go jl)))
def z5W (n:Nat) (q38r:zi→Option (zi)) (x_0:zi):Option (zi):=
 obind (z2x x_0.Args) fun r3=>
 bindJ (S:=(List zi))
  (iter (z91 q38r r3) n (0,r3))
 (fun x_7 =>
  some (zi.mk x_0.Op 0 x_0.S x_7))
theorem zcg {n:Nat} {q38r:zi→Option (zi)} (q39h:K23 q38r 130):K23 (z5W n q38r) 130:=by
 intro x_0 jt r h
 refine zN func130 rfl ntmps130 rfl (fun w0 o0=>?_)
 refine zh (lB fun b1=>?_)
 refine al fun b2=>?_
 refine yn 2 ?_
 obtain ⟨r3,hr4,h⟩:=zJ h
 refine zt (tc [(0,0)] call174 (z4x hr4)) ?_
 rintro v5 _ ⟨_,⟨_,rfl,rfl⟩,rfl⟩
 refine ys ?_
 refine zd (jr h [1,2] [2,0,3] (fun s (g:Unit)=>[]) (fun s g=>[nrow v5 zj s]) (fun _ h _ _ jL=>?_) ?_)
 ·refine zH (rj [1,2] [1,2,3] ?_)
  refine yn 4 ?_
  refine lo h [1,2,11] [1,0,2] (fun s (g:Unit)=>[(12,.int .i64 s.1)]) (fun s g=>[nrow v5 zj s.2]) () [0,2,1] ?_
  rintro ⟨j5,_⟩ _ _ h _ jy jc
  refine rs ?_
  refine yc 3 h (fun _ h=>?_) fun _ h=>?_
  ·refine yn 5 ?_
   refine zd (rf [1,0,1] fun hS=>?_)
   refine aq [0,1,2,3,4,5] ?_
   refine ao 6 ?_
   obtain ⟨x19,jZ,j00,jh,h⟩:=zP h
   refine ty ?_
   refine ao 7 ?_
   refine at' rfl (znj (T:=z1b) (zfJ (C:=zj) (i:=j5.toNat) 1 isAgg47 sizeOf47 rfl rfl jh)) ?_
   rintro _ _ ⟨(g20:Value),rfl,rfl⟩
   refine sb ?_
   refine al1 8 [(3,0)] call130 (fun h=>q39h h) h (fun r21 v23 h=>?_)
   refine ao 9 ?_
   refine ty ?_
   refine ao 10 ?_
   refine z3n (z24 4 rfl) ?_
   refine z1J 4 rfl z1j (fun j0b hs24o=>?_)
   refine at' rfl (ziD (C:=zj) (i:=j5.toNat) (b:=r21) (gb:=v23) 1 sizeOf47 rfl rfl rfl rfl jh (z2P (T:=z1b) (z1t 4 rfl z2u))) ?_
   rintro _ _ ⟨rfl,rfl⟩
   refine sb ?_
   refine z1K (by kernel_rfl) ?_
   refine zS (zD (rj [12,1,2,11] [0,1,2] ?_))
   refine yn 3 ?_
   exact gj jy () [0,1,2] h
  ·refine z1h _ rfl ?_
   exact gk jL jc () [0,1,2] h
 rintro x_7 _ h
 refine rs ?_
 refine yn 4 ?_
 exact fr [1] results130 h
def z7n:Nat→zi→Option (zi)
 | 0=>fun _=>none
 | n+1=>z5W n  (z7n n )
theorem zfi {n:Nat}:K23 (z7n n) 130:=by
 induction n with
 | zero=>intro _ _ _  h; cases h
 | succ n ih=>exact zcg ih
def z90 (n:Nat) (q40r:(List zm)→Option ((List zm))) (r1:(List zm)):(Int×(List zm))→Option (Lp (Int×(List zm)) (Lp ((List zm)) ((List zm)))):=
 fun (s_9,j0)=>
  cond (decide (s_9<(r1.length:Int)))
   (idx j0 s_9 fun x16=>
   obind (z7n n x16.X) fun r24=>
   obind (q40r x16.Body) fun r27=>
   obind (q40r x16.Else) fun r30=>
   idx (j0.set s_9.toNat (zm.mk x16.Kind 0 x16.Name x16.X x16.Body x16.Else)) s_9 fun x33=>
   idx ((j0.set s_9.toNat (zm.mk x16.Kind 0 x16.Name x16.X x16.Body x16.Else)).set s_9.toNat (zm.mk x33.Kind x33.At x33.Name r24 x33.Body x33.Else)) s_9 fun x35=>
   idx (((j0.set s_9.toNat (zm.mk x16.Kind 0 x16.Name x16.X x16.Body x16.Else)).set s_9.toNat (zm.mk x33.Kind x33.At x33.Name r24 x33.Body x33.Else)).set s_9.toNat (zm.mk x35.Kind x35.At x35.Name x35.X r27 x35.Else)) s_9 fun x37=>
   some (.go ((IntKind.i64.wrap (s_9+1)),((((j0.set s_9.toNat (zm.mk x16.Kind 0 x16.Name x16.X x16.Body x16.Else)).set s_9.toNat (zm.mk x33.Kind x33.At x33.Name r24 x33.Body x33.Else)).set s_9.toNat (zm.mk x35.Kind x35.At x35.Name x35.X r27 x35.Else)).set s_9.toNat (zm.mk x37.Kind x37.At x37.Name x37.X x37.Body r30)))))
   (some (.stop (.go j0)))
def z5V (n:Nat) (q40r:(List zm)→Option ((List zm))) (l_0:(List zm)):Option ((List zm)):=
 obind (z2y l_0) fun r1=>
 bindJ (S:=(List zm))
  (iter (z90 n q40r r1) n (0,r1))
 (fun x_4 =>
  some x_4)
theorem zcf {n:Nat} {q40r:(List zm)→Option ((List zm))} (q41h:K24 q40r 62):K24 (z5V n q40r) 62:=by
 intro l_0 jJ r h
 refine zN func62 rfl ntmps62 rfl (fun w0 o0=>?_)
 refine yn 4 ?_
 obtain ⟨r1,hr2,h⟩:=zJ h
 refine zt (tc [(0,0)] call129 (z4y hr2)) ?_
 rintro v3 _ ⟨_,⟨_,rfl,rfl⟩,rfl⟩
 refine ys ?_
 refine zd (jr h [3] [0] (fun s (g:Unit)=>[]) (fun s g=>[nrow v3 zE s]) (fun _ h _ _ hL7=>?_) ?_)
 ·refine yn 4 ?_
  refine lo h [3,8,9] [0] (fun s (g:Unit)=>[(10,.int .i64 s.1)]) (fun s g=>[nrow v3 zE s.2]) () [1] ?_
  rintro ⟨s_9,_⟩ _ _ h _ j8 j2
  refine rs ?_
  refine yc 3 h (fun _ h=>?_) fun _ h=>?_
  ·refine yn 5 ?_
   obtain ⟨x16,ju,jv,j3,h⟩:=zP h
   refine ys ?_
   refine zt (znj (T:=z1S) (zfJ (C:=zE) (i:=s_9.toNat) 0 isAgg84 sizeOf84 rfl rfl j3)) ?_
   rintro _ _ ⟨⟨g17,g18,g19⟩,rfl,rfl⟩
   refine al fun b20=>?_
   refine ys ?_
   refine zd (rf [0,1,1,1,1] fun hS=>?_)
   refine aq [0,1,2,3,4,5,6,7,8,9,11,12,14,15] ?_
   refine ao 10 ?_
   obtain ⟨r24,jM,h⟩:=zJ h
   refine at' rfl (tc [(1,0)] call130 (zfi jM)) ?_
   rintro _ _ ⟨_,⟨v26,rfl,rfl⟩,rfl⟩
   refine sb ?_
   refine ao 13 ?_
   obtain ⟨r27,jN,h⟩:=zJ h
   refine at' rfl (tc [(2,0)] call62 (q41h jN)) ?_
   rintro v29 _ ⟨_,⟨_,rfl,rfl⟩,rfl⟩
   refine sb ?_
   refine ao 16 ?_
   obtain ⟨r30,jO,h⟩:=zJ h
   refine at' rfl (tc [(3,0)] call62 (q41h jO)) ?_
   rintro v32 _ ⟨_,⟨_,rfl,rfl⟩,rfl⟩
   refine sb ?_
   refine ao 17 ?_
   refine ty ?_
   refine aq [18] ?_
   refine ao 19 ?_
   refine at' rfl (zbY (C:=zE) (i:=s_9.toNat) (j:=1) (b:=(zm.mk x16.Kind 0 x16.Name x16.X x16.Body x16.Else)) 0 (fun γ=>(γ.1,γ.2.1,γ.2.2)) [] sizeOf3 rfl rfl rfl (by simp [Value.cells,Value.oneCell',boxP]) rfl j3 (by decide) (fun γ=>rfl) z2u (by intro h hh; cases hh) (fun γ=>by first | exact tS mlx | exact mlx)) ?_
   rintro _ _ ⟨rfl,rfl⟩
   refine sb ?_
   refine ao 20 ?_
   obtain ⟨x33,j01,j02,jz,h⟩:=zP h
   refine ty ?_
   refine aq [21] ?_
   refine ao 22 ?_
   refine z3n (z24 5 rfl) ?_
   refine z1J 5 rfl z1j (fun j0c hs34o=>?_)
   refine at' rfl (zbY (C:=zE) (i:=s_9.toNat) (j:=3) (b:=(zm.mk x33.Kind x33.At x33.Name r24 x33.Body x33.Else)) 0 (fun γ=>(v26,γ.2.1,γ.2.2)) [nro v26 zj r24.Args] sizeOf47 rfl rfl rfl (by intro u hu; replace hu:u∈([.int .i64 r24.Op,.int .i64 r24.At,.string (bs r24.S),v26]:List Value):=hu; simp only [y1,y0,or_false] at hu; rcases hu with rfl | rfl | rfl | rfl <;> first | rfl | assumption) rfl jz (by decide) (fun γ=>rfl) (z1t 5 rfl z2u) (by intro h hh; simp only [y1,y0,or_false] at hh; rcases hh with rfl <;> first | exact zb8 | exact z6r) (fun γ=>by first | exact tS mlx | exact mlx)) ?_
   rintro _ _ ⟨rfl,rfl⟩
   refine sb ?_
   refine ao 23 ?_
   obtain ⟨x35,j03,j04,jA,h⟩:=zP h
   refine ty ?_
   refine aq [24] ?_
   refine ao 25 ?_
   refine z3n (z24 6 rfl) ?_
   refine z1J 6 rfl z1j (fun jm hs36o=>?_)
   refine at' rfl (zbY (C:=zE) (i:=s_9.toNat) (j:=7) (b:=(zm.mk x35.Kind x35.At x35.Name x35.X r27 x35.Else)) 0 (fun γ=>(γ.1,v29,γ.2.2)) [nro v29 zE r27] sizeOf80 rfl rfl (by rw [jm]; rfl) (by rw [jm]; intro u hu; replace hu:u∈([v29]:List Value):=hu; simp only [y1,y0,or_false] at hu; rcases hu with rfl <;> first | rfl | assumption) rfl jA (by decide) (fun γ=>(by rw [jm]; rfl)) (z1t 6 rfl z2u) (by intro h hh; simp only [y1,y0,or_false] at hh; rcases hh with rfl <;> first | exact zb8 | exact z6r) (fun γ=>by first | exact tS mlx | exact mlx)) ?_
   rintro _ _ ⟨rfl,rfl⟩
   refine sb ?_
   refine ao 26 ?_
   obtain ⟨x37,jB,jC,j9,h⟩:=zP h
   refine ty ?_
   refine aq [27] ?_
   refine ao 28 ?_
   refine z3n (z24 7 rfl) ?_
   refine z1J 7 rfl z1j (fun jo hs38o=>?_)
   refine at' rfl (zbY (C:=zE) (i:=s_9.toNat) (j:=8) (b:=(zm.mk x37.Kind x37.At x37.Name x37.X x37.Body r30)) 0 (fun γ=>(γ.1,γ.2.1,v32)) [nro v32 zE r30] sizeOf80 rfl rfl (by rw [jo]; rfl) (by rw [jo]; intro u hu; replace hu:u∈([v32]:List Value):=hu; simp only [y1,y0,or_false] at hu; rcases hu with rfl <;> first | rfl | assumption) rfl j9 (by decide) (fun γ=>(by rw [jo]; rfl)) (z1t 7 rfl z2u) (by intro h hh; simp only [y1,y0,or_false] at hh; rcases hh with rfl <;> first | exact zb8 | exact z6r) (fun γ=>by first | exact tS mlx | exact mlx)) ?_
   rintro _ _ ⟨rfl,rfl⟩
   refine sb ?_
   refine z1K (by kernel_rfl) ?_
   refine zS (zD (rj [10,3,8,9] [0] ?_))
   refine yn 3 ?_
   exact gj j8 () [0] h
  ·refine z1h _ rfl ?_
   exact gk hL7 j2 () [0] h
 rintro x_4 _ h
 refine rs ?_
 refine yn 4 ?_
 exact fs [2] [0] results62 h
def z7m:Nat→(List zm)→Option ((List zm))
 | 0=>fun _=>none
 | n+1=>z5V n  (z7m n )
theorem zfh {n:Nat}:K24 (z7m n) 62:=by
 induction n with
 | zero=>intro _ _ _  h; cases h
 | succ n ih=>exact zcf ih
def zbF (n:Nat) (r41:(List zQ)):(Int×(List zQ))→Option (Lp (Int×(List zQ)) (Lp ((List zQ)) (Lp (Int×(List zL)) (Lp ((List zL)) (zG))))):=
 fun (j6,jp)=>
  cond (decide (j6<(r41.length:Int)))
   (idx jp j6 fun x56=>
   obind (z5D n x56.Clauses) fun r60=>
   some (.go ((IntKind.i64.wrap (j6+1)),(jp.set j6.toNat (zQ.mk x56.Name 0 r60)))))
   (some (.stop (.go jp)))
def zbE (n:Nat) (r3:(List zL)):(Int×(List zL))→Option (Lp (Int×(List zL)) (Lp ((List zL)) (zG))):=
 fun (j4,jd)=>
  cond (decide (j4<(r3.length:Int)))
   (idx jd j4 fun x37=>
   obind (z2C x37.Rules) fun r41=>
   bindJ (S:=(List zQ))
    (iter (zbF n r41) n (0,r41))
   (fun jq =>
    idx jd j4 fun x66=>
    some (.go ((IntKind.i64.wrap (j4+1)),(jd.set j4.toNat (zL.mk x37.Name 0 jq))))))
   (some (.stop (.go jd)))
def zbG (n:Nat) (r6:(List zI)):(Int×(List zI))→Option (Lp (Int×(List zI)) (Lp ((List zI)) (zG))):=
 fun (j7,js)=>
  cond (decide (j7<(r6.length:Int)))
   (idx js j7 fun x80=>
   obind (z7m n x80.Code) fun r86=>
   some (.go ((IntKind.i64.wrap (j7+1)),(js.set j7.toNat (zI.mk x80.Name 0 x80.Effects r86)))))
   (some (.stop (.go js)))
def z67 (n:Nat) (x_0:zG):Option (zG):=
 obind (z2k x_0.Policies) fun r3=>
 obind (z2e x_0.Programs) fun r6=>
 bindJ (S:=(List zL))
  (iter (zbE n r3) n (0,r3))
 (fun jD =>
  bindJ (S:=(List zI))
   (iter (zbG n r6) n (0,r6))
  (fun jE =>
   some (zG.mk jD jE)))
theorem z5U {n:Nat}:K47 (z67 n) 24:=by
 intro x_0 ja jb r h
 refine zN func24 rfl ntmps24 rfl (fun w0 o0=>?_)
 refine zh (lB fun b1=>?_)
 refine al fun b2=>?_
 refine zc ?_
 obtain ⟨r3,hr4,h⟩:=zJ h
 obtain ⟨r6,hr7,h⟩:=zJ h
 refine rf [1,1,1,1] fun hS=>?_
 refine aq [0,1,3,4] ?_
 refine a2 [9] 0 [2] [1,2,3,4,0,0,0] (fun (s:Nat×Value×Value)=>[(3,boxP s.1 0)]) (fun s=>[nrow s.2.1 zz r3,nrow s.2.2 zw r6,box s.1 [s.2.1,s.2.2]]) ?_ (fun hK24=>?_)
 ·rintro ⟨b21,v14,v16⟩
  refine az ?_
  refine z1K (by kernel_rfl) ?_
  refine zD (jr h [2,3] [4,7,0,6] (fun s (g:Unit)=>[]) (fun s g=>[nrow v14 zz s]) (fun _ h _ _ jP=>?_) ?_)
  ·refine yn 4 ?_
   refine lo h [2,3,19,20] [4,7,0,6] (fun s (g:Unit)=>[(21,.int .i64 s.1)]) (fun s g=>[nrow v14 zz s.2]) () [3,6,4,5] ?_
   rintro ⟨j4,_⟩ _ _ h _ jF je
   refine rs ?_
   refine yc 3 h (fun _ h=>?_) fun _ h=>?_
   ·refine yn 5 ?_
    obtain ⟨x37,jB,jC,j9,h⟩:=zP h
    refine ys ?_
    refine zt (zfJ (C:=zz) (i:=j4.toNat) 2 isAgg76 sizeOf76 rfl rfl j9) ?_
    rintro _ _ ⟨(g38:Value),rfl,rfl⟩
    refine al fun b39=>?_
    refine yn 3 ?_
    obtain ⟨r41,jQ,h⟩:=zJ h
    refine zt (tc [(4,0)] call60 (z4L jQ)) ?_
    rintro v43 _ ⟨_,⟨_,rfl,rfl⟩,rfl⟩
    refine ys ?_
    refine zd (jr h [2,3,4,5,6,19,20,21] [1,2,3,4,6,5,0] (fun s (g:Unit)=>[]) (fun s g=>[nrow v43 zY s]) (fun _ h _ _ jR=>?_) ?_)
    ·refine zH (rj [21,2,3,19,20,5,4,6] [0,1,2,3,4,5,6] ?_)
     refine yn 4 ?_
     refine lo h [2,3,4,5,6,19,20,21,29,30] [1,2,3,4,6,5,0] (fun s (g:Unit)=>[(31,.int .i64 s.1)]) (fun s g=>[nrow v43 zY s.2]) () [0,1,2,3,5,4,6] ?_
     rintro ⟨j6,_⟩ _ _ h _ jG jf
     refine rs ?_
     refine yc 3 h (fun _ h=>?_) fun _ h=>?_
     ·refine yn 5 ?_
      obtain ⟨x56,j05,j06,ji,h⟩:=zP h
      refine ys ?_
      refine zt (zfJ (C:=zY) (i:=j6.toNat) 6 isAgg79 sizeOf79 rfl rfl ji) ?_
      rintro _ _ ⟨(g57:Value),rfl,rfl⟩
      refine al fun b58=>?_
      refine ys ?_
      refine zd (rf [1,1,1,1,1,1,0,1,1] fun hS=>?_)
      refine aq [0,1,2,3,4,5] ?_
      refine ao 6 ?_
      obtain ⟨r60,jS,h⟩:=zJ h
      refine at' rfl (tc [(7,0)] call61 (zdr jS)) ?_
      rintro v62 _ ⟨_,⟨_,rfl,rfl⟩,rfl⟩
      refine sb ?_
      refine ao 7 ?_
      refine ty ?_
      refine ao 8 ?_
      refine ty ?_
      refine ao 9 ?_
      refine z3n (z24 9 rfl) ?_
      refine z1J 9 rfl z1j (fun j0d hs64o=>?_)
      refine at' rfl (ziD (C:=zY) (i:=j6.toNat) (b:=(zQ.mk x56.Name 0 r60)) (gb:=v62) 6 sizeOf79 rfl rfl rfl rfl ji (z1t 9 rfl z2u)) ?_
      rintro _ _ ⟨rfl,rfl⟩
      refine sb ?_
      refine z1K (by kernel_rfl) ?_
      refine zS (zD (rj [31,2,3,4,5,6,19,20,21,29,30] [0,1,2,3,4,5,6] ?_))
      refine yn 3 ?_
      exact gj jG () [0,1,2,3,4,5,6] h
     ·refine z1h _ rfl ?_
      exact gk jR jf () [0,1,2,3,4,5,6] h
    rintro jq _ h
    refine rs ?_
    refine yn 2 ?_
    obtain ⟨x66,j07,j08,jH,h⟩:=zP h
    refine ys ?_
    refine zB (z24 6 rfl) ?_
    refine z2V 6 rfl z1j (fun j0e hs67o=>?_)
    refine zt (ziD (C:=zz) (i:=j4.toNat) (b:=(zL.mk x37.Name 0 jq)) (gb:=v43) 2 sizeOf76 rfl rfl rfl rfl jH (z1t 6 rfl z2u)) ?_
    rintro _ _ ⟨rfl,rfl⟩
    refine yn 2 ?_
    refine zD (rj [2,3,19,20,21] [0,1,2,3] ?_)
    refine yn 3 ?_
    exact gj jF () [0,1,2,3] h
   ·refine z1h _ rfl ?_
    exact gk jP je () [0,1,2,3] h
  rintro jD _ h
  refine rs ?_
  refine jr h [2,3] [1,2,3,0] (fun s (g:Unit)=>[]) (fun s g=>[nrow v16 zw s]) (fun _ h _ _ jT=>?_) ?_
  ·refine yn 4 ?_
   refine lo h [2,3,56,57] [1,2,3,0] (fun s (g:Unit)=>[(58,.int .i64 s.1)]) (fun s g=>[nrow v16 zw s.2]) () [0,1,2,3] ?_
   rintro ⟨j7,_⟩ _ _ h _ jI jg
   refine rs ?_
   refine yc 3 h (fun _ h=>?_) fun _ h=>?_
   ·refine yn 5 ?_
    obtain ⟨x80,j09,j0a,jj,h⟩:=zP h
    refine ys ?_
    refine zt (zfJ (C:=zw) (i:=j7.toNat) 3 isAgg82 sizeOf82 rfl rfl jj) ?_
    rintro _ _ ⟨⟨g81,g82⟩,rfl,rfl⟩
    refine al fun b83=>?_
    refine ys ?_
    refine zd (rf [1,1,1,0,1,1,1] fun hS=>?_)
    refine aq [0,1,2,3,4,5,6,7,8] ?_
    refine ao 9 ?_
    obtain ⟨r86,jU,h⟩:=zJ h
    refine at' rfl (tc [(5,0)] call62 (zfh jU)) ?_
    rintro v88 _ ⟨_,⟨_,rfl,rfl⟩,rfl⟩
    refine sb ?_
    refine ao 10 ?_
    refine ty ?_
    refine ao 11 ?_
    refine ty ?_
    refine ao 12 ?_
    refine z3n (z24 7 rfl) ?_
    refine zhR 4 rfl z3N (fun j0f hs91o=>?_)
    refine z1J 7 rfl z1j (fun j0g hs92o=>?_)
    refine at' rfl (ziD (C:=zw) (i:=j7.toNat) (b:=(zI.mk x80.Name 0 x80.Effects r86)) (gb:=(g81,v88)) 3 sizeOf82 rfl rfl rfl rfl jj (z1t 4 rfl (z1t 7 rfl z2u))) ?_
    rintro _ _ ⟨rfl,rfl⟩
    refine sb ?_
    refine z1K (by kernel_rfl) ?_
    refine zS (zD (rj [58,2,3,56,57] [0,1,2,3] ?_))
    refine yn 3 ?_
    exact gj jI () [0,1,2,3] h
   ·refine z1h _ rfl ?_
    exact gk jT jg () [0,1,2,3] h
  rintro jE _ h
  refine rs ?_
  refine yn 4 ?_
  exact fr [2,3] results24 h
 refine a2 [8,1] 1 [2] [1,2,3,4,0,0,0] (fun (s:Value×Value×Nat)=>[(17,.agg #[s.1,s.2.1]),(3,boxP s.2.2 0)]) (fun s=>[nrow s.1 zz r3,nrow s.2.1 zw r6,box s.2.2 [.slice none 0 0,.slice none 0 0]]) ?_ (fun hK95=>?_)
 ·rintro ⟨v14,v16,b21⟩
  refine az ?_
  refine zK [8] (by kernel_rfl) rfl ?_
  refine zk ?_ ?_
  ·refine z1J 4 rfl z4N (fun j0h hs96o=>?_)
   refine z1J 5 rfl z4N (fun j0i hs97o=>?_)
   refine at' rfl (z55 6 sizeOf26 rfl rfl rfl rfl (by simp [Value.cells,boxP]) (z1s hs96o (z1s hs97o (z6b)))) ?_
   rintro _ _ ⟨rfl,rfl⟩
   refine sb ?_
   refine z1B (retell 6 (g:=box b21 [v14,v16]) rfl rfl) ?_
   exact aw (hK24 (b21,v14,v16)) [0,1,2,3,4,5,6]
  exact zC
 refine a2 [7,2] 2 [2] [1,2,3,4,0,0] (fun (s:Value×Value)=>[(17,.agg #[s.1,s.2])]) (fun s=>[nrow s.1 zz r3,nrow s.2 zw r6]) ?_ (fun hK98=>?_)
 ·rintro ⟨v14,v16⟩
  refine az ?_
  refine zK [7] (by kernel_rfl) rfl ?_
  refine zk ?_ ?_
  ·refine at' rfl (zaL zeroValue26) ?_
   rintro _ _ ⟨b99,rfl,rfl⟩
   refine sb ?_
   exact aw (hK95 (v14,v16,b99)) [0,1,2,3,4,5,6]
  exact zC
 refine a2 [6,1,1,1] 2 [2] [1,2,3,4,0,0,0] (fun (s:Value×Value×Nat)=>[(13,s.1),(16,s.2.1),(3,boxP s.2.2 0)]) (fun s=>[nrow s.1 zz r3,nrow s.2.1 zw r6,box s.2.2 [.slice none 0 0,.slice none 0 0]]) ?_ (fun hK100=>?_)
 ·rintro ⟨v14,v16,b20⟩
  refine az ?_
  refine zK [6] (by kernel_rfl) rfl ?_
  refine zk ?_ ?_
  ·refine ty ?_
   exact aw (hK95 (v14,v16,b20)) [0,1,2,3,4,5,6]
  exact zC
 refine a2 [6,3] 3 [2] [1,2,3,4,0,0] (fun (s:Value×Value)=>[(13,s.1),(16,s.2)]) (fun s=>[nrow s.1 zz r3,nrow s.2 zw r6]) ?_ (fun hK103=>?_)
 ·rintro ⟨v14,v16⟩
  refine az ?_
  refine zK [6,7] (by kernel_rfl) rfl ?_
  refine zk ?_ ?_
  ·refine ty ?_
   exact aw (hK98 (v14,v16)) [0,1,2,3,4,5]
  refine zk ?_ ?_
  ·refine at' rfl (zaL zeroValue26) ?_
   rintro _ _ ⟨b106,rfl,rfl⟩
   refine sb ?_
   exact aw (hK100 (v14,v16,b106)) [0,1,2,3,4,5,6]
  exact zC
 refine a2 [5,2,1,1] 3 [2,15] [1,2,3,4,0,0] (fun (s:Value×Nat)=>[(13,s.1),(3,boxP s.2 0)]) (fun s=>[nrow s.1 zz r3,box s.2 [.slice none 0 0,.slice none 0 0]]) ?_ (fun hK107=>?_)
 ·rintro ⟨v14,b17⟩
  refine az ?_
  refine zK [5] (by kernel_rfl) rfl ?_
  refine zk ?_ ?_
  ·refine at' rfl (tc [(1,0)] call59 (z2S hr7)) ?_
   rintro v108 _ ⟨_,⟨_,rfl,rfl⟩,rfl⟩
   refine sb ?_
   exact aw (hK100 (v14,v108,b17)) [0,1,2,3,4,6,5]
  exact zC
 refine a2 [5,4] 4 [2,15] [1,2,3,4,0] (fun (s:Value)=>[(13,s)]) (fun s=>[nrow s zz r3]) ?_ (fun hK109=>?_)
 ·rintro v14
  refine az ?_
  refine zK [5,7] (by kernel_rfl) rfl ?_
  refine zk ?_ ?_
  ·refine at' rfl (tc [(1,0)] call59 (z2S hr7)) ?_
   rintro v110 _ ⟨_,⟨_,rfl,rfl⟩,rfl⟩
   refine sb ?_
   exact aw (hK103 (v14,v110)) [0,1,2,3,4,5]
  refine zk ?_ ?_
  ·refine at' rfl (zaL zeroValue26) ?_
   rintro _ _ ⟨b111,rfl,rfl⟩
   refine sb ?_
   exact aw (hK107 (v14,b111)) [0,1,2,3,4,5]
  exact zC
 refine a2 [2,1,2,2,1,1] 4 [2,12,15] [1,2,3,4,0] (fun (s:Nat)=>[(3,boxP s 0)]) (fun s=>[box s [.slice none 0 0,.slice none 0 0]]) ?_ (fun hK112=>?_)
 ·rintro b15
  refine az ?_
  refine zK [2] (by kernel_rfl) rfl ?_
  refine zk ?_ ?_
  ·refine at' rfl (tc [(0,0)] call58 (z2W hr4)) ?_
   rintro v113 _ ⟨_,⟨_,rfl,rfl⟩,rfl⟩
   refine sb ?_
   exact aw (hK107 (v113,b15)) [0,1,2,3,5,4]
  exact zC
 refine zK [2,7] (by kernel_rfl) rfl ?_
 refine zk ?_ ?_
 ·refine at' rfl (tc [(0,0)] call58 (z2W hr4)) ?_
  rintro v114 _ ⟨_,⟨_,rfl,rfl⟩,rfl⟩
  refine sb ?_
  exact aw (hK109 v114) [0,1,2,3,4]
 refine zk ?_ ?_
 ·refine at' rfl (zaL zeroValue26) ?_
  rintro _ _ ⟨b115,rfl,rfl⟩
  refine sb ?_
  exact aw (hK112 b115) [0,1,2,3,4]
 exact zC
end Go.Proofs.YtcmaoifiiigggaaGreatDoor
