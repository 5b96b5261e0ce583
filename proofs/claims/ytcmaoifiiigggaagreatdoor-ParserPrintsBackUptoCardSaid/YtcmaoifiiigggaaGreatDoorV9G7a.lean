/-
  Functions that the law ParserIgnoresSpaces needs, lifted.
-/
import Derived.Test.YtcmaoifiiigggaaGreatDoorV9M22
import Derived.Test.YtcmaoifiiigggaaGreatDoorV9FaOwn
set_option linter.unusedSimpArgs false
set_option linter.unusedVariables false
namespace Go.Proofs.YtcmaoifiiigggaaGreatDoor
open Go.Abs
set_option maxRecDepth 20000
set_option maxHeartbeats 4000000
def z2k (s_0:(List zL)):Option ((List zL)):=
 need (([]:List zL).length+s_0.length≤4294967296) (
 some (([]:List zL)++s_0))
theorem z2W {s_0:(List zL)} {s_0v:Value} {r:(List zL)} (h:z2k s_0=some r) :
  Meets Tryz.prog 58 [s_0v] [nro s_0v zz s_0] (fun v G=>∃ v0,v=v0∧G=[nrow v0 zz r]):=by
 refine zN Tryz.func58 rfl Tryz.ntmps58 rfl (fun w0 o0=>?_)
 refine zh ?_
 refine ys ?_
 refine zc ?_
 refine zh ?_
 refine ys ?_
 refine zt (tin 0 Tryz.runUnderlying23 rfl rfl rfl) ?_
 rintro _ _ ⟨b1,rfl,rfl,hb2⟩
 refine zd ?_
 refine z8D b1 rfl (fun hc3=>?_) (fun hc3=>?_)
 ·obtain rfl:s_0=[]:=hb2 hc3
  obtain ⟨_,h⟩:=zX h
  refine zh ?_
  refine ys ?_
  refine zd ?_
  refine zA ?_
  refine z1k (z1q zz) ?_
  exact fs [2] [1] Tryz.results58 h
 ·skip
  refine run_skip ?_
  refine ze ?_
  refine zt (t_lit [] Tryz.runUnderlying23 Tryz.sizeOf76 Tryz.zeroValue76 rfl (by decide) (by decide) rfl (by intro q hq; cases hq)) ?_
  rintro v4 _ ⟨rfl,_⟩
  refine zB (z1p (C:=zz) (l:=([]:List zL)) 1 [] rfl rfl rfl z1x) ?_
  refine ys ?_
  obtain ⟨hr6,h⟩:=zX h
  refine zt (z3P (C:=zz) 1 0 (by decide) rfl Tryz.runUnderlying23 rfl Tryz.runUnderlying23 Tryz.typeInfo76 rfl (by decide) (by decide) Tryz.zeroValue76 rfl rfl rfl rfl (zhI 0 rfl) hr6) ?_
  rintro v5 _ rfl
  refine ys ?_
  refine zd ?_
  refine zA ?_
  exact fs [2] [1] Tryz.results58 h
def z2e (s_0:(List zI)):Option ((List zI)):=
 need (([]:List zI).length+s_0.length≤4294967296) (
 some (([]:List zI)++s_0))
theorem z2S {s_0:(List zI)} {s_0v:Value} {r:(List zI)} (h:z2e s_0=some r) :
  Meets Tryz.prog 59 [s_0v] [nro s_0v zw s_0] (fun v G=>∃ v0,v=v0∧G=[nrow v0 zw r]):=by
 refine zN Tryz.func59 rfl Tryz.ntmps59 rfl (fun w0 o0=>?_)
 refine zh ?_
 refine ys ?_
 refine zc ?_
 refine zh ?_
 refine ys ?_
 refine zt (tin 0 Tryz.runUnderlying24 rfl rfl rfl) ?_
 rintro _ _ ⟨b1,rfl,rfl,hb2⟩
 refine zd ?_
 refine z8D b1 rfl (fun hc3=>?_) (fun hc3=>?_)
 ·obtain rfl:s_0=[]:=hb2 hc3
  obtain ⟨_,h⟩:=zX h
  refine zh ?_
  refine ys ?_
  refine zd ?_
  refine zA ?_
  refine z1k (z1q zw) ?_
  exact fs [2] [1] Tryz.results59 h
 ·skip
  refine run_skip ?_
  refine ze ?_
  refine zt (t_lit [] Tryz.runUnderlying24 Tryz.sizeOf82 Tryz.zeroValue82 rfl (by decide) (by decide) rfl (by intro q hq; cases hq)) ?_
  rintro v4 _ ⟨rfl,_⟩
  refine zB (z1p (C:=zw) (l:=([]:List zI)) 1 [] rfl rfl rfl z1x) ?_
  refine ys ?_
  obtain ⟨hr6,h⟩:=zX h
  refine zt (z3P (C:=zw) 1 0 (by decide) rfl Tryz.runUnderlying24 rfl Tryz.runUnderlying24 Tryz.typeInfo82 rfl (by decide) (by decide) Tryz.zeroValue82 rfl rfl rfl rfl (zhI 0 rfl) hr6) ?_
  rintro v5 _ rfl
  refine ys ?_
  refine zd ?_
  refine zA ?_
  exact fs [2] [1] Tryz.results59 h
def z2C (s_0:(List zQ)):Option ((List zQ)):=
 need (([]:List zQ).length+s_0.length≤4294967296) (
 some (([]:List zQ)++s_0))
theorem z4L {s_0:(List zQ)} {s_0v:Value} {r:(List zQ)} (h:z2C s_0=some r) :
  Meets Tryz.prog 60 [s_0v] [nro s_0v zY s_0] (fun v G=>∃ v0,v=v0∧G=[nrow v0 zY r]):=by
 refine zN Tryz.func60 rfl Tryz.ntmps60 rfl (fun w0 o0=>?_)
 refine zh ?_
 refine ys ?_
 refine zc ?_
 refine zh ?_
 refine ys ?_
 refine zt (tin 0 Tryz.runUnderlying74 rfl rfl rfl) ?_
 rintro _ _ ⟨b1,rfl,rfl,hb2⟩
 refine zd ?_
 refine z8D b1 rfl (fun hc3=>?_) (fun hc3=>?_)
 ·obtain rfl:s_0=[]:=hb2 hc3
  obtain ⟨_,h⟩:=zX h
  refine zh ?_
  refine ys ?_
  refine zd ?_
  refine zA ?_
  refine z1k (z1q zY) ?_
  exact fs [2] [1] Tryz.results60 h
 ·skip
  refine run_skip ?_
  refine ze ?_
  refine zt (t_lit [] Tryz.runUnderlying74 Tryz.sizeOf79 Tryz.zeroValue79 rfl (by decide) (by decide) rfl (by intro q hq; cases hq)) ?_
  rintro v4 _ ⟨rfl,_⟩
  refine zB (z1p (C:=zY) (l:=([]:List zQ)) 1 [] rfl rfl rfl z1x) ?_
  refine ys ?_
  obtain ⟨hr6,h⟩:=zX h
  refine zt (z3P (C:=zY) 1 0 (by decide) rfl Tryz.runUnderlying74 rfl Tryz.runUnderlying74 Tryz.typeInfo79 rfl (by decide) (by decide) Tryz.zeroValue79 rfl rfl rfl rfl (zhI 0 rfl) hr6) ?_
  rintro v5 _ rfl
  refine ys ?_
  refine zd ?_
  refine zA ?_
  exact fs [2] [1] Tryz.results60 h
def z2h (s_0:(List zl)):Option ((List zl)):=
 need (([]:List zl).length+s_0.length≤4294967296) (
 some (([]:List zl)++s_0))
theorem z4o:K22 z2h 128:=by
 intro s_0 s_0v r h
 refine zN Tryz.func128 rfl Tryz.ntmps128 rfl (fun w0 o0=>?_)
 refine zh ?_
 refine ys ?_
 refine zc ?_
 refine zh ?_
 refine ys ?_
 refine zt (tin 0 Tryz.runUnderlying77 rfl rfl rfl) ?_
 rintro _ _ ⟨b1,rfl,rfl,hb2⟩
 refine zd ?_
 refine z8D b1 rfl (fun hc3=>?_) (fun hc3=>?_)
 ·obtain rfl:s_0=[]:=hb2 hc3
  obtain ⟨_,h⟩:=zX h
  refine zh ?_
  refine ys ?_
  refine zd ?_
  refine zA ?_
  refine z1k (z1q zp) ?_
  exact fs [2] [1] Tryz.results128 h
 ·skip
  refine run_skip ?_
  refine ze ?_
  refine zt (t_lit [] Tryz.runUnderlying77 Tryz.sizeOf88 Tryz.zeroValue88 rfl (by decide) (by decide) rfl (by intro q hq; cases hq)) ?_
  rintro v4 _ ⟨rfl,_⟩
  refine zB (z1p (C:=zp) (l:=([]:List zl)) 1 [] rfl rfl rfl z1x) ?_
  refine ys ?_
  obtain ⟨hr6,h⟩:=zX h
  refine zt (z3P (C:=zp) 1 0 (by decide) rfl Tryz.runUnderlying77 rfl Tryz.runUnderlying77 Tryz.typeInfo88 rfl (by decide) (by decide) Tryz.zeroValue88 rfl rfl rfl rfl (zhI 0 rfl) hr6) ?_
  rintro v5 _ rfl
  refine ys ?_
  refine zd ?_
  refine zA ?_
  exact fs [2] [1] Tryz.results128 h
def z77 (q12r:(List zl)→Option ((List zl))) (r1:(List zl)):(Int×(List zl))→Option (Lp (Int×(List zl)) (Lp ((List zl)) ((List zl)))):=
 fun (s_9,x_10)=>
  cond (decide (s_9<(r1.length:Int)))
   (idx x_10 s_9 fun x16=>
   obind (q12r x16.Conds) fun r22=>
   idx (x_10.set s_9.toNat (zl.mk x16.Kind 0 x16.Name x16.Texts x16.Amount x16.Default x16.HasDefault x16.Conds)) s_9 fun x25=>
   idx ((x_10.set s_9.toNat (zl.mk x16.Kind 0 x16.Name x16.Texts x16.Amount x16.Default x16.HasDefault x16.Conds)).set s_9.toNat (zl.mk x25.Kind x25.At x25.Name x25.Texts (z1r.mk x25.Amount.Number x25.Amount.Unit 0) x25.Default x25.HasDefault x25.Conds)) s_9 fun x26=>
   some (.go ((IntKind.i64.wrap (s_9+1)),(((x_10.set s_9.toNat (zl.mk x16.Kind 0 x16.Name x16.Texts x16.Amount x16.Default x16.HasDefault x16.Conds)).set s_9.toNat (zl.mk x25.Kind x25.At x25.Name x25.Texts (z1r.mk x25.Amount.Number x25.Amount.Unit 0) x25.Default x25.HasDefault x25.Conds)).set s_9.toNat (zl.mk x26.Kind x26.At x26.Name x26.Texts x26.Amount x26.Default x26.HasDefault r22)))))
   (some (.stop (.go x_10)))
def z59 (n:Nat) (q12r:(List zl)→Option ((List zl))) (l_0:(List zl)):Option ((List zl)):=
 obind (z2h l_0) fun r1=>
 bindJ (S:=(List zl))
  (iter (z77 q12r r1) n (0,r1))
 (fun x_4 =>
  some x_4)
theorem zaV {n:Nat} {q12r:(List zl)→Option ((List zl))} (q13h:K22 q12r 61):K22 (z59 n q12r) 61:=by
 intro l_0 l_0v r h
 refine zN Tryz.func61 rfl Tryz.ntmps61 rfl (fun w0 o0=>?_)
 refine zh ?_
 refine ys ?_
 refine za ?_
 refine ys ?_
 obtain ⟨r1,hr2,h⟩:=zJ h
 refine zt (tc [(0,0)] Tryz.call128 (z4o hr2)) ?_
 rintro v3 _ ⟨_,⟨_,rfl,rfl⟩,rfl⟩
 refine ys ?_
 refine zd ?_
 refine jr h [3] [0] (fun s (g:Unit)=>[]) (fun s g=>[nrow v3 zp s]) (fun _ h _ _ hL7=>?_) ?_
 ·refine zh ?_
  refine ys ?_
  refine zd ?_
  refine zF ?_
  refine lo h [3,8,9] [0] (fun s (g:Unit)=>[(10,.int .i64 s.1)]) (fun s g=>[nrow v3 zp s.2]) () [1] ?_
  rintro ⟨s_9,x_10⟩ _ _ h _ hgo12 hstop13
  refine rs ?_
  refine zh ?_
  refine ys ?_
  refine zc ?_
  refine rc h (fun _ h=>?_) (fun _ h=>?_)
  ·refine run_skip ?_
   refine zg ?_
   refine zF ?_
   refine zh ?_
   refine ys ?_
   obtain ⟨x16,hzx16,hlx16,hxx16,h⟩:=zP h
   refine ys ?_
   refine zt (znj (T:=z1W) (zfJ (C:=zp) (i:=s_9.toNat) 0 Tryz.isAgg88 Tryz.sizeOf88 rfl rfl hxx16)) ?_
   rintro _ _ ⟨⟨g17,g18⟩,rfl,rfl⟩
   refine al fun b19=>?_
   refine ys ?_
   refine zb ?_
   refine ys ?_
   obtain ⟨r22,hr23,h⟩:=zJ h
   refine zt (tc [(2,0)] Tryz.call61 (q13h hr23)) ?_
   rintro v24 _ ⟨_,⟨_,rfl,rfl⟩,rfl⟩
   refine oh [0,4] [nrow v3 zp x_10,nrow v24 zp r22] ?_
   refine ys ?_
   refine zt (zbY (C:=zp) (i:=s_9.toNat) (j:=1) (b:=(zl.mk x16.Kind 0 x16.Name x16.Texts x16.Amount x16.Default x16.HasDefault x16.Conds)) 0 (fun γ=>(γ.1,γ.2)) [] Tryz.sizeOf3 rfl rfl rfl (by simp [Value.cells,Value.oneCell',boxP]) rfl hxx16 (by decide) (fun γ=>rfl) z2u (by intro h hh; cases hh) (fun γ=>by first | exact tS mlx | exact mlx)) ?_
   rintro _ _ ⟨rfl,rfl⟩
   obtain ⟨x25,hzx25,hlx25,hxx25,h⟩:=zP h
   refine ys ?_
   refine zt (zbY (C:=zp) (i:=s_9.toNat) (j:=6) (b:=(zl.mk x25.Kind x25.At x25.Name x25.Texts (z1r.mk x25.Amount.Number x25.Amount.Unit 0) x25.Default x25.HasDefault x25.Conds)) 0 (fun γ=>(γ.1,γ.2)) [] Tryz.sizeOf3 rfl rfl rfl (by simp [Value.cells,Value.oneCell',boxP]) rfl hxx25 (by decide) (fun γ=>rfl) z2u (by intro h hh; cases hh) (fun γ=>by first | exact tS mlx | exact mlx)) ?_
   rintro _ _ ⟨rfl,rfl⟩
   obtain ⟨x26,hzx26,hlx26,hxx26,h⟩:=zP h
   refine ys ?_
   refine zB (z24 1 rfl) ?_
   refine z2V 1 rfl z1j (fun hs27 hs27o=>?_)
   refine zt (zbY (C:=zp) (i:=s_9.toNat) (j:=9) (b:=(zl.mk x26.Kind x26.At x26.Name x26.Texts x26.Amount x26.Default x26.HasDefault r22)) 0 (fun γ=>(γ.1,v24)) [nro v24 zp r22] Tryz.sizeOf77 rfl rfl (by rw [hs27]; rfl) (by rw [hs27]; intro u hu; replace hu:u∈([v24]:List Value):=hu; simp only [y1,y0,or_false] at hu; rcases hu with rfl <;> first | rfl | assumption) rfl hxx26 (by decide) (fun γ=>(by rw [hs27]; rfl)) (z1t 1 rfl z2u) (by intro h hh; simp only [y1,y0,or_false] at hh; rcases hh with rfl <;> first | exact zb8 | exact z6r) (fun γ=>by first | exact tS mlx | exact mlx)) ?_
   rintro _ _ ⟨rfl,rfl⟩
   refine zr ?_
   refine zS ?_
   refine zD ?_
   refine rj [10,3,8,9] [0] ?_
   refine z8 ?_
   refine ys ?_
   refine zr ?_
   exact gj hgo12 () [0] h
  ·refine z1h _ rfl ?_
   exact gk hL7 hstop13 () [0] h
 rintro x_4 _ h
 refine rs ?_
 refine zh ?_
 refine ys ?_
 refine zd ?_
 refine zA ?_
 exact fs [2] [0] Tryz.results61 h
def z5D:Nat→(List zl)→Option ((List zl))
 | 0=>fun _=>none
 | n+1=>z59 n  (z5D n )
theorem zdr {n:Nat}:K22 (z5D n) 61:=by
 induction n with
 | zero=>intro _ _ _  h; cases h
 | succ n ih=>exact zaV ih
def z2y (s_0:(List zm)):Option ((List zm)):=
 need (([]:List zm).length+s_0.length≤4294967296) (
 some (([]:List zm)++s_0))
theorem z4y:K24 z2y 129:=by
 intro s_0 s_0v r h
 refine zN Tryz.func129 rfl Tryz.ntmps129 rfl (fun w0 o0=>?_)
 refine zh ?_
 refine ys ?_
 refine zc ?_
 refine zh ?_
 refine ys ?_
 refine zt (tin 0 Tryz.runUnderlying80 rfl rfl rfl) ?_
 rintro _ _ ⟨b1,rfl,rfl,hb2⟩
 refine zd ?_
 refine z8D b1 rfl (fun hc3=>?_) (fun hc3=>?_)
 ·obtain rfl:s_0=[]:=hb2 hc3
  obtain ⟨_,h⟩:=zX h
  refine zh ?_
  refine ys ?_
  refine zd ?_
  refine zA ?_
  refine z1k (z1q zE) ?_
  exact fs [2] [1] Tryz.results129 h
 ·skip
  refine run_skip ?_
  refine ze ?_
  refine zt (t_lit [] Tryz.runUnderlying80 Tryz.sizeOf84 Tryz.zeroValue84 rfl (by decide) (by decide) rfl (by intro q hq; cases hq)) ?_
  rintro v4 _ ⟨rfl,_⟩
  refine zB (z1p (C:=zE) (l:=([]:List zm)) 1 [] rfl rfl rfl z1x) ?_
  refine ys ?_
  obtain ⟨hr6,h⟩:=zX h
  refine zt (z3P (C:=zE) 1 0 (by decide) rfl Tryz.runUnderlying80 rfl Tryz.runUnderlying80 Tryz.typeInfo84 rfl (by decide) (by decide) Tryz.zeroValue84 rfl rfl rfl rfl (zhI 0 rfl) hr6) ?_
  rintro v5 _ rfl
  refine ys ?_
  refine zd ?_
  refine zA ?_
  exact fs [2] [1] Tryz.results129 h
def z2x (s_0:(List zi)):Option ((List zi)):=
 need (([]:List zi).length+s_0.length≤4294967296) (
 some (([]:List zi)++s_0))
theorem z4x:K36 z2x 174:=by
 intro s_0 s_0v r h
 refine zN Tryz.func174 rfl Tryz.ntmps174 rfl (fun w0 o0=>?_)
 refine zh ?_
 refine ys ?_
 refine zc ?_
 refine zh ?_
 refine ys ?_
 refine zt (tin 0 Tryz.runUnderlying45 rfl rfl rfl) ?_
 rintro _ _ ⟨b1,rfl,rfl,hb2⟩
 refine zd ?_
 refine z8D b1 rfl (fun hc3=>?_) (fun hc3=>?_)
 ·obtain rfl:s_0=[]:=hb2 hc3
  obtain ⟨_,h⟩:=zX h
  refine zh ?_
  refine ys ?_
  refine zd ?_
  refine zA ?_
  refine z1k (z1q zj) ?_
  exact fs [2] [1] Tryz.results174 h
 ·skip
  refine run_skip ?_
  refine ze ?_
  refine zt (t_lit [] Tryz.runUnderlying45 Tryz.sizeOf47 Tryz.zeroValue47 rfl (by decide) (by decide) rfl (by intro q hq; cases hq)) ?_
  rintro v4 _ ⟨rfl,_⟩
  refine zB (z1p (C:=zj) (l:=([]:List zi)) 1 [] rfl rfl rfl z1x) ?_
  refine ys ?_
  obtain ⟨hr6,h⟩:=zX h
  refine zt (z3P (C:=zj) 1 0 (by decide) rfl Tryz.runUnderlying45 rfl Tryz.runUnderlying45 Tryz.typeInfo47 rfl (by decide) (by decide) Tryz.zeroValue47 rfl rfl rfl rfl (zhI 0 rfl) hr6) ?_
  rintro v5 _ rfl
  refine ys ?_
  refine zd ?_
  refine zA ?_
  exact fs [2] [1] Tryz.results174 h
def z91 (q14r:zi→Option (zi)) (r3:(List zi)):(Int×(List zi))→Option (Lp (Int×(List zi)) (Lp ((List zi)) (zi))):=
 fun (s_12,x_13)=>
  cond (decide (s_12<(r3.length:Int)))
   (idx x_13 s_12 fun x19=>
   obind (q14r x19) fun r21=>
   some (.go ((IntKind.i64.wrap (s_12+1)),(x_13.set s_12.toNat r21))))
   (some (.stop (.go x_13)))
def z5W (n:Nat) (q14r:zi→Option (zi)) (x_0:zi):Option (zi):=
 obind (z2x x_0.Args) fun r3=>
 bindJ (S:=(List zi))
  (iter (z91 q14r r3) n (0,r3))
 (fun x_7 =>
  some (zi.mk x_0.Op 0 x_0.S x_7))
theorem zcg {n:Nat} {q14r:zi→Option (zi)} (q15h:K23 q14r 130):K23 (z5W n q14r) 130:=by
 intro x_0 x_0_Argsv r h
 refine zN Tryz.func130 rfl Tryz.ntmps130 rfl (fun w0 o0=>?_)
 refine zh ?_
 refine zt (t_box rfl) ?_
 rintro _ _ ⟨b1,rfl,rfl⟩
 refine al fun b2=>?_
 refine za ?_
 refine ys ?_
 obtain ⟨r3,hr4,h⟩:=zJ h
 refine zt (tc [(0,0)] Tryz.call174 (z4x hr4)) ?_
 rintro v5 _ ⟨_,⟨_,rfl,rfl⟩,rfl⟩
 refine ys ?_
 refine zd ?_
 refine jr h [1,2] [2,0,3] (fun s (g:Unit)=>[]) (fun s g=>[nrow v5 zj s]) (fun _ h _ _ hL10=>?_) ?_
 ·refine zH ?_
  refine rj [1,2] [1,2,3] ?_
  refine z8 ?_
  refine ys ?_
  refine zd ?_
  refine zF ?_
  refine lo h [1,2,11] [1,0,2] (fun s (g:Unit)=>[(12,.int .i64 s.1)]) (fun s g=>[nrow v5 zj s.2]) () [0,2,1] ?_
  rintro ⟨s_12,_⟩ _ _ h _ hgo15 hstop16
  refine rs ?_
  refine zh ?_
  refine ys ?_
  refine zc ?_
  refine rc h (fun _ h=>?_) (fun _ h=>?_)
  ·refine run_skip ?_
   refine zg ?_
   refine zF ?_
   refine zh ?_
   refine ys ?_
   refine zd ?_
   refine rf [1,0,1] fun hS=>?_
   refine aq [0,1,2,3,4,5] ?_
   refine zK [6] (by kernel_rfl) rfl (zk ?_ zC)
   obtain ⟨x19,hzx19,hlx19,hxx19,h⟩:=zP h
   refine ty ?_
   refine zK [7] (by kernel_rfl) rfl (zk ?_ zC)
   refine at' rfl (znj (T:=z1b) (zfJ (C:=zj) (i:=s_12.toNat) 1 Tryz.isAgg47 Tryz.sizeOf47 rfl rfl hxx19)) ?_
   rintro _ _ ⟨(g20:Value),rfl,rfl⟩
   refine sb ?_
   refine al1 8 [(3,0)] Tryz.call130 (fun h=>q15h h) h (fun r21 v23 h=>?_)
   refine zK [9] (by kernel_rfl) rfl (zk ?_ zC)
   refine ty ?_
   refine zK [10] (by kernel_rfl) rfl (zk ?_ zC)
   refine z3n (z24 4 rfl) ?_
   refine z1J 4 rfl z1j (fun hs24 hs24o=>?_)
   refine at' rfl (ziD (C:=zj) (i:=s_12.toNat) (b:=r21) (gb:=v23) 1 Tryz.sizeOf47 rfl rfl rfl rfl hxx19 (z2P (T:=z1b) (z1t 4 rfl z2u))) ?_
   rintro _ _ ⟨rfl,rfl⟩
   refine sb ?_
   refine z1K (by kernel_rfl) ?_
   refine zS ?_
   refine zD ?_
   refine rj [12,1,2,11] [0,1,2] ?_
   refine z8 ?_
   refine ys ?_
   refine zr ?_
   exact gj hgo15 () [0,1,2] h
  ·refine z1h _ rfl ?_
   exact gk hL10 hstop16 () [0,1,2] h
 rintro x_7 _ h
 refine rs ?_
 refine zh ?_
 refine ys ?_
 refine zd ?_
 refine zA ?_
 exact fr [1] Tryz.results130 h
def z7n:Nat→zi→Option (zi)
 | 0=>fun _=>none
 | n+1=>z5W n  (z7n n )
theorem zfi {n:Nat}:K23 (z7n n) 130:=by
 induction n with
 | zero=>intro _ _ _  h; cases h
 | succ n ih=>exact zcg ih
def z90 (n:Nat) (q16r:(List zm)→Option ((List zm))) (r1:(List zm)):(Int×(List zm))→Option (Lp (Int×(List zm)) (Lp ((List zm)) ((List zm)))):=
 fun (s_9,x_10)=>
  cond (decide (s_9<(r1.length:Int)))
   (idx x_10 s_9 fun x16=>
   obind (z7n n x16.X) fun r24=>
   obind (q16r x16.Body) fun r27=>
   obind (q16r x16.Else) fun r30=>
   idx (x_10.set s_9.toNat (zm.mk x16.Kind 0 x16.Name x16.X x16.Body x16.Else)) s_9 fun x33=>
   idx ((x_10.set s_9.toNat (zm.mk x16.Kind 0 x16.Name x16.X x16.Body x16.Else)).set s_9.toNat (zm.mk x33.Kind x33.At x33.Name r24 x33.Body x33.Else)) s_9 fun x35=>
   idx (((x_10.set s_9.toNat (zm.mk x16.Kind 0 x16.Name x16.X x16.Body x16.Else)).set s_9.toNat (zm.mk x33.Kind x33.At x33.Name r24 x33.Body x33.Else)).set s_9.toNat (zm.mk x35.Kind x35.At x35.Name x35.X r27 x35.Else)) s_9 fun x37=>
   some (.go ((IntKind.i64.wrap (s_9+1)),((((x_10.set s_9.toNat (zm.mk x16.Kind 0 x16.Name x16.X x16.Body x16.Else)).set s_9.toNat (zm.mk x33.Kind x33.At x33.Name r24 x33.Body x33.Else)).set s_9.toNat (zm.mk x35.Kind x35.At x35.Name x35.X r27 x35.Else)).set s_9.toNat (zm.mk x37.Kind x37.At x37.Name x37.X x37.Body r30)))))
   (some (.stop (.go x_10)))
def z5V (n:Nat) (q16r:(List zm)→Option ((List zm))) (l_0:(List zm)):Option ((List zm)):=
 obind (z2y l_0) fun r1=>
 bindJ (S:=(List zm))
  (iter (z90 n q16r r1) n (0,r1))
 (fun x_4 =>
  some x_4)
theorem zcf {n:Nat} {q16r:(List zm)→Option ((List zm))} (q17h:K24 q16r 62):K24 (z5V n q16r) 62:=by
 intro l_0 l_0v r h
 refine zN Tryz.func62 rfl Tryz.ntmps62 rfl (fun w0 o0=>?_)
 refine zh ?_
 refine ys ?_
 refine za ?_
 refine ys ?_
 obtain ⟨r1,hr2,h⟩:=zJ h
 refine zt (tc [(0,0)] Tryz.call129 (z4y hr2)) ?_
 rintro v3 _ ⟨_,⟨_,rfl,rfl⟩,rfl⟩
 refine ys ?_
 refine zd ?_
 refine jr h [3] [0] (fun s (g:Unit)=>[]) (fun s g=>[nrow v3 zE s]) (fun _ h _ _ hL7=>?_) ?_
 ·refine zh ?_
  refine ys ?_
  refine zd ?_
  refine zF ?_
  refine lo h [3,8,9] [0] (fun s (g:Unit)=>[(10,.int .i64 s.1)]) (fun s g=>[nrow v3 zE s.2]) () [1] ?_
  rintro ⟨s_9,_⟩ _ _ h _ hgo12 hstop13
  refine rs ?_
  refine zh ?_
  refine ys ?_
  refine zc ?_
  refine rc h (fun _ h=>?_) (fun _ h=>?_)
  ·refine run_skip ?_
   refine zg ?_
   refine zF ?_
   refine zh ?_
   refine ys ?_
   obtain ⟨x16,hzx16,hlx16,hxx16,h⟩:=zP h
   refine ys ?_
   refine zt (znj (T:=z1S) (zfJ (C:=zE) (i:=s_9.toNat) 0 Tryz.isAgg84 Tryz.sizeOf84 rfl rfl hxx16)) ?_
   rintro _ _ ⟨⟨g17,g18,g19⟩,rfl,rfl⟩
   refine al fun b20=>?_
   refine ys ?_
   refine zd ?_
   refine rf [0,1,1,1,1] fun hS=>?_
   refine aq [0,1,2,3,4,5,6,7,8,9,11,12,14,15] ?_
   refine zK [10] (by kernel_rfl) rfl (zk ?_ zC)
   obtain ⟨r24,hr25,h⟩:=zJ h
   refine at' rfl (tc [(1,0)] Tryz.call130 (zfi hr25)) ?_
   rintro _ _ ⟨_,⟨v26,rfl,rfl⟩,rfl⟩
   refine sb ?_
   refine zK [13] (by kernel_rfl) rfl (zk ?_ zC)
   obtain ⟨r27,hr28,h⟩:=zJ h
   refine at' rfl (tc [(2,0)] Tryz.call62 (q17h hr28)) ?_
   rintro v29 _ ⟨_,⟨_,rfl,rfl⟩,rfl⟩
   refine sb ?_
   refine zK [16] (by kernel_rfl) rfl (zk ?_ zC)
   obtain ⟨r30,hr31,h⟩:=zJ h
   refine at' rfl (tc [(3,0)] Tryz.call62 (q17h hr31)) ?_
   rintro v32 _ ⟨_,⟨_,rfl,rfl⟩,rfl⟩
   refine sb ?_
   refine zK [17] (by kernel_rfl) rfl (zk ?_ zC)
   refine ty ?_
   refine aq [18] ?_
   refine zK [19] (by kernel_rfl) rfl (zk ?_ zC)
   refine at' rfl (zbY (C:=zE) (i:=s_9.toNat) (j:=1) (b:=(zm.mk x16.Kind 0 x16.Name x16.X x16.Body x16.Else)) 0 (fun γ=>(γ.1,γ.2.1,γ.2.2)) [] Tryz.sizeOf3 rfl rfl rfl (by simp [Value.cells,Value.oneCell',boxP]) rfl hxx16 (by decide) (fun γ=>rfl) z2u (by intro h hh; cases hh) (fun γ=>by first | exact tS mlx | exact mlx)) ?_
   rintro _ _ ⟨rfl,rfl⟩
   refine sb ?_
   refine zK [20] (by kernel_rfl) rfl (zk ?_ zC)
   obtain ⟨x33,hzx33,hlx33,hxx33,h⟩:=zP h
   refine ty ?_
   refine aq [21] ?_
   refine zK [22] (by kernel_rfl) rfl (zk ?_ zC)
   refine z3n (z24 5 rfl) ?_
   refine z1J 5 rfl z1j (fun hs34 hs34o=>?_)
   refine at' rfl (zbY (C:=zE) (i:=s_9.toNat) (j:=3) (b:=(zm.mk x33.Kind x33.At x33.Name r24 x33.Body x33.Else)) 0 (fun γ=>(v26,γ.2.1,γ.2.2)) [nro v26 zj r24.Args] Tryz.sizeOf47 rfl rfl rfl (by intro u hu; replace hu:u∈([.int .i64 r24.Op,.int .i64 r24.At,.string (bs r24.S),v26]:List Value):=hu; simp only [y1,y0,or_false] at hu; rcases hu with rfl | rfl | rfl | rfl <;> first | rfl | assumption) rfl hxx33 (by decide) (fun γ=>rfl) (z1t 5 rfl z2u) (by intro h hh; simp only [y1,y0,or_false] at hh; rcases hh with rfl <;> first | exact zb8 | exact z6r) (fun γ=>by first | exact tS mlx | exact mlx)) ?_
   rintro _ _ ⟨rfl,rfl⟩
   refine sb ?_
   refine zK [23] (by kernel_rfl) rfl (zk ?_ zC)
   obtain ⟨x35,hzx35,hlx35,hxx35,h⟩:=zP h
   refine ty ?_
   refine aq [24] ?_
   refine zK [25] (by kernel_rfl) rfl (zk ?_ zC)
   refine z3n (z24 6 rfl) ?_
   refine z1J 6 rfl z1j (fun hs36 hs36o=>?_)
   refine at' rfl (zbY (C:=zE) (i:=s_9.toNat) (j:=7) (b:=(zm.mk x35.Kind x35.At x35.Name x35.X r27 x35.Else)) 0 (fun γ=>(γ.1,v29,γ.2.2)) [nro v29 zE r27] Tryz.sizeOf80 rfl rfl (by rw [hs36]; rfl) (by rw [hs36]; intro u hu; replace hu:u∈([v29]:List Value):=hu; simp only [y1,y0,or_false] at hu; rcases hu with rfl <;> first | rfl | assumption) rfl hxx35 (by decide) (fun γ=>(by rw [hs36]; rfl)) (z1t 6 rfl z2u) (by intro h hh; simp only [y1,y0,or_false] at hh; rcases hh with rfl <;> first | exact zb8 | exact z6r) (fun γ=>by first | exact tS mlx | exact mlx)) ?_
   rintro _ _ ⟨rfl,rfl⟩
   refine sb ?_
   refine zK [26] (by kernel_rfl) rfl (zk ?_ zC)
   obtain ⟨x37,hzx37,hlx37,hxx37,h⟩:=zP h
   refine ty ?_
   refine aq [27] ?_
   refine zK [28] (by kernel_rfl) rfl (zk ?_ zC)
   refine z3n (z24 7 rfl) ?_
   refine z1J 7 rfl z1j (fun hs38 hs38o=>?_)
   refine at' rfl (zbY (C:=zE) (i:=s_9.toNat) (j:=8) (b:=(zm.mk x37.Kind x37.At x37.Name x37.X x37.Body r30)) 0 (fun γ=>(γ.1,γ.2.1,v32)) [nro v32 zE r30] Tryz.sizeOf80 rfl rfl (by rw [hs38]; rfl) (by rw [hs38]; intro u hu; replace hu:u∈([v32]:List Value):=hu; simp only [y1,y0,or_false] at hu; rcases hu with rfl <;> first | rfl | assumption) rfl hxx37 (by decide) (fun γ=>(by rw [hs38]; rfl)) (z1t 7 rfl z2u) (by intro h hh; simp only [y1,y0,or_false] at hh; rcases hh with rfl <;> first | exact zb8 | exact z6r) (fun γ=>by first | exact tS mlx | exact mlx)) ?_
   rintro _ _ ⟨rfl,rfl⟩
   refine sb ?_
   refine z1K (by kernel_rfl) ?_
   refine zS ?_
   refine zD ?_
   refine rj [10,3,8,9] [0] ?_
   refine z8 ?_
   refine ys ?_
   refine zr ?_
   exact gj hgo12 () [0] h
  ·refine z1h _ rfl ?_
   exact gk hL7 hstop13 () [0] h
 rintro x_4 _ h
 refine rs ?_
 refine zh ?_
 refine ys ?_
 refine zd ?_
 refine zA ?_
 exact fs [2] [0] Tryz.results62 h
def z7m:Nat→(List zm)→Option ((List zm))
 | 0=>fun _=>none
 | n+1=>z5V n  (z7m n )
theorem zfh {n:Nat}:K24 (z7m n) 62:=by
 induction n with
 | zero=>intro _ _ _  h; cases h
 | succ n ih=>exact zcf ih
def zbF (n:Nat) (r41:(List zQ)):(Int×(List zQ))→Option (Lp (Int×(List zQ)) (Lp ((List zQ)) (Lp (Int×(List zL)) (Lp ((List zL)) (zG))))):=
 fun (s_49,x_50)=>
  cond (decide (s_49<(r41.length:Int)))
   (idx x_50 s_49 fun x56=>
   obind (z5D n x56.Clauses) fun r60=>
   some (.go ((IntKind.i64.wrap (s_49+1)),(x_50.set s_49.toNat (zQ.mk x56.Name 0 r60)))))
   (some (.stop (.go x_50)))
def zbE (n:Nat) (r3:(List zL)):(Int×(List zL))→Option (Lp (Int×(List zL)) (Lp ((List zL)) (zG))):=
 fun (s_30,x_31)=>
  cond (decide (s_30<(r3.length:Int)))
   (idx x_31 s_30 fun x37=>
   obind (z2C x37.Rules) fun r41=>
   bindJ (S:=(List zQ))
    (iter (zbF n r41) n (0,r41))
   (fun x_44 =>
    idx x_31 s_30 fun x66=>
    some (.go ((IntKind.i64.wrap (s_30+1)),(x_31.set s_30.toNat (zL.mk x37.Name 0 x_44))))))
   (some (.stop (.go x_31)))
def zbG (n:Nat) (r6:(List zI)):(Int×(List zI))→Option (Lp (Int×(List zI)) (Lp ((List zI)) (zG))):=
 fun (s_73,x_74)=>
  cond (decide (s_73<(r6.length:Int)))
   (idx x_74 s_73 fun x80=>
   obind (z7m n x80.Code) fun r86=>
   some (.go ((IntKind.i64.wrap (s_73+1)),(x_74.set s_73.toNat (zI.mk x80.Name 0 x80.Effects r86)))))
   (some (.stop (.go x_74)))
def z67 (n:Nat) (x_0:zG):Option (zG):=
 obind (z2k x_0.Policies) fun r3=>
 obind (z2e x_0.Programs) fun r6=>
 bindJ (S:=(List zL))
  (iter (zbE n r3) n (0,r3))
 (fun x_25 =>
  bindJ (S:=(List zI))
   (iter (zbG n r6) n (0,r6))
  (fun x_68 =>
   some (zG.mk x_25 x_68)))
theorem z5U {n:Nat}:K47 (z67 n) 24:=by
 intro x_0 x_0_Policiesv x_0_Programsv r h
 refine zN Tryz.func24 rfl Tryz.ntmps24 rfl (fun w0 o0=>?_)
 refine zh ?_
 refine zt (t_box rfl) ?_
 rintro _ _ ⟨b1,rfl,rfl⟩
 refine al fun b2=>?_
 refine zc ?_
 obtain ⟨r3,hr4,h⟩:=zJ h
 obtain ⟨r6,hr7,h⟩:=zJ h
 refine rf [1,1,1,1] fun hS=>?_
 refine aq [0,1,3,4] ?_
 refine a2 [9] 0 [2] [1,2,3,4,0,0,0] (fun (s:Nat×Value×Value)=>[(3,boxP s.1 0)]) (fun s=>[nrow s.2.1 zz r3,nrow s.2.2 zw r6,box s.1 [s.2.1,s.2.2]]) ?_ (fun hK24=>?_)
 ·rintro ⟨b21,v14,v16⟩
  refine az ?_
  refine z1K (by kernel_rfl) ?_
  refine zD ?_
  refine jr h [2,3] [4,7,0,6] (fun s (g:Unit)=>[]) (fun s g=>[nrow v14 zz s]) (fun _ h _ _ hL28=>?_) ?_
  ·refine zh ?_
   refine ys ?_
   refine zd ?_
   refine zF ?_
   refine lo h [2,3,19,20] [4,7,0,6] (fun s (g:Unit)=>[(21,.int .i64 s.1)]) (fun s g=>[nrow v14 zz s.2]) () [3,6,4,5] ?_
   rintro ⟨s_30,_⟩ _ _ h _ hgo33 hstop34
   refine rs ?_
   refine zh ?_
   refine ys ?_
   refine zc ?_
   refine rc h (fun _ h=>?_) (fun _ h=>?_)
   ·refine run_skip ?_
    refine zg ?_
    refine zF ?_
    refine zh ?_
    refine ys ?_
    obtain ⟨x37,hzx37,hlx37,hxx37,h⟩:=zP h
    refine ys ?_
    refine zt (zfJ (C:=zz) (i:=s_30.toNat) 2 Tryz.isAgg76 Tryz.sizeOf76 rfl rfl hxx37) ?_
    rintro _ _ ⟨(g38:Value),rfl,rfl⟩
    refine al fun b39=>?_
    refine ys ?_
    refine za ?_
    refine ys ?_
    obtain ⟨r41,hr42,h⟩:=zJ h
    refine zt (tc [(4,0)] Tryz.call60 (z4L hr42)) ?_
    rintro v43 _ ⟨_,⟨_,rfl,rfl⟩,rfl⟩
    refine ys ?_
    refine zd ?_
    refine jr h [2,3,4,5,6,19,20,21] [1,2,3,4,6,5,0] (fun s (g:Unit)=>[]) (fun s g=>[nrow v43 zY s]) (fun _ h _ _ hL47=>?_) ?_
    ·refine zH ?_
     refine rj [21,2,3,19,20,5,4,6] [0,1,2,3,4,5,6] ?_
     refine z8 ?_
     refine ys ?_
     refine zd ?_
     refine zF ?_
     refine lo h [2,3,4,5,6,19,20,21,29,30] [1,2,3,4,6,5,0] (fun s (g:Unit)=>[(31,.int .i64 s.1)]) (fun s g=>[nrow v43 zY s.2]) () [0,1,2,3,5,4,6] ?_
     rintro ⟨s_49,_⟩ _ _ h _ hgo52 hstop53
     refine rs ?_
     refine zh ?_
     refine ys ?_
     refine zc ?_
     refine rc h (fun _ h=>?_) (fun _ h=>?_)
     ·refine run_skip ?_
      refine zg ?_
      refine zF ?_
      refine zh ?_
      refine ys ?_
      obtain ⟨x56,hzx56,hlx56,hxx56,h⟩:=zP h
      refine ys ?_
      refine zt (zfJ (C:=zY) (i:=s_49.toNat) 6 Tryz.isAgg79 Tryz.sizeOf79 rfl rfl hxx56) ?_
      rintro _ _ ⟨(g57:Value),rfl,rfl⟩
      refine al fun b58=>?_
      refine ys ?_
      refine zd ?_
      refine rf [1,1,1,1,1,1,0,1,1] fun hS=>?_
      refine aq [0,1,2,3,4,5] ?_
      refine zK [6] (by kernel_rfl) rfl (zk ?_ zC)
      obtain ⟨r60,hr61,h⟩:=zJ h
      refine at' rfl (tc [(7,0)] Tryz.call61 (zdr hr61)) ?_
      rintro v62 _ ⟨_,⟨_,rfl,rfl⟩,rfl⟩
      refine sb ?_
      refine zK [7] (by kernel_rfl) rfl (zk ?_ zC)
      refine ty ?_
      refine zK [8] (by kernel_rfl) rfl (zk ?_ zC)
      refine ty ?_
      refine zK [9] (by kernel_rfl) rfl (zk ?_ zC)
      refine z3n (z24 9 rfl) ?_
      refine z1J 9 rfl z1j (fun hs64 hs64o=>?_)
      refine at' rfl (ziD (C:=zY) (i:=s_49.toNat) (b:=(zQ.mk x56.Name 0 r60)) (gb:=v62) 6 Tryz.sizeOf79 rfl rfl rfl rfl hxx56 (z1t 9 rfl z2u)) ?_
      rintro _ _ ⟨rfl,rfl⟩
      refine sb ?_
      refine z1K (by kernel_rfl) ?_
      refine zS ?_
      refine zD ?_
      refine rj [31,2,3,4,5,6,19,20,21,29,30] [0,1,2,3,4,5,6] ?_
      refine z8 ?_
      refine ys ?_
      refine zr ?_
      exact gj hgo52 () [0,1,2,3,4,5,6] h
     ·refine z1h _ rfl ?_
      exact gk hL47 hstop53 () [0,1,2,3,4,5,6] h
    rintro x_44 _ h
    refine rs ?_
    refine z8 ?_
    refine ys ?_
    obtain ⟨x66,hzx66,hlx66,hxx66,h⟩:=zP h
    refine ys ?_
    refine zB (z24 6 rfl) ?_
    refine z2V 6 rfl z1j (fun hs67 hs67o=>?_)
    refine zt (ziD (C:=zz) (i:=s_30.toNat) (b:=(zL.mk x37.Name 0 x_44)) (gb:=v43) 2 Tryz.sizeOf76 rfl rfl rfl rfl hxx66 (z1t 6 rfl z2u)) ?_
    rintro _ _ ⟨rfl,rfl⟩
    refine zr ?_
    refine zS ?_
    refine zD ?_
    refine rj [2,3,19,20,21] [0,1,2,3] ?_
    refine z8 ?_
    refine ys ?_
    refine zr ?_
    exact gj hgo33 () [0,1,2,3] h
   ·refine z1h _ rfl ?_
    exact gk hL28 hstop34 () [0,1,2,3] h
  rintro x_25 _ h
  refine rs ?_
  refine jr h [2,3] [1,2,3,0] (fun s (g:Unit)=>[]) (fun s g=>[nrow v16 zw s]) (fun _ h _ _ hL71=>?_) ?_
  ·refine zh ?_
   refine ys ?_
   refine zd ?_
   refine zF ?_
   refine lo h [2,3,56,57] [1,2,3,0] (fun s (g:Unit)=>[(58,.int .i64 s.1)]) (fun s g=>[nrow v16 zw s.2]) () [0,1,2,3] ?_
   rintro ⟨s_73,_⟩ _ _ h _ hgo76 hstop77
   refine rs ?_
   refine zh ?_
   refine ys ?_
   refine zc ?_
   refine rc h (fun _ h=>?_) (fun _ h=>?_)
   ·refine run_skip ?_
    refine zg ?_
    refine zF ?_
    refine zh ?_
    refine ys ?_
    obtain ⟨x80,hzx80,hlx80,hxx80,h⟩:=zP h
    refine ys ?_
    refine zt (zfJ (C:=zw) (i:=s_73.toNat) 3 Tryz.isAgg82 Tryz.sizeOf82 rfl rfl hxx80) ?_
    rintro _ _ ⟨⟨g81,g82⟩,rfl,rfl⟩
    refine al fun b83=>?_
    refine ys ?_
    refine zd ?_
    refine rf [1,1,1,0,1,1,1] fun hS=>?_
    refine aq [0,1,2,3,4,5,6,7,8] ?_
    refine zK [9] (by kernel_rfl) rfl (zk ?_ zC)
    obtain ⟨r86,hr87,h⟩:=zJ h
    refine at' rfl (tc [(5,0)] Tryz.call62 (zfh hr87)) ?_
    rintro v88 _ ⟨_,⟨_,rfl,rfl⟩,rfl⟩
    refine sb ?_
    refine zK [10] (by kernel_rfl) rfl (zk ?_ zC)
    refine ty ?_
    refine zK [11] (by kernel_rfl) rfl (zk ?_ zC)
    refine ty ?_
    refine zK [12] (by kernel_rfl) rfl (zk ?_ zC)
    refine z3n (z24 7 rfl) ?_
    refine zhR 4 rfl z3N (fun hs91 hs91o=>?_)
    refine z1J 7 rfl z1j (fun hs92 hs92o=>?_)
    refine at' rfl (ziD (C:=zw) (i:=s_73.toNat) (b:=(zI.mk x80.Name 0 x80.Effects r86)) (gb:=(g81,v88)) 3 Tryz.sizeOf82 rfl rfl rfl rfl hxx80 (z1t 4 rfl (z1t 7 rfl z2u))) ?_
    rintro _ _ ⟨rfl,rfl⟩
    refine sb ?_
    refine z1K (by kernel_rfl) ?_
    refine zS ?_
    refine zD ?_
    refine rj [58,2,3,56,57] [0,1,2,3] ?_
    refine z8 ?_
    refine ys ?_
    refine zr ?_
    exact gj hgo76 () [0,1,2,3] h
   ·refine z1h _ rfl ?_
    exact gk hL71 hstop77 () [0,1,2,3] h
  rintro x_68 _ h
  refine rs ?_
  refine zh ?_
  refine ys ?_
  refine zd ?_
  refine zA ?_
  exact fr [2,3] Tryz.results24 h
 refine a2 [8,1] 1 [2] [1,2,3,4,0,0,0] (fun (s:Value×Value×Nat)=>[(17,.agg #[s.1,s.2.1]),(3,boxP s.2.2 0)]) (fun s=>[nrow s.1 zz r3,nrow s.2.1 zw r6,box s.2.2 [.slice none 0 0,.slice none 0 0]]) ?_ (fun hK95=>?_)
 ·rintro ⟨v14,v16,b21⟩
  refine az ?_
  refine zK [8] (by kernel_rfl) rfl ?_
  refine zk ?_ ?_
  ·refine z1J 4 rfl z4N (fun hs96 hs96o=>?_)
   refine z1J 5 rfl z4N (fun hs97 hs97o=>?_)
   refine at' rfl (z55 6 Tryz.sizeOf26 rfl rfl rfl rfl (by simp [Value.cells,boxP]) (z1s hs96o (z1s hs97o (z6b)))) ?_
   rintro _ _ ⟨rfl,rfl⟩
   refine sb ?_
   refine z1B (retell 6 (g:=box b21 [v14,v16]) rfl rfl) ?_
   exact aw (hK24 (b21,v14,v16)) [0,1,2,3,4,5,6]
  exact zC
 refine a2 [7,2] 2 [2] [1,2,3,4,0,0] (fun (s:Value×Value)=>[(17,.agg #[s.1,s.2])]) (fun s=>[nrow s.1 zz r3,nrow s.2 zw r6]) ?_ (fun hK98=>?_)
 ·rintro ⟨v14,v16⟩
  refine az ?_
  refine zK [7] (by kernel_rfl) rfl ?_
  refine zk ?_ ?_
  ·refine at' rfl (zaL Tryz.zeroValue26) ?_
   rintro _ _ ⟨b99,rfl,rfl⟩
   refine sb ?_
   exact aw (hK95 (v14,v16,b99)) [0,1,2,3,4,5,6]
  exact zC
 refine a2 [6,1,1,1] 2 [2] [1,2,3,4,0,0,0] (fun (s:Value×Value×Nat)=>[(13,s.1),(16,s.2.1),(3,boxP s.2.2 0)]) (fun s=>[nrow s.1 zz r3,nrow s.2.1 zw r6,box s.2.2 [.slice none 0 0,.slice none 0 0]]) ?_ (fun hK100=>?_)
 ·rintro ⟨v14,v16,b20⟩
  refine az ?_
  refine zK [6] (by kernel_rfl) rfl ?_
  refine zk ?_ ?_
  ·refine ty ?_
   exact aw (hK95 (v14,v16,b20)) [0,1,2,3,4,5,6]
  exact zC
 refine a2 [6,3] 3 [2] [1,2,3,4,0,0] (fun (s:Value×Value)=>[(13,s.1),(16,s.2)]) (fun s=>[nrow s.1 zz r3,nrow s.2 zw r6]) ?_ (fun hK103=>?_)
 ·rintro ⟨v14,v16⟩
  refine az ?_
  refine zK [6,7] (by kernel_rfl) rfl ?_
  refine zk ?_ ?_
  ·refine ty ?_
   exact aw (hK98 (v14,v16)) [0,1,2,3,4,5]
  refine zk ?_ ?_
  ·refine at' rfl (zaL Tryz.zeroValue26) ?_
   rintro _ _ ⟨b106,rfl,rfl⟩
   refine sb ?_
   exact aw (hK100 (v14,v16,b106)) [0,1,2,3,4,5,6]
  exact zC
 refine a2 [5,2,1,1] 3 [2,15] [1,2,3,4,0,0] (fun (s:Value×Nat)=>[(13,s.1),(3,boxP s.2 0)]) (fun s=>[nrow s.1 zz r3,box s.2 [.slice none 0 0,.slice none 0 0]]) ?_ (fun hK107=>?_)
 ·rintro ⟨v14,b17⟩
  refine az ?_
  refine zK [5] (by kernel_rfl) rfl ?_
  refine zk ?_ ?_
  ·refine at' rfl (tc [(1,0)] Tryz.call59 (z2S hr7)) ?_
   rintro v108 _ ⟨_,⟨_,rfl,rfl⟩,rfl⟩
   refine sb ?_
   exact aw (hK100 (v14,v108,b17)) [0,1,2,3,4,6,5]
  exact zC
 refine a2 [5,4] 4 [2,15] [1,2,3,4,0] (fun (s:Value)=>[(13,s)]) (fun s=>[nrow s zz r3]) ?_ (fun hK109=>?_)
 ·rintro v14
  refine az ?_
  refine zK [5,7] (by kernel_rfl) rfl ?_
  refine zk ?_ ?_
  ·refine at' rfl (tc [(1,0)] Tryz.call59 (z2S hr7)) ?_
   rintro v110 _ ⟨_,⟨_,rfl,rfl⟩,rfl⟩
   refine sb ?_
   exact aw (hK103 (v14,v110)) [0,1,2,3,4,5]
  refine zk ?_ ?_
  ·refine at' rfl (zaL Tryz.zeroValue26) ?_
   rintro _ _ ⟨b111,rfl,rfl⟩
   refine sb ?_
   exact aw (hK107 (v14,b111)) [0,1,2,3,4,5]
  exact zC
 refine a2 [2,1,2,2,1,1] 4 [2,12,15] [1,2,3,4,0] (fun (s:Nat)=>[(3,boxP s 0)]) (fun s=>[box s [.slice none 0 0,.slice none 0 0]]) ?_ (fun hK112=>?_)
 ·rintro b15
  refine az ?_
  refine zK [2] (by kernel_rfl) rfl ?_
  refine zk ?_ ?_
  ·refine at' rfl (tc [(0,0)] Tryz.call58 (z2W hr4)) ?_
   rintro v113 _ ⟨_,⟨_,rfl,rfl⟩,rfl⟩
   refine sb ?_
   exact aw (hK107 (v113,b15)) [0,1,2,3,5,4]
  exact zC
 refine zK [2,7] (by kernel_rfl) rfl ?_
 refine zk ?_ ?_
 ·refine at' rfl (tc [(0,0)] Tryz.call58 (z2W hr4)) ?_
  rintro v114 _ ⟨_,⟨_,rfl,rfl⟩,rfl⟩
  refine sb ?_
  exact aw (hK109 v114) [0,1,2,3,4]
 refine zk ?_ ?_
 ·refine at' rfl (zaL Tryz.zeroValue26) ?_
  rintro _ _ ⟨b115,rfl,rfl⟩
  refine sb ?_
  exact aw (hK112 b115) [0,1,2,3,4]
 exact zC
end Go.Proofs.YtcmaoifiiigggaaGreatDoor
