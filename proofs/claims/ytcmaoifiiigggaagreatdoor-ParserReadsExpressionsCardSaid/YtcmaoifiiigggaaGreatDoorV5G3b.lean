/-
  Functions that the law ParserMatchesSpec needs, lifted.
-/
import Derived.Test.YtcmaoifiiigggaaGreatDoorV5G3a
set_option linter.unusedSimpArgs false
set_option linter.unusedVariables false
namespace Go.Proofs.YtcmaoifiiigggaaGreatDoor
open Go.Abs
set_option maxRecDepth 20000
set_option maxHeartbeats 4000000
def zey (n:Nat) (s_0:(List UInt8)) (at_1:Int):Option (z1O):=
 idx s_0 at_1 fun c2=>
 obind (zbf (c2.toNat:Int)) fun r3=>
 cond r3
  (obind (zex n s_0 at_1) fun r6=>
  some r6)
  (idx s_0 at_1 fun c8=>
  obind (zbd (c8.toNat:Int)) fun r9=>
  cond r9
   (obind (zbJ n s_0 at_1) fun r12=>
   some r12)
   (idx s_0 at_1 fun c14=>
   cond (decide ((c14.toNat:Int)=34))
    (obind (zeB n s_0 at_1) fun r16=>
    some r16)
    (obind (zeA n s_0 at_1) fun r18=>
    some r18)))
theorem zjc {n:Nat}:K41 (zey n) 84:=by
 intro s_0 at_1 r h
 refine zN Tryz.func84 rfl Tryz.ntmps84 rfl (fun w0 o0=>?_)
 refine zh ?_
 refine al fun b1=>?_
 refine zc ?_
 refine zh ?_
 refine yx ?_
 obtain ⟨c2,hzc2,hlc2,hxc2,h⟩:=zP h
 refine zq yr ?_
 refine cl0 [] Tryz.call146 (fun h=>zbK h) h (fun r3 h=>?_)
 refine zd ?_
 refine rc h (fun _ h=>?_) (fun _ h=>?_)
 ·refine zh ?_
  refine ys ?_
  refine cl0 [] Tryz.call147 (fun h=>zjb h) h (fun r6 h=>?_)
  refine ys ?_
  refine zd ?_
  refine zA ?_
  exact fr [] Tryz.results84 h
 ·refine run_skip ?_
  refine zg ?_
  refine zh ?_
  refine yx ?_
  obtain ⟨c8,hzc8,hlc8,hxc8,h⟩:=zP h
  refine zq yr ?_
  refine cl0 [] Tryz.call148 (fun h=>zbI h) h (fun r9 h=>?_)
  refine zd ?_
  refine rc h (fun _ h=>?_) (fun _ h=>?_)
  ·refine zH ?_
   refine rj [0,1,4] [0] ?_
   refine z8 ?_
   refine ys ?_
   refine cl0 [] Tryz.call149 (fun h=>zh6 h) h (fun r12 h=>?_)
   refine ys ?_
   refine zd ?_
   refine zA ?_
   exact fr [] Tryz.results84 h
  ·refine run_skip ?_
   refine zg ?_
   refine zH ?_
   refine rj [0,1,4] [0] ?_
   refine z8 ?_
   refine yx ?_
   obtain ⟨c14,hzc14,hlc14,hxc14,h⟩:=zP h
   refine zq yr ?_
   refine ys ?_
   refine zd ?_
   refine rc h (fun _ h=>?_) (fun _ h=>?_)
   ·refine zh ?_
    refine ys ?_
    refine cl0 [] Tryz.call150 (fun h=>zjf h) h (fun r16 h=>?_)
    refine ys ?_
    refine zd ?_
    refine zA ?_
    exact fr [] Tryz.results84 h
   ·refine run_skip ?_
    refine ze ?_
    refine ys ?_
    refine cl0 [] Tryz.call151 (fun h=>zje h) h (fun r18 h=>?_)
    refine ys ?_
    refine zd ?_
    refine zA ?_
    exact fr [] Tryz.results84 h
def z9d (n:Nat) (s_0:(List UInt8)):((List z6)×Int)→Option (Lp ((List z6)×Int) (Lp ((List z6)) (z7H))):=
 fun (out_11,at_12)=>
  cond (decide (at_12<(s_0.length:Int)))
   (obind (zey n s_0 at_12) fun r19=>
   cond (decide (r19.E≠0))
    (some (.stop (.stop (z7H.mk ([]:List z6) (z11.mk at_12 r19.E)))))
    (need (out_11.length+([r19.T]:List z6).length≤4294967296) (
    obind (zbe n s_0 r19.End) fun r26=>
    some (.go ((out_11++([r19.T]:List z6)),r26)))))
   (some (.stop (.go out_11)))
def z6w (n:Nat) (s_0:(List UInt8)):Option (z7H):=
 cond (decide (65536<(s_0.length:Int)))
  (some (z7H.mk ([]:List z6) (z11.mk 0 2)))
  (bindJ (S := (List z6))
   (obind (zbe n s_0 0) fun r9=>
   iter (z9d n s_0) n (([]:List z6),r9))
  (fun out_3 =>
   some (z7H.mk out_3 (z11.mk 0 0))))
theorem zaW {n:Nat} {s_0:(List UInt8)} {r:z7H} (h:z6w n s_0=some r) :
  Meets Tryz.prog 34 [.string (bs s_0)] [] (fun v G=>∃ v0,v = .agg #[v0,.int .i64 r.P.At,.int .i64 r.P.E]∧G=[row v0 3 (r.L.map z6.enc)]):=by
 refine zN Tryz.func34 rfl Tryz.ntmps34 rfl (fun w0 o0=>?_)
 refine zh ?_
 refine al fun b1=>?_
 refine zc ?_
 refine zh ?_
 refine ys ?_
 refine zd ?_
 refine rc h (fun _ h=>?_) (fun _ h=>?_)
 ·refine zh ?_
  refine ys ?_
  refine zd ?_
  refine zA ?_
  refine z1k (nilrow 3) ?_
  refine z1k (retell 1 (g:=row (.slice none 0 0) 3 (([]:List z6).map z6.enc)) rfl rfl) ?_
  exact fr [1] Tryz.results34 h
 ·refine run_skip ?_
  refine ze ?_
  refine ys ?_
  refine zd ?_
  refine jr h [2] [0,1] (fun s (g:Value)=>[(3,g)]) (fun s g=>[row g 3 (s.map z6.enc)]) (fun _ h ho6 _ hL7=>?_) ?_
  ·refine zh ?_
   refine ys ?_
   refine cl0 [] Tryz.call83 (fun h=>zfD h) h (fun r9 h=>?_)
   refine ys ?_
   refine zd ?_
   refine zF ?_
   refine z3x (nilrow 3) ?_
   refine z3x (retell 1 (g:=row (.slice none 0 0) 3 (([]:List z6).map z6.enc)) rfl rfl) ?_
   refine lo h [0,2] [0,1] (fun s (g:Value)=>[(3,g),(4,.int .i64 s.2)]) (fun s g=>[row g 3 (s.1.map z6.enc)]) _ [1,0] ?_
   rintro ⟨out_11,_⟩ _ _ h _ hgo15 hstop16
   refine rs ?_
   refine zH ?_
   refine zh ?_
   refine ys ?_
   refine zd ?_
   refine rc h (fun _ h=>?_) (fun _ h=>?_)
   ·refine run_skip ?_
    refine zD ?_
    refine zF ?_
    refine zh ?_
    refine ys ?_
    refine cl0 [] Tryz.call84 (fun h=>zjc h) h (fun r19 h=>?_)
    refine al fun b21=>?_
    refine ys ?_
    refine zc ?_
    refine zH ?_
    refine rj [3,4,0,2,5] [0,1,2] ?_
    refine z8 ?_
    refine ys ?_
    refine zd ?_
    refine rc h (fun _ h=>?_) (fun _ h=>?_)
    ·refine zh ?_
     refine ys ?_
     refine zd ?_
     refine zA ?_
     refine z1k (nilrow 3) ?_
     refine z1k (retell 3 (g:=row (.slice none 0 0) 3 (([]:List z6).map z6.enc)) rfl rfl) ?_
     obtain rfl:=zU h
     obtain rfl:=hstop16 _ rfl
     skip
     obtain rfl:=zM ho6
     exact fq [3] Tryz.results34
    ·refine run_skip ?_
     refine ze ?_
     refine ys ?_
     refine zt (t_lit [.agg #[.int .i64 r19.T.Kind,.int .i64 r19.T.At,.string (bs r19.T.S)]] Tryz.runUnderlying37 Tryz.sizeOf41 Tryz.zeroValue41 rfl (by decide) (by decide) rfl (by simp [Value.cells,boxP])) ?_
     rintro v23 _ ⟨rfl,_⟩
     refine zB (retell 3 (g:=row v23 3 (([r19.T]:List z6).map z6.enc)) rfl rfl) ?_
     obtain ⟨hr25,h⟩:=zX h
     refine zt (z1U (es:=3) 0 rfl Tryz.runUnderlying37 rfl Tryz.runUnderlying37 (.inr ⟨_,rfl⟩) Tryz.typeInfo41 rfl (by decide) Tryz.zeroValue41 rfl rfl rfl rfl (z1C 3 rfl z1d (z42 z6.enc_ok _)) (z1T hr25 (by decide)) (z2H hr25)) ?_
     rintro v24 _ rfl
     refine zB (retell 0 (g:=row v24 3 ((out_11++([r19.T]:List z6)).map z6.enc)) rfl (congrArg (row _ _) List.map_append.symm)) ?_
     refine ys ?_
     refine zd ?_
     refine rj [3,0,2,5] [0,1,2] ?_
     refine z8 ?_
     refine ys ?_
     refine cl0 [] Tryz.call83 (fun h=>zfD h) h (fun r26 h=>?_)
     refine ys ?_
     refine zr ?_
     refine zS ?_
     exact gj hgo15 _ [0,1] h
   ·refine z1h _ rfl ?_
    exact gk hL7 hstop16 _ [0,1] h
  rintro out_3 v4 h
  refine rs ?_
  refine zh ?_
  refine ys ?_
  refine zd ?_
  refine zA ?_
  exact fr [0] Tryz.results34 h
def z3q (l_0:(List z6)) (i_1:Int):Option (Int):=
 cond (decide (i_1<0) || decide ((l_0.length:Int)≤i_1))
  (some 0)
  (idx l_0 i_1 fun x5=>
  some x5.Kind)
theorem z2A:K42 z3q 152:=by
 intro l_0 i_1 l_0v r h
 refine zN Tryz.func152 rfl Tryz.ntmps152 rfl (fun w0 o0=>?_)
 refine zh ?_
 refine ys ?_
 refine zc ?_
 refine zh ?_
 refine ys ?_
 refine oq 5 7 12 [0,1] [0] (decide (i_1<0) || decide ((l_0.length:Int)≤i_1)) ?_
 refine zd ?_
 refine rc h (fun _ h=>?_) (fun _ h=>?_)
 ·refine zh ?_
  refine ys ?_
  refine zd ?_
  refine zA ?_
  exact fs [4] [] Tryz.results152 h
 ·refine run_skip ?_
  refine ze ?_
  refine ys ?_
  obtain ⟨x5,hzx5,hlx5,hxx5,h⟩:=zP h
  refine ys ?_
  refine zd ?_
  refine zA ?_
  exact fs [4] [] Tryz.results152 h
def z35 (l_0:(List z6)) (i_1:Int):Option ((List UInt8)):=
 cond (decide (i_1<0) || decide ((l_0.length:Int)≤i_1))
  (some [])
  (idx l_0 i_1 fun x5=>
  some x5.S)
theorem z2b {l_0:(List z6)} {i_1:Int} {l_0v:Value} {r:(List UInt8)} (h:z35 l_0 i_1=some r) :
  Meets Tryz.prog 153 [l_0v,.int .i64 i_1] [ro l_0v 3 (l_0.map z6.enc)] (fun v G=>v = .string (bs r)∧G=[]):=by
 refine zN Tryz.func153 rfl Tryz.ntmps153 rfl (fun w0 o0=>?_)
 refine zh ?_
 refine ys ?_
 refine zc ?_
 refine zh ?_
 refine ys ?_
 refine oq 5 7 12 [0,1] [0] (decide (i_1<0) || decide ((l_0.length:Int)≤i_1)) ?_
 refine zd ?_
 refine rc h (fun _ h=>?_) (fun _ h=>?_)
 ·refine zh ?_
  refine ys ?_
  refine zd ?_
  refine zA ?_
  exact fs [4] [] Tryz.results153 h
 ·refine run_skip ?_
  refine ze ?_
  refine ys ?_
  obtain ⟨x5,hzx5,hlx5,hxx5,h⟩:=zP h
  refine ys ?_
  refine zd ?_
  refine zA ?_
  exact fs [4] [] Tryz.results153 h
def z2B (l_0:(List z6)) (i_1:Int) (s_2:(List UInt8)):Option (Bool):=
 obind (z3q l_0 i_1) fun r1=>
 bindJ (S:=Bool)
  (cond (decide (r1 = 5))
   (obind (z35 l_0 i_1) fun r9=>
   some (.go (decide (r9=s_2))))
   (some (.go false)))
 (fun b3 =>
  some b3)
theorem z1M:K43 z2B 85:=by
 intro l_0 i_1 s_2 l_0v r h
 refine zN Tryz.func85 rfl Tryz.ntmps85 rfl (fun w0 o0=>?_)
 refine zh ?_
 refine ys ?_
 refine za ?_
 refine ys ?_
 refine cl0 [(0,0)] Tryz.call152 (fun h=>z2A h) h (fun r1 h=>?_)
 refine ys ?_
 refine ob h 6 [] [] (fun s=>[(17,.bool s)]) (fun s=>[]) (fun _ h _ _ hL7=>?_) ?_
 ·refine z1c 11 (decide (r1=5)) rfl (fun hg8=>?_) (fun hg8=>?_)
  ·replace h:=z2F h hg8
   refine ys ?_
   refine cl0 [(0,0)] Tryz.call153 (fun h=>z2b h) h (fun r9 h=>?_)
   refine ys ?_
   refine zr ?_
   exact gb hL7 [] h
  ·replace h:=z2E h hg8
   refine ys ?_
   refine zr ?_
   exact gb hL7 [] h
 rintro b3 h
 refine os ?_
 refine ys ?_
 refine zd ?_
 refine zA ?_
 exact fs [6] [] Tryz.results85 h
def z9r (l_0:(List z6)):(Int×Int)→Option (Lp (Int×Int) (Lp (Unit) (Int))):=
 fun (n_5,i_6)=>
  cond (decide (i_6<(l_0.length:Int)))
   (bindJ (S := Int)
    (cond (decide (40 < n_5))
     (some (.stop (.stop (.stop i_6))))
     (bindJ (S := Int)
      (obind (z2B l_0 i_6 [40]) fun r23=>
      bindJ (S:=Bool)
       (cond r23
        (some (.go true))
        (obind (z2B l_0 i_6 [123]) fun r31=>
        some (.go r31)))
      (fun b25 =>
       cond b25
        (some (.go (IntKind.i64.wrap (n_5+1))))
        (some (.go n_5))))
     (fun n_18 =>
      obind (z2B l_0 i_6 [41]) fun r34=>
      bindJ (S:=Bool)
       (cond r34
        (some (.go true))
        (obind (z2B l_0 i_6 [125]) fun r42=>
        some (.go r42)))
      (fun b36 =>
       cond b36
        (some (.go (IntKind.i64.wrap (n_18 - 1))))
        (some (.go n_18))))))
   (fun n_12 =>
    some (.go (n_12,(IntKind.i64.wrap (i_6+1))))))
   (some (.stop (.go ())))
def zcO (n:Nat) (l_0:(List z6)):Option (Int):=
 bindJ (S:=Unit)
  (iter (z9r l_0) n (0,0))
 (fun _ =>
  some (-1))
theorem zcP {n:Nat}:K4 (zcO n) 35:=by
 intro l_0 l_0v r h
 refine zN Tryz.func35 rfl Tryz.ntmps35 rfl (fun w0 o0=>?_)
 refine zh ?_
 refine ys ?_
 refine za ?_
 refine ys ?_
 refine zd ?_
 refine jr h [] [] (fun s (g:Unit)=>[]) (fun s g=>[]) (fun _ h ho2 _ hL3=>?_) ?_
 ·refine zh ?_
  refine ys ?_
  refine zd ?_
  refine zF ?_
  refine lo h [0] [1] (fun s (g:Unit)=>[(3,.int .i64 s.1),(4,.int .i64 s.2)]) (fun s g=>[]) () [0] ?_
  rintro ⟨_,_⟩ _ _ h _ hgo8 hstop9
  refine rs ?_
  refine zH ?_
  refine zh ?_
  refine ys ?_
  refine zd ?_
  refine rc h (fun _ h=>?_) (fun _ h=>?_)
  ·refine run_skip ?_
   refine zD ?_
   refine jr h [0,4] [1] (fun s (g:Unit)=>[(3,.int .i64 s)]) (fun s g=>[]) (fun _ h ho14 _ hL15=>?_) ?_
   ·refine zF ?_
    refine zH ?_
    refine zh ?_
    refine ys ?_
    refine zd ?_
    refine rc h (fun _ h=>?_) (fun _ h=>?_)
    ·refine zh ?_
     refine ys ?_
     refine zd ?_
     refine zA ?_
     obtain rfl:=zU h
     obtain rfl:=zM ho14
     skip
     obtain rfl:=hstop9 _ rfl
     skip
     obtain rfl:=zM ho2
     exact ft [2] [] Tryz.results35
    ·refine run_skip ?_
     refine zD ?_
     refine jr h [0,4] [1] (fun s (g:Unit)=>[(3,.int .i64 s)]) (fun s g=>[]) (fun _ h _ _ hL21=>?_) ?_
     ·refine zh ?_
      refine ys ?_
      refine cl0 [(0,0)] Tryz.call85 (fun h=>z1M h) h (fun r23 h=>?_)
      refine ys ?_
      refine ob h 4 [3,4,0] [1] (fun s=>[(21,.bool s)]) (fun s=>[]) (fun _ h _ _ hL29=>?_) ?_
      ·refine z1c 17 r23 rfl (fun hg30=>?_) (fun hg30=>?_)
       ·replace h:=z2F h hg30
        refine ys ?_
        refine zr ?_
        exact gb hL29 [0] h
       ·replace h:=z2E h hg30
        refine ys ?_
        refine cl0 [(0,0)] Tryz.call85 (fun h=>z1M h) h (fun r31 h=>?_)
        refine ys ?_
        refine zr ?_
        exact gb hL29 [0] h
      rintro b25 h
      refine os ?_
      refine zd ?_
      refine rc h (fun _ h=>?_) (fun _ h=>?_)
      ·refine z8 ?_
       refine ys ?_
       refine zr ?_
       exact gj hL21 () [0] h
      ·refine run_skip ?_
       exact gj hL21 () [0] h
     rintro n_18 _ h
     refine rs ?_
     refine zh ?_
     refine ys ?_
     refine cl0 [(0,0)] Tryz.call85 (fun h=>z1M h) h (fun r34 h=>?_)
     refine ys ?_
     refine ob h 4 [3,0,4] [1] (fun s=>[(31,.bool s)]) (fun s=>[]) (fun _ h _ _ hL40=>?_) ?_
     ·refine z1c 27 r34 rfl (fun hg41=>?_) (fun hg41=>?_)
      ·replace h:=z2F h hg41
       refine ys ?_
       refine zr ?_
       exact gb hL40 [0] h
      ·replace h:=z2E h hg41
       refine ys ?_
       refine cl0 [(0,0)] Tryz.call85 (fun h=>z1M h) h (fun r42 h=>?_)
       refine ys ?_
       refine zr ?_
       exact gb hL40 [0] h
     rintro b36 h
     refine os ?_
     refine zd ?_
     refine rc h (fun _ h=>?_) (fun _ h=>?_)
     ·refine z8 ?_
      refine ys ?_
      refine zr ?_
      refine zS ?_
      exact gj hL15 () [0] h
     ·refine run_skip ?_
      refine zS ?_
      exact gj hL15 () [0] h
   rintro n_12 _ h
   refine rs ?_
   refine z8 ?_
   refine ys ?_
   refine zr ?_
   exact gj hgo8 () [0] h
  ·refine z1h _ rfl ?_
   exact gk hL3 hstop9 () [] h
 rintro _ _ h
 refine rs ?_
 refine zh ?_
 refine ys ?_
 refine zd ?_
 refine zA ?_
 exact fs [2] [] Tryz.results35 h
def z2R (l_0:(List z6)) (i_1:Int) (s_2:(List UInt8)):Option (Bool):=
 obind (z3q l_0 i_1) fun r1=>
 bindJ (S:=Bool)
  (cond (decide (r1 = 2))
   (obind (z35 l_0 i_1) fun r9=>
   some (.go (decide (r9=s_2))))
   (some (.go false)))
 (fun b3 =>
  some b3)
theorem z25:K43 z2R 86:=by
 intro l_0 i_1 s_2 l_0v r h
 refine zN Tryz.func86 rfl Tryz.ntmps86 rfl (fun w0 o0=>?_)
 refine zh ?_
 refine ys ?_
 refine za ?_
 refine ys ?_
 refine cl0 [(0,0)] Tryz.call152 (fun h=>z2A h) h (fun r1 h=>?_)
 refine ys ?_
 refine ob h 6 [] [] (fun s=>[(17,.bool s)]) (fun s=>[]) (fun _ h _ _ hL7=>?_) ?_
 ·refine z1c 11 (decide (r1=2)) rfl (fun hg8=>?_) (fun hg8=>?_)
  ·replace h:=z2F h hg8
   refine ys ?_
   refine cl0 [(0,0)] Tryz.call153 (fun h=>z2b h) h (fun r9 h=>?_)
   refine ys ?_
   refine zr ?_
   exact gb hL7 [] h
  ·replace h:=z2E h hg8
   refine ys ?_
   refine zr ?_
   exact gb hL7 [] h
 rintro b3 h
 refine os ?_
 refine ys ?_
 refine zd ?_
 refine zA ?_
 exact fs [6] [] Tryz.results86 h
def z5F (l_0:(List z6)) (i_1:Int):Option (Int):=
 cond (decide (i_1<0) || decide ((l_0.length:Int)≤i_1))
  (some 0)
  (idx l_0 i_1 fun x5=>
  some x5.At)
theorem z38:K42 z5F 154:=by
 intro l_0 i_1 l_0v r h
 refine zN Tryz.func154 rfl Tryz.ntmps154 rfl (fun w0 o0=>?_)
 refine zh ?_
 refine ys ?_
 refine zc ?_
 refine zh ?_
 refine ys ?_
 refine oq 5 7 12 [0,1] [0] (decide (i_1<0) || decide ((l_0.length:Int)≤i_1)) ?_
 refine zd ?_
 refine rc h (fun _ h=>?_) (fun _ h=>?_)
 ·refine zh ?_
  refine ys ?_
  refine zd ?_
  refine zA ?_
  exact fs [4] [] Tryz.results154 h
 ·refine run_skip ?_
  refine ze ?_
  refine ys ?_
  obtain ⟨x5,hzx5,hlx5,hxx5,h⟩:=zP h
  refine ys ?_
  refine zd ?_
  refine zA ?_
  exact fs [4] [] Tryz.results154 h
end Go.Proofs.YtcmaoifiiigggaaGreatDoor
