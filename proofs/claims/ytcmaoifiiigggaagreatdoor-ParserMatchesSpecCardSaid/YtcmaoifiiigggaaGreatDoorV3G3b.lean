/-
  Functions that the law ParserMatchesSpec needs, lifted.
-/
import Derived.Test.YtcmaoifiiigggaaGreatDoorV3G3a
set_option linter.unusedSimpArgs false
set_option linter.unusedVariables false
namespace Go.Proofs.YtcmaoifiiigggaaGreatDoor
open Go.Abs
set_option maxRecDepth 20000
set_option maxHeartbeats 4000000
def zey (n:Nat) (s_0:(List UInt8)) (j6:Int):Option (z1O):=
 idx s_0 j6 fun c2=>
 obind (zbf (c2.toNat:Int)) fun r3=>
 cond r3
  (obind (zex n s_0 j6) fun r6=>
  some r6)
  (idx s_0 j6 fun c8=>
  obind (zbd (c8.toNat:Int)) fun r9=>
  cond r9
   (obind (zbJ n s_0 j6) fun r12=>
   some r12)
   (idx s_0 j6 fun c14=>
   cond (decide ((c14.toNat:Int)=34))
    (obind (zeB n s_0 j6) fun r16=>
    some r16)
    (obind (zeA n s_0 j6) fun r18=>
    some r18)))
theorem zjc {n:Nat}:K41 (zey n) 84:=by
 intro s_0 j6 r h
 refine zN Tryz.func84 rfl Tryz.ntmps84 rfl (fun w0 o0=>?_)
 refine zh (al fun b1=>?_)
 refine zc (zh (yx ?_))
 obtain ⟨c2,jL,jM,jN,h⟩:=zP h
 refine zq yr ?_
 refine cl0 [] Tryz.call146 (fun h=>zbK h) h (fun r3 h=>?_)
 refine zd (rc h (fun _ h=>?_) (fun _ h=>?_))
 ·refine zh (ys ?_)
  refine cl0 [] Tryz.call147 (fun h=>zjb h) h (fun r6 h=>?_)
  refine ys ?_
  refine zd (zA ?_)
  exact fr [] Tryz.results84 h
 ·refine run_skip (zg (zh (yx ?_)))
  obtain ⟨c8,jO,jP,jQ,h⟩:=zP h
  refine zq yr ?_
  refine cl0 [] Tryz.call148 (fun h=>zbI h) h (fun r9 h=>?_)
  refine zd (rc h (fun _ h=>?_) (fun _ h=>?_))
  ·refine zH (rj [0,1,4] [0] ?_)
   refine z8 (ys ?_)
   refine cl0 [] Tryz.call149 (fun h=>zh6 h) h (fun r12 h=>?_)
   refine ys ?_
   refine zd (zA ?_)
   exact fr [] Tryz.results84 h
  ·refine run_skip (zg (zH (rj [0,1,4] [0] ?_)))
   refine z8 (yx ?_)
   obtain ⟨c14,jD,jE,jF,h⟩:=zP h
   refine zq yr ?_
   refine ys ?_
   refine zd (rc h (fun _ h=>?_) (fun _ h=>?_))
   ·refine zh (ys ?_)
    refine cl0 [] Tryz.call150 (fun h=>zjf h) h (fun r16 h=>?_)
    refine ys ?_
    refine zd (zA ?_)
    exact fr [] Tryz.results84 h
   ·refine run_skip (ze ?_)
    refine ys ?_
    refine cl0 [] Tryz.call151 (fun h=>zje h) h (fun r18 h=>?_)
    refine ys ?_
    refine zd (zA ?_)
    exact fr [] Tryz.results84 h
def z9d (n:Nat) (s_0:(List UInt8)):((List z6)×Int)→Option (Lp ((List z6)×Int) (Lp ((List z6)) (z7H))):=
 fun (j5,j9)=>
  cond (decide (j9<(s_0.length:Int)))
   (obind (zey n s_0 j9) fun r19=>
   cond (decide (r19.E≠0))
    (some (.stop (.stop (z7H.mk ([]:List z6) (z11.mk j9 r19.E)))))
    (need (j5.length+([r19.T]:List z6).length≤4294967296) (
    obind (zbe n s_0 r19.End) fun r26=>
    some (.go ((j5++([r19.T]:List z6)),r26)))))
   (some (.stop (.go j5)))
def z6w (n:Nat) (s_0:(List UInt8)):Option (z7H):=
 cond (decide (65536<(s_0.length:Int)))
  (some (z7H.mk ([]:List z6) (z11.mk 0 2)))
  (bindJ (S := (List z6))
   (obind (zbe n s_0 0) fun r9=>
   iter (z9d n s_0) n (([]:List z6),r9))
  (fun jd =>
   some (z7H.mk jd (z11.mk 0 0))))
theorem zaW {n:Nat} {s_0:(List UInt8)} {r:z7H} (h:z6w n s_0=some r) :
  Meets Tryz.prog 34 [.string (bs s_0)] [] (fun v G=>∃ v0,v = .agg #[v0,.int .i64 r.P.At,.int .i64 r.P.E]∧G=[row v0 3 (r.L.map z6.enc)]):=by
 refine zN Tryz.func34 rfl Tryz.ntmps34 rfl (fun w0 o0=>?_)
 refine zh (al fun b1=>?_)
 refine zc (zh (ys ?_))
 refine zd (rc h (fun _ h=>?_) (fun _ h=>?_))
 ·refine zh (ys ?_)
  refine zd (zA ?_)
  refine z1k (nilrow 3) ?_
  refine z1k (retell 1 (g:=row (.slice none 0 0) 3 (([]:List z6).map z6.enc)) rfl rfl) ?_
  exact fr [1] Tryz.results34 h
 ·refine run_skip (ze ?_)
  refine ys ?_
  refine zd (jr h [2] [0,1] (fun s (g:Value)=>[(3,g)]) (fun s g=>[row g 3 (s.map z6.enc)]) (fun _ h ho6 _ hL7=>?_) ?_)
  ·refine zh (ys ?_)
   refine cl0 [] Tryz.call83 (fun h=>zfD h) h (fun r9 h=>?_)
   refine ys ?_
   refine zd (zF (z3x (nilrow 3) ?_))
   refine z3x (retell 1 (g:=row (.slice none 0 0) 3 (([]:List z6).map z6.enc)) rfl rfl) ?_
   refine lo h [0,2] [0,1] (fun s (g:Value)=>[(3,g),(4,.int .i64 s.2)]) (fun s g=>[row g 3 (s.1.map z6.enc)]) _ [1,0] ?_
   rintro ⟨j5,_⟩ _ _ h _ jj j7
   refine rs ?_
   refine zH (zh (ys ?_))
   refine zd (rc h (fun _ h=>?_) (fun _ h=>?_))
   ·refine run_skip (zD (zF (zh (ys ?_))))
    refine cl0 [] Tryz.call84 (fun h=>zjc h) h (fun r19 h=>?_)
    refine al fun b21=>?_
    refine ys ?_
    refine zc (zH (rj [3,4,0,2,5] [0,1,2] ?_))
    refine z8 (ys ?_)
    refine zd (rc h (fun _ h=>?_) (fun _ h=>?_))
    ·refine zh (ys ?_)
     refine zd (zA ?_)
     refine z1k (nilrow 3) ?_
     refine z1k (retell 3 (g:=row (.slice none 0 0) 3 (([]:List z6).map z6.enc)) rfl rfl) ?_
     obtain rfl:=zU h
     obtain rfl:=j7 _ rfl
     skip
     obtain rfl:=zM ho6
     exact fq [3] Tryz.results34
    ·refine run_skip (ze ?_)
     refine ys ?_
     refine zt (t_lit [.agg #[.int .i64 r19.T.Kind,.int .i64 r19.T.At,.string (bs r19.T.S)]] Tryz.runUnderlying37 Tryz.sizeOf41 Tryz.zeroValue41 rfl (by decide) (by decide) rfl (by simp [Value.cells,boxP])) ?_
     rintro v23 _ ⟨rfl,_⟩
     refine zB (retell 3 (g:=row v23 3 (([r19.T]:List z6).map z6.enc)) rfl rfl) ?_
     obtain ⟨jk,h⟩:=zX h
     refine zt (z1U (es:=3) 0 rfl Tryz.runUnderlying37 rfl Tryz.runUnderlying37 (.inr ⟨_,rfl⟩) Tryz.typeInfo41 rfl (by decide) Tryz.zeroValue41 rfl rfl rfl rfl (z1C 3 rfl z1d (z42 z6.enc_ok _)) (z1T jk (by decide)) (z2H jk)) ?_
     rintro v24 _ rfl
     refine zB (retell 0 (g:=row v24 3 ((j5++([r19.T]:List z6)).map z6.enc)) rfl (congrArg (row _ _) List.map_append.symm)) ?_
     refine ys ?_
     refine zd (rj [3,0,2,5] [0,1,2] ?_)
     refine z8 (ys ?_)
     refine cl0 [] Tryz.call83 (fun h=>zfD h) h (fun r26 h=>?_)
     refine ys ?_
     exact zr (zS (gj jj _ [0,1] h))
   ·refine z1h _ rfl ?_
    exact gk hL7 j7 _ [0,1] h
  rintro jd v4 h
  refine rs ?_
  refine zh (ys ?_)
  refine zd (zA ?_)
  exact fr [0] Tryz.results34 h
def z3q (l_0:(List z6)) (i_1:Int):Option (Int):=
 cond (decide (i_1<0) || decide ((l_0.length:Int)≤i_1))
  (some 0)
  (idx l_0 i_1 fun x5=>
  some x5.Kind)
theorem z2A:K42 z3q 152:=by
 intro l_0 i_1 j3 r h
 refine zN Tryz.func152 rfl Tryz.ntmps152 rfl (fun w0 o0=>?_)
 refine zh (ys ?_)
 refine zc (zh (ys ?_))
 refine oq 5 7 12 [0,1] [0] (decide (i_1<0) || decide ((l_0.length:Int)≤i_1)) ?_
 refine zd (rc h (fun _ h=>?_) (fun _ h=>?_))
 ·refine zh (ys ?_)
  refine zd (zA ?_)
  exact fs [4] [] Tryz.results152 h
 ·refine run_skip (ze ?_)
  refine ys ?_
  obtain ⟨x5,jl,jm,jn,h⟩:=zP h
  refine ys ?_
  refine zd (zA ?_)
  exact fs [4] [] Tryz.results152 h
def z35 (l_0:(List z6)) (i_1:Int):Option ((List UInt8)):=
 cond (decide (i_1<0) || decide ((l_0.length:Int)≤i_1))
  (some [])
  (idx l_0 i_1 fun x5=>
  some x5.S)
theorem z2b {l_0:(List z6)} {i_1:Int} {j3:Value} {r:(List UInt8)} (h:z35 l_0 i_1=some r) :
  Meets Tryz.prog 153 [j3,.int .i64 i_1] [ro j3 3 (l_0.map z6.enc)] (fun v G=>v = .string (bs r)∧G=[]):=by
 refine zN Tryz.func153 rfl Tryz.ntmps153 rfl (fun w0 o0=>?_)
 refine zh (ys ?_)
 refine zc (zh (ys ?_))
 refine oq 5 7 12 [0,1] [0] (decide (i_1<0) || decide ((l_0.length:Int)≤i_1)) ?_
 refine zd (rc h (fun _ h=>?_) (fun _ h=>?_))
 ·refine zh (ys ?_)
  refine zd (zA ?_)
  exact fs [4] [] Tryz.results153 h
 ·refine run_skip (ze ?_)
  refine ys ?_
  obtain ⟨x5,jl,jm,jn,h⟩:=zP h
  refine ys ?_
  refine zd (zA ?_)
  exact fs [4] [] Tryz.results153 h
def z2B (l_0:(List z6)) (i_1:Int) (s_2:(List UInt8)):Option (Bool):=
 obind (z3q l_0 i_1) fun r1=>
 bindJ (S:=Bool)
  (cond (decide (r1 = 5))
   (obind (z35 l_0 i_1) fun r9=>
   some (.go (decide (r9=s_2))))
   (some (.go false)))
 (fun b3 =>
  some b3)
theorem z1M:K43 z2B 85:=by
 intro l_0 i_1 s_2 j3 r h
 refine zN Tryz.func85 rfl Tryz.ntmps85 rfl (fun w0 o0=>?_)
 refine zh (ys ?_)
 refine za (ys ?_)
 refine cl0 [(0,0)] Tryz.call152 (fun h=>z2A h) h (fun r1 h=>?_)
 refine ys ?_
 refine ob h 6 [] [] (fun s=>[(17,.bool s)]) (fun s=>[]) (fun _ h _ _ hL7=>?_) ?_
 ·refine z1c 11 (decide (r1=5)) rfl (fun hg8=>?_) (fun hg8=>?_)
  ·replace h:=z2F h hg8
   refine ys ?_
   refine cl0 [(0,0)] Tryz.call153 (fun h=>z2b h) h (fun r9 h=>?_)
   refine ys ?_
   exact zr (gb hL7 [] h)
  ·replace h:=z2E h hg8
   refine ys ?_
   exact zr (gb hL7 [] h)
 rintro b3 h
 refine os ?_
 refine ys ?_
 refine zd (zA ?_)
 exact fs [6] [] Tryz.results85 h
def z9r (l_0:(List z6)):(Int×Int)→Option (Lp (Int×Int) (Lp (Unit) (Int))):=
 fun (n_5,i_6)=>
  cond (decide (i_6<(l_0.length:Int)))
   (bindJ (S := Int)
    (cond (decide (40 < n_5))
     (some (.stop (.stop (.stop i_6))))
     (bindJ (S := Int)
      (obind (z2B l_0 i_6 [40]) fun r23=>
      bindJ (S:=Bool)
       (cond r23
        (some (.go true))
        (obind (z2B l_0 i_6 [123]) fun r31=>
        some (.go r31)))
      (fun b25 =>
       cond b25
        (some (.go (IntKind.i64.wrap (n_5+1))))
        (some (.go n_5))))
     (fun je =>
      obind (z2B l_0 i_6 [41]) fun r34=>
      bindJ (S:=Bool)
       (cond r34
        (some (.go true))
        (obind (z2B l_0 i_6 [125]) fun r42=>
        some (.go r42)))
      (fun b36 =>
       cond b36
        (some (.go (IntKind.i64.wrap (je - 1))))
        (some (.go je))))))
   (fun jo =>
    some (.go (jo,(IntKind.i64.wrap (i_6+1))))))
   (some (.stop (.go ())))
def zcO (n:Nat) (l_0:(List z6)):Option (Int):=
 bindJ (S:=Unit)
  (iter (z9r l_0) n (0,0))
 (fun _ =>
  some (-1))
theorem zcP {n:Nat}:K4 (zcO n) 35:=by
 intro l_0 j3 r h
 refine zN Tryz.func35 rfl Tryz.ntmps35 rfl (fun w0 o0=>?_)
 refine zh (ys ?_)
 refine za (ys ?_)
 refine zd (jr h [] [] (fun s (g:Unit)=>[]) (fun s g=>[]) (fun _ h ho2 _ hL3=>?_) ?_)
 ·refine zh (ys ?_)
  refine zd (zF (lo h [0] [1] (fun s (g:Unit)=>[(3,.int .i64 s.1),(4,.int .i64 s.2)]) (fun s g=>[]) () [0] ?_))
  rintro ⟨_,_⟩ _ _ h _ jA ja
  refine rs ?_
  refine zH (zh (ys ?_))
  refine zd (rc h (fun _ h=>?_) (fun _ h=>?_))
  ·refine run_skip (zD (jr h [0,4] [1] (fun s (g:Unit)=>[(3,.int .i64 s)]) (fun s g=>[]) (fun _ h jB _ jp=>?_) ?_))
   ·refine zF (zH (zh (ys ?_)))
    refine zd (rc h (fun _ h=>?_) (fun _ h=>?_))
    ·refine zh (ys ?_)
     refine zd (zA ?_)
     obtain rfl:=zU h
     obtain rfl:=zM jB
     skip
     obtain rfl:=ja _ rfl
     skip
     obtain rfl:=zM ho2
     exact ft [2] [] Tryz.results35
    ·refine run_skip (zD (jr h [0,4] [1] (fun s (g:Unit)=>[(3,.int .i64 s)]) (fun s g=>[]) (fun _ h _ _ jb=>?_) ?_))
     ·refine zh (ys ?_)
      refine cl0 [(0,0)] Tryz.call85 (fun h=>z1M h) h (fun r23 h=>?_)
      refine ys ?_
      refine ob h 4 [3,4,0] [1] (fun s=>[(21,.bool s)]) (fun s=>[]) (fun _ h _ _ jq=>?_) ?_
      ·refine z1c 17 r23 rfl (fun jf=>?_) (fun jf=>?_)
       ·replace h:=z2F h jf
        refine ys ?_
        exact zr (gb jq [0] h)
       ·replace h:=z2E h jf
        refine ys ?_
        refine cl0 [(0,0)] Tryz.call85 (fun h=>z1M h) h (fun r31 h=>?_)
        refine ys ?_
        exact zr (gb jq [0] h)
      rintro b25 h
      refine os ?_
      refine zd (rc h (fun _ h=>?_) (fun _ h=>?_))
      ·refine z8 (ys ?_)
       exact zr (gj jb () [0] h)
      ·exact run_skip (gj jb () [0] h)
     rintro je _ h
     refine rs ?_
     refine zh (ys ?_)
     refine cl0 [(0,0)] Tryz.call85 (fun h=>z1M h) h (fun r34 h=>?_)
     refine ys ?_
     refine ob h 4 [3,0,4] [1] (fun s=>[(31,.bool s)]) (fun s=>[]) (fun _ h _ _ js=>?_) ?_
     ·refine z1c 27 r34 rfl (fun jg=>?_) (fun jg=>?_)
      ·replace h:=z2F h jg
       refine ys ?_
       exact zr (gb js [0] h)
      ·replace h:=z2E h jg
       refine ys ?_
       refine cl0 [(0,0)] Tryz.call85 (fun h=>z1M h) h (fun r42 h=>?_)
       refine ys ?_
       exact zr (gb js [0] h)
     rintro b36 h
     refine os ?_
     refine zd (rc h (fun _ h=>?_) (fun _ h=>?_))
     ·refine z8 (ys ?_)
      exact zr (zS (gj jp () [0] h))
     ·exact run_skip (zS (gj jp () [0] h))
   rintro jo _ h
   refine rs ?_
   refine z8 (ys ?_)
   exact zr (gj jA () [0] h)
  ·refine z1h _ rfl ?_
   exact gk hL3 ja () [] h
 rintro _ _ h
 refine rs ?_
 refine zh (ys ?_)
 refine zd (zA ?_)
 exact fs [2] [] Tryz.results35 h
def z2R (l_0:(List z6)) (i_1:Int) (s_2:(List UInt8)):Option (Bool):=
 obind (z3q l_0 i_1) fun r1=>
 bindJ (S:=Bool)
  (cond (decide (r1 = 2))
   (obind (z35 l_0 i_1) fun r9=>
   some (.go (decide (r9=s_2))))
   (some (.go false)))
 (fun b3 =>
  some b3)
theorem z25:K43 z2R 86:=by
 intro l_0 i_1 s_2 j3 r h
 refine zN Tryz.func86 rfl Tryz.ntmps86 rfl (fun w0 o0=>?_)
 refine zh (ys ?_)
 refine za (ys ?_)
 refine cl0 [(0,0)] Tryz.call152 (fun h=>z2A h) h (fun r1 h=>?_)
 refine ys ?_
 refine ob h 6 [] [] (fun s=>[(17,.bool s)]) (fun s=>[]) (fun _ h _ _ hL7=>?_) ?_
 ·refine z1c 11 (decide (r1=2)) rfl (fun hg8=>?_) (fun hg8=>?_)
  ·replace h:=z2F h hg8
   refine ys ?_
   refine cl0 [(0,0)] Tryz.call153 (fun h=>z2b h) h (fun r9 h=>?_)
   refine ys ?_
   exact zr (gb hL7 [] h)
  ·replace h:=z2E h hg8
   refine ys ?_
   exact zr (gb hL7 [] h)
 rintro b3 h
 refine os ?_
 refine ys ?_
 refine zd (zA ?_)
 exact fs [6] [] Tryz.results86 h
def z5F (l_0:(List z6)) (i_1:Int):Option (Int):=
 cond (decide (i_1<0) || decide ((l_0.length:Int)≤i_1))
  (some 0)
  (idx l_0 i_1 fun x5=>
  some x5.At)
theorem z38:K42 z5F 154:=by
 intro l_0 i_1 j3 r h
 refine zN Tryz.func154 rfl Tryz.ntmps154 rfl (fun w0 o0=>?_)
 refine zh (ys ?_)
 refine zc (zh (ys ?_))
 refine oq 5 7 12 [0,1] [0] (decide (i_1<0) || decide ((l_0.length:Int)≤i_1)) ?_
 refine zd (rc h (fun _ h=>?_) (fun _ h=>?_))
 ·refine zh (ys ?_)
  refine zd (zA ?_)
  exact fs [4] [] Tryz.results154 h
 ·refine run_skip (ze ?_)
  refine ys ?_
  obtain ⟨x5,jl,jm,jn,h⟩:=zP h
  refine ys ?_
  refine zd (zA ?_)
  exact fs [4] [] Tryz.results154 h
def z7C  : Option ((List (List UInt8))):=
 some ([[112,97,116,116,101,114,110],[116,97,103,115],[102,114,101,115,104],[115,116,97,108,101],[100,111,119,110],[110,101,103,97,116,105,118,101],[99,111,115,116],[118,97,114,121],[97,108,108,111,119],[115,105,103,110,101,100],[112,114,111,103,114,97,109],[102,114,111,109],[116,111],[99,108,105,101,110,116,115],[99,111,117,110,116,114,105,101,115],[115,105,116,101,115],[117,115,101,115]]:List (List UInt8))
theorem zae:K5 z7C 214:=by
 intro  r h
 refine zN Tryz.func214 rfl Tryz.ntmps214 rfl (fun w0 o0=>?_)
 refine zh (ys ?_)
 refine za (zt (t_lit [.string (bs [112,97,116,116,101,114,110]),.string (bs [116,97,103,115]),.string (bs [102,114,101,115,104]),.string (bs [115,116,97,108,101]),.string (bs [100,111,119,110]),.string (bs [110,101,103,97,116,105,118,101]),.string (bs [99,111,115,116]),.string (bs [118,97,114,121]),.string (bs [97,108,108,111,119]),.string (bs [115,105,103,110,101,100]),.string (bs [112,114,111,103,114,97,109]),.string (bs [102,114,111,109]),.string (bs [116,111]),.string (bs [99,108,105,101,110,116,115]),.string (bs [99,111,117,110,116,114,105,101,115]),.string (bs [115,105,116,101,115]),.string (bs [117,115,101,115])] Tryz.runUnderlying62 Tryz.sizeOf9 Tryz.zeroValue9 rfl (by decide) (by decide) rfl (by simp [Value.cells,boxP])) ?_)
 rintro v1 _ ⟨rfl,_⟩
 refine zB (retell 0 (g:=row v1 1 (([[112,97,116,116,101,114,110],[116,97,103,115],[102,114,101,115,104],[115,116,97,108,101],[100,111,119,110],[110,101,103,97,116,105,118,101],[99,111,115,116],[118,97,114,121],[97,108,108,111,119],[115,105,103,110,101,100],[112,114,111,103,114,97,109],[102,114,111,109],[116,111],[99,108,105,101,110,116,115],[99,111,117,110,116,114,105,101,115],[115,105,116,101,115],[117,115,101,115]]:List (List UInt8)).map eStr)) rfl rfl) ?_
 refine ys ?_
 refine zd (zA ?_)
 exact fs [0] [0] Tryz.results214 h
def z4D (l_0:(List z6)) (i_1:Int) (j2:Bool) (r4:(List (List UInt8))):(Int)→Option (Lp (Int) (Lp (Unit) (Int))):=
 fun j4=>
  cond (decide (j4<(r4.length:Int)))
   (idx r4 j4 fun x17=>
   obind (z35 l_0 i_1) fun r18=>
   cond (decide (x17=r18) && (decide (j4=0) || (j2 == (decide (12≤(IntKind.i64.wrap (j4+1)))))))
    (some (.stop (.stop (IntKind.i64.wrap (j4+1)))))
    (some (.go (IntKind.i64.wrap (j4+1)))))
   (some (.stop (.go ())))
def z8v (n:Nat) (l_0:(List z6)) (i_1:Int) (j2:Bool):Option (Int):=
 obind (z3q l_0 i_1) fun r1=>
 cond (decide (r1≠2))
  (some 0)
  (obind (z7C) fun r4=>
  bindJ (S:=Unit)
   (iter (z4D l_0 i_1 j2 r4) n 0)
  (fun _ =>
   some 0))
theorem zeF {n:Nat} {l_0:(List z6)} {i_1:Int} {j2:Bool} {j3:Value} {r:Int} (h:z8v n l_0 i_1 j2=some r) :
  Meets Tryz.prog 219 [j3,.int .i64 i_1,.bool j2] [ro j3 3 (l_0.map z6.enc)] (fun v G=>v = .int .i64 r∧G=[]):=by
 refine zN Tryz.func219 rfl Tryz.ntmps219 rfl (fun w0 o0=>?_)
 refine zh (ys ?_)
 refine zc (zh (ys ?_))
 refine cl0 [(0,0)] Tryz.call152 (fun h=>z2A h) h (fun r1 h=>?_)
 refine ys ?_
 refine zd (rc h (fun _ h=>?_) (fun _ h=>?_))
 ·refine zh (ys ?_)
  refine zd (zA ?_)
  exact fs [6] [] Tryz.results219 h
 ·refine run_skip (ze ?_)
  obtain ⟨r4,hr5,h⟩:=zJ h
  refine zt (tc [] Tryz.call214 (zae hr5)) ?_
  rintro v6 _ ⟨_,⟨_,rfl,rfl⟩,rfl⟩
  refine ys ?_
  refine zd (jr h [] [] (fun s (g:Unit)=>[]) (fun s g=>[]) (fun _ h ho8 _ hL9=>?_) ?_)
  ·refine zh (ys ?_)
   refine zd (zF (lo h [0,1,2,7] [1,2] (fun s (g:Unit)=>[(8,.int .i64 s)]) (fun s g=>[]) () [0,1] ?_))
   rintro j4 _ _ h _ jt j8
   refine rs ?_
   refine zH (zh (ys ?_))
   refine zd (rc h (fun _ h=>?_) (fun _ h=>?_))
   ·refine run_skip (zg (zF (zH (rf [1,1] fun hS=>?_))))
    refine aq [0,1] ?_
    obtain ⟨x17,jG,jH,jI,h⟩:=zP h
    refine aq [2,3,4,5] ?_
    refine al0 6 [(0,0)] Tryz.call153 (fun h=>z2b h) h (fun r18 h=>?_)
    refine aq [7,8] ?_
    refine ae [19] 0 [8,0,1,2,7] [1,2] (fun s=>[(38,.bool s)]) (decide (x17=r18) && (decide (j4=0) || (j2 == (decide (12≤(IntKind.i64.wrap (j4+1))))))) (fun jb=>?_) ?_
    ·refine z1L 28 (decide (x17=r18)) rfl (fun jh=>?_) (fun jh=>?_)
     ·skip
      refine aq [9,10,11] ?_
      refine ae [18,1] 1 [8,0,1,2,7,28] [1,2] (fun s=>[(37,.bool s)]) (decide (j4=0) || (j2 == (decide (12≤(IntKind.i64.wrap (j4+1)))))) (fun ju=>?_) ?_
      ·refine z1L 31 (decide (j4=0)) rfl (fun ji=>?_) (fun ji=>?_)
       ·skip
        refine aq [12,13,14,15,16,17] ?_
        exact aw (ju true (by rw [ji]; simp)) [0,1]
       ·skip
        refine aq [12,13,14,15] ?_
        refine ai 16 rfl (zt1 Tryz.runUnderlying4 rfl rfl) ?_
        refine aq [17] ?_
        exact aw (ju (j2 == (decide (12≤(IntKind.i64.wrap (j4+1))))) (by rw [ji]; simp)) [0,1]
      refine az ?_
      refine aq [18] ?_
      exact aw (jb (decide (j4=0) || (j2 == (decide (12≤(IntKind.i64.wrap (j4+1)))))) (by rw [jh]; simp)) [0,1]
     ·skip
      refine aq [9,10,11] ?_
      refine z8X 12 rfl (by kernel_rfl) (by kernel_rfl) (by kernel_rfl) (ss (ss (sn))) 11 false 31 rfl rfl rfl rfl rfl ?_
      refine z8X 13 rfl (by kernel_rfl) (by kernel_rfl) (by kernel_rfl) (ss (ss (sn))) 11 false 31 rfl rfl rfl rfl rfl ?_
      refine z8X 14 rfl (by kernel_rfl) (by kernel_rfl) (by kernel_rfl) (ss (ss (sn))) 11 false 31 rfl rfl rfl rfl rfl ?_
      refine z8X 15 rfl (by kernel_rfl) (by kernel_rfl) (by kernel_rfl) (ss (ss (sn))) 11 false 31 rfl rfl rfl rfl rfl ?_
      refine z8X 16 rfl (by kernel_rfl) (by kernel_rfl) (by kernel_rfl) (ss (ss (sn))) 11 false 31 rfl rfl rfl rfl rfl ?_
      refine aq [17,18] ?_
      exact aw (jb false (by rw [jh]; simp)) [0,1]
    refine az ?_
    refine z1K (by kernel_rfl) ?_
    refine zD (rc h (fun _ h=>?_) (fun _ h=>?_))
    ·refine zh (ys ?_)
     refine zd (zA ?_)
     obtain rfl:=zU h
     obtain rfl:=j8 _ rfl
     skip
     obtain rfl:=zM ho8
     exact ft [6] [] Tryz.results219
    ·refine run_skip (zS (zf ?_))
     refine ys ?_
     exact zr (gj jt () [0,1] h)
   ·refine z1h _ rfl ?_
    exact gk hL9 j8 () [] h
  rintro _ _ h
  refine rs ?_
  refine zh (ys ?_)
  refine zd (zA ?_)
  exact fs [6] [] Tryz.results219 h
def zbk (l_0:(List z6)) (c_1:zl) (i_2:Int):Option (z12):=
 obind (z2B l_0 i_2 [59]) fun r3=>
 cond (!r3)
  (some (z12.mk ([]:List zl) i_2 true))
  (some (z12.mk ([c_1]:List zl) (IntKind.i64.wrap (i_2+1)) false))
theorem zjn {l_0:(List z6)} {c_1:zl} {i_2:Int} {j3:Value} {j1:Value} {j0:Value} {r:z12} (h:zbk l_0 c_1 i_2=some r) :
  Meets Tryz.prog 220 [j3,.agg #[.int .i64 c_1.Kind,.int .i64 c_1.At,.string (bs c_1.Name),j1,.string (bs c_1.Amount.Number),.string (bs c_1.Amount.Unit),.int .i64 c_1.Amount.At,.string (bs c_1.Default),.bool c_1.HasDefault,j0],.int .i64 i_2] [ro j3 3 (l_0.map z6.enc),ro j1 1 (c_1.Texts.map eStr),nrow j0 zp c_1.Conds] (fun v G=>∃ v0,v = .agg #[v0,.int .i64 r.I,.bool r.Bad]∧G=[nrow v0 zp r.L]):=by
 refine zN Tryz.func220 rfl Tryz.ntmps220 rfl (fun w0 o0=>?_)
 refine zh (zt (t_box rfl) ?_)
 rintro _ _ ⟨b1,rfl,rfl⟩
 refine al fun b2=>?_
 refine zc (zh (ys ?_))
 refine cl0 [(0,0)] Tryz.call85 (fun h=>z1M h) h (fun r3 h=>?_)
 refine ys ?_
 refine zd (rc h (fun _ h=>?_) (fun _ h=>?_))
 ·refine zh (ys ?_)
  refine zd (zA ?_)
  refine z1k (z1q zp) ?_
  exact fr [5] Tryz.results220 h
 ·refine run_skip (ze ?_)
  refine ys ?_
  refine zB (z24 2 rfl) ?_
  refine zcx 1 rfl z3N (fun hs7 hs7o=>?_)
  refine z2V 2 rfl z1j (fun hs8 hs8o=>?_)
  refine zt (t_lit [.agg #[.int .i64 c_1.Kind,.int .i64 c_1.At,.string (bs c_1.Name),j1,.string (bs c_1.Amount.Number),.string (bs c_1.Amount.Unit),.int .i64 c_1.Amount.At,.string (bs c_1.Default),.bool c_1.HasDefault,j0]] Tryz.runUnderlying77 Tryz.sizeOf88 Tryz.zeroValue88 rfl (by decide) (by decide) rfl (by intro q hq; simp only [y1,y0,or_false] at hq; rcases hq with rfl <;> first | rfl | (rw [hs7]; rfl) | (rw [hs8]; rfl))) ?_
  rintro v6 _ ⟨rfl,_⟩
  refine zB (z1p (C:=zp) (l:=([c_1]:List zl)) 5 [(c_1,(j1,j0))] rfl (by simp only [yI,List.map_nil,hs7,hs8]; rfl) rfl (z1o (z2P (T:=z1W) (z1t 1 rfl (z1t 2 rfl z2u))) z1x)) ?_
  refine ys ?_
  refine zd (zA ?_)
  exact fr [5] Tryz.results220 h
def z7t (l_0:(List z6)) (c_1:zl) (k_3:Int):(Int×(List (List UInt8)))→Option (Lp (Int×(List (List UInt8))) z12):=
 fun (i_3,x_4)=>
  obind (z3q l_0 i_3) fun r10=>
  cond (decide (r10≠k_3))
   (some (.stop (z12.mk ([]:List zl) i_3 true)))
   (need (([]:List (List UInt8)).length+x_4.length≤4294967296) (
   obind (z35 l_0 i_3) fun r16=>
   need ((([]:List (List UInt8))++x_4).length+([r16]:List (List UInt8)).length≤4294967296) (
   obind (z2B l_0 (IntKind.i64.wrap (i_3+1)) [44]) fun r22=>
   cond (!r22)
    (some (.stop (z12.mk ([(zl.mk c_1.Kind c_1.At c_1.Name ((([]:List (List UInt8))++x_4)++([r16]:List (List UInt8))) c_1.Amount c_1.Default c_1.HasDefault c_1.Conds)]:List zl) (IntKind.i64.wrap (i_3+1)) false)))
    (some (.go ((IntKind.i64.wrap ((IntKind.i64.wrap (i_3+1))+1)),((([]:List (List UInt8))++x_4)++([r16]:List (List UInt8)))))))))
def zai (n:Nat) (l_0:(List z6)) (c_1:zl) (i_2:Int) (k_3:Int):Option (z12):=
 iter (z7t l_0 c_1 k_3) n (i_2,c_1.Texts)
theorem zdJ {n:Nat} {l_0:(List z6)} {c_1:zl} {i_2:Int} {k_3:Int} {j3:Value} {j1:Value} {j0:Value} {r:z12} (h:zai n l_0 c_1 i_2 k_3=some r) :
  Meets Tryz.prog 243 [j3,.agg #[.int .i64 c_1.Kind,.int .i64 c_1.At,.string (bs c_1.Name),j1,.string (bs c_1.Amount.Number),.string (bs c_1.Amount.Unit),.int .i64 c_1.Amount.At,.string (bs c_1.Default),.bool c_1.HasDefault,j0],.int .i64 i_2,.int .i64 k_3] [ro j3 3 (l_0.map z6.enc),ro j1 1 (c_1.Texts.map eStr),nro j0 zp c_1.Conds] (fun v G=>∃ v0,v = .agg #[v0,.int .i64 r.I,.bool r.Bad]∧G=[nrow v0 zp r.L]):=by
 refine zN Tryz.func243 rfl Tryz.ntmps243 rfl (fun w0 o0=>?_)
 refine zh (zt (t_box rfl) ?_)
 rintro _ _ ⟨b1,rfl,rfl⟩
 refine al fun b2=>?_
 refine zd (zF (lo h [0,3,5,8] [1,0,0,3,5] (fun s (g:Value)=>[(2,.int .i64 s.1)]) (fun s g=>[box b1 [.int .i64 c_1.Kind,.int .i64 c_1.At,.string (bs c_1.Name),g,.string (bs c_1.Amount.Number),.string (bs c_1.Amount.Unit),.int .i64 c_1.Amount.At,.string (bs c_1.Default),.bool c_1.HasDefault,j0],ro g 1 (s.2.map eStr)]) _ [0,3,1,2,4] ?_))
 rintro ⟨_,x_4⟩ _ _ h _ jC jc
 refine rs ?_
 refine zF (zH (zh (ys ?_)))
 refine cl0 [(0,0)] Tryz.call152 (fun h=>z2A h) h (fun r10 h=>?_)
 refine ys ?_
 refine zd (rc h (fun _ h=>?_) (fun _ h=>?_))
 ·refine zh (ys ?_)
  refine zd (zA ?_)
  refine z1k (z1q zp) ?_
  obtain rfl:=zU h
  obtain rfl:=jc _ rfl
  exact fq [5] Tryz.results243
 ·refine run_skip (ze ?_)
  refine zt (t_lit [] Tryz.runUnderlying62 Tryz.sizeOf9 Tryz.zeroValue9 rfl (by decide) (by decide) rfl (by simp [Value.cells,boxP])) ?_
  rintro v13 _ ⟨rfl,_⟩
  refine zB (retell 5 (g:=row v13 1 (([]:List (List UInt8)).map eStr)) rfl rfl) ?_
  refine ys ?_
  obtain ⟨jv,h⟩:=zX h
  refine zt (z1U (es:=1) 5 rfl Tryz.runUnderlying62 rfl Tryz.runUnderlying62 (.inr ⟨_,rfl⟩) Tryz.typeInfo9 rfl (by decide) Tryz.zeroValue9 rfl rfl rfl rfl (z1C 2 rfl z3N (z42 zfB _)) (z1T jv (by decide)) (z2H jv)) ?_
  rintro v14 _ rfl
  refine zB (retell 5 (g:=row v14 1 ((([]:List (List UInt8))++x_4).map eStr)) rfl (congrArg (row _ _) List.map_append.symm)) ?_
  refine ys ?_
  refine cl0 [(0,0)] Tryz.call153 (fun h=>z2b h) h (fun r16 h=>?_)
  refine zt (t_lit [.string (bs r16)] Tryz.runUnderlying62 Tryz.sizeOf9 Tryz.zeroValue9 rfl (by decide) (by decide) rfl (by simp [Value.cells,boxP])) ?_
  rintro v18 _ ⟨rfl,_⟩
  refine zB (retell 6 (g:=row v18 1 (([r16]:List (List UInt8)).map eStr)) rfl rfl) ?_
  obtain ⟨jw,h⟩:=zX h
  refine zt (z1U (es:=1) 5 rfl Tryz.runUnderlying62 rfl Tryz.runUnderlying62 (.inr ⟨_,rfl⟩) Tryz.typeInfo9 rfl (by decide) Tryz.zeroValue9 rfl rfl rfl rfl (z1C 6 rfl z1d (z42 zfB _)) (z1T jw (by decide)) (z2H jw)) ?_
  rintro v19 _ rfl
  refine zB (retell 5 (g:=row v19 1 (((([]:List (List UInt8))++x_4)++([r16]:List (List UInt8))).map eStr)) rfl (congrArg (row _ _) List.map_append.symm)) ?_
  refine ys ?_
  refine zc (rj [2,0,3,5,8] [0,1,3,4,5] ?_)
  refine z8 (ys ?_)
  refine zc (zh (ys ?_))
  refine cl0 [(0,0)] Tryz.call85 (fun h=>z1M h) h (fun r22 h=>?_)
  refine ys ?_
  refine zd (rc h (fun _ h=>?_) (fun _ h=>?_))
  ·refine zh (ys ?_)
   refine zB (Go.Abs.freeze 4 rfl) ?_
   refine z2V 2 rfl z1j (fun jx hs26o=>?_)
   refine zcx 4 rfl z3N (fun jy hs27o=>?_)
   refine zt (t_lit [.agg #[.int .i64 c_1.Kind,.int .i64 c_1.At,.string (bs c_1.Name),v19,.string (bs c_1.Amount.Number),.string (bs c_1.Amount.Unit),.int .i64 c_1.Amount.At,.string (bs c_1.Default),.bool c_1.HasDefault,j0]] Tryz.runUnderlying77 Tryz.sizeOf88 Tryz.zeroValue88 rfl (by decide) (by decide) rfl (by intro q hq; simp only [y1,y0,or_false] at hq; rcases hq with rfl <;> first | rfl | (rw [jx]; rfl) | (rw [jy]; rfl))) ?_
   rintro v25 _ ⟨rfl,_⟩
   refine zB (z1p (C:=zp) (l:=([(zl.mk c_1.Kind c_1.At c_1.Name ((([]:List (List UInt8))++x_4)++([r16]:List (List UInt8))) c_1.Amount c_1.Default c_1.HasDefault c_1.Conds)]:List zl)) 5 [((zl.mk c_1.Kind c_1.At c_1.Name ((([]:List (List UInt8))++x_4)++([r16]:List (List UInt8))) c_1.Amount c_1.Default c_1.HasDefault c_1.Conds),(v19,j0))] rfl (by simp only [yI,List.map_nil,jx,jy]; rfl) rfl (z1o (z2P (T:=z1W) (z1t 4 rfl (z1t 2 rfl z2u))) z1x)) ?_
   refine ys ?_
   refine zd (zA ?_)
   obtain rfl:=zU h
   obtain rfl:=jc _ rfl
   exact fq [5] Tryz.results243
  ·refine run_skip (zf ?_)
   refine ys ?_
   refine zr (zS (z2G (Go.Abs.freeze 4 rfl) ?_))
   exact gj jC _ [0,1,4,2,3] h
def z6B (l_0:(List z6)) (c_1:zl) (i_2:Int):Option (z12):=
 obind (z2B l_0 i_2 [59]) fun r3=>
 cond (!r3)
  (some (z12.mk ([]:List zl) i_2 true))
  (some (z12.mk ([c_1]:List zl) (IntKind.i64.wrap (i_2+1)) false))
theorem z6C {l_0:(List z6)} {c_1:zl} {i_2:Int} {j3:Value} {j1:Value} {j0:Value} {r:z12} (h:z6B l_0 c_1 i_2=some r) :
  Meets Tryz.prog 220 [j3,.agg #[.int .i64 c_1.Kind,.int .i64 c_1.At,.string (bs c_1.Name),j1,.string (bs c_1.Amount.Number),.string (bs c_1.Amount.Unit),.int .i64 c_1.Amount.At,.string (bs c_1.Default),.bool c_1.HasDefault,j0],.int .i64 i_2] [ro j3 3 (l_0.map z6.enc),ro j1 1 (c_1.Texts.map eStr),nro j0 zp c_1.Conds] (fun v G=>∃ v0,v = .agg #[v0,.int .i64 r.I,.bool r.Bad]∧G=[nrow v0 zp r.L]):=by
 refine zN Tryz.func220 rfl Tryz.ntmps220 rfl (fun w0 o0=>?_)
 refine zh (zt (t_box rfl) ?_)
 rintro _ _ ⟨b1,rfl,rfl⟩
 refine al fun b2=>?_
 refine zc (zh (ys ?_))
 refine cl0 [(0,0)] Tryz.call85 (fun h=>z1M h) h (fun r3 h=>?_)
 refine ys ?_
 refine zd (rc h (fun _ h=>?_) (fun _ h=>?_))
 ·refine zh (ys ?_)
  refine zd (zA ?_)
  refine z1k (z1q zp) ?_
  exact fr [5] Tryz.results220 h
 ·refine run_skip (ze ?_)
  refine ys ?_
  refine zcx 1 rfl z3N (fun hs7 hs7o=>?_)
  refine z2V 2 rfl z1j (fun hs8 hs8o=>?_)
  refine zt (t_lit [.agg #[.int .i64 c_1.Kind,.int .i64 c_1.At,.string (bs c_1.Name),j1,.string (bs c_1.Amount.Number),.string (bs c_1.Amount.Unit),.int .i64 c_1.Amount.At,.string (bs c_1.Default),.bool c_1.HasDefault,j0]] Tryz.runUnderlying77 Tryz.sizeOf88 Tryz.zeroValue88 rfl (by decide) (by decide) rfl (by intro q hq; simp only [y1,y0,or_false] at hq; rcases hq with rfl <;> first | rfl | (rw [hs7]; rfl) | (rw [hs8]; rfl))) ?_
  rintro v6 _ ⟨rfl,_⟩
  refine zB (z1p (C:=zp) (l:=([c_1]:List zl)) 5 [(c_1,(j1,j0))] rfl (by simp only [yI,List.map_nil,hs7,hs8]; rfl) rfl (z1o (z2P (T:=z1W) (z1t 1 rfl (z1t 2 rfl z2u))) z1x)) ?_
  refine ys ?_
  refine zd (zA ?_)
  exact fr [5] Tryz.results220 h
def zbt (n:Nat) (l_0:(List z6)) (c_1:zl) (i_2:Int) (k_3:Int):Option (z12):=
 obind (zai n l_0 c_1 i_2 k_3) fun r3=>
 cond r3.Bad
  (some r3)
  (idx r3.L 0 fun x10=>
  obind (z6B l_0 x10 r3.I) fun r13=>
  some r13)
theorem zeU {n:Nat} {l_0:(List z6)} {c_1:zl} {i_2:Int} {k_3:Int} {j3:Value} {j1:Value} {j0:Value} {r:z12} (h:zbt n l_0 c_1 i_2 k_3=some r) :
  Meets Tryz.prog 221 [j3,.agg #[.int .i64 c_1.Kind,.int .i64 c_1.At,.string (bs c_1.Name),j1,.string (bs c_1.Amount.Number),.string (bs c_1.Amount.Unit),.int .i64 c_1.Amount.At,.string (bs c_1.Default),.bool c_1.HasDefault,j0],.int .i64 i_2,.int .i64 k_3] [ro j3 3 (l_0.map z6.enc),row j1 1 (c_1.Texts.map eStr),nrow j0 zp c_1.Conds] (fun v G=>∃ v0,v = .agg #[v0,.int .i64 r.I,.bool r.Bad]∧G=[nrow v0 zp r.L]):=by
 refine zN Tryz.func221 rfl Tryz.ntmps221 rfl (fun w0 o0=>?_)
 refine zh (zt (t_box rfl) ?_)
 rintro _ _ ⟨b1,rfl,rfl⟩
 refine al fun b2=>?_
 refine za (ys ?_)
 refine zB (Go.Abs.freeze 1 rfl) ?_
 refine zB (z24 2 rfl) ?_
 refine cl1 [(0,0),(1,0),(2,0)] Tryz.call243 (fun h=>zdJ h) h (fun r3 v5 h=>?_)
 refine al fun b6=>?_
 refine ys ?_
 refine zc (zH (rj [0,8,9] [0,4,5,6] ?_))
 refine z8 (ys ?_)
 refine zd (rc h (fun _ h=>?_) (fun _ h=>?_))
 ·refine zh (ys ?_)
  refine zd (zA ?_)
  exact fr [2] Tryz.results221 h
 ·refine run_skip (zg (rf [1,0,1,1] fun hS=>?_))
  refine aq [0,1,2] ?_
  obtain ⟨x10,jJ,jK,jz,h⟩:=zP h
  refine aq [3,5,6] ?_
  refine zK [4] (by kernel_rfl) rfl (zk ?_ zC)
  refine at' rfl (znj (T:=z1W) (zfJ (C:=zp) (i:=(0:Int).toNat) 2 Tryz.isAgg88 Tryz.sizeOf88 rfl rfl jz)) ?_
  rintro _ _ ⟨⟨g11,g12⟩,rfl,rfl⟩
  refine sb ?_
  refine al1 7 [(0,0),(4,0),(5,0)] Tryz.call220 (fun h=>z6C h) h (fun r13 v15 h=>?_)
  refine ast 8 ?_
  refine z1K (by kernel_rfl) ?_
  refine zD (zA ?_)
  exact fr [6] Tryz.results221 h
end Go.Proofs.YtcmaoifiiigggaaGreatDoor
