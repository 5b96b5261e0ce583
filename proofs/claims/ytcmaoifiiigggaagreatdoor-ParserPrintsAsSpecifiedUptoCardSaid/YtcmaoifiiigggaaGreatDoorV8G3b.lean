/-
  Functions that the law ParserMatchesSpec needs, lifted.
-/
import Derived.Test.YtcmaoifiiigggaaGreatDoorV8G3a
set_option linter.unusedSimpArgs false
set_option linter.unusedVariables false
namespace Go.Proofs.YtcmaoifiiigggaaGreatDoor
open Go.Abs Tryz
set_option maxRecDepth 20000
set_option maxHeartbeats 4000000
def zey (n:Nat) (s_0:(List UInt8)) (j1:Int):Option (z1O):=
 idx s_0 j1 fun c2=>
 obind (zbf (c2.toNat:Int)) fun r3=>
 cond r3
  (obind (zex n s_0 j1) fun r6=>
  some r6)
  (idx s_0 j1 fun c8=>
  obind (zbd (c8.toNat:Int)) fun r9=>
  cond r9
   (obind (zbJ n s_0 j1) fun r12=>
   some r12)
   (idx s_0 j1 fun c14=>
   cond (decide ((c14.toNat:Int)=34))
    (obind (zeB n s_0 j1) fun r16=>
    some r16)
    (obind (zeA n s_0 j1) fun r18=>
    some r18)))
theorem zjc {n:Nat}:K41 (zey n) 84:=by
 intro s_0 j1 r h
 refine zN func84 rfl ntmps84 rfl (fun w0 o0=>?_)
 refine zh (al fun b1=>?_)
 refine yn 2 ?_
 refine yx ?_
 obtain ⟨c2,jq,js,jt,h⟩:=zP h
 refine zq yr ?_
 refine cl0 [] call146 (fun h=>zbK h) h (fun r3 h=>?_)
 refine yc 1 h (fun _ h=>?_) fun _ h=>?_
 ·refine yn 2 ?_
  refine cl0 [] call147 (fun h=>zjb h) h (fun r6 h=>?_)
  refine yn 3 ?_
  exact fr [] results84 h
 ·refine yn 3 ?_
  refine yx ?_
  obtain ⟨c8,ju,jv,jw,h⟩:=zP h
  refine zq yr ?_
  refine cl0 [] call148 (fun h=>zbI h) h (fun r9 h=>?_)
  refine yc 1 h (fun _ h=>?_) fun _ h=>?_
  ·refine zH (rj [0,1,4] [0] ?_)
   refine yn 2 ?_
   refine cl0 [] call149 (fun h=>zh6 h) h (fun r12 h=>?_)
   refine yn 3 ?_
   exact fr [] results84 h
  ·refine yn 2 ?_
   refine zH (rj [0,1,4] [0] ?_)
   refine z8 (yx ?_)
   obtain ⟨c14,jm,jo,jp,h⟩:=zP h
   refine zq yr ?_
   refine yc 2 h (fun _ h=>?_) fun _ h=>?_
   ·refine yn 2 ?_
    refine cl0 [] call150 (fun h=>zjf h) h (fun r16 h=>?_)
    refine yn 3 ?_
    exact fr [] results84 h
   ·refine yn 3 ?_
    refine cl0 [] call151 (fun h=>zje h) h (fun r18 h=>?_)
    refine yn 3 ?_
    exact fr [] results84 h
def z9d (n:Nat) (s_0:(List UInt8)):((List z6)×Int)→Option (Lp ((List z6)×Int) (Lp ((List z6)) (z7H))):=
 fun (j0,j3)=>
  cond (decide (j3<(s_0.length:Int)))
   (obind (zey n s_0 j3) fun r19=>
   cond (decide (r19.E≠0))
    (some (.stop (.stop (z7H.mk ([]:List z6) (z11.mk j3 r19.E)))))
    (need (j0.length+([r19.T]:List z6).length≤4294967296) (
    obind (zbe n s_0 r19.End) fun r26=>
    some (.go ((j0++([r19.T]:List z6)),r26)))))
   (some (.stop (.go j0)))
def z6w (n:Nat) (s_0:(List UInt8)):Option (z7H):=
 cond (decide (65536<(s_0.length:Int)))
  (some (z7H.mk ([]:List z6) (z11.mk 0 2)))
  (bindJ (S := (List z6))
   (obind (zbe n s_0 0) fun r9=>
   iter (z9d n s_0) n (([]:List z6),r9))
  (fun j6 =>
   some (z7H.mk j6 (z11.mk 0 0))))
theorem zaW {n:Nat} {s_0:(List UInt8)} {r:z7H} (h:z6w n s_0=some r) :
  Meets Tryz.prog 34 [.string (bs s_0)] [] (fun v G=>∃ v0,v = .agg #[v0,.int .i64 r.P.At,.int .i64 r.P.E]∧G=[row v0 3 (r.L.map z6.enc)]):=by
 refine zN func34 rfl ntmps34 rfl (fun w0 o0=>?_)
 refine zh (al fun b1=>?_)
 refine yc 4 h (fun _ h=>?_) fun _ h=>?_
 ·refine yn 4 ?_
  refine z1k (nilrow 3) ?_
  refine z1k (retell 1 (g:=row (.slice none 0 0) 3 (([]:List z6).map z6.enc)) rfl rfl) ?_
  exact fr [1] results34 h
 ·refine yn 3 ?_
  refine zd (jr h [2] [0,1] (fun s (g:Value)=>[(3,g)]) (fun s g=>[row g 3 (s.map z6.enc)]) (fun _ h ho6 _ hL7=>?_) ?_)
  ·refine yn 2 ?_
   refine cl0 [] call83 (fun h=>zfD h) h (fun r9 h=>?_)
   refine yn 3 ?_
   refine z3x (nilrow 3) ?_
   refine z3x (retell 1 (g:=row (.slice none 0 0) 3 (([]:List z6).map z6.enc)) rfl rfl) ?_
   refine lo h [0,2] [0,1] (fun s (g:Value)=>[(3,g),(4,.int .i64 s.2)]) (fun s g=>[row g 3 (s.1.map z6.enc)]) _ [1,0] ?_
   rintro ⟨j0,_⟩ _ _ h _ ja j2
   refine rs ?_
   refine yc 4 h (fun _ h=>?_) fun _ h=>?_
   ·refine yn 5 ?_
    refine cl0 [] call84 (fun h=>zjc h) h (fun r19 h=>?_)
    refine al fun b21=>?_
    refine yn 2 ?_
    refine zH (rj [3,4,0,2,5] [0,1,2] ?_)
    refine yc 3 h (fun _ h=>?_) fun _ h=>?_
    ·refine yn 4 ?_
     refine z1k (nilrow 3) ?_
     refine z1k (retell 3 (g:=row (.slice none 0 0) 3 (([]:List z6).map z6.enc)) rfl rfl) ?_
     obtain rfl:=zU h
     obtain rfl:=j2 _ rfl
     skip
     obtain rfl:=zM ho6
     exact fq [3] results34
    ·refine yn 3 ?_
     refine lT z6.enc [r19.T] fun _=>?_
     obtain ⟨jg,h⟩:=zX h
     refine lA z6.enc_ok 0 3 jg fun _=>?_
     refine ys ?_
     refine zd (rj [3,0,2,5] [0,1,2] ?_)
     refine yn 2 ?_
     refine cl0 [] call83 (fun h=>zfD h) h (fun r26 h=>?_)
     refine yn 3 ?_
     exact gj ja _ [0,1] h
   ·refine z1h _ rfl ?_
    exact gk hL7 j2 _ [0,1] h
  rintro j6 v4 h
  refine rs ?_
  refine yn 4 ?_
  exact fr [0] results34 h
def z3q (l_0:(List z6)) (i_1:Int):Option (Int):=
 cond (decide (i_1<0) || decide ((l_0.length:Int)≤i_1))
  (some 0)
  (idx l_0 i_1 fun x5=>
  some x5.Kind)
theorem z2A:K42 z3q 152:=by
 intro l_0 i_1 j4 r h
 refine zN func152 rfl ntmps152 rfl (fun w0 o0=>?_)
 refine yn 5 ?_
 refine oq 5 7 12 [0,1] [0] (decide (i_1<0) || decide ((l_0.length:Int)≤i_1)) ?_
 refine yc 1 h (fun _ h=>?_) fun _ h=>?_
 ·refine yn 4 ?_
  exact fs [4] [] results152 h
 ·refine yn 3 ?_
  obtain ⟨x5,jh,ji,jj,h⟩:=zP h
  refine yn 3 ?_
  exact fs [4] [] results152 h
def z35 (l_0:(List z6)) (i_1:Int):Option ((List UInt8)):=
 cond (decide (i_1<0) || decide ((l_0.length:Int)≤i_1))
  (some [])
  (idx l_0 i_1 fun x5=>
  some x5.S)
theorem z2b {l_0:(List z6)} {i_1:Int} {j4:Value} {r:(List UInt8)} (h:z35 l_0 i_1=some r) :
  Meets Tryz.prog 153 [j4,.int .i64 i_1] [ro j4 3 (l_0.map z6.enc)] (fun v G=>v = .string (bs r)∧G=[]):=by
 refine zN func153 rfl ntmps153 rfl (fun w0 o0=>?_)
 refine yn 5 ?_
 refine oq 5 7 12 [0,1] [0] (decide (i_1<0) || decide ((l_0.length:Int)≤i_1)) ?_
 refine yc 1 h (fun _ h=>?_) fun _ h=>?_
 ·refine yn 4 ?_
  exact fs [4] [] results153 h
 ·refine yn 3 ?_
  obtain ⟨x5,jh,ji,jj,h⟩:=zP h
  refine yn 3 ?_
  exact fs [4] [] results153 h
def z2B (l_0:(List z6)) (i_1:Int) (s_2:(List UInt8)):Option (Bool):=
 obind (z3q l_0 i_1) fun r1=>
 bindJ (S:=Bool)
  (cond (decide (r1 = 5))
   (obind (z35 l_0 i_1) fun r9=>
   some (.go (decide (r9=s_2))))
   (some (.go false)))
 (fun b3 =>
  some b3)
theorem z1M:K43 z2B 85:=by
 intro l_0 i_1 s_2 j4 r h
 refine zN func85 rfl ntmps85 rfl (fun w0 o0=>?_)
 refine yn 4 ?_
 refine cl0 [(0,0)] call152 (fun h=>z2A h) h (fun r1 h=>?_)
 refine ys ?_
 refine ob h 6 [] [] (fun s=>[(17,.bool s)]) (fun s=>[]) (fun _ h _ _ hL7=>?_) ?_
 ·refine z1c 11 (decide (r1=5)) rfl (fun hg8=>?_) (fun hg8=>?_)
  ·replace h:=z2F h hg8
   refine ys ?_
   refine cl0 [(0,0)] call153 (fun h=>z2b h) h (fun r9 h=>?_)
   refine yn 2 ?_
   exact gb hL7 [] h
  ·replace h:=z2E h hg8
   refine yn 2 ?_
   exact gb hL7 [] h
 rintro b3 h
 refine os ?_
 refine yn 3 ?_
 exact fs [6] [] results85 h
def z9r (l_0:(List z6)):(Int×Int)→Option (Lp (Int×Int) (Lp (Unit) (Int))):=
 fun (n_5,i_6)=>
  cond (decide (i_6<(l_0.length:Int)))
   (bindJ (S := Int)
    (cond (decide (40 < n_5))
     (some (.stop (.stop (.stop i_6))))
     (bindJ (S := Int)
      (obind (z2B l_0 i_6 [40]) fun r23=>
      bindJ (S:=Bool)
       (cond r23
        (some (.go true))
        (obind (z2B l_0 i_6 [123]) fun r31=>
        some (.go r31)))
      (fun b25 =>
       cond b25
        (some (.go (IntKind.i64.wrap (n_5+1))))
        (some (.go n_5))))
     (fun j7 =>
      obind (z2B l_0 i_6 [41]) fun r34=>
      bindJ (S:=Bool)
       (cond r34
        (some (.go true))
        (obind (z2B l_0 i_6 [125]) fun r42=>
        some (.go r42)))
      (fun b36 =>
       cond b36
        (some (.go (IntKind.i64.wrap (j7 - 1))))
        (some (.go j7))))))
   (fun jb =>
    some (.go (jb,(IntKind.i64.wrap (i_6+1))))))
   (some (.stop (.go ())))
def zcO (n:Nat) (l_0:(List z6)):Option (Int):=
 bindJ (S:=Unit)
  (iter (z9r l_0) n (0,0))
 (fun _ =>
  some (-1))
theorem zcP {n:Nat}:K4 (zcO n) 35:=by
 intro l_0 j4 r h
 refine zN func35 rfl ntmps35 rfl (fun w0 o0=>?_)
 refine yn 4 ?_
 refine zd (jr h [] [] (fun s (g:Unit)=>[]) (fun s g=>[]) (fun _ h ho2 _ hL3=>?_) ?_)
 ·refine yn 4 ?_
  refine lo h [0] [1] (fun s (g:Unit)=>[(3,.int .i64 s.1),(4,.int .i64 s.2)]) (fun s g=>[]) () [0] ?_
  rintro ⟨_,_⟩ _ _ h _ jk j5
  refine rs ?_
  refine yc 4 h (fun _ h=>?_) fun _ h=>?_
  ·refine run_skip (zD (jr h [0,4] [1] (fun s (g:Unit)=>[(3,.int .i64 s)]) (fun s g=>[]) (fun _ h jl _ jc=>?_) ?_))
   ·refine yc 5 h (fun _ h=>?_) fun _ h=>?_
    ·refine yn 4 ?_
     obtain rfl:=zU h
     obtain rfl:=zM jl
     skip
     obtain rfl:=j5 _ rfl
     skip
     obtain rfl:=zM ho2
     exact ft [2] [] results35
    ·refine run_skip (zD (jr h [0,4] [1] (fun s (g:Unit)=>[(3,.int .i64 s)]) (fun s g=>[]) (fun _ h _ _ jd=>?_) ?_))
     ·refine yn 2 ?_
      refine cl0 [(0,0)] call85 (fun h=>z1M h) h (fun r23 h=>?_)
      refine ys ?_
      refine ob h 4 [3,4,0] [1] (fun s=>[(21,.bool s)]) (fun s=>[]) (fun _ h _ _ je=>?_) ?_
      ·refine z1c 17 r23 rfl (fun j8=>?_) (fun j8=>?_)
       ·replace h:=z2F h j8
        refine yn 2 ?_
        exact gb je [0] h
       ·replace h:=z2E h j8
        refine ys ?_
        refine cl0 [(0,0)] call85 (fun h=>z1M h) h (fun r31 h=>?_)
        refine yn 2 ?_
        exact gb je [0] h
      rintro b25 h
      refine os ?_
      refine yc 1 h (fun _ h=>?_) fun _ h=>?_
      ·refine yn 3 ?_
       exact gj jd () [0] h
      ·exact run_skip (gj jd () [0] h)
     rintro j7 _ h
     refine rs ?_
     refine yn 2 ?_
     refine cl0 [(0,0)] call85 (fun h=>z1M h) h (fun r34 h=>?_)
     refine ys ?_
     refine ob h 4 [3,0,4] [1] (fun s=>[(31,.bool s)]) (fun s=>[]) (fun _ h _ _ jf=>?_) ?_
     ·refine z1c 27 r34 rfl (fun j9=>?_) (fun j9=>?_)
      ·replace h:=z2F h j9
       refine yn 2 ?_
       exact gb jf [0] h
      ·replace h:=z2E h j9
       refine ys ?_
       refine cl0 [(0,0)] call85 (fun h=>z1M h) h (fun r42 h=>?_)
       refine yn 2 ?_
       exact gb jf [0] h
     rintro b36 h
     refine os ?_
     refine yc 1 h (fun _ h=>?_) fun _ h=>?_
     ·refine yn 4 ?_
      exact gj jc () [0] h
     ·refine yn 2 ?_
      exact gj jc () [0] h
   rintro jb _ h
   refine rs ?_
   refine yn 3 ?_
   exact gj jk () [0] h
  ·refine z1h _ rfl ?_
   exact gk hL3 j5 () [] h
 rintro _ _ h
 refine rs ?_
 refine yn 4 ?_
 exact fs [2] [] results35 h
def z7C  : Option ((List (List UInt8))):=
 some ([[112,97,116,116,101,114,110],[116,97,103,115],[102,114,101,115,104],[115,116,97,108,101],[100,111,119,110],[110,101,103,97,116,105,118,101],[99,111,115,116],[118,97,114,121],[97,108,108,111,119],[115,105,103,110,101,100],[112,114,111,103,114,97,109],[102,114,111,109],[116,111],[99,108,105,101,110,116,115],[99,111,117,110,116,114,105,101,115],[115,105,116,101,115],[117,115,101,115]]:List (List UInt8))
theorem zae:K5 z7C 214:=by
 intro  r h
 refine zN func214 rfl ntmps214 rfl (fun w0 o0=>?_)
 refine yn 3 ?_
 refine lS [[112,97,116,116,101,114,110],[116,97,103,115],[102,114,101,115,104],[115,116,97,108,101],[100,111,119,110],[110,101,103,97,116,105,118,101],[99,111,115,116],[118,97,114,121],[97,108,108,111,119],[115,105,103,110,101,100],[112,114,111,103,114,97,109],[102,114,111,109],[116,111],[99,108,105,101,110,116,115],[99,111,117,110,116,114,105,101,115],[115,105,116,101,115],[117,115,101,115]] fun _=>?_
 refine yn 3 ?_
 exact fs [0] [0] results214 h
end Go.Proofs.YtcmaoifiiigggaaGreatDoor
