/-
  Functions that the law ParserMatchesSpec needs, lifted.
-/
import Derived.Test.YtcmaoifiiigggaaGreatDoorV3Own
import Derived.Test.YtcmaoifiiigggaaGreatDoorFa
set_option linter.unusedSimpArgs false
set_option linter.unusedVariables false
namespace Go.Proofs.YtcmaoifiiigggaaGreatDoor
open Go.Abs
set_option maxRecDepth 20000
set_option maxHeartbeats 4000000
def zaD (s_0:(List UInt8)):(Int)→Option (Lp (Int) (Lp (Int) (Lp (Int) (Lp (Int) (Int))))):=
 fun j6=>
  bindJ (S:=Bool)
   (cond (decide (j6 < (s_0.length : Int)))
    (idx s_0 j6 fun c30=>
    some (.go (decide ((c30.toNat:Int)≠10))))
    (some (.go false)))
  (fun b24 =>
   cond b24
    (some (.go (IntKind.i64.wrap (j6+1))))
    (some (.stop (.go j6))))
def zcC (n:Nat) (s_0:(List UInt8)):(Int)→Option (Lp (Int) (Lp (Int) (Int))):=
 fun j5=>
  cond (decide (j5<(s_0.length:Int)))
   (idx s_0 j5 fun c12=>
   cond (decide ((c12.toNat:Int)=35))
    (bindJ (S := Int)
     (iter (zaD s_0) n j5)
    (fun jf =>
     some (.go jf)))
    (idx s_0 j5 fun c32=>
    bindJ (S:=Bool)
     (cond (decide ((c32.toNat : Int) ≠ 32))
      (idx s_0 j5 fun c39=>
      some (.go (decide ((c39.toNat:Int)≠9))))
      (some (.go false)))
    (fun b33 =>
     bindJ (S:=Bool)
      (cond b33
       (idx s_0 j5 fun c46=>
       some (.go (decide ((c46.toNat:Int)≠10))))
       (some (.go false)))
     (fun b40 =>
      bindJ (S:=Bool)
       (cond b40
        (idx s_0 j5 fun c53=>
        some (.go (decide ((c53.toNat:Int)≠13))))
        (some (.go false)))
      (fun b47 =>
       cond b47
        (some (.stop (.stop j5)))
        (some (.go (IntKind.i64.wrap (j5+1)))))))))
   (some (.stop (.go j5)))
def zbe (n:Nat) (s_0:(List UInt8)) (j0:Int):Option (Int):=
 bindJ (S:=Int)
  (iter (zcC n s_0) n j0)
 (fun j0 =>
  some j0)
theorem zfD {n:Nat} {s_0:(List UInt8)} {j0:Int} {r:Int} (h:zbe n s_0 j0=some r) :
  Meets Tryz.prog 83 [.string (bs s_0),.int .i64 j0] [] (fun v G=>v = .int .i64 r∧G=[]):=by
 refine zN Tryz.func83 rfl Tryz.ntmps83 rfl (fun w0 o0=>?_)
 refine zh (ys ?_)
 refine zd (jr h [] [] (fun s (g:Unit)=>[(1,.int .i64 s)]) (fun s g=>[]) (fun _ h ho3 _ hL4=>?_) ?_)
 ·refine zF (lo h [0] [] (fun s (g:Unit)=>[(1,.int .i64 s)]) (fun s g=>[]) () [] ?_)
  rintro _ _ _ h _ jt jb
  refine rs ?_
  refine zH (zh (ys ?_))
  refine zd (rc h (fun _ h=>?_) (fun _ h=>?_))
  ·refine run_skip (zD (zF (zH (zh (yx ?_)))))
   obtain ⟨c12,jP,jQ,jR,h⟩:=zP h
   refine zq yr ?_
   refine ys ?_
   refine zd (rc h (fun _ h=>?_) (fun _ h=>?_))
   ·refine jr h [0] [] (fun s (g:Unit)=>[(1,.int .i64 s)]) (fun s g=>[]) (fun _ h _ _ jN=>?_) ?_
    ·refine zF (lo h [0] [] (fun s (g:Unit)=>[(1,.int .i64 s)]) (fun s g=>[]) () [] ?_)
     rintro j6 _ _ h _ ju je
     refine rs ?_
     refine zH (zh (ys ?_))
     refine ob h 5 [1,0] [] (fun s=>[(22,.bool s)]) (fun s=>[]) (fun _ h _ _ jv=>?_) ?_
     ·refine z1c 17 (decide (j6<(s_0.length:Int))) rfl (fun jg=>?_) (fun jg=>?_)
      ·replace h:=z2F h jg
       refine yx ?_
       obtain ⟨c30,jS,jT,jU,h⟩:=zP h
       refine zq yr ?_
       refine ys ?_
       exact zr (gb jv [] h)
      ·replace h:=z2E h jg
       refine ys ?_
       exact zr (gb jv [] h)
     rintro b24 h
     refine os ?_
     refine zd (rc h (fun _ h=>?_) (fun _ h=>?_))
     ·refine run_skip (zD (zF (z8 (ys ?_))))
      exact zr (zS (gj ju () [] h))
     ·refine z1h _ rfl ?_
      exact gk jN je () [] h
    rintro jf _ h
    refine rs ?_
    refine z1h _ rfl ?_
    exact gj jt () [] h
   ·refine run_skip (zg (zH (rj [1,0] [] ?_)))
    refine z8 (yx ?_)
    obtain ⟨c32,jV,jW,jX,h⟩:=zP h
    refine zq yr ?_
    refine ys ?_
    refine ob h 5 [1,0] [] (fun s=>[(34,.bool s)]) (fun s=>[]) (fun _ h _ _ jw=>?_) ?_
    ·refine z1c 29 (decide ((c32.toNat:Int)≠32)) rfl (fun jh=>?_) (fun jh=>?_)
     ·replace h:=z2F h jh
      refine yx ?_
      obtain ⟨c39,jY,jZ,j00,h⟩:=zP h
      refine zq yr ?_
      refine ys ?_
      exact zr (gb jw [] h)
     ·replace h:=z2E h jh
      refine ys ?_
      exact zr (gb jw [] h)
    rintro b33 h
    refine os ?_
    refine ys ?_
    refine ob h 5 [1,0] [] (fun s=>[(40,.bool s)]) (fun s=>[]) (fun _ h _ _ jx=>?_) ?_
    ·refine z1c 35 b33 rfl (fun ji=>?_) (fun ji=>?_)
     ·replace h:=z2F h ji
      refine yx ?_
      obtain ⟨c46,j01,j02,j03,h⟩:=zP h
      refine zq yr ?_
      refine ys ?_
      exact zr (gb jx [] h)
     ·replace h:=z2E h ji
      refine ys ?_
      exact zr (gb jx [] h)
    rintro b40 h
    refine os ?_
    refine ys ?_
    refine ob h 5 [1,0] [] (fun s=>[(46,.bool s)]) (fun s=>[]) (fun _ h _ _ jy=>?_) ?_
    ·refine z1c 41 b40 rfl (fun jj=>?_) (fun jj=>?_)
     ·replace h:=z2F h jj
      refine yx ?_
      obtain ⟨c53,j04,j05,j06,h⟩:=zP h
      refine zq yr ?_
      refine ys ?_
      exact zr (gb jy [] h)
     ·replace h:=z2E h jj
      refine ys ?_
      exact zr (gb jy [] h)
    rintro b47 h
    refine os ?_
    refine zd (rc h (fun _ h=>?_) (fun _ h=>?_))
    ·refine zh (ys ?_)
     refine zd (zA ?_)
     obtain rfl:=zU h
     obtain rfl:=jb _ rfl
     skip
     obtain rfl:=zM ho3
     exact ft [4] [] Tryz.results83
    ·refine run_skip (zf ?_)
     refine ys ?_
     exact zr (zS (gj jt () [] h))
  ·refine z1h _ rfl ?_
   exact gk hL4 jb () [] h
 rintro j0 _ h
 refine rs ?_
 refine zh (ys ?_)
 refine zd (zA ?_)
 exact fs [4] [] Tryz.results83 h
def zbf (b_0:Int):Option (Bool):=
 some (decide (97≤b_0) && decide (b_0≤122))
theorem zbK:K1 zbf 146:=by
 intro b_0 r h
 refine zN Tryz.func146 rfl Tryz.ntmps146 rfl (fun w0 o0=>?_)
 refine zh (ys ?_)
 refine za (ys ?_)
 refine oq 3 5 8 [] [] (decide (97≤b_0) && decide (b_0≤122)) ?_
 refine ys ?_
 refine zd (zA ?_)
 exact fs [2] [] Tryz.results146 h
def zbd (b_0:Int):Option (Bool):=
 some (decide (48≤b_0) && decide (b_0≤57))
theorem zbI:K1 zbd 148:=by
 intro b_0 r h
 refine zN Tryz.func148 rfl Tryz.ntmps148 rfl (fun w0 o0=>?_)
 refine zh (ys ?_)
 refine za (ys ?_)
 refine oq 3 5 8 [] [] (decide (48≤b_0) && decide (b_0≤57)) ?_
 refine ys ?_
 refine zd (zA ?_)
 exact fs [2] [] Tryz.results148 h
def zez (b_0:Int):Option (Bool):=
 obind (zbf b_0) fun r1=>
 bindJ (S:=Bool)
  (cond r1
   (some (.go true))
   (obind (zbd b_0) fun r9=>
   some (.go r9)))
 (fun b3 =>
  some (b3 || decide (b_0=95)))
theorem zjd:K1 zez 194:=by
 intro b_0 r h
 refine zN Tryz.func194 rfl Tryz.ntmps194 rfl (fun w0 o0=>?_)
 refine zh (ys ?_)
 refine za (ys ?_)
 refine cl0 [] Tryz.call146 (fun h=>zbK h) h (fun r1 h=>?_)
 refine ys ?_
 refine ob h 3 [0] [] (fun s=>[(8,.bool s)]) (fun s=>[]) (fun _ h _ _ hL7=>?_) ?_
 ·refine z1c 5 r1 rfl (fun hg8=>?_) (fun hg8=>?_)
  ·replace h:=z2F h hg8
   refine ys ?_
   exact zr (gb hL7 [] h)
  ·replace h:=z2E h hg8
   refine ys ?_
   refine cl0 [] Tryz.call148 (fun h=>zbI h) h (fun r9 h=>?_)
   refine ys ?_
   exact zr (gb hL7 [] h)
 rintro b3 h
 refine os ?_
 refine ys ?_
 refine oq 3 9 12 [] [] (b3 || decide (b_0=95)) ?_
 refine ys ?_
 refine zd (zA ?_)
 exact fs [2] [] Tryz.results194 h
def zfm  : Option ((List (List UInt8))):=
 some ([[97,108,108,111,119],[97,110,100],[99,108,105,101,110,116,115],[99,111,115,116],[99,111,117,110,116,114,105,101,115],[100,101,102,97,117,108,116],[100,101,110,121],[100,111,119,110],[101,102,102,101,99,116,115],[101,108,115,101],[102,97,108,115,101],[102,114,101,115,104],[102,114,111,109],[104,101,97,100,101,114],[105,102],[105,110],[108,101,116],[108,111,103],[110,101,103,97,116,105,118,101],[110,111,116],[111,114],[112,97,116,116,101,114,110],[112,111,108,105,99,121],[112,114,111,103,114,97,109],[114,101,97,100,115],[114,101,112,101,97,116],[114,101,112,108,121],[114,117,108,101],[115,101,116],[115,105,103,110,101,100],[115,105,116,101,115],[115,116,97,108,101],[115,116,97,116,117,115],[116,97,103,115],[116,111],[116,114,117,101],[117,115,101,115],[118,97,114,121],[119,114,105,116,101,115]]:List (List UInt8))
theorem zih:K5 zfm 218:=by
 intro  r h
 refine zN Tryz.func218 rfl Tryz.ntmps218 rfl (fun w0 o0=>?_)
 refine zh (ys ?_)
 refine za (zt (t_lit [.string (bs [97,108,108,111,119]),.string (bs [97,110,100]),.string (bs [99,108,105,101,110,116,115]),.string (bs [99,111,115,116]),.string (bs [99,111,117,110,116,114,105,101,115]),.string (bs [100,101,102,97,117,108,116]),.string (bs [100,101,110,121]),.string (bs [100,111,119,110]),.string (bs [101,102,102,101,99,116,115]),.string (bs [101,108,115,101]),.string (bs [102,97,108,115,101]),.string (bs [102,114,101,115,104]),.string (bs [102,114,111,109]),.string (bs [104,101,97,100,101,114]),.string (bs [105,102]),.string (bs [105,110]),.string (bs [108,101,116]),.string (bs [108,111,103]),.string (bs [110,101,103,97,116,105,118,101]),.string (bs [110,111,116]),.string (bs [111,114]),.string (bs [112,97,116,116,101,114,110]),.string (bs [112,111,108,105,99,121]),.string (bs [112,114,111,103,114,97,109]),.string (bs [114,101,97,100,115]),.string (bs [114,101,112,101,97,116]),.string (bs [114,101,112,108,121]),.string (bs [114,117,108,101]),.string (bs [115,101,116]),.string (bs [115,105,103,110,101,100]),.string (bs [115,105,116,101,115]),.string (bs [115,116,97,108,101]),.string (bs [115,116,97,116,117,115]),.string (bs [116,97,103,115]),.string (bs [116,111]),.string (bs [116,114,117,101]),.string (bs [117,115,101,115]),.string (bs [118,97,114,121]),.string (bs [119,114,105,116,101,115])] Tryz.runUnderlying62 Tryz.sizeOf9 Tryz.zeroValue9 rfl (by decide) (by decide) rfl (by simp [Value.cells,boxP])) ?_)
 rintro v1 _ ⟨rfl,_⟩
 refine zB (retell 0 (g:=row v1 1 (([[97,108,108,111,119],[97,110,100],[99,108,105,101,110,116,115],[99,111,115,116],[99,111,117,110,116,114,105,101,115],[100,101,102,97,117,108,116],[100,101,110,121],[100,111,119,110],[101,102,102,101,99,116,115],[101,108,115,101],[102,97,108,115,101],[102,114,101,115,104],[102,114,111,109],[104,101,97,100,101,114],[105,102],[105,110],[108,101,116],[108,111,103],[110,101,103,97,116,105,118,101],[110,111,116],[111,114],[112,97,116,116,101,114,110],[112,111,108,105,99,121],[112,114,111,103,114,97,109],[114,101,97,100,115],[114,101,112,101,97,116],[114,101,112,108,121],[114,117,108,101],[115,101,116],[115,105,103,110,101,100],[115,105,116,101,115],[115,116,97,108,101],[115,116,97,116,117,115],[116,97,103,115],[116,111],[116,114,117,101],[117,115,101,115],[118,97,114,121],[119,114,105,116,101,115]]:List (List UInt8)).map eStr)) rfl rfl) ?_
 refine ys ?_
 refine zd (zA ?_)
 exact fs [0] [0] Tryz.results218 h
def zcA (s_0:(List UInt8)) (r1:(List (List UInt8))):(Int)→Option (Lp (Int) (Lp (Unit) (Bool))):=
 fun i_8=>
  cond (decide (i_8<(r1.length:Int)))
   (idx r1 i_8 fun x14=>
   cond (decide (x14=s_0))
    (some (.stop (.stop true)))
    (some (.go (IntKind.i64.wrap (i_8+1)))))
   (some (.stop (.go ())))
def zew (n:Nat) (s_0:(List UInt8)):Option (Bool):=
 obind (zfm) fun r1=>
 bindJ (S:=Unit)
  (iter (zcA s_0 r1) n 0)
 (fun _ =>
  some false)
theorem zja {n:Nat} {s_0:(List UInt8)} {r:Bool} (h:zew n s_0=some r) :
  Meets Tryz.prog 195 [.string (bs s_0)] [] (fun v G=>v = .bool r∧G=[]):=by
 refine zN Tryz.func195 rfl Tryz.ntmps195 rfl (fun w0 o0=>?_)
 refine zh (ys ?_)
 refine za ?_
 obtain ⟨r1,hr2,h⟩:=zJ h
 refine zt (tc [] Tryz.call218 (zih hr2)) ?_
 rintro v3 _ ⟨_,⟨_,rfl,rfl⟩,rfl⟩
 refine ys ?_
 refine zd (jr h [] [] (fun s (g:Unit)=>[]) (fun s g=>[]) (fun _ h ho5 _ hL6=>?_) ?_)
 ·refine zh (ys ?_)
  refine zd (zF (lo h [0,3] [1] (fun s (g:Unit)=>[(4,.int .i64 s)]) (fun s g=>[]) () [0] ?_))
  rintro _ _ _ h _ jc j2
  refine rs ?_
  refine zH (zh (ys ?_))
  refine zd (rc h (fun _ h=>?_) (fun _ h=>?_))
  ·refine run_skip (zg (zF (zh (yx ?_))))
   obtain ⟨x14,j07,j08,j09,h⟩:=zP h
   refine zq yr ?_
   refine ys ?_
   refine zd (rc h (fun _ h=>?_) (fun _ h=>?_))
   ·refine zH (rj [] [] ?_)
    refine z8 (ys ?_)
    refine zd (zA ?_)
    obtain rfl:=zU h
    obtain rfl:=j2 _ rfl
    skip
    obtain rfl:=zM ho5
    exact ft [2] [] Tryz.results195
   ·refine run_skip (zS (zD (rj [4,0,3] [0] ?_)))
    refine z8 (ys ?_)
    exact zr (gj jc () [0] h)
  ·refine z1h _ rfl ?_
   exact gk hL6 j2 () [] h
 rintro _ _ h
 refine rs ?_
 refine zh (ys ?_)
 refine zd (zA ?_)
 exact fs [2] [] Tryz.results195 h
def zaC (s_0:(List UInt8)):(Int)→Option (Lp (Int) (Lp (Int) (z1O))):=
 fun j3=>
  bindJ (S:=Bool)
   (cond (decide (j3 < (s_0.length : Int)))
    (idx s_0 j3 fun c18=>
    obind (zez (c18.toNat:Int)) fun r19=>
    some (.go r19))
    (some (.go false)))
  (fun b12 =>
   cond b12
    (some (.go (IntKind.i64.wrap (j3+1))))
    (some (.stop (.go j3))))
def zex (n:Nat) (s_0:(List UInt8)) (j0:Int):Option (z1O):=
 bindJ (S:=Int)
  (iter (zaC s_0) n j0)
 (fun j1 =>
  need (0≤j0∧j0≤j1∧j1≤(s_0.length:Int)) (
  obind (zew n ((s_0.take j1.toNat).drop j0.toNat)) fun r24=>
  cond r24
   (some (z1O.mk (z6.mk 2 j0 ((s_0.take j1.toNat).drop j0.toNat)) j1 0))
   (cond (decide (40 < (((s_0.take j1.toNat).drop j0.toNat).length : Int)))
    (some (z1O.mk (z6.mk 0 0 []) 0 2))
    (some (z1O.mk (z6.mk 1 j0 ((s_0.take j1.toNat).drop j0.toNat)) j1 0)))))
theorem zjb {n:Nat}:K41 (zex n) 147:=by
 intro s_0 j0 r h
 refine zN Tryz.func147 rfl Tryz.ntmps147 rfl (fun w0 o0=>?_)
 refine zh (al fun b1=>?_)
 refine za (ys ?_)
 refine zd (jr h [0,1,4] [1] (fun s (g:Unit)=>[(5,.int .i64 s)]) (fun s g=>[]) (fun _ h _ _ hL5=>?_) ?_)
 ·refine zF (lo h [0,1,4] [1] (fun s (g:Unit)=>[(5,.int .i64 s)]) (fun s g=>[]) () [0] ?_)
  rintro j3 _ _ h _ jk j7
  refine rs ?_
  refine zH (zh (ys ?_))
  refine ob h 5 [5,0,1,4] [1] (fun s=>[(17,.bool s)]) (fun s=>[]) (fun _ h _ _ jd=>?_) ?_
  ·refine z1c 12 (decide (j3<(s_0.length:Int))) rfl (fun j9=>?_) (fun j9=>?_)
   ·replace h:=z2F h j9
    refine yx ?_
    obtain ⟨c18,jz,jA,jB,h⟩:=zP h
    refine zq yr ?_
    refine cl0 [] Tryz.call194 (fun h=>zjd h) h (fun r19 h=>?_)
    refine ys ?_
    exact zr (gb jd [0] h)
   ·replace h:=z2E h j9
    refine ys ?_
    exact zr (gb jd [0] h)
  rintro b12 h
  refine os ?_
  refine zd (rc h (fun _ h=>?_) (fun _ h=>?_))
  ·refine run_skip (zD (zF (z8 (ys ?_))))
   exact zr (zS (gj jk () [0] h))
  ·refine z1h _ rfl ?_
   exact gk hL5 j7 () [0] h
 rintro j1 _ h
 refine rs ?_
 refine zh (ys ?_)
 obtain ⟨hb22,h⟩:=zX h
 refine zq (z5R (l:=j0) (r:=j1) Tryz.runUnderlying9 rfl (bi1 (kd:=.i64) rfl) (bi1 (kd:=.i64) rfl) hb22.1 hb22.2.1 hb22.2.2) ?_
 refine ys ?_
 refine al fun b23=>?_
 refine ys ?_
 refine zc (zH (rj [5,4,6] [0,1] ?_))
 refine z8 (ys ?_)
 refine cl0 [] Tryz.call195 (fun h=>zja h) h (fun r24 h=>?_)
 refine zd (rc h (fun _ h=>?_) (fun _ h=>?_))
 ·refine zh (ys ?_)
  refine za (ys ?_)
  refine zd (zA ?_)
  exact fr [] Tryz.results147 h
 ·refine run_skip (zg (zh (ys ?_)))
  refine zd (rc h (fun _ h=>?_) (fun _ h=>?_))
  ·refine zh (ys ?_)
   refine zd (zA ?_)
   exact fr [] Tryz.results147 h
  ·refine run_skip (ze ?_)
   refine ys ?_
   refine zd (zA ?_)
   exact fr [] Tryz.results147 h
def za4 (b_0:Int):Option (Bool):=
 obind (zbf b_0) fun r1=>
 some ((r1 || (decide (65≤b_0) && decide (b_0≤90))) || decide (b_0=95))
theorem zh5:K1 za4 196:=by
 intro b_0 r h
 refine zN Tryz.func196 rfl Tryz.ntmps196 rfl (fun w0 o0=>?_)
 refine zh (ys ?_)
 refine za (ys ?_)
 refine cl0 [] Tryz.call146 (fun h=>zbK h) h (fun r1 h=>?_)
 refine ys ?_
 refine oe 7 [0] [] (fun s=>[(12,.bool s)]) (r1 || (decide (65≤b_0) && decide (b_0≤90))) (fun _ hL4=>?_) ?_
 ·refine z1c 5 r1 rfl (fun hg5=>?_) (fun hg5=>?_)
  ·skip
   refine ys ?_
   refine z2p 5 true 8 rfl rfl rfl rfl rfl ?_
   refine z2p 5 true 8 rfl rfl rfl rfl rfl ?_
   refine ys ?_
   exact zr (gc hL4 true [] (hi:=by rw [hg5]; simp))
  ·skip
   refine ys ?_
   refine oq 3 8 11 [0,5] [] (decide (65≤b_0) && decide (b_0≤90)) ?_
   refine ys ?_
   exact zr (gc hL4 (decide (65≤b_0) && decide (b_0≤90)) [] (hi:=by rw [hg5]; simp))
 refine os ?_
 refine ys ?_
 refine oq 3 13 16 [] [] ((r1 || (decide (65≤b_0) && decide (b_0≤90))) || decide (b_0=95)) ?_
 refine ys ?_
 refine zd (zA ?_)
 exact fs [2] [] Tryz.results196 h
def z9e (s_0:(List UInt8)):(Int)→Option (Lp (Int) (Lp (Int) (z1O))):=
 fun j3=>
  bindJ (S:=Bool)
   (cond (decide (j3 < (s_0.length : Int)))
    (idx s_0 j3 fun c18=>
    obind (zbd (c18.toNat:Int)) fun r19=>
    some (.go r19))
    (some (.go false)))
  (fun b12 =>
   cond b12
    (some (.go (IntKind.i64.wrap (j3+1))))
    (some (.stop (.go j3))))
def zbJ (n:Nat) (s_0:(List UInt8)) (j0:Int):Option (z1O):=
 bindJ (S:=Int)
  (iter (z9e s_0) n j0)
 (fun j1 =>
  bindJ (S:=Bool)
   (cond (decide (18 < (IntKind.i64.wrap (j1 - j0))))
    (some (.go true))
    (idx s_0 j0 fun c28=>
    some (.go (decide ((c28.toNat:Int)=48) && decide (1<(IntKind.i64.wrap (j1 - j0)))))))
  (fun b22 =>
   bindJ (S:=Bool)
    (cond b22
     (some (.go true))
     (bindJ (S := Bool)
      (cond (decide (j1 < (s_0.length : Int)))
       (idx s_0 j1 fun c44=>
       obind (za4 (c44.toNat:Int)) fun r45=>
       some (.go r45))
       (some (.go false)))
     (fun b38 =>
      some (.go b38))))
   (fun b32 =>
    cond b32
     (some (z1O.mk (z6.mk 0 0 []) 0 181))
     (need (0≤j0∧j0≤j1∧j1≤(s_0.length:Int)) (
     some (z1O.mk (z6.mk 3 j0 ((s_0.take j1.toNat).drop j0.toNat)) j1 0))))))
theorem zh6 {n:Nat}:K41 (zbJ n) 149:=by
 intro s_0 j0 r h
 refine zN Tryz.func149 rfl Tryz.ntmps149 rfl (fun w0 o0=>?_)
 refine zh (al fun b1=>?_)
 refine za (ys ?_)
 refine zd (jr h [0,1,4] [1] (fun s (g:Unit)=>[(5,.int .i64 s)]) (fun s g=>[]) (fun _ h _ _ hL5=>?_) ?_)
 ·refine zF (lo h [0,1,4] [1] (fun s (g:Unit)=>[(5,.int .i64 s)]) (fun s g=>[]) () [0] ?_)
  rintro j3 _ _ h _ jk j7
  refine rs ?_
  refine zH (zh (ys ?_))
  refine ob h 5 [5,0,1,4] [1] (fun s=>[(16,.bool s)]) (fun s=>[]) (fun _ h _ _ jd=>?_) ?_
  ·refine z1c 11 (decide (j3<(s_0.length:Int))) rfl (fun j9=>?_) (fun j9=>?_)
   ·replace h:=z2F h j9
    refine yx ?_
    obtain ⟨c18,jz,jA,jB,h⟩:=zP h
    refine zq yr ?_
    refine cl0 [] Tryz.call148 (fun h=>zbI h) h (fun r19 h=>?_)
    refine ys ?_
    exact zr (gb jd [0] h)
   ·replace h:=z2E h j9
    refine ys ?_
    exact zr (gb jd [0] h)
  rintro b12 h
  refine os ?_
  refine zd (rc h (fun _ h=>?_) (fun _ h=>?_))
  ·refine run_skip (zD (zF (z8 (ys ?_))))
   exact zr (zS (gj jk () [0] h))
  ·refine z1h _ rfl ?_
   exact gk hL5 j7 () [0] h
 rintro j1 _ h
 refine rs ?_
 refine zH (zh (ys ?_))
 refine ob h 11 [5,0,1,4] [1] (fun s=>[(34,.bool s)]) (fun s=>[]) (fun _ h _ _ jC=>?_) ?_
 ·refine z1c 23 (decide (18<(IntKind.i64.wrap (j1 - j0)))) rfl (fun jl=>?_) (fun jl=>?_)
  ·replace h:=z2F h jl
   refine ys ?_
   refine z2p 9 true 28 rfl rfl rfl rfl rfl ?_
   refine z2p 9 true 28 rfl rfl rfl rfl rfl ?_
   refine z2p 9 true 28 rfl rfl rfl rfl rfl ?_
   refine z2p 9 true 28 rfl rfl rfl rfl rfl ?_
   refine ys ?_
   refine oh [0] [box b1 [.int .i64 0,.int .i64 0,.string (bs []),.int .i64 0,.int .i64 0]] ?_
   refine ys ?_
   exact zr (gb jC [0] h)
  ·replace h:=z2E h jl
   refine yx ?_
   obtain ⟨c28,j0a,j0b,j0c,h⟩:=zP h
   refine zq yr ?_
   refine ys ?_
   refine oe 5 [5,0,1,4,23] [1] (fun s=>[(33,.bool s)]) (decide ((c28.toNat:Int)=48) && decide (1<(IntKind.i64.wrap (j1 - j0)))) (fun _ jD=>?_) ?_
   ·refine z1c 28 (decide ((c28.toNat:Int)=48)) rfl (fun jm=>?_) (fun jm=>?_)
    ·skip
     refine ys ?_
     refine oh [0] [box b1 [.int .i64 0,.int .i64 0,.string (bs []),.int .i64 0,.int .i64 0]] ?_
     refine ys ?_
     exact zr (gc jD (decide (1<(IntKind.i64.wrap (j1 - j0)))) [0] (hi:=by rw [jm]; simp))
    ·skip
     refine ys ?_
     refine oh [0] [box b1 [.int .i64 0,.int .i64 0,.string (bs []),.int .i64 0,.int .i64 0]] ?_
     refine ys ?_
     exact zr (gc jD false [0] (hi:=by rw [jm]; simp))
   refine os ?_
   refine ys ?_
   exact zr (gb jC [0] h)
 rintro b22 h
 refine os ?_
 refine ys ?_
 refine ob h 11 [5,0,1,4] [1] (fun s=>[(46,.bool s)]) (fun s=>[]) (fun _ h _ _ jE=>?_) ?_
 ·refine z1c 35 b22 rfl (fun jn=>?_) (fun jn=>?_)
  ·replace h:=z2F h jn
   refine ys ?_
   refine z2p 21 true 40 rfl rfl rfl rfl rfl ?_
   refine z2p 21 true 40 rfl rfl rfl rfl rfl ?_
   refine z2p 21 true 40 rfl rfl rfl rfl rfl ?_
   refine z2p 21 true 40 rfl rfl rfl rfl rfl ?_
   refine ys ?_
   exact zr (gb jE [0] h)
  ·replace h:=z2E h jn
   refine ys ?_
   refine ob h 5 [5,0,1,4,35] [1] (fun s=>[(45,.bool s)]) (fun s=>[]) (fun _ h _ _ jF=>?_) ?_
   ·refine z1c 40 (decide (j1<(s_0.length:Int))) rfl (fun jo=>?_) (fun jo=>?_)
    ·replace h:=z2F h jo
     refine yx ?_
     obtain ⟨c44,j0d,j0e,j0f,h⟩:=zP h
     refine zq yr ?_
     refine cl0 [] Tryz.call196 (fun h=>zh5 h) h (fun r45 h=>?_)
     refine ys ?_
     exact zr (gb jF [0] h)
    ·replace h:=z2E h jo
     refine ys ?_
     exact zr (gb jF [0] h)
   rintro b38 h
   refine os ?_
   refine ys ?_
   exact zr (gb jE [0] h)
 rintro b32 h
 refine os ?_
 refine zd (rc h (fun _ h=>?_) (fun _ h=>?_))
 ·refine zh (ys ?_)
  refine zd (zA ?_)
  exact fr [] Tryz.results149 h
 ·refine run_skip (ze ?_)
  refine ys ?_
  obtain ⟨hb48,h⟩:=zX h
  refine zq (z5R (l:=j0) (r:=j1) Tryz.runUnderlying9 rfl (bi1 (kd:=.i64) rfl) (bi1 (kd:=.i64) rfl) hb48.1 hb48.2.1 hb48.2.2) ?_
  refine ys ?_
  refine zd (zA ?_)
  exact fr [] Tryz.results149 h
def zcD (s_0:(List UInt8)) (j0:Int):((List UInt8)×Int)→Option (Lp ((List UInt8)×Int) (Lp (Unit) (z1O))):=
 fun (j4,i_7)=>
  cond (decide (i_7<(s_0.length:Int)))
   (idx s_0 i_7 fun c14=>
   cond (decide ((c14.toNat:Int)=34))
    (cond (decide (200 < (j4.length : Int)))
     (some (.stop (.stop (z1O.mk (z6.mk 0 0 []) 0 182))))
     (some (.stop (.stop (z1O.mk (z6.mk 4 j0 j4) (IntKind.i64.wrap (i_7+1)) 0)))))
    (cond (decide ((c14.toNat : Int) < 32) || decide (126 < (c14.toNat : Int)))
     (some (.stop (.stop (z1O.mk (z6.mk 0 0 []) 0 182))))
     (bindJ (S := Int × Int)
      (cond (decide ((c14.toNat : Int) = 92))
       (bindJ (S := Bool)
        (cond (decide ((IntKind.i64.wrap (i_7 + 1)) = (s_0.length : Int)))
         (some (.go true))
         (idx s_0 (IntKind.i64.wrap (i_7+1)) fun c34=>
         bindJ (S:=Bool)
          (cond (decide ((c34.toNat : Int) ≠ 34))
           (idx s_0 (IntKind.i64.wrap (i_7+1)) fun c41=>
           some (.go (decide ((c41.toNat:Int)≠92))))
           (some (.go false)))
         (fun b35 =>
          some (.go b35))))
       (fun b28 =>
        cond b28
         (some (.stop (.stop (.stop (z1O.mk (z6.mk 0 0 []) 0 182)))))
         (idx s_0 (IntKind.i64.wrap (i_7+1)) fun c43=>
         some (.go ((IntKind.i64.wrap (i_7+1)),(c43.toNat:Int))))))
       (some (.go (i_7,(c14.toNat:Int)))))
     (fun (jG, j8) =>
      need (0≤j8∧j8≤255) (
      need (j4.length+([(j8).toNat.toUInt8]:List UInt8).length≤4294967296) (
      some (.go ((j4++([(j8).toNat.toUInt8]:List UInt8)),(IntKind.i64.wrap (jG+1))))))))))
   (some (.stop (.go ())))
def zeB (n:Nat) (s_0:(List UInt8)) (j0:Int):Option (z1O):=
 bindJ (S:=Unit)
  (iter (zcD s_0 j0) n (([]:List UInt8),(IntKind.i64.wrap (j0+1))))
 (fun _ =>
  some (z1O.mk (z6.mk 0 0 []) 0 182))
theorem zjf {n:Nat}:K41 (zeB n) 150:=by
 intro s_0 j0 r h
 refine zN Tryz.func150 rfl Tryz.ntmps150 rfl (fun w0 o0=>?_)
 refine zh (al fun b1=>?_)
 refine za (ys ?_)
 refine zd (jr h [4] [1] (fun s (g:Unit)=>[]) (fun s g=>[]) (fun _ h ho3 _ hL4=>?_) ?_)
 ·refine zh (ys ?_)
  refine zd (zF (z3x (nilrow 1) ?_))
  refine z3x (retell 1 (g:=row (.slice none 0 0) 1 (([]:List UInt8).map eB8)) rfl rfl) ?_
  refine lo h [0,1,4] [0,1] (fun s (g:Value)=>[(5,g),(6,.int .i64 s.2)]) (fun s g=>[row g 1 (s.1.map eB8)]) _ [1,0] ?_
  rintro ⟨j4,i_7⟩ v8 _ h _ jc j2
  refine rs ?_
  refine zH (zh (ys ?_))
  refine zd (rc h (fun _ h=>?_) (fun _ h=>?_))
  ·refine run_skip (zg (zF (zh (yx ?_))))
   obtain ⟨c14,j0g,j0h,j0i,h⟩:=zP h
   refine zq yr ?_
   refine ys ?_
   refine zc (zH (rj [5,6,0,1,4,7] [0,1] ?_))
   refine z8 (ys ?_)
   refine zd (rc h (fun _ h=>?_) (fun _ h=>?_))
   ·refine zH (zh (ys ?_))
    refine zd (rc h (fun _ h=>?_) (fun _ h=>?_))
    ·refine zh (ys ?_)
     refine zd (zA ?_)
     obtain rfl:=zU h
     obtain rfl:=j2 _ rfl
     skip
     obtain rfl:=zM ho3
     exact fq [] Tryz.results150
    ·refine run_skip (ze ?_)
     refine ys ?_
     refine zq (y_b2s (l:=j4) 0 Tryz.runUnderlying58 Tryz.runUnderlying5 Tryz.runUnderlying9 rfl rfl z1d) ?_
     refine ys ?_
     refine zd (zA ?_)
     obtain rfl:=zU h
     obtain rfl:=j2 _ rfl
     skip
     obtain rfl:=zM ho3
     exact fq [] Tryz.results150
   ·refine run_skip (zg (zh (ys ?_)))
    refine oq 3 34 37 [5,6,0,1,4,7] [0,1] (decide ((c14.toNat:Int)<32) || decide (126<(c14.toNat:Int))) ?_
    refine zd (rc h (fun _ h=>?_) (fun _ h=>?_))
    ·refine zh (ys ?_)
     refine zd (zA ?_)
     obtain rfl:=zU h
     obtain rfl:=j2 _ rfl
     skip
     obtain rfl:=zM ho3
     exact fq [] Tryz.results150
    ·refine run_skip (zD (jr h [0,1,4,5] [2,1] (fun s (g:Unit)=>[(6,.int .i64 s.1),(7,.int .u8 s.2)]) (fun s g=>[]) (fun _ h jO _ jH=>?_) ?_))
     ·refine zh (ys ?_)
      refine zd (rc h (fun _ h=>?_) (fun _ h=>?_))
      ·refine zh (ys ?_)
       refine zc (zh (ys ?_))
       refine ob h 11 [5,6,0,1,4] [1,2] (fun s=>[(58,.bool s)]) (fun s=>[]) (fun _ h _ _ jI=>?_) ?_
       ·refine z1c 47 (decide ((IntKind.i64.wrap (i_7+1))=(s_0.length:Int))) rfl (fun jp=>?_) (fun jp=>?_)
        ·replace h:=z2F h jp
         refine ys ?_
         refine oh [0,1] [row v8 1 (j4.map eB8),box b1 [.int .i64 0,.int .i64 0,.string (bs []),.int .i64 0,.int .i64 0]] ?_
         refine z2p 9 true 52 rfl rfl rfl rfl rfl ?_
         refine z2p 9 true 52 rfl rfl rfl rfl rfl ?_
         refine z2p 9 true 52 rfl rfl rfl rfl rfl ?_
         refine z2p 9 true 52 rfl rfl rfl rfl rfl ?_
         refine ys ?_
         exact zr (gb jI [0,1] h)
        ·replace h:=z2E h jp
         refine yx ?_
         obtain ⟨c34,j0j,j0k,j0l,h⟩:=zP h
         refine zq yr ?_
         refine ys ?_
         refine oh [0,1] [row v8 1 (j4.map eB8),box b1 [.int .i64 0,.int .i64 0,.string (bs []),.int .i64 0,.int .i64 0]] ?_
         refine ob h 5 [5,6,0,1,4,47] [1,2] (fun s=>[(57,.bool s)]) (fun s=>[]) (fun _ h _ _ jJ=>?_) ?_
         ·refine z1c 52 (decide ((c34.toNat:Int)≠34)) rfl (fun jq=>?_) (fun jq=>?_)
          ·replace h:=z2F h jq
           refine yx ?_
           obtain ⟨c41,j0m,j0n,j0o,h⟩:=zP h
           refine zq yr ?_
           refine ys ?_
           exact zr (gb jJ [0,1] h)
          ·replace h:=z2E h jq
           refine ys ?_
           exact zr (gb jJ [0,1] h)
         rintro b35 h
         refine os ?_
         refine ys ?_
         exact zr (gb jI [0,1] h)
       rintro b28 h
       refine os ?_
       refine zd (rc h (fun _ h=>?_) (fun _ h=>?_))
       ·refine zh (ys ?_)
        refine zd (zA ?_)
        obtain rfl:=zU h
        obtain rfl:=zM jO
        skip
        obtain rfl:=j2 _ rfl
        skip
        obtain rfl:=zM ho3
        exact fq [] Tryz.results150
       ·refine run_skip (zf ?_)
        refine yx ?_
        obtain ⟨c43,j0p,j0q,j0r,h⟩:=zP h
        refine zq yr ?_
        refine ys ?_
        exact zr (gj jH () [1,0] h)
      ·exact run_skip (gj jH () [1,0] h)
     rintro ⟨jG,j8⟩ _ h
     refine rs ?_
     refine z8 (ys ?_)
     obtain ⟨hi45,h⟩:=zX h
     refine zt (t_lit [.int .u8 j8] Tryz.runUnderlying58 Tryz.sizeOf5 Tryz.zeroValue5 rfl (by decide) (by decide) rfl (by simp [Value.cells,boxP])) ?_
     rintro v44 _ ⟨rfl,_⟩
     refine zB (retell 2 (g:=row v44 1 (([(j8).toNat.toUInt8]:List UInt8).map eB8)) rfl (congrArg (row _ _) (by simp only [yI,List.map_nil,zpG hi45]; rfl))) ?_
     obtain ⟨jK,h⟩:=zX h
     refine zt (z1U (es:=1) 1 rfl Tryz.runUnderlying58 rfl Tryz.runUnderlying58 (.inr ⟨_,rfl⟩) Tryz.typeInfo5 rfl (by decide) Tryz.zeroValue5 rfl rfl rfl rfl (z1C 2 rfl z1d (z42 zhZ _)) (z1T jK (by decide)) (z2H jK)) ?_
     rintro v46 _ rfl
     refine zB (retell 1 (g:=row v46 1 ((j4++([(j8).toNat.toUInt8]:List UInt8)).map eB8)) rfl (congrArg (row _ _) List.map_append.symm)) ?_
     refine ys ?_
     refine zr (zS (zf ?_))
     refine ys ?_
     exact zr (gj jc _ [1,0] h)
  ·refine z1h _ rfl ?_
   exact gk hL4 j2 () [1] h
 rintro _ _ h
 refine rs ?_
 refine zh (ys ?_)
 refine zd (zA ?_)
 exact fr [] Tryz.results150 h
def zfl  : Option ((List (List UInt8))):=
 some ([[61,61],[33,61],[60,61],[62,61],[46,46],[123],[125],[40],[41],[91],[93],[44],[59],[58],[61],[60],[62],[43],[45],[42],[47],[37]]:List (List UInt8))
theorem zig:K5 zfl 197:=by
 intro  r h
 refine zN Tryz.func197 rfl Tryz.ntmps197 rfl (fun w0 o0=>?_)
 refine zh (ys ?_)
 refine za (zt (t_lit [.string (bs [61,61]),.string (bs [33,61]),.string (bs [60,61]),.string (bs [62,61]),.string (bs [46,46]),.string (bs [123]),.string (bs [125]),.string (bs [40]),.string (bs [41]),.string (bs [91]),.string (bs [93]),.string (bs [44]),.string (bs [59]),.string (bs [58]),.string (bs [61]),.string (bs [60]),.string (bs [62]),.string (bs [43]),.string (bs [45]),.string (bs [42]),.string (bs [47]),.string (bs [37])] Tryz.runUnderlying62 Tryz.sizeOf9 Tryz.zeroValue9 rfl (by decide) (by decide) rfl (by simp [Value.cells,boxP])) ?_)
 rintro v1 _ ⟨rfl,_⟩
 refine zB (retell 0 (g:=row v1 1 (([[61,61],[33,61],[60,61],[62,61],[46,46],[123],[125],[40],[41],[91],[93],[44],[59],[58],[61],[60],[62],[43],[45],[42],[47],[37]]:List (List UInt8)).map eStr)) rfl rfl) ?_
 refine ys ?_
 refine zd (zA ?_)
 exact fs [0] [0] Tryz.results197 h
def zcB (s_0:(List UInt8)) (j0:Int) (r2:(List (List UInt8))):(Int)→Option (Lp (Int) (Lp (Unit) (z1O))):=
 fun i_9=>
  cond (decide (i_9<(r2.length:Int)))
   (idx r2 i_9 fun x15=>
   bindJ (S:=Bool)
    (cond (decide ((IntKind.i64.wrap (j0 + (x15.length : Int))) ≤ (s_0.length : Int)))
     (need (0≤j0∧j0≤(IntKind.i64.wrap (j0+(x15.length:Int)))∧(IntKind.i64.wrap (j0+(x15.length:Int)))≤(s_0.length:Int)) (
     some (.go (decide (((s_0.take (((IntKind.i64.wrap (j0+(x15.length:Int)))).toNat)).drop j0.toNat)=x15)))))
     (some (.go false)))
   (fun b16 =>
    cond b16
     (idx r2 i_9 fun x24=>
     some (.stop (.stop (z1O.mk (z6.mk 5 j0 x24) (IntKind.i64.wrap (j0+(x15.length:Int))) 0))))
     (some (.go (IntKind.i64.wrap (i_9+1))))))
   (some (.stop (.go ())))
def zeA (n:Nat) (s_0:(List UInt8)) (j0:Int):Option (z1O):=
 obind (zfl) fun r2=>
 bindJ (S:=Unit)
  (iter (zcB s_0 j0 r2) n 0)
 (fun _ =>
  some (z1O.mk (z6.mk 0 0 []) 0 180))
theorem zje {n:Nat}:K41 (zeA n) 151:=by
 intro s_0 j0 r h
 refine zN Tryz.func151 rfl Tryz.ntmps151 rfl (fun w0 o0=>?_)
 refine zh (al fun b1=>?_)
 refine za ?_
 obtain ⟨r2,hr3,h⟩:=zJ h
 refine zt (tc [] Tryz.call197 (zig hr3)) ?_
 rintro v4 _ ⟨_,⟨_,rfl,rfl⟩,rfl⟩
 refine ys ?_
 refine zd (jr h [4] [1] (fun s (g:Unit)=>[]) (fun s g=>[]) (fun _ h ho6 _ hL7=>?_) ?_)
 ·refine zh (ys ?_)
  refine zd (zF (lo h [0,1,4,5] [1,2] (fun s (g:Unit)=>[(6,.int .i64 s)]) (fun s g=>[]) () [0,1] ?_))
  rintro _ _ _ h _ jL ja
  refine rs ?_
  refine zH (zh (ys ?_))
  refine zd (rc h (fun _ h=>?_) (fun _ h=>?_))
  ·refine run_skip (zg (zF (zh (yx ?_))))
   obtain ⟨x15,j0s,j0t,j0u,h⟩:=zP h
   refine zq yr ?_
   refine ys ?_
   refine zc (rj [6,0,1,4,5,7] [0,1] ?_)
   refine z4U (by kernel_rfl) (by kernel_rfl) ?_
   refine yu ?_
   refine sbj h 12 [6,0,1,4,5,7] [1,2] (fun s=>[(38,.bool s)]) (fun s=>[]) (fun _ h _ _ jM=>?_) ?_
   ·refine z86 26 (decide ((IntKind.i64.wrap (j0+(x15.length:Int)))≤(s_0.length:Int))) rfl (fun js=>?_) (fun js=>?_)
    ·replace h:=z2F h js
     refine yu ?_
     obtain ⟨hb22,h⟩:=zX h
     refine zu (z5R (l:=j0) (r:=(IntKind.i64.wrap (j0+(x15.length:Int)))) Tryz.runUnderlying9 rfl (bi1 (kd:=.i64) rfl) (bi1 (kd:=.i64) rfl) hb22.1 hb22.2.1 hb22.2.2) ?_
     refine yu ?_
     refine z2m ?_
     exact gb jM [0,1] h
    ·replace h:=z2E h js
     refine yu ?_
     refine z2m ?_
     exact gb jM [0,1] h
   rintro b16 h
   refine ss' ?_
   refine z2m ?_
   refine zD (rc h (fun _ h=>?_) (fun _ h=>?_))
   ·refine zh (yx ?_)
    obtain ⟨x24,j0v,j0w,j0x,h⟩:=zP h
    refine zq yr ?_
    refine ys ?_
    refine zd (zA ?_)
    obtain rfl:=zU h
    obtain rfl:=ja _ rfl
    skip
    obtain rfl:=zM ho6
    exact fq [] Tryz.results151
   ·refine run_skip (zS (zf ?_))
    refine ys ?_
    exact zr (gj jL () [0,1] h)
  ·refine z1h _ rfl ?_
   exact gk hL7 ja () [0] h
 rintro _ _ h
 refine rs ?_
 refine zh (ys ?_)
 refine zd (zA ?_)
 exact fr [] Tryz.results151 h
end Go.Proofs.YtcmaoifiiigggaaGreatDoor
