/-
  Functions that the law ParserMatchesSpec needs, lifted.
-/
import Derived.Test.YtcmaoifiiigggaaGreatDoorV8Fa
set_option linter.unusedSimpArgs false
set_option linter.unusedVariables false
namespace Go.Proofs.YtcmaoifiiigggaaGreatDoor
open Go.Abs Tryz
set_option maxRecDepth 20000
set_option maxHeartbeats 4000000
def zaD (s_0:(List UInt8)):(Int)→Option (Lp (Int) (Lp (Int) (Lp (Int) (Lp (Int) (Int))))):=
 fun j6=>
  bindJ (S:=Bool)
   (cond (decide (j6 < (s_0.length : Int)))
    (idx s_0 j6 fun c30=>
    some (.go (decide ((c30.toNat:Int)≠10))))
    (some (.go false)))
  (fun b24 =>
   cond b24
    (some (.go (IntKind.i64.wrap (j6+1))))
    (some (.stop (.go j6))))
def zcC (n:Nat) (s_0:(List UInt8)):(Int)→Option (Lp (Int) (Lp (Int) (Int))):=
 fun j5=>
  cond (decide (j5<(s_0.length:Int)))
   (idx s_0 j5 fun c12=>
   cond (decide ((c12.toNat:Int)=35))
    (bindJ (S := Int)
     (iter (zaD s_0) n j5)
    (fun jf =>
     some (.go jf)))
    (idx s_0 j5 fun c32=>
    bindJ (S:=Bool)
     (cond (decide ((c32.toNat : Int) ≠ 32))
      (idx s_0 j5 fun c39=>
      some (.go (decide ((c39.toNat:Int)≠9))))
      (some (.go false)))
    (fun b33 =>
     bindJ (S:=Bool)
      (cond b33
       (idx s_0 j5 fun c46=>
       some (.go (decide ((c46.toNat:Int)≠10))))
       (some (.go false)))
     (fun b40 =>
      bindJ (S:=Bool)
       (cond b40
        (idx s_0 j5 fun c53=>
        some (.go (decide ((c53.toNat:Int)≠13))))
        (some (.go false)))
      (fun b47 =>
       cond b47
        (some (.stop (.stop j5)))
        (some (.go (IntKind.i64.wrap (j5+1)))))))))
   (some (.stop (.go j5)))
def zbe (n:Nat) (s_0:(List UInt8)) (j0:Int):Option (Int):=
 bindJ (S:=Int)
  (iter (zcC n s_0) n j0)
 (fun j0 =>
  some j0)
theorem zfD {n:Nat} {s_0:(List UInt8)} {j0:Int} {r:Int} (h:zbe n s_0 j0=some r) :
  Meets Tryz.prog 83 [.string (bs s_0),.int .i64 j0] [] (fun v G=>v = .int .i64 r∧G=[]):=by
 refine zN func83 rfl ntmps83 rfl (fun w0 o0=>?_)
 refine yn 2 ?_
 refine zd (jr h [] [] (fun s (g:Unit)=>[(1,.int .i64 s)]) (fun s g=>[]) (fun _ h ho3 _ hL4=>?_) ?_)
 ·refine zF (lo h [0] [] (fun s (g:Unit)=>[(1,.int .i64 s)]) (fun s g=>[]) () [] ?_)
  rintro _ _ _ h _ ju jb
  refine rs ?_
  refine yc 4 h (fun _ h=>?_) fun _ h=>?_
  ·refine yn 5 ?_
   refine yx ?_
   obtain ⟨c12,jQ,jR,jS,h⟩:=zP h
   refine zq yr ?_
   refine yc 2 h (fun _ h=>?_) fun _ h=>?_
   ·refine jr h [0] [] (fun s (g:Unit)=>[(1,.int .i64 s)]) (fun s g=>[]) (fun _ h _ _ jN=>?_) ?_
    ·refine zF (lo h [0] [] (fun s (g:Unit)=>[(1,.int .i64 s)]) (fun s g=>[]) () [] ?_)
     rintro j6 _ _ h _ jv je
     refine rs ?_
     refine yn 3 ?_
     refine ob h 5 [1,0] [] (fun s=>[(22,.bool s)]) (fun s=>[]) (fun _ h _ _ jw=>?_) ?_
     ·refine z1c 17 (decide (j6<(s_0.length:Int))) rfl (fun jg=>?_) (fun jg=>?_)
      ·replace h:=z2F h jg
       refine yx ?_
       obtain ⟨c30,jT,jU,jV,h⟩:=zP h
       refine zq yr ?_
       refine yn 2 ?_
       exact gb jw [] h
      ·replace h:=z2E h jg
       refine yn 2 ?_
       exact gb jw [] h
     rintro b24 h
     refine os ?_
     refine yc 1 h (fun _ h=>?_) fun _ h=>?_
     ·refine yn 7 ?_
      exact gj jv () [] h
     ·refine z1h _ rfl ?_
      exact gk jN je () [] h
    rintro jf _ h
    refine rs ?_
    refine z1h _ rfl ?_
    exact gj ju () [] h
   ·refine yn 2 ?_
    refine zH (rj [1,0] [] ?_)
    refine z8 (yx ?_)
    obtain ⟨c32,jW,jX,jY,h⟩:=zP h
    refine zq yr ?_
    refine ys ?_
    refine ob h 5 [1,0] [] (fun s=>[(34,.bool s)]) (fun s=>[]) (fun _ h _ _ jx=>?_) ?_
    ·refine z1c 29 (decide ((c32.toNat:Int)≠32)) rfl (fun jh=>?_) (fun jh=>?_)
     ·replace h:=z2F h jh
      refine yx ?_
      obtain ⟨c39,jZ,j00,j01,h⟩:=zP h
      refine zq yr ?_
      refine yn 2 ?_
      exact gb jx [] h
     ·replace h:=z2E h jh
      refine yn 2 ?_
      exact gb jx [] h
    rintro b33 h
    refine os ?_
    refine ys ?_
    refine ob h 5 [1,0] [] (fun s=>[(40,.bool s)]) (fun s=>[]) (fun _ h _ _ jy=>?_) ?_
    ·refine z1c 35 b33 rfl (fun ji=>?_) (fun ji=>?_)
     ·replace h:=z2F h ji
      refine yx ?_
      obtain ⟨c46,j02,j03,j04,h⟩:=zP h
      refine zq yr ?_
      refine yn 2 ?_
      exact gb jy [] h
     ·replace h:=z2E h ji
      refine yn 2 ?_
      exact gb jy [] h
    rintro b40 h
    refine os ?_
    refine ys ?_
    refine ob h 5 [1,0] [] (fun s=>[(46,.bool s)]) (fun s=>[]) (fun _ h _ _ jz=>?_) ?_
    ·refine z1c 41 b40 rfl (fun jj=>?_) (fun jj=>?_)
     ·replace h:=z2F h jj
      refine yx ?_
      obtain ⟨c53,j05,j06,j07,h⟩:=zP h
      refine zq yr ?_
      refine yn 2 ?_
      exact gb jz [] h
     ·replace h:=z2E h jj
      refine yn 2 ?_
      exact gb jz [] h
    rintro b47 h
    refine os ?_
    refine yc 1 h (fun _ h=>?_) fun _ h=>?_
    ·refine yn 4 ?_
     obtain rfl:=zU h
     obtain rfl:=jb _ rfl
     skip
     obtain rfl:=zM ho3
     exact ft [4] [] results83
    ·refine yn 5 ?_
     exact gj ju () [] h
  ·refine z1h _ rfl ?_
   exact gk hL4 jb () [] h
 rintro j0 _ h
 refine rs ?_
 refine yn 4 ?_
 exact fs [4] [] results83 h
def zbf (b_0:Int):Option (Bool):=
 some (decide (97≤b_0) && decide (b_0≤122))
theorem zbK:K1 zbf 146:=by
 intro b_0 r h
 refine zN func146 rfl ntmps146 rfl (fun w0 o0=>?_)
 refine yn 4 ?_
 refine oq 3 5 8 [] [] (decide (97≤b_0) && decide (b_0≤122)) ?_
 refine yn 3 ?_
 exact fs [2] [] results146 h
def zbd (b_0:Int):Option (Bool):=
 some (decide (48≤b_0) && decide (b_0≤57))
theorem zbI:K1 zbd 148:=by
 intro b_0 r h
 refine zN func148 rfl ntmps148 rfl (fun w0 o0=>?_)
 refine yn 4 ?_
 refine oq 3 5 8 [] [] (decide (48≤b_0) && decide (b_0≤57)) ?_
 refine yn 3 ?_
 exact fs [2] [] results148 h
def zez (b_0:Int):Option (Bool):=
 obind (zbf b_0) fun r1=>
 bindJ (S:=Bool)
  (cond r1
   (some (.go true))
   (obind (zbd b_0) fun r9=>
   some (.go r9)))
 (fun b3 =>
  some (b3 || decide (b_0=95)))
theorem zjd:K1 zez 194:=by
 intro b_0 r h
 refine zN func194 rfl ntmps194 rfl (fun w0 o0=>?_)
 refine yn 4 ?_
 refine cl0 [] call146 (fun h=>zbK h) h (fun r1 h=>?_)
 refine ys ?_
 refine ob h 3 [0] [] (fun s=>[(8,.bool s)]) (fun s=>[]) (fun _ h _ _ hL7=>?_) ?_
 ·refine z1c 5 r1 rfl (fun hg8=>?_) (fun hg8=>?_)
  ·replace h:=z2F h hg8
   refine yn 2 ?_
   exact gb hL7 [] h
  ·replace h:=z2E h hg8
   refine ys ?_
   refine cl0 [] call148 (fun h=>zbI h) h (fun r9 h=>?_)
   refine yn 2 ?_
   exact gb hL7 [] h
 rintro b3 h
 refine os ?_
 refine ys ?_
 refine oq 3 9 12 [] [] (b3 || decide (b_0=95)) ?_
 refine yn 3 ?_
 exact fs [2] [] results194 h
def zfm  : Option ((List (List UInt8))):=
 some ([[97,108,108,111,119],[97,110,100],[99,108,105,101,110,116,115],[99,111,115,116],[99,111,117,110,116,114,105,101,115],[100,101,102,97,117,108,116],[100,101,110,121],[100,111,119,110],[101,102,102,101,99,116,115],[101,108,115,101],[102,97,108,115,101],[102,114,101,115,104],[102,114,111,109],[104,101,97,100,101,114],[105,102],[105,110],[108,101,116],[108,111,103],[110,101,103,97,116,105,118,101],[110,111,116],[111,114],[112,97,116,116,101,114,110],[112,111,108,105,99,121],[112,114,111,103,114,97,109],[114,101,97,100,115],[114,101,112,101,97,116],[114,101,112,108,121],[114,117,108,101],[115,101,116],[115,105,103,110,101,100],[115,105,116,101,115],[115,116,97,108,101],[115,116,97,116,117,115],[116,97,103,115],[116,111],[116,114,117,101],[117,115,101,115],[118,97,114,121],[119,114,105,116,101,115]]:List (List UInt8))
theorem zih:K5 zfm 218:=by
 intro  r h
 refine zN func218 rfl ntmps218 rfl (fun w0 o0=>?_)
 refine yn 3 ?_
 refine lS [[97,108,108,111,119],[97,110,100],[99,108,105,101,110,116,115],[99,111,115,116],[99,111,117,110,116,114,105,101,115],[100,101,102,97,117,108,116],[100,101,110,121],[100,111,119,110],[101,102,102,101,99,116,115],[101,108,115,101],[102,97,108,115,101],[102,114,101,115,104],[102,114,111,109],[104,101,97,100,101,114],[105,102],[105,110],[108,101,116],[108,111,103],[110,101,103,97,116,105,118,101],[110,111,116],[111,114],[112,97,116,116,101,114,110],[112,111,108,105,99,121],[112,114,111,103,114,97,109],[114,101,97,100,115],[114,101,112,101,97,116],[114,101,112,108,121],[114,117,108,101],[115,101,116],[115,105,103,110,101,100],[115,105,116,101,115],[115,116,97,108,101],[115,116,97,116,117,115],[116,97,103,115],[116,111],[116,114,117,101],[117,115,101,115],[118,97,114,121],[119,114,105,116,101,115]] fun _=>?_
 refine yn 3 ?_
 exact fs [0] [0] results218 h
def zcA (s_0:(List UInt8)) (r1:(List (List UInt8))):(Int)→Option (Lp (Int) (Lp (Unit) (Bool))):=
 fun i_8=>
  cond (decide (i_8<(r1.length:Int)))
   (idx r1 i_8 fun x14=>
   cond (decide (x14=s_0))
    (some (.stop (.stop true)))
    (some (.go (IntKind.i64.wrap (i_8+1)))))
   (some (.stop (.go ())))
def zew (n:Nat) (s_0:(List UInt8)):Option (Bool):=
 obind (zfm) fun r1=>
 bindJ (S:=Unit)
  (iter (zcA s_0 r1) n 0)
 (fun _ =>
  some false)
theorem zja {n:Nat} {s_0:(List UInt8)} {r:Bool} (h:zew n s_0=some r) :
  Meets Tryz.prog 195 [.string (bs s_0)] [] (fun v G=>v = .bool r∧G=[]):=by
 refine zN func195 rfl ntmps195 rfl (fun w0 o0=>?_)
 refine yn 3 ?_
 obtain ⟨r1,hr2,h⟩:=zJ h
 refine zt (tc [] call218 (zih hr2)) ?_
 rintro v3 _ ⟨_,⟨_,rfl,rfl⟩,rfl⟩
 refine ys ?_
 refine zd (jr h [] [] (fun s (g:Unit)=>[]) (fun s g=>[]) (fun _ h ho5 _ hL6=>?_) ?_)
 ·refine yn 4 ?_
  refine lo h [0,3] [1] (fun s (g:Unit)=>[(4,.int .i64 s)]) (fun s g=>[]) () [0] ?_
  rintro _ _ _ h _ jc j2
  refine rs ?_
  refine yc 4 h (fun _ h=>?_) fun _ h=>?_
  ·refine yn 4 ?_
   refine yx ?_
   obtain ⟨x14,j08,j09,j0a,h⟩:=zP h
   refine zq yr ?_
   refine yc 2 h (fun _ h=>?_) fun _ h=>?_
   ·refine zH (rj [] [] ?_)
    refine yn 4 ?_
    obtain rfl:=zU h
    obtain rfl:=j2 _ rfl
    skip
    obtain rfl:=zM ho5
    exact ft [2] [] results195
   ·refine yn 2 ?_
    refine zD (rj [4,0,3] [0] ?_)
    refine yn 3 ?_
    exact gj jc () [0] h
  ·refine z1h _ rfl ?_
   exact gk hL6 j2 () [] h
 rintro _ _ h
 refine rs ?_
 refine yn 4 ?_
 exact fs [2] [] results195 h
def zaC (s_0:(List UInt8)):(Int)→Option (Lp (Int) (Lp (Int) (z1O))):=
 fun j3=>
  bindJ (S:=Bool)
   (cond (decide (j3 < (s_0.length : Int)))
    (idx s_0 j3 fun c18=>
    obind (zez (c18.toNat:Int)) fun r19=>
    some (.go r19))
    (some (.go false)))
  (fun b12 =>
   cond b12
    (some (.go (IntKind.i64.wrap (j3+1))))
    (some (.stop (.go j3))))
def zex (n:Nat) (s_0:(List UInt8)) (j0:Int):Option (z1O):=
 bindJ (S:=Int)
  (iter (zaC s_0) n j0)
 (fun j1 =>
  need (0≤j0∧j0≤j1∧j1≤(s_0.length:Int)) (
  obind (zew n ((s_0.take j1.toNat).drop j0.toNat)) fun r24=>
  cond r24
   (some (z1O.mk (z6.mk 2 j0 ((s_0.take j1.toNat).drop j0.toNat)) j1 0))
   (cond (decide (40 < (((s_0.take j1.toNat).drop j0.toNat).length : Int)))
    (some (z1O.mk (z6.mk 0 0 []) 0 2))
    (some (z1O.mk (z6.mk 1 j0 ((s_0.take j1.toNat).drop j0.toNat)) j1 0)))))
theorem zjb {n:Nat}:K41 (zex n) 147:=by
 intro s_0 j0 r h
 refine zN func147 rfl ntmps147 rfl (fun w0 o0=>?_)
 refine zh (al fun b1=>?_)
 refine yn 2 ?_
 refine zd (jr h [0,1,4] [1] (fun s (g:Unit)=>[(5,.int .i64 s)]) (fun s g=>[]) (fun _ h _ _ hL5=>?_) ?_)
 ·refine zF (lo h [0,1,4] [1] (fun s (g:Unit)=>[(5,.int .i64 s)]) (fun s g=>[]) () [0] ?_)
  rintro j3 _ _ h _ jk j7
  refine rs ?_
  refine yn 3 ?_
  refine ob h 5 [5,0,1,4] [1] (fun s=>[(17,.bool s)]) (fun s=>[]) (fun _ h _ _ jd=>?_) ?_
  ·refine z1c 12 (decide (j3<(s_0.length:Int))) rfl (fun j8=>?_) (fun j8=>?_)
   ·replace h:=z2F h j8
    refine yx ?_
    obtain ⟨c18,jA,jB,jC,h⟩:=zP h
    refine zq yr ?_
    refine cl0 [] call194 (fun h=>zjd h) h (fun r19 h=>?_)
    refine yn 2 ?_
    exact gb jd [0] h
   ·replace h:=z2E h j8
    refine yn 2 ?_
    exact gb jd [0] h
  rintro b12 h
  refine os ?_
  refine yc 1 h (fun _ h=>?_) fun _ h=>?_
  ·refine yn 7 ?_
   exact gj jk () [0] h
  ·refine z1h _ rfl ?_
   exact gk hL5 j7 () [0] h
 rintro j1 _ h
 refine rs ?_
 refine yn 2 ?_
 obtain ⟨hb22,h⟩:=zX h
 refine zq (z5R (l:=j0) (r:=j1) runUnderlying9 rfl (bi1 (kd:=.i64) rfl) (bi1 (kd:=.i64) rfl) hb22.1 hb22.2.1 hb22.2.2) ?_
 refine ys ?_
 refine al fun b23=>?_
 refine yn 2 ?_
 refine zH (rj [5,4,6] [0,1] ?_)
 refine yn 2 ?_
 refine cl0 [] call195 (fun h=>zja h) h (fun r24 h=>?_)
 refine yc 1 h (fun _ h=>?_) fun _ h=>?_
 ·refine yn 6 ?_
  exact fr [] results147 h
 ·refine yc 5 h (fun _ h=>?_) fun _ h=>?_
  ·refine yn 4 ?_
   exact fr [] results147 h
  ·refine yn 5 ?_
   exact fr [] results147 h
def za4 (b_0:Int):Option (Bool):=
 obind (zbf b_0) fun r1=>
 some ((r1 || (decide (65≤b_0) && decide (b_0≤90))) || decide (b_0=95))
theorem zh5:K1 za4 196:=by
 intro b_0 r h
 refine zN func196 rfl ntmps196 rfl (fun w0 o0=>?_)
 refine yn 4 ?_
 refine cl0 [] call146 (fun h=>zbK h) h (fun r1 h=>?_)
 refine ys ?_
 refine oe 7 [0] [] (fun s=>[(12,.bool s)]) (r1 || (decide (65≤b_0) && decide (b_0≤90))) (fun _ hL4=>?_) ?_
 ·refine z1c 5 r1 rfl (fun hg5=>?_) (fun hg5=>?_)
  ·skip
   refine ys ?_
   refine z2p 5 true 8 rfl rfl rfl rfl rfl ?_
   refine z2p 5 true 8 rfl rfl rfl rfl rfl ?_
   refine yn 2 ?_
   exact gc hL4 true [] (hi:=by rw [hg5]; simp)
  ·skip
   refine ys ?_
   refine oq 3 8 11 [0,5] [] (decide (65≤b_0) && decide (b_0≤90)) ?_
   refine yn 2 ?_
   exact gc hL4 (decide (65≤b_0) && decide (b_0≤90)) [] (hi:=by rw [hg5]; simp)
 refine os ?_
 refine ys ?_
 refine oq 3 13 16 [] [] ((r1 || (decide (65≤b_0) && decide (b_0≤90))) || decide (b_0=95)) ?_
 refine yn 3 ?_
 exact fs [2] [] results196 h
def z9e (s_0:(List UInt8)):(Int)→Option (Lp (Int) (Lp (Int) (z1O))):=
 fun j3=>
  bindJ (S:=Bool)
   (cond (decide (j3 < (s_0.length : Int)))
    (idx s_0 j3 fun c18=>
    obind (zbd (c18.toNat:Int)) fun r19=>
    some (.go r19))
    (some (.go false)))
  (fun b12 =>
   cond b12
    (some (.go (IntKind.i64.wrap (j3+1))))
    (some (.stop (.go j3))))
def zbJ (n:Nat) (s_0:(List UInt8)) (j0:Int):Option (z1O):=
 bindJ (S:=Int)
  (iter (z9e s_0) n j0)
 (fun j1 =>
  bindJ (S:=Bool)
   (cond (decide (18 < (IntKind.i64.wrap (j1 - j0))))
    (some (.go true))
    (idx s_0 j0 fun c28=>
    some (.go (decide ((c28.toNat:Int)=48) && decide (1<(IntKind.i64.wrap (j1 - j0)))))))
  (fun b22 =>
   bindJ (S:=Bool)
    (cond b22
     (some (.go true))
     (bindJ (S := Bool)
      (cond (decide (j1 < (s_0.length : Int)))
       (idx s_0 j1 fun c44=>
       obind (za4 (c44.toNat:Int)) fun r45=>
       some (.go r45))
       (some (.go false)))
     (fun b38 =>
      some (.go b38))))
   (fun b32 =>
    cond b32
     (some (z1O.mk (z6.mk 0 0 []) 0 181))
     (need (0≤j0∧j0≤j1∧j1≤(s_0.length:Int)) (
     some (z1O.mk (z6.mk 3 j0 ((s_0.take j1.toNat).drop j0.toNat)) j1 0))))))
theorem zh6 {n:Nat}:K41 (zbJ n) 149:=by
 intro s_0 j0 r h
 refine zN func149 rfl ntmps149 rfl (fun w0 o0=>?_)
 refine zh (al fun b1=>?_)
 refine yn 2 ?_
 refine zd (jr h [0,1,4] [1] (fun s (g:Unit)=>[(5,.int .i64 s)]) (fun s g=>[]) (fun _ h _ _ hL5=>?_) ?_)
 ·refine zF (lo h [0,1,4] [1] (fun s (g:Unit)=>[(5,.int .i64 s)]) (fun s g=>[]) () [0] ?_)
  rintro j3 _ _ h _ jk j7
  refine rs ?_
  refine yn 3 ?_
  refine ob h 5 [5,0,1,4] [1] (fun s=>[(16,.bool s)]) (fun s=>[]) (fun _ h _ _ jd=>?_) ?_
  ·refine z1c 11 (decide (j3<(s_0.length:Int))) rfl (fun j8=>?_) (fun j8=>?_)
   ·replace h:=z2F h j8
    refine yx ?_
    obtain ⟨c18,jA,jB,jC,h⟩:=zP h
    refine zq yr ?_
    refine cl0 [] call148 (fun h=>zbI h) h (fun r19 h=>?_)
    refine yn 2 ?_
    exact gb jd [0] h
   ·replace h:=z2E h j8
    refine yn 2 ?_
    exact gb jd [0] h
  rintro b12 h
  refine os ?_
  refine yc 1 h (fun _ h=>?_) fun _ h=>?_
  ·refine yn 7 ?_
   exact gj jk () [0] h
  ·refine z1h _ rfl ?_
   exact gk hL5 j7 () [0] h
 rintro j1 _ h
 refine rs ?_
 refine yn 3 ?_
 refine ob h 11 [5,0,1,4] [1] (fun s=>[(34,.bool s)]) (fun s=>[]) (fun _ h _ _ jD=>?_) ?_
 ·refine z1c 23 (decide (18<(IntKind.i64.wrap (j1 - j0)))) rfl (fun jl=>?_) (fun jl=>?_)
  ·replace h:=z2F h jl
   refine ys ?_
   refine z2p 9 true 28 rfl rfl rfl rfl rfl ?_
   refine z2p 9 true 28 rfl rfl rfl rfl rfl ?_
   refine z2p 9 true 28 rfl rfl rfl rfl rfl ?_
   refine z2p 9 true 28 rfl rfl rfl rfl rfl ?_
   refine ys ?_
   refine oh [0] [box b1 [.int .i64 0,.int .i64 0,.string (bs []),.int .i64 0,.int .i64 0]] ?_
   refine yn 2 ?_
   exact gb jD [0] h
  ·replace h:=z2E h jl
   refine yx ?_
   obtain ⟨c28,j0b,j0c,j0d,h⟩:=zP h
   refine zq yr ?_
   refine ys ?_
   refine oe 5 [5,0,1,4,23] [1] (fun s=>[(33,.bool s)]) (decide ((c28.toNat:Int)=48) && decide (1<(IntKind.i64.wrap (j1 - j0)))) (fun _ jE=>?_) ?_
   ·refine z1c 28 (decide ((c28.toNat:Int)=48)) rfl (fun jm=>?_) (fun jm=>?_)
    ·skip
     refine ys ?_
     refine oh [0] [box b1 [.int .i64 0,.int .i64 0,.string (bs []),.int .i64 0,.int .i64 0]] ?_
     refine yn 2 ?_
     exact gc jE (decide (1<(IntKind.i64.wrap (j1 - j0)))) [0] (hi:=by rw [jm]; simp)
    ·skip
     refine ys ?_
     refine oh [0] [box b1 [.int .i64 0,.int .i64 0,.string (bs []),.int .i64 0,.int .i64 0]] ?_
     refine yn 2 ?_
     exact gc jE false [0] (hi:=by rw [jm]; simp)
   refine os ?_
   refine yn 2 ?_
   exact gb jD [0] h
 rintro b22 h
 refine os ?_
 refine ys ?_
 refine ob h 11 [5,0,1,4] [1] (fun s=>[(46,.bool s)]) (fun s=>[]) (fun _ h _ _ jF=>?_) ?_
 ·refine z1c 35 b22 rfl (fun jo=>?_) (fun jo=>?_)
  ·replace h:=z2F h jo
   refine ys ?_
   refine z2p 21 true 40 rfl rfl rfl rfl rfl ?_
   refine z2p 21 true 40 rfl rfl rfl rfl rfl ?_
   refine z2p 21 true 40 rfl rfl rfl rfl rfl ?_
   refine z2p 21 true 40 rfl rfl rfl rfl rfl ?_
   refine yn 2 ?_
   exact gb jF [0] h
  ·replace h:=z2E h jo
   refine ys ?_
   refine ob h 5 [5,0,1,4,35] [1] (fun s=>[(45,.bool s)]) (fun s=>[]) (fun _ h _ _ jG=>?_) ?_
   ·refine z1c 40 (decide (j1<(s_0.length:Int))) rfl (fun jp=>?_) (fun jp=>?_)
    ·replace h:=z2F h jp
     refine yx ?_
     obtain ⟨c44,j0e,j0f,j0g,h⟩:=zP h
     refine zq yr ?_
     refine cl0 [] call196 (fun h=>zh5 h) h (fun r45 h=>?_)
     refine yn 2 ?_
     exact gb jG [0] h
    ·replace h:=z2E h jp
     refine yn 2 ?_
     exact gb jG [0] h
   rintro b38 h
   refine os ?_
   refine yn 2 ?_
   exact gb jF [0] h
 rintro b32 h
 refine os ?_
 refine yc 1 h (fun _ h=>?_) fun _ h=>?_
 ·refine yn 4 ?_
  exact fr [] results149 h
 ·refine yn 3 ?_
  obtain ⟨hb48,h⟩:=zX h
  refine zq (z5R (l:=j0) (r:=j1) runUnderlying9 rfl (bi1 (kd:=.i64) rfl) (bi1 (kd:=.i64) rfl) hb48.1 hb48.2.1 hb48.2.2) ?_
  refine yn 3 ?_
  exact fr [] results149 h
def zcD (s_0:(List UInt8)) (j0:Int):((List UInt8)×Int)→Option (Lp ((List UInt8)×Int) (Lp (Unit) (z1O))):=
 fun (j4,i_7)=>
  cond (decide (i_7<(s_0.length:Int)))
   (idx s_0 i_7 fun c14=>
   cond (decide ((c14.toNat:Int)=34))
    (cond (decide (200 < (j4.length : Int)))
     (some (.stop (.stop (z1O.mk (z6.mk 0 0 []) 0 182))))
     (some (.stop (.stop (z1O.mk (z6.mk 4 j0 j4) (IntKind.i64.wrap (i_7+1)) 0)))))
    (cond (decide ((c14.toNat : Int) < 32) || decide (126 < (c14.toNat : Int)))
     (some (.stop (.stop (z1O.mk (z6.mk 0 0 []) 0 182))))
     (bindJ (S := Int × Int)
      (cond (decide ((c14.toNat : Int) = 92))
       (bindJ (S := Bool)
        (cond (decide ((IntKind.i64.wrap (i_7 + 1)) = (s_0.length : Int)))
         (some (.go true))
         (idx s_0 (IntKind.i64.wrap (i_7+1)) fun c34=>
         bindJ (S:=Bool)
          (cond (decide ((c34.toNat : Int) ≠ 34))
           (idx s_0 (IntKind.i64.wrap (i_7+1)) fun c41=>
           some (.go (decide ((c41.toNat:Int)≠92))))
           (some (.go false)))
         (fun b35 =>
          some (.go b35))))
       (fun b28 =>
        cond b28
         (some (.stop (.stop (.stop (z1O.mk (z6.mk 0 0 []) 0 182)))))
         (idx s_0 (IntKind.i64.wrap (i_7+1)) fun c43=>
         some (.go ((IntKind.i64.wrap (i_7+1)),(c43.toNat:Int))))))
       (some (.go (i_7,(c14.toNat:Int)))))
     (fun (jH, j9) =>
      need (0≤j9∧j9≤255) (
      need (j4.length+([(j9).toNat.toUInt8]:List UInt8).length≤4294967296) (
      some (.go ((j4++([(j9).toNat.toUInt8]:List UInt8)),(IntKind.i64.wrap (jH+1))))))))))
   (some (.stop (.go ())))
def zeB (n:Nat) (s_0:(List UInt8)) (j0:Int):Option (z1O):=
 bindJ (S:=Unit)
  (iter (zcD s_0 j0) n (([]:List UInt8),(IntKind.i64.wrap (j0+1))))
 (fun _ =>
  some (z1O.mk (z6.mk 0 0 []) 0 182))
theorem zjf {n:Nat}:K41 (zeB n) 150:=by
 intro s_0 j0 r h
 refine zN func150 rfl ntmps150 rfl (fun w0 o0=>?_)
 refine zh (al fun b1=>?_)
 refine yn 2 ?_
 refine zd (jr h [4] [1] (fun s (g:Unit)=>[]) (fun s g=>[]) (fun _ h ho3 _ hL4=>?_) ?_)
 ·refine yn 4 ?_
  refine z3x (nilrow 1) ?_
  refine z3x (retell 1 (g:=row (.slice none 0 0) 1 (([]:List UInt8).map eB8)) rfl rfl) ?_
  refine lo h [0,1,4] [0,1] (fun s (g:Value)=>[(5,g),(6,.int .i64 s.2)]) (fun s g=>[row g 1 (s.1.map eB8)]) _ [1,0] ?_
  rintro ⟨j4,i_7⟩ v8 _ h _ jc j2
  refine rs ?_
  refine yc 4 h (fun _ h=>?_) fun _ h=>?_
  ·refine yn 4 ?_
   refine yx ?_
   obtain ⟨c14,j0h,j0i,j0j,h⟩:=zP h
   refine zq yr ?_
   refine yn 2 ?_
   refine zH (rj [5,6,0,1,4,7] [0,1] ?_)
   refine yc 3 h (fun _ h=>?_) fun _ h=>?_
   ·refine yc 4 h (fun _ h=>?_) fun _ h=>?_
    ·refine yn 4 ?_
     obtain rfl:=zU h
     obtain rfl:=j2 _ rfl
     skip
     obtain rfl:=zM ho3
     exact fq [] results150
    ·refine yn 3 ?_
     refine zq (y_b2s (l:=j4) 0 runUnderlying58 runUnderlying5 runUnderlying9 rfl rfl z1d) ?_
     refine yn 3 ?_
     obtain rfl:=zU h
     obtain rfl:=j2 _ rfl
     skip
     obtain rfl:=zM ho3
     exact fq [] results150
   ·refine yn 4 ?_
    refine oq 3 34 37 [5,6,0,1,4,7] [0,1] (decide ((c14.toNat:Int)<32) || decide (126<(c14.toNat:Int))) ?_
    refine yc 1 h (fun _ h=>?_) fun _ h=>?_
    ·refine yn 4 ?_
     obtain rfl:=zU h
     obtain rfl:=j2 _ rfl
     skip
     obtain rfl:=zM ho3
     exact fq [] results150
    ·refine run_skip (zD (jr h [0,1,4,5] [2,1] (fun s (g:Unit)=>[(6,.int .i64 s.1),(7,.int .u8 s.2)]) (fun s g=>[]) (fun _ h jO _ jI=>?_) ?_))
     ·refine yc 3 h (fun _ h=>?_) fun _ h=>?_
      ·refine yn 5 ?_
       refine ob h 11 [5,6,0,1,4] [1,2] (fun s=>[(58,.bool s)]) (fun s=>[]) (fun _ h _ _ jJ=>?_) ?_
       ·refine z1c 47 (decide ((IntKind.i64.wrap (i_7+1))=(s_0.length:Int))) rfl (fun jq=>?_) (fun jq=>?_)
        ·replace h:=z2F h jq
         refine ys ?_
         refine oh [0,1] [row v8 1 (j4.map eB8),box b1 [.int .i64 0,.int .i64 0,.string (bs []),.int .i64 0,.int .i64 0]] ?_
         refine z2p 9 true 52 rfl rfl rfl rfl rfl ?_
         refine z2p 9 true 52 rfl rfl rfl rfl rfl ?_
         refine z2p 9 true 52 rfl rfl rfl rfl rfl ?_
         refine z2p 9 true 52 rfl rfl rfl rfl rfl ?_
         refine yn 2 ?_
         exact gb jJ [0,1] h
        ·replace h:=z2E h jq
         refine yx ?_
         obtain ⟨c34,j0k,j0l,j0m,h⟩:=zP h
         refine zq yr ?_
         refine ys ?_
         refine oh [0,1] [row v8 1 (j4.map eB8),box b1 [.int .i64 0,.int .i64 0,.string (bs []),.int .i64 0,.int .i64 0]] ?_
         refine ob h 5 [5,6,0,1,4,47] [1,2] (fun s=>[(57,.bool s)]) (fun s=>[]) (fun _ h _ _ jK=>?_) ?_
         ·refine z1c 52 (decide ((c34.toNat:Int)≠34)) rfl (fun js=>?_) (fun js=>?_)
          ·replace h:=z2F h js
           refine yx ?_
           obtain ⟨c41,j0n,j0o,j0p,h⟩:=zP h
           refine zq yr ?_
           refine yn 2 ?_
           exact gb jK [0,1] h
          ·replace h:=z2E h js
           refine yn 2 ?_
           exact gb jK [0,1] h
         rintro b35 h
         refine os ?_
         refine yn 2 ?_
         exact gb jJ [0,1] h
       rintro b28 h
       refine os ?_
       refine yc 1 h (fun _ h=>?_) fun _ h=>?_
       ·refine yn 4 ?_
        obtain rfl:=zU h
        obtain rfl:=zM jO
        skip
        obtain rfl:=j2 _ rfl
        skip
        obtain rfl:=zM ho3
        exact fq [] results150
       ·refine yn 2 ?_
        refine yx ?_
        obtain ⟨c43,j0q,j0r,j0s,h⟩:=zP h
        refine zq yr ?_
        refine yn 2 ?_
        exact gj jI () [1,0] h
      ·exact run_skip (gj jI () [1,0] h)
     rintro ⟨jH,j9⟩ _ h
     refine rs ?_
     refine yn 2 ?_
     obtain ⟨hi45,h⟩:=zX h
     refine zt (t_lit [.int .u8 j9] runUnderlying58 sizeOf5 zeroValue5 rfl (by decide) (by decide) rfl (by simp [Value.cells,boxP])) ?_
     rintro v44 _ ⟨rfl,_⟩
     refine zB (retell 2 (g:=row v44 1 (([(j9).toNat.toUInt8]:List UInt8).map eB8)) rfl (congrArg (row _ _) (by simp only [yI,List.map_nil,zpG hi45]; rfl))) ?_
     obtain ⟨jP,h⟩:=zX h
     refine lA zhZ 1 2 jP fun _=>?_
     refine yn 6 ?_
     exact gj jc _ [1,0] h
  ·refine z1h _ rfl ?_
   exact gk hL4 j2 () [1] h
 rintro _ _ h
 refine rs ?_
 refine yn 4 ?_
 exact fr [] results150 h
def zfl  : Option ((List (List UInt8))):=
 some ([[61,61],[33,61],[60,61],[62,61],[46,46],[123],[125],[40],[41],[91],[93],[44],[59],[58],[61],[60],[62],[43],[45],[42],[47],[37]]:List (List UInt8))
theorem zig:K5 zfl 197:=by
 intro  r h
 refine zN func197 rfl ntmps197 rfl (fun w0 o0=>?_)
 refine yn 3 ?_
 refine lS [[61,61],[33,61],[60,61],[62,61],[46,46],[123],[125],[40],[41],[91],[93],[44],[59],[58],[61],[60],[62],[43],[45],[42],[47],[37]] fun _=>?_
 refine yn 3 ?_
 exact fs [0] [0] results197 h
def zcB (s_0:(List UInt8)) (j0:Int) (r2:(List (List UInt8))):(Int)→Option (Lp (Int) (Lp (Unit) (z1O))):=
 fun i_9=>
  cond (decide (i_9<(r2.length:Int)))
   (idx r2 i_9 fun x15=>
   bindJ (S:=Bool)
    (cond (decide ((IntKind.i64.wrap (j0 + (x15.length : Int))) ≤ (s_0.length : Int)))
     (need (0≤j0∧j0≤(IntKind.i64.wrap (j0+(x15.length:Int)))∧(IntKind.i64.wrap (j0+(x15.length:Int)))≤(s_0.length:Int)) (
     some (.go (decide (((s_0.take (((IntKind.i64.wrap (j0+(x15.length:Int)))).toNat)).drop j0.toNat)=x15)))))
     (some (.go false)))
   (fun b16 =>
    cond b16
     (idx r2 i_9 fun x24=>
     some (.stop (.stop (z1O.mk (z6.mk 5 j0 x24) (IntKind.i64.wrap (j0+(x15.length:Int))) 0))))
     (some (.go (IntKind.i64.wrap (i_9+1))))))
   (some (.stop (.go ())))
def zeA (n:Nat) (s_0:(List UInt8)) (j0:Int):Option (z1O):=
 obind (zfl) fun r2=>
 bindJ (S:=Unit)
  (iter (zcB s_0 j0 r2) n 0)
 (fun _ =>
  some (z1O.mk (z6.mk 0 0 []) 0 180))
theorem zje {n:Nat}:K41 (zeA n) 151:=by
 intro s_0 j0 r h
 refine zN func151 rfl ntmps151 rfl (fun w0 o0=>?_)
 refine zh (al fun b1=>?_)
 refine za ?_
 obtain ⟨r2,hr3,h⟩:=zJ h
 refine zt (tc [] call197 (zig hr3)) ?_
 rintro v4 _ ⟨_,⟨_,rfl,rfl⟩,rfl⟩
 refine ys ?_
 refine zd (jr h [4] [1] (fun s (g:Unit)=>[]) (fun s g=>[]) (fun _ h ho6 _ hL7=>?_) ?_)
 ·refine yn 4 ?_
  refine lo h [0,1,4,5] [1,2] (fun s (g:Unit)=>[(6,.int .i64 s)]) (fun s g=>[]) () [0,1] ?_
  rintro _ _ _ h _ jL ja
  refine rs ?_
  refine yc 4 h (fun _ h=>?_) fun _ h=>?_
  ·refine yn 4 ?_
   refine yx ?_
   obtain ⟨x15,j0t,j0u,j0v,h⟩:=zP h
   refine zq yr ?_
   refine ys ?_
   refine zc (rj [6,0,1,4,5,7] [0,1] ?_)
   refine z4U (by kernel_rfl) (by kernel_rfl) ?_
   refine yu ?_
   refine sbj h 12 [6,0,1,4,5,7] [1,2] (fun s=>[(38,.bool s)]) (fun s=>[]) (fun _ h _ _ jM=>?_) ?_
   ·refine z86 26 (decide ((IntKind.i64.wrap (j0+(x15.length:Int)))≤(s_0.length:Int))) rfl (fun jt=>?_) (fun jt=>?_)
    ·replace h:=z2F h jt
     refine yu ?_
     obtain ⟨hb22,h⟩:=zX h
     refine zu (z5R (l:=j0) (r:=(IntKind.i64.wrap (j0+(x15.length:Int)))) runUnderlying9 rfl (bi1 (kd:=.i64) rfl) (bi1 (kd:=.i64) rfl) hb22.1 hb22.2.1 hb22.2.2) ?_
     refine yu ?_
     refine z2m ?_
     exact gb jM [0,1] h
    ·replace h:=z2E h jt
     refine yu ?_
     refine z2m ?_
     exact gb jM [0,1] h
   rintro b16 h
   refine ss' ?_
   refine z2m ?_
   refine yc 1 h (fun _ h=>?_) fun _ h=>?_
   ·refine zh (yx ?_)
    obtain ⟨x24,j0w,j0x,j0y,h⟩:=zP h
    refine zq yr ?_
    refine yn 3 ?_
    obtain rfl:=zU h
    obtain rfl:=ja _ rfl
    skip
    obtain rfl:=zM ho6
    exact fq [] results151
   ·refine yn 5 ?_
    exact gj jL () [0,1] h
  ·refine z1h _ rfl ?_
   exact gk hL7 ja () [0] h
 rintro _ _ h
 refine rs ?_
 refine yn 4 ?_
 exact fr [] results151 h
end Go.Proofs.YtcmaoifiiigggaaGreatDoor
