/-
  Functions that the law ParserMatchesSpec needs, lifted.
-/
import Derived.Test.YtcmaoifiiigggaaGreatDoorV3G3h
set_option linter.unusedSimpArgs false
set_option linter.unusedVariables false
namespace Go.Proofs.YtcmaoifiiigggaaGreatDoor
open Go.Abs
set_option maxRecDepth 20000
set_option maxHeartbeats 4000000
def zgD (n:Nat) (l_0:(List z6)) (q2r:(List z6)→Int→Option (zR)):(Int×Int×(List UInt8)×(List zi)×Int×Bool)→Option (Lp (Int×Int×(List UInt8)×(List zi)×Int×Bool) (Lp (Int×Int×(List UInt8)×(List zi)×Int×Bool) (zR))):=
 fun (j6,j7,j8,jb,j0,j4)=>
  bindJ (S:=Bool)
   (cond (!j4)
    (obind (z2R l_0 j0 [97,110,100]) fun r35=>
    some (.go r35))
    (some (.go false)))
  (fun b29 =>
   cond b29
    (obind (zbS n q2r l_0 (IntKind.i64.wrap (j0+1))) fun r38=>
    obind (z7p l_0 (zR.mk (zi.mk j6 j7 j8 jb) j0 j4) j0 21 r38) fun r41=>
    some (.go (r41.X.Op,r41.X.At,r41.X.S,r41.X.Args,r41.I,r41.Bad)))
    (some (.stop (.go (j6,j7,j8,jb,j0,j4)))))
def zdi (n:Nat) (q2r:(List z6)→Int→Option (zR)) (l_0:(List z6)) (i_1:Int):Option (zR):=
 obind (zbS n q2r l_0 i_1) fun r2=>
 bindJ (S:=Int×Int×(List UInt8)×(List zi)×Int×Bool)
  (iter (zgD n l_0 q2r) n (r2.X.Op,r2.X.At,r2.X.S,r2.X.Args,r2.I,r2.Bad))
 (fun (x_7, x_8, x_9, je, jf, jg) =>
  some (zR.mk (zi.mk x_7 x_8 x_9 je) jf jg))
theorem za8 {n:Nat} {q2r:(List z6)→Int→Option (zR)} (q3h:K17 q2r 49):K17 (zdi n q2r) 109:=by
 intro l_0 i_1 jc r h
 refine zN Tryz.func109 rfl Tryz.ntmps109 rfl (fun w0 o0=>?_)
 refine zh (al fun b1=>?_)
 refine za (ys ?_)
 obtain ⟨r2,hr3,h⟩:=zJ h
 refine zt (tc [(0,0)] Tryz.call171 (zaj q3h hr3)) ?_
 rintro _ _ ⟨_,⟨v4,rfl,rfl⟩,rfl⟩
 refine al fun b5=>?_
 refine ys ?_
 refine zd (jr h [4,5] [2,0,0] (fun s (g:Value)=>[]) (fun s g=>[box b5 [.int .i64 s.1,.int .i64 s.2.1,.string (bs s.2.2.1),g,.int .i64 s.2.2.2.2.1,.bool s.2.2.2.2.2],nro g zj s.2.2.2.1]) (fun _ h _ _ jj=>?_) ?_)
 ·refine zF (lo h [0,4,5] [1,2,0,0] (fun s (g:Value)=>[]) (fun s g=>[box b5 [.int .i64 s.1,.int .i64 s.2.1,.string (bs s.2.2.1),g,.int .i64 s.2.2.2.2.1,.bool s.2.2.2.2.2],nro g zj s.2.2.2.1]) _ [0,1,3,2] ?_)
  rintro ⟨j6,j7,j8,jb,j0,j4⟩ v24 _ h _ jh j9
  refine rs ?_
  refine zH (zh (ys ?_))
  refine ob h 5 [0,4,5] [1,2,3,4] (fun s=>[(17,.bool s)]) (fun s=>[]) (fun _ h _ _ ji=>?_) ?_
  ·refine z1c 12 (!j4) rfl (fun jd=>?_) (fun jd=>?_)
   ·replace h:=z2F h jd
    refine ys ?_
    refine cl0 [(0,0)] Tryz.call86 (fun h=>z25 h) h (fun r35 h=>?_)
    refine ys ?_
    exact zr (gb ji [0,1,2,3] h)
   ·replace h:=z2E h jd
    refine ys ?_
    exact zr (gb ji [0,1,2,3] h)
  rintro b29 h
  refine os ?_
  refine zd (rc h (fun _ h=>?_) (fun _ h=>?_))
  ·refine run_skip (zD (zF ?_))
   obtain ⟨r38,ja,h⟩:=zJ h
   obtain ⟨r41,jk,h⟩:=zJ h
   refine rf [1,1,0,1] fun hS=>?_
   refine aq [0,2,4,5] ?_
   refine a2 [11] 0 [0,4,5] [1,2,0,4,0,0] (fun (s:Value×Value)=>[]) (fun s=>[box b5 [.int .i64 r41.X.Op,.int .i64 r41.X.At,.string (bs r41.X.S),s.1,.int .i64 r41.I,.bool r41.Bad],nro s.2 zj r38.X.Args,nro s.1 zj r41.X.Args]) ?_ (fun hK51=>?_)
   ·rintro ⟨v49,v48⟩
    refine az ?_
    refine z1K (by kernel_rfl) ?_
    exact zS (gj jh _ [0,1,2,5] h)
   refine a2 [10,1] 1 [0,4,5] [1,2,3,4,0,0] (fun (s:Value×Value)=>[(27,.agg #[.int .i64 r41.X.Op,.int .i64 r41.X.At,.string (bs r41.X.S),s.1,.int .i64 r41.I,.bool r41.Bad])]) (fun s=>[nro s.2 zj r38.X.Args,nro s.1 zj r41.X.Args]) ?_ (fun hK52=>?_)
   ·rintro ⟨v49,v48⟩
    refine az ?_
    refine zK [10] (by kernel_rfl) rfl ?_
    refine zk ?_ ?_
    ·refine z1J 5 rfl z1j (fun jo hs53o=>?_)
     refine at' rfl (z55 2 Tryz.sizeOf122 rfl rfl rfl rfl (by simp [Value.cells,boxP]) (z1s rfl (z1s rfl (z1s rfl (z1s hs53o (z1s rfl (z1s rfl (z6b)))))))) ?_
     rintro _ _ ⟨rfl,rfl⟩
     refine sb ?_
     refine z1B (retell 2 (g:=box b5 [.int .i64 r41.X.Op,.int .i64 r41.X.At,.string (bs r41.X.S),v49,.int .i64 r41.I,.bool r41.Bad]) rfl rfl) ?_
     exact aw (hK51 (v49,v48)) [0,1,2,3,4,5]
    exact zC
   refine a2 [9,2] 2 [0,4,5,18] [1,2,3,4,0] (fun (s:Value)=>[(19,.agg #[.int .i64 j6,.int .i64 j7,.string (bs j8),v24,.int .i64 j0,.bool j4]),(21,.int .i64 j0),(26,.agg #[.int .i64 r38.X.Op,.int .i64 r38.X.At,.string (bs r38.X.S),s,.int .i64 r38.I,.bool r38.Bad])]) (fun s=>[nro s zj r38.X.Args]) ?_ (fun hK54=>?_)
   ·rintro v48
    refine az ?_
    refine zK [9] (by kernel_rfl) rfl ?_
    refine zk ?_ ?_
    ·refine at' rfl (tc [(0,0),(3,0),(4,0)] Tryz.call110 (z9q jk)) ?_
     rintro _ _ ⟨_,⟨v55,rfl,rfl⟩,rfl⟩
     refine sb ?_
     exact aw (hK52 (v55,v48)) [0,1,2,3,4,5]
    exact zC
   refine a2 [8,3] 3 [0,4,5,18,22] [1,2,3,4] (fun (s:Unit)=>[(19,.agg #[.int .i64 j6,.int .i64 j7,.string (bs j8),v24,.int .i64 j0,.bool j4]),(21,.int .i64 j0),(25,.int .i64 (IntKind.i64.wrap (j0+1)))]) (fun s=>[]) ?_ (fun hK56=>?_)
   ·rintro _
    refine az ?_
    refine zK [8] (by kernel_rfl) rfl ?_
    refine zk ?_ ?_
    ·refine at' rfl (tc [(0,0)] Tryz.call171 (zaj q3h ja)) ?_
     rintro _ _ ⟨_,⟨v57,rfl,rfl⟩,rfl⟩
     refine sb ?_
     exact aw (hK54 v57) [0,1,2,3,4]
    exact zC
   refine a2 [3,1,5,2] 3 [0,4,5,18,20] [1,2,3,4,0] (fun (s:Value)=>[(19,.agg #[.int .i64 j6,.int .i64 j7,.string (bs j8),v24,.int .i64 j0,.bool j4]),(26,.agg #[.int .i64 r38.X.Op,.int .i64 r38.X.At,.string (bs r38.X.S),s,.int .i64 r38.I,.bool r38.Bad])]) (fun s=>[nro s zj r38.X.Args]) ?_ (fun hK58=>?_)
   ·rintro v46
    refine az ?_
    refine zK [3] (by kernel_rfl) rfl ?_
    refine zk ?_ ?_
    ·refine ty ?_
     exact aw (hK54 v46) [0,1,2,3,4]
    exact zC
   refine a2 [1,1,7,2] 3 [0,4,5,18] [1,2,3,4,0] (fun (s:Value)=>[(21,.int .i64 j0),(26,.agg #[.int .i64 r38.X.Op,.int .i64 r38.X.At,.string (bs r38.X.S),s,.int .i64 r38.I,.bool r38.Bad])]) (fun s=>[nro s zj r38.X.Args]) ?_ (fun hK59=>?_)
   ·rintro v47
    refine az ?_
    refine zK [1] (by kernel_rfl) rfl ?_
    refine zk ?_ ?_
    ·refine ty ?_
     exact aw (hK54 v47) [0,1,2,3,4]
    exact zC
   refine a2 [3,1,4,3] 4 [0,4,5,18,20,22] [1,2,3,4] (fun (s:Unit)=>[(19,.agg #[.int .i64 j6,.int .i64 j7,.string (bs j8),v24,.int .i64 j0,.bool j4]),(25,.int .i64 (IntKind.i64.wrap (j0+1)))]) (fun s=>[]) ?_ (fun hK60=>?_)
   ·rintro _
    refine az ?_
    refine zK [3,8] (by kernel_rfl) rfl ?_
    refine zk ?_ ?_
    ·refine ty ?_
     exact aw (hK56 ()) [0,1,2,3]
    refine zk ?_ ?_
    ·refine at' rfl (tc [(0,0)] Tryz.call171 (zaj q3h ja)) ?_
     rintro _ _ ⟨_,⟨v61,rfl,rfl⟩,rfl⟩
     refine sb ?_
     exact aw (hK58 v61) [0,1,2,3,4]
    exact zC
   refine a2 [1,1,6,3] 4 [0,4,5,18,22] [1,2,3,4] (fun (s:Unit)=>[(21,.int .i64 j0),(25,.int .i64 (IntKind.i64.wrap (j0+1)))]) (fun s=>[]) ?_ (fun hK62=>?_)
   ·rintro _
    refine az ?_
    refine zK [1,8] (by kernel_rfl) rfl ?_
    refine zk ?_ ?_
    ·refine ty ?_
     exact aw (hK56 ()) [0,1,2,3]
    refine zk ?_ ?_
    ·refine at' rfl (tc [(0,0)] Tryz.call171 (zaj q3h ja)) ?_
     rintro _ _ ⟨_,⟨v63,rfl,rfl⟩,rfl⟩
     refine sb ?_
     exact aw (hK59 v63) [0,1,2,3,4]
    exact zC
   refine a2 [1,1,1,1,5,2] 4 [0,4,5,18,20] [1,2,3,4,0] (fun (s:Value)=>[(26,.agg #[.int .i64 r38.X.Op,.int .i64 r38.X.At,.string (bs r38.X.S),s,.int .i64 r38.I,.bool r38.Bad])]) (fun s=>[nro s zj r38.X.Args]) ?_ (fun hK64=>?_)
   ·rintro v45
    refine az ?_
    refine zK [1,3] (by kernel_rfl) rfl ?_
    refine zk ?_ ?_
    ·refine ty ?_
     exact aw (hK58 v45) [0,1,2,3,4]
    refine zk ?_ ?_
    ·refine ty ?_
     exact aw (hK59 v45) [0,1,2,3,4]
    exact zC
   refine a2 [1,1,1,1,4,3] 5 [0,4,5,18,20,22] [1,2,3,4] (fun (s:Unit)=>[(25,.int .i64 (IntKind.i64.wrap (j0+1)))]) (fun s=>[]) ?_ (fun hK65=>?_)
   ·rintro _
    refine az ?_
    refine zK [1,3,8] (by kernel_rfl) rfl ?_
    refine zk ?_ ?_
    ·refine ty ?_
     exact aw (hK60 ()) [0,1,2,3]
    refine zk ?_ ?_
    ·refine ty ?_
     exact aw (hK62 ()) [0,1,2,3]
    refine zk ?_ ?_
    ·refine at' rfl (tc [(0,0)] Tryz.call171 (zaj q3h ja)) ?_
     rintro _ _ ⟨_,⟨v66,rfl,rfl⟩,rfl⟩
     refine sb ?_
     exact aw (hK64 v66) [0,1,2,3,4]
    exact zC
   refine a2 [6,5] 5 [0,4,5,18,22,23] [1,2,3,4] (fun (s:Unit)=>[(19,.agg #[.int .i64 j6,.int .i64 j7,.string (bs j8),v24,.int .i64 j0,.bool j4]),(21,.int .i64 j0)]) (fun s=>[]) ?_ (fun hK67=>?_)
   ·rintro _
    refine az ?_
    refine zK [6] (by kernel_rfl) rfl ?_
    refine zk ?_ ?_
    ·refine ty ?_
     refine aq [7] ?_
     exact aw (hK56 ()) [0,1,2,3]
    exact zC
   refine a2 [3,1,2,5] 6 [0,4,5,18,20,22,23] [1,2,3,4] (fun (s:Unit)=>[(19,.agg #[.int .i64 j6,.int .i64 j7,.string (bs j8),v24,.int .i64 j0,.bool j4])]) (fun s=>[]) ?_ (fun hK68=>?_)
   ·rintro _
    refine az ?_
    refine zK [3,6] (by kernel_rfl) rfl ?_
    refine zk ?_ ?_
    ·refine ty ?_
     exact aw (hK67 ()) [0,1,2,3]
    refine zk ?_ ?_
    ·refine ty ?_
     refine aq [7] ?_
     exact aw (hK60 ()) [0,1,2,3]
    exact zC
   refine a2 [1,1,4,5] 6 [0,4,5,18,22,23] [1,2,3,4] (fun (s:Unit)=>[(21,.int .i64 j0)]) (fun s=>[]) ?_ (fun hK69=>?_)
   ·rintro _
    refine az ?_
    refine zK [1,6] (by kernel_rfl) rfl ?_
    refine zk ?_ ?_
    ·refine ty ?_
     exact aw (hK67 ()) [0,1,2,3]
    refine zk ?_ ?_
    ·refine ty ?_
     refine aq [7] ?_
     exact aw (hK62 ()) [0,1,2,3]
    exact zC
   refine zK [1,3,6] (by kernel_rfl) rfl ?_
   refine zk ?_ ?_
   ·refine ty ?_
    exact aw (hK68 ()) [0,1,2,3]
   refine zk ?_ ?_
   ·refine ty ?_
    exact aw (hK69 ()) [0,1,2,3]
   refine zk ?_ ?_
   ·refine ty ?_
    refine aq [7] ?_
    exact aw (hK65 ()) [0,1,2,3]
   exact zC
  ·refine z1h _ rfl ?_
   exact gk jj j9 _ [1,2,3] h
 rintro ⟨x_7,x_8,x_9,je,jf,jg⟩ v13 h
 refine rs ?_
 refine zh (ys ?_)
 refine zd (zA ?_)
 exact fr [2] Tryz.results109 h
def zfF (n:Nat) (l_0:(List z6)) (q2r:(List z6)→Int→Option (zR)):(Int×Int×(List UInt8)×(List zi)×Int×Bool)→Option (Lp (Int×Int×(List UInt8)×(List zi)×Int×Bool) (Lp (Int×Int×(List UInt8)×(List zi)×Int×Bool) (zR))):=
 fun (j6,j7,j8,jb,j0,j4)=>
  bindJ (S:=Bool)
   (cond (!j4)
    (obind (z2R l_0 j0 [111,114]) fun r35=>
    some (.go r35))
    (some (.go false)))
  (fun b29 =>
   cond b29
    (obind (zdi n q2r l_0 (IntKind.i64.wrap (j0+1))) fun r38=>
    obind (z7p l_0 (zR.mk (zi.mk j6 j7 j8 jb) j0 j4) j0 22 r38) fun r41=>
    some (.go (r41.X.Op,r41.X.At,r41.X.S,r41.X.Args,r41.I,r41.Bad)))
    (some (.stop (.go (j6,j7,j8,jb,j0,j4)))))
def z9g (n:Nat) (q2r:(List z6)→Int→Option (zR)) (l_0:(List z6)) (i_1:Int):Option (zR):=
 obind (zdi n q2r l_0 i_1) fun r2=>
 bindJ (S:=Int×Int×(List UInt8)×(List zi)×Int×Bool)
  (iter (zfF n l_0 q2r) n (r2.X.Op,r2.X.At,r2.X.S,r2.X.Args,r2.I,r2.Bad))
 (fun (x_7, x_8, x_9, je, jf, jg) =>
  some (zR.mk (zi.mk x_7 x_8 x_9 je) jf jg))
theorem zfp {n:Nat} {q2r:(List z6)→Int→Option (zR)} (q3h:K17 q2r 49):K17 (z9g n q2r) 49:=by
 intro l_0 i_1 jc r h
 refine zN Tryz.func49 rfl Tryz.ntmps49 rfl (fun w0 o0=>?_)
 refine zh (al fun b1=>?_)
 refine za (ys ?_)
 refine cl1 [(0,0)] Tryz.call109 (fun h=>za8 q3h h) h (fun r2 v4 h=>?_)
 refine al fun b5=>?_
 refine ys ?_
 refine zd (jr h [4,5] [2,0,0] (fun s (g:Value)=>[]) (fun s g=>[box b5 [.int .i64 s.1,.int .i64 s.2.1,.string (bs s.2.2.1),g,.int .i64 s.2.2.2.2.1,.bool s.2.2.2.2.2],nro g zj s.2.2.2.1]) (fun _ h _ _ jj=>?_) ?_)
 ·refine zF (lo h [0,4,5] [1,2,0,0] (fun s (g:Value)=>[]) (fun s g=>[box b5 [.int .i64 s.1,.int .i64 s.2.1,.string (bs s.2.2.1),g,.int .i64 s.2.2.2.2.1,.bool s.2.2.2.2.2],nro g zj s.2.2.2.1]) _ [0,1,3,2] ?_)
  rintro ⟨j6,j7,j8,jb,j0,j4⟩ v24 _ h _ jh j9
  refine rs ?_
  refine zH (zh (ys ?_))
  refine ob h 5 [0,4,5] [1,2,3,4] (fun s=>[(17,.bool s)]) (fun s=>[]) (fun _ h _ _ ji=>?_) ?_
  ·refine z1c 12 (!j4) rfl (fun jd=>?_) (fun jd=>?_)
   ·replace h:=z2F h jd
    refine ys ?_
    refine cl0 [(0,0)] Tryz.call86 (fun h=>z25 h) h (fun r35 h=>?_)
    refine ys ?_
    exact zr (gb ji [0,1,2,3] h)
   ·replace h:=z2E h jd
    refine ys ?_
    exact zr (gb ji [0,1,2,3] h)
  rintro b29 h
  refine os ?_
  refine zd (rc h (fun _ h=>?_) (fun _ h=>?_))
  ·refine run_skip (zD (zF ?_))
   obtain ⟨r38,ja,h⟩:=zJ h
   obtain ⟨r41,jk,h⟩:=zJ h
   refine rf [1,1,0,1] fun hS=>?_
   refine aq [0,2,4,5] ?_
   refine a2 [11] 0 [0,4,5] [1,2,0,4,0,0] (fun (s:Value×Value)=>[]) (fun s=>[box b5 [.int .i64 r41.X.Op,.int .i64 r41.X.At,.string (bs r41.X.S),s.1,.int .i64 r41.I,.bool r41.Bad],nro s.2 zj r38.X.Args,nro s.1 zj r41.X.Args]) ?_ (fun hK51=>?_)
   ·rintro ⟨v49,v48⟩
    refine az ?_
    refine z1K (by kernel_rfl) ?_
    exact zS (gj jh _ [0,1,2,5] h)
   refine a2 [10,1] 1 [0,4,5] [1,2,3,4,0,0] (fun (s:Value×Value)=>[(27,.agg #[.int .i64 r41.X.Op,.int .i64 r41.X.At,.string (bs r41.X.S),s.1,.int .i64 r41.I,.bool r41.Bad])]) (fun s=>[nro s.2 zj r38.X.Args,nro s.1 zj r41.X.Args]) ?_ (fun hK52=>?_)
   ·rintro ⟨v49,v48⟩
    refine az ?_
    refine zK [10] (by kernel_rfl) rfl ?_
    refine zk ?_ ?_
    ·refine z1J 5 rfl z1j (fun jo hs53o=>?_)
     refine at' rfl (z55 2 Tryz.sizeOf122 rfl rfl rfl rfl (by simp [Value.cells,boxP]) (z1s rfl (z1s rfl (z1s rfl (z1s hs53o (z1s rfl (z1s rfl (z6b)))))))) ?_
     rintro _ _ ⟨rfl,rfl⟩
     refine sb ?_
     refine z1B (retell 2 (g:=box b5 [.int .i64 r41.X.Op,.int .i64 r41.X.At,.string (bs r41.X.S),v49,.int .i64 r41.I,.bool r41.Bad]) rfl rfl) ?_
     exact aw (hK51 (v49,v48)) [0,1,2,3,4,5]
    exact zC
   refine a2 [9,2] 2 [0,4,5,18] [1,2,3,4,0] (fun (s:Value)=>[(19,.agg #[.int .i64 j6,.int .i64 j7,.string (bs j8),v24,.int .i64 j0,.bool j4]),(21,.int .i64 j0),(26,.agg #[.int .i64 r38.X.Op,.int .i64 r38.X.At,.string (bs r38.X.S),s,.int .i64 r38.I,.bool r38.Bad])]) (fun s=>[nro s zj r38.X.Args]) ?_ (fun hK54=>?_)
   ·rintro v48
    refine az ?_
    refine zK [9] (by kernel_rfl) rfl ?_
    refine zk ?_ ?_
    ·refine at' rfl (tc [(0,0),(3,0),(4,0)] Tryz.call110 (z9q jk)) ?_
     rintro _ _ ⟨_,⟨v55,rfl,rfl⟩,rfl⟩
     refine sb ?_
     exact aw (hK52 (v55,v48)) [0,1,2,3,4,5]
    exact zC
   refine a2 [8,3] 3 [0,4,5,18,22] [1,2,3,4] (fun (s:Unit)=>[(19,.agg #[.int .i64 j6,.int .i64 j7,.string (bs j8),v24,.int .i64 j0,.bool j4]),(21,.int .i64 j0),(25,.int .i64 (IntKind.i64.wrap (j0+1)))]) (fun s=>[]) ?_ (fun hK56=>?_)
   ·rintro _
    refine az ?_
    refine zK [8] (by kernel_rfl) rfl ?_
    refine zk ?_ ?_
    ·refine at' rfl (tc [(0,0)] Tryz.call109 (za8 q3h ja)) ?_
     rintro _ _ ⟨_,⟨v57,rfl,rfl⟩,rfl⟩
     refine sb ?_
     exact aw (hK54 v57) [0,1,2,3,4]
    exact zC
   refine a2 [3,1,5,2] 3 [0,4,5,18,20] [1,2,3,4,0] (fun (s:Value)=>[(19,.agg #[.int .i64 j6,.int .i64 j7,.string (bs j8),v24,.int .i64 j0,.bool j4]),(26,.agg #[.int .i64 r38.X.Op,.int .i64 r38.X.At,.string (bs r38.X.S),s,.int .i64 r38.I,.bool r38.Bad])]) (fun s=>[nro s zj r38.X.Args]) ?_ (fun hK58=>?_)
   ·rintro v46
    refine az ?_
    refine zK [3] (by kernel_rfl) rfl ?_
    refine zk ?_ ?_
    ·refine ty ?_
     exact aw (hK54 v46) [0,1,2,3,4]
    exact zC
   refine a2 [1,1,7,2] 3 [0,4,5,18] [1,2,3,4,0] (fun (s:Value)=>[(21,.int .i64 j0),(26,.agg #[.int .i64 r38.X.Op,.int .i64 r38.X.At,.string (bs r38.X.S),s,.int .i64 r38.I,.bool r38.Bad])]) (fun s=>[nro s zj r38.X.Args]) ?_ (fun hK59=>?_)
   ·rintro v47
    refine az ?_
    refine zK [1] (by kernel_rfl) rfl ?_
    refine zk ?_ ?_
    ·refine ty ?_
     exact aw (hK54 v47) [0,1,2,3,4]
    exact zC
   refine a2 [3,1,4,3] 4 [0,4,5,18,20,22] [1,2,3,4] (fun (s:Unit)=>[(19,.agg #[.int .i64 j6,.int .i64 j7,.string (bs j8),v24,.int .i64 j0,.bool j4]),(25,.int .i64 (IntKind.i64.wrap (j0+1)))]) (fun s=>[]) ?_ (fun hK60=>?_)
   ·rintro _
    refine az ?_
    refine zK [3,8] (by kernel_rfl) rfl ?_
    refine zk ?_ ?_
    ·refine ty ?_
     exact aw (hK56 ()) [0,1,2,3]
    refine zk ?_ ?_
    ·refine at' rfl (tc [(0,0)] Tryz.call109 (za8 q3h ja)) ?_
     rintro _ _ ⟨_,⟨v61,rfl,rfl⟩,rfl⟩
     refine sb ?_
     exact aw (hK58 v61) [0,1,2,3,4]
    exact zC
   refine a2 [1,1,6,3] 4 [0,4,5,18,22] [1,2,3,4] (fun (s:Unit)=>[(21,.int .i64 j0),(25,.int .i64 (IntKind.i64.wrap (j0+1)))]) (fun s=>[]) ?_ (fun hK62=>?_)
   ·rintro _
    refine az ?_
    refine zK [1,8] (by kernel_rfl) rfl ?_
    refine zk ?_ ?_
    ·refine ty ?_
     exact aw (hK56 ()) [0,1,2,3]
    refine zk ?_ ?_
    ·refine at' rfl (tc [(0,0)] Tryz.call109 (za8 q3h ja)) ?_
     rintro _ _ ⟨_,⟨v63,rfl,rfl⟩,rfl⟩
     refine sb ?_
     exact aw (hK59 v63) [0,1,2,3,4]
    exact zC
   refine a2 [1,1,1,1,5,2] 4 [0,4,5,18,20] [1,2,3,4,0] (fun (s:Value)=>[(26,.agg #[.int .i64 r38.X.Op,.int .i64 r38.X.At,.string (bs r38.X.S),s,.int .i64 r38.I,.bool r38.Bad])]) (fun s=>[nro s zj r38.X.Args]) ?_ (fun hK64=>?_)
   ·rintro v45
    refine az ?_
    refine zK [1,3] (by kernel_rfl) rfl ?_
    refine zk ?_ ?_
    ·refine ty ?_
     exact aw (hK58 v45) [0,1,2,3,4]
    refine zk ?_ ?_
    ·refine ty ?_
     exact aw (hK59 v45) [0,1,2,3,4]
    exact zC
   refine a2 [1,1,1,1,4,3] 5 [0,4,5,18,20,22] [1,2,3,4] (fun (s:Unit)=>[(25,.int .i64 (IntKind.i64.wrap (j0+1)))]) (fun s=>[]) ?_ (fun hK65=>?_)
   ·rintro _
    refine az ?_
    refine zK [1,3,8] (by kernel_rfl) rfl ?_
    refine zk ?_ ?_
    ·refine ty ?_
     exact aw (hK60 ()) [0,1,2,3]
    refine zk ?_ ?_
    ·refine ty ?_
     exact aw (hK62 ()) [0,1,2,3]
    refine zk ?_ ?_
    ·refine at' rfl (tc [(0,0)] Tryz.call109 (za8 q3h ja)) ?_
     rintro _ _ ⟨_,⟨v66,rfl,rfl⟩,rfl⟩
     refine sb ?_
     exact aw (hK64 v66) [0,1,2,3,4]
    exact zC
   refine a2 [6,5] 5 [0,4,5,18,22,23] [1,2,3,4] (fun (s:Unit)=>[(19,.agg #[.int .i64 j6,.int .i64 j7,.string (bs j8),v24,.int .i64 j0,.bool j4]),(21,.int .i64 j0)]) (fun s=>[]) ?_ (fun hK67=>?_)
   ·rintro _
    refine az ?_
    refine zK [6] (by kernel_rfl) rfl ?_
    refine zk ?_ ?_
    ·refine ty ?_
     refine aq [7] ?_
     exact aw (hK56 ()) [0,1,2,3]
    exact zC
   refine a2 [3,1,2,5] 6 [0,4,5,18,20,22,23] [1,2,3,4] (fun (s:Unit)=>[(19,.agg #[.int .i64 j6,.int .i64 j7,.string (bs j8),v24,.int .i64 j0,.bool j4])]) (fun s=>[]) ?_ (fun hK68=>?_)
   ·rintro _
    refine az ?_
    refine zK [3,6] (by kernel_rfl) rfl ?_
    refine zk ?_ ?_
    ·refine ty ?_
     exact aw (hK67 ()) [0,1,2,3]
    refine zk ?_ ?_
    ·refine ty ?_
     refine aq [7] ?_
     exact aw (hK60 ()) [0,1,2,3]
    exact zC
   refine a2 [1,1,4,5] 6 [0,4,5,18,22,23] [1,2,3,4] (fun (s:Unit)=>[(21,.int .i64 j0)]) (fun s=>[]) ?_ (fun hK69=>?_)
   ·rintro _
    refine az ?_
    refine zK [1,6] (by kernel_rfl) rfl ?_
    refine zk ?_ ?_
    ·refine ty ?_
     exact aw (hK67 ()) [0,1,2,3]
    refine zk ?_ ?_
    ·refine ty ?_
     refine aq [7] ?_
     exact aw (hK62 ()) [0,1,2,3]
    exact zC
   refine zK [1,3,6] (by kernel_rfl) rfl ?_
   refine zk ?_ ?_
   ·refine ty ?_
    exact aw (hK68 ()) [0,1,2,3]
   refine zk ?_ ?_
   ·refine ty ?_
    exact aw (hK69 ()) [0,1,2,3]
   refine zk ?_ ?_
   ·refine ty ?_
    refine aq [7] ?_
    exact aw (hK65 ()) [0,1,2,3]
   exact zC
  ·refine z1h _ rfl ?_
   exact gk jj j9 _ [1,2,3] h
 rintro ⟨x_7,x_8,x_9,je,jf,jg⟩ v13 h
 refine rs ?_
 refine zh (ys ?_)
 refine zd (zA ?_)
 exact fr [2] Tryz.results49 h
def z4O:Nat→(List z6)→Int→Option (zR)
 | 0=>fun _ _=>none
 | n+1=>z9g n  (z4O n )
theorem zaH {n:Nat}:K17 (z4O n) 49:=by
 induction n with
 | zero=>intro _ _ _ _  h; cases h
 | succ n ih=>exact zfp ih
def zbl (l_0:(List z6)) (s_1:zm) (x_2:zR):Option (z1g):=
 bindJ (S:=Bool)
  (cond x_2.Bad
   (some (.go true))
   (obind (z2B l_0 x_2.I [59]) fun r10=>
   some (.go (!r10))))
 (fun b4 =>
  cond b4
   (some (z1g.mk ([]:List zm) x_2.I true))
   (some (z1g.mk ([(zm.mk s_1.Kind s_1.At s_1.Name x_2.X s_1.Body s_1.Else)]:List zm) (IntKind.i64.wrap (x_2.I+1)) false)))
theorem zio {l_0:(List z6)} {s_1:zm} {x_2:zR} {jc:Value} {j3:Value} {j1:Value} {j2:Value} {j5:Value} {r:z1g} (h:zbl l_0 s_1 x_2=some r) :
  Meets Tryz.prog 228 [jc,.agg #[.int .i64 s_1.Kind,.int .i64 s_1.At,.string (bs s_1.Name),.int .i64 s_1.X.Op,.int .i64 s_1.X.At,.string (bs s_1.X.S),j3,j1,j2],.agg #[.int .i64 x_2.X.Op,.int .i64 x_2.X.At,.string (bs x_2.X.S),j5,.int .i64 x_2.I,.bool x_2.Bad]] [ro jc 3 (l_0.map z6.enc),nro j3 zj s_1.X.Args,nro j1 zE s_1.Body,nro j2 zE s_1.Else,nro j5 zj x_2.X.Args] (fun v G=>∃ v0,v = .agg #[v0,.int .i64 r.I,.bool r.Bad]∧G=[nrow v0 zE r.L]):=by
 refine zN Tryz.func228 rfl Tryz.ntmps228 rfl (fun w0 o0=>?_)
 refine zh (zt (t_box rfl) ?_)
 rintro _ _ ⟨b1,rfl,rfl⟩
 refine zt (t_box rfl) ?_
 rintro _ _ ⟨b2,rfl,rfl⟩
 refine al fun b3=>?_
 refine zc (zh (ys ?_))
 refine ob h 6 [4,5,6] [2,3,4,5,6,7,8] (fun s=>[(15,.bool s)]) (fun s=>[]) (fun _ h _ _ hL8=>?_) ?_
 ·refine z1c 9 x_2.Bad rfl (fun hg9=>?_) (fun hg9=>?_)
  ·replace h:=z2F h hg9
   refine ys ?_
   exact zr (gb hL8 [1,2,3,4,5,6,7] h)
  ·replace h:=z2E h hg9
   refine ys ?_
   refine cl0 [(0,0)] Tryz.call85 (fun h=>z1M h) h (fun r10 h=>?_)
   refine ys ?_
   exact zr (gb hL8 [1,2,3,4,5,6,7] h)
 rintro b4 h
 refine os ?_
 refine zd (rc h (fun _ h=>?_) (fun _ h=>?_))
 ·refine zh (ys ?_)
  refine zd (zA ?_)
  refine z1k (z1q zE) ?_
  exact fr [7] Tryz.results228 h
 ·refine run_skip (ze ?_)
  refine ys ?_
  refine za (ys ?_)
  refine z2V 1 rfl z1j (fun jl hs15o=>?_)
  refine z2V 2 rfl z1j (fun jm hs16o=>?_)
  refine z2V 3 rfl z1j (fun jn hs17o=>?_)
  refine zt (t_lit [.agg #[.int .i64 s_1.Kind,.int .i64 s_1.At,.string (bs s_1.Name),.int .i64 x_2.X.Op,.int .i64 x_2.X.At,.string (bs x_2.X.S),j5,j1,j2]] Tryz.runUnderlying80 Tryz.sizeOf84 Tryz.zeroValue84 rfl (by decide) (by decide) rfl (by intro q hq; simp only [y1,y0,or_false] at hq; rcases hq with rfl <;> first | rfl | (rw [jl]; rfl) | (rw [jm]; rfl) | (rw [jn]; rfl))) ?_
  rintro v14 _ ⟨rfl,_⟩
  refine zB (z1p (C:=zE) (l:=([(zm.mk s_1.Kind s_1.At s_1.Name x_2.X s_1.Body s_1.Else)]:List zm)) 7 [((zm.mk s_1.Kind s_1.At s_1.Name x_2.X s_1.Body s_1.Else),(j5,j1,j2))] rfl (by simp only [yI,List.map_nil,jl,jm,jn]; rfl) rfl (z1o (z2P (T:=z1S) (z1t 3 rfl (z1t 1 rfl (z1t 2 rfl z2u)))) z1x)) ?_
  refine ys ?_
  refine zd (zA ?_)
  exact fr [7] Tryz.results228 h
def z7M (n:Nat) (l_0:(List z6)) (s_1:zm) (i_2:Int):Option (z1g):=
 obind (z2B l_0 i_2 [61]) fun r3=>
 cond (!r3)
  (some (z1g.mk ([]:List zm) i_2 true))
  (obind (z4O n l_0 (IntKind.i64.wrap (i_2+1))) fun r6=>
  obind (zbl l_0 s_1 r6) fun r9=>
  some r9)
theorem z9f {n:Nat} {l_0:(List z6)} {s_1:zm} {i_2:Int} {jc:Value} {j3:Value} {j1:Value} {j2:Value} {r:z1g} (h:z7M n l_0 s_1 i_2=some r) :
  Meets Tryz.prog 224 [jc,.agg #[.int .i64 s_1.Kind,.int .i64 s_1.At,.string (bs s_1.Name),.int .i64 s_1.X.Op,.int .i64 s_1.X.At,.string (bs s_1.X.S),j3,j1,j2],.int .i64 i_2] [ro jc 3 (l_0.map z6.enc),nrow j3 zj s_1.X.Args,nrow j1 zE s_1.Body,nrow j2 zE s_1.Else] (fun v G=>∃ v0,v = .agg #[v0,.int .i64 r.I,.bool r.Bad]∧G=[nrow v0 zE r.L]):=by
 refine zN Tryz.func224 rfl Tryz.ntmps224 rfl (fun w0 o0=>?_)
 refine zh (zt (t_box rfl) ?_)
 rintro _ _ ⟨b1,rfl,rfl⟩
 refine al fun b2=>?_
 refine zc (zh (ys ?_))
 refine cl0 [(0,0)] Tryz.call85 (fun h=>z1M h) h (fun r3 h=>?_)
 refine ys ?_
 refine zd (rc h (fun _ h=>?_) (fun _ h=>?_))
 ·refine zh (ys ?_)
  refine zd (zA ?_)
  refine z1k (z1q zE) ?_
  exact fr [6] Tryz.results224 h
 ·refine run_skip (zg (rf [1,0,0,0,1] fun hS=>?_))
  refine aq [0,1,2,3,4] ?_
  refine zK [5] (by kernel_rfl) rfl (zk ?_ zC)
  obtain ⟨r6,hr7,h⟩:=zJ h
  refine at' rfl (tc [(0,0)] Tryz.call49 (zaH hr7)) ?_
  rintro _ _ ⟨_,⟨v8,rfl,rfl⟩,rfl⟩
  refine sb ?_
  refine zK [6] (by kernel_rfl) rfl (zk ?_ zC)
  refine z3n (z24 1 rfl) ?_
  refine z3n (z24 2 rfl) ?_
  refine z3n (z24 3 rfl) ?_
  obtain ⟨r9,jp,h⟩:=zJ h
  refine at' rfl (tc [(0,0),(1,0),(2,0),(3,0),(6,0)] Tryz.call228 (zio jp)) ?_
  rintro _ _ ⟨_,⟨v11,rfl,rfl⟩,rfl⟩
  refine sb ?_
  refine ast 7 ?_
  refine z1K (by kernel_rfl) ?_
  refine zD (zA ?_)
  exact fr [7] Tryz.results224 h
end Go.Proofs.YtcmaoifiiigggaaGreatDoor
