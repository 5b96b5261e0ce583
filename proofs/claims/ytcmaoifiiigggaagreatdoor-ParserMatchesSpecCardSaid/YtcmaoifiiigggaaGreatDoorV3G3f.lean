/-
  Functions that the law ParserMatchesSpec needs, lifted.
-/
import Derived.Test.YtcmaoifiiigggaaGreatDoorV3G3e
set_option linter.unusedSimpArgs false
set_option linter.unusedVariables false
namespace Go.Proofs.YtcmaoifiiigggaaGreatDoor
open Go.Abs
set_option maxRecDepth 20000
set_option maxHeartbeats 4000000
def zcW (n:Nat) (l_0:(List z6)) (q2r:(List z6)→Int→Option (zR)):(Int×Int×(List UInt8)×(List zi)×Int×Bool)→Option (Lp (Int×Int×(List UInt8)×(List zi)×Int×Bool) (Lp (Int×Int×(List UInt8)×(List zi)×Int×Bool) (zR))):=
 fun (j2,j3,j4,j8,j0,j1)=>
  bindJ (S:=Bool)
   (cond (!j1)
    (obind (zbr l_0 j0) fun r35=>
    some (.go (decide (0<r35))))
    (some (.go false)))
  (fun b29 =>
   cond b29
    (obind (zbr l_0 j0) fun r38=>
    obind (z94 n q2r l_0 (IntKind.i64.wrap (j0+1))) fun r40=>
    obind (z7p l_0 (zR.mk (zi.mk j2 j3 j4 j8) j0 j1) j0 r38 r40) fun r43=>
    some (.go (r43.X.Op,r43.X.At,r43.X.S,r43.X.Args,r43.I,r43.Bad)))
    (some (.stop (.go (j2,j3,j4,j8,j0,j1)))))
def z85 (n:Nat) (q2r:(List z6)→Int→Option (zR)) (l_0:(List z6)) (i_1:Int):Option (zR):=
 obind (z94 n q2r l_0 i_1) fun r2=>
 bindJ (S:=Int×Int×(List UInt8)×(List zi)×Int×Bool)
  (iter (zcW n l_0 q2r) n (r2.X.Op,r2.X.At,r2.X.S,r2.X.Args,r2.I,r2.Bad))
 (fun (x_7, x_8, x_9, ja, jb, jc) =>
  some (zR.mk (zi.mk x_7 x_8 x_9 ja) jb jc))
theorem z6E {n:Nat} {q2r:(List z6)→Int→Option (zR)} (q3h:K17 q2r 49):K17 (z85 n q2r) 253:=by
 intro l_0 i_1 jf r h
 refine zN Tryz.func253 rfl Tryz.ntmps253 rfl (fun w0 o0=>?_)
 refine zh (al fun b1=>?_)
 refine za (ys ?_)
 obtain ⟨r2,hr3,h⟩:=zJ h
 refine zt (tc [(0,0)] Tryz.call266 (z8C q3h hr3)) ?_
 rintro _ _ ⟨_,⟨v4,rfl,rfl⟩,rfl⟩
 refine al fun b5=>?_
 refine ys ?_
 refine zd (jr h [4,5] [2,0,0] (fun s (g:Value)=>[]) (fun s g=>[box b5 [.int .i64 s.1,.int .i64 s.2.1,.string (bs s.2.2.1),g,.int .i64 s.2.2.2.2.1,.bool s.2.2.2.2.2],nro g zj s.2.2.2.1]) (fun _ h _ _ jg=>?_) ?_)
 ·refine zF (lo h [0,4,5] [1,2,0,0] (fun s (g:Value)=>[]) (fun s g=>[box b5 [.int .i64 s.1,.int .i64 s.2.1,.string (bs s.2.2.1),g,.int .i64 s.2.2.2.2.1,.bool s.2.2.2.2.2],nro g zj s.2.2.2.1]) _ [0,1,3,2] ?_)
  rintro ⟨j2,j3,j4,j8,j0,j1⟩ v24 _ h _ jd j6
  refine rs ?_
  refine zH (zh (ys ?_))
  refine ob h 6 [0,4,5] [1,2,3,4] (fun s=>[(18,.bool s)]) (fun s=>[]) (fun _ h _ _ je=>?_) ?_
  ·refine z1c 12 (!j1) rfl (fun j9=>?_) (fun j9=>?_)
   ·replace h:=z2F h j9
    refine ys ?_
    refine cl0 [(0,0)] Tryz.call267 (fun h=>z4T h) h (fun r35 h=>?_)
    refine ys ?_
    exact zr (gb je [0,1,2,3] h)
   ·replace h:=z2E h j9
    refine ys ?_
    exact zr (gb je [0,1,2,3] h)
  rintro b29 h
  refine os ?_
  refine zd (rc h (fun _ h=>?_) (fun _ h=>?_))
  ·refine run_skip (zD (zF ?_))
   obtain ⟨r38,j5,h⟩:=zJ h
   obtain ⟨r40,j7,h⟩:=zJ h
   obtain ⟨r43,jh,h⟩:=zJ h
   refine rf [1,1,0,1] fun hS=>?_
   refine aq [0,2,4,5,8,9] ?_
   refine a2 [15] 0 [0,4,5] [1,2,0,4,0,0] (fun (s:Value×Value)=>[]) (fun s=>[box b5 [.int .i64 r43.X.Op,.int .i64 r43.X.At,.string (bs r43.X.S),s.1,.int .i64 r43.I,.bool r43.Bad],nro s.2 zj r40.X.Args,nro s.1 zj r43.X.Args]) ?_ (fun hK53=>?_)
   ·rintro ⟨v51,v50⟩
    refine az ?_
    refine z1K (by kernel_rfl) ?_
    exact zS (gj jd _ [0,1,2,5] h)
   refine a2 [14,1] 1 [0,4,5] [1,2,3,4,0,0] (fun (s:Value×Value)=>[(32,.agg #[.int .i64 r43.X.Op,.int .i64 r43.X.At,.string (bs r43.X.S),s.1,.int .i64 r43.I,.bool r43.Bad])]) (fun s=>[nro s.2 zj r40.X.Args,nro s.1 zj r43.X.Args]) ?_ (fun hK54=>?_)
   ·rintro ⟨v51,v50⟩
    refine az ?_
    refine zK [14] (by kernel_rfl) rfl ?_
    refine zk ?_ ?_
    ·refine z1J 5 rfl z1j (fun ji hs55o=>?_)
     refine at' rfl (z55 2 Tryz.sizeOf122 rfl rfl rfl rfl (by simp [Value.cells,boxP]) (z1s rfl (z1s rfl (z1s rfl (z1s hs55o (z1s rfl (z1s rfl (z6b)))))))) ?_
     rintro _ _ ⟨rfl,rfl⟩
     refine sb ?_
     refine z1B (retell 2 (g:=box b5 [.int .i64 r43.X.Op,.int .i64 r43.X.At,.string (bs r43.X.S),v51,.int .i64 r43.I,.bool r43.Bad]) rfl rfl) ?_
     exact aw (hK53 (v51,v50)) [0,1,2,3,4,5]
    exact zC
   refine a2 [13,2] 2 [0,4,5,19] [1,2,3,4,0] (fun (s:Value)=>[(20,.agg #[.int .i64 j2,.int .i64 j3,.string (bs j4),v24,.int .i64 j0,.bool j1]),(22,.int .i64 j0),(26,.int .i64 r38),(31,.agg #[.int .i64 r40.X.Op,.int .i64 r40.X.At,.string (bs r40.X.S),s,.int .i64 r40.I,.bool r40.Bad])]) (fun s=>[nro s zj r40.X.Args]) ?_ (fun hK56=>?_)
   ·rintro v50
    refine az ?_
    refine zK [13] (by kernel_rfl) rfl ?_
    refine zk ?_ ?_
    ·refine at' rfl (tc [(0,0),(3,0),(4,0)] Tryz.call110 (z9q jh)) ?_
     rintro _ _ ⟨_,⟨v57,rfl,rfl⟩,rfl⟩
     refine sb ?_
     exact aw (hK54 (v57,v50)) [0,1,2,3,4,5]
    exact zC
   refine a2 [12,3] 3 [0,4,5,19,27] [1,2,3,4] (fun (s:Unit)=>[(20,.agg #[.int .i64 j2,.int .i64 j3,.string (bs j4),v24,.int .i64 j0,.bool j1]),(22,.int .i64 j0),(26,.int .i64 r38),(30,.int .i64 (IntKind.i64.wrap (j0+1)))]) (fun s=>[]) ?_ (fun hK58=>?_)
   ·rintro _
    refine az ?_
    refine zK [12] (by kernel_rfl) rfl ?_
    refine zk ?_ ?_
    ·refine at' rfl (tc [(0,0)] Tryz.call266 (z8C q3h j7)) ?_
     rintro _ _ ⟨_,⟨v59,rfl,rfl⟩,rfl⟩
     refine sb ?_
     exact aw (hK56 v59) [0,1,2,3,4]
    exact zC
   refine a2 [3,1,9,2] 3 [0,4,5,19,21] [1,2,3,4,0] (fun (s:Value)=>[(20,.agg #[.int .i64 j2,.int .i64 j3,.string (bs j4),v24,.int .i64 j0,.bool j1]),(26,.int .i64 r38),(31,.agg #[.int .i64 r40.X.Op,.int .i64 r40.X.At,.string (bs r40.X.S),s,.int .i64 r40.I,.bool r40.Bad])]) (fun s=>[nro s zj r40.X.Args]) ?_ (fun hK60=>?_)
   ·rintro v48
    refine az ?_
    refine zK [3] (by kernel_rfl) rfl ?_
    refine zk ?_ ?_
    ·refine ty ?_
     exact aw (hK56 v48) [0,1,2,3,4]
    exact zC
   refine a2 [1,1,11,2] 3 [0,4,5,19] [1,2,3,4,0] (fun (s:Value)=>[(22,.int .i64 j0),(26,.int .i64 r38),(31,.agg #[.int .i64 r40.X.Op,.int .i64 r40.X.At,.string (bs r40.X.S),s,.int .i64 r40.I,.bool r40.Bad])]) (fun s=>[nro s zj r40.X.Args]) ?_ (fun hK61=>?_)
   ·rintro v49
    refine az ?_
    refine zK [1] (by kernel_rfl) rfl ?_
    refine zk ?_ ?_
    ·refine ty ?_
     exact aw (hK56 v49) [0,1,2,3,4]
    exact zC
   refine a2 [7,1,4,3] 4 [0,4,5,19,23,27] [1,2,3,4] (fun (s:Unit)=>[(20,.agg #[.int .i64 j2,.int .i64 j3,.string (bs j4),v24,.int .i64 j0,.bool j1]),(22,.int .i64 j0),(25,.int .i64 j0),(30,.int .i64 (IntKind.i64.wrap (j0+1)))]) (fun s=>[]) ?_ (fun hK62=>?_)
   ·rintro _
    refine az ?_
    refine zK [7] (by kernel_rfl) rfl ?_
    refine zk ?_ ?_
    ·refine at' rfl (tc [(0,0)] Tryz.call267 (z4T j5)) ?_
     rintro _ _ ⟨_,⟨rfl,rfl⟩,rfl⟩
     refine sb ?_
     exact aw (hK58 ()) [0,1,2,3]
    exact zC
   refine a2 [3,1,8,3] 4 [0,4,5,19,21,27] [1,2,3,4] (fun (s:Unit)=>[(20,.agg #[.int .i64 j2,.int .i64 j3,.string (bs j4),v24,.int .i64 j0,.bool j1]),(26,.int .i64 r38),(30,.int .i64 (IntKind.i64.wrap (j0+1)))]) (fun s=>[]) ?_ (fun hK63=>?_)
   ·rintro _
    refine az ?_
    refine zK [3,12] (by kernel_rfl) rfl ?_
    refine zk ?_ ?_
    ·refine ty ?_
     exact aw (hK58 ()) [0,1,2,3]
    refine zk ?_ ?_
    ·refine at' rfl (tc [(0,0)] Tryz.call266 (z8C q3h j7)) ?_
     rintro _ _ ⟨_,⟨v64,rfl,rfl⟩,rfl⟩
     refine sb ?_
     exact aw (hK60 v64) [0,1,2,3,4]
    exact zC
   refine a2 [1,1,10,3] 4 [0,4,5,19,27] [1,2,3,4] (fun (s:Unit)=>[(22,.int .i64 j0),(26,.int .i64 r38),(30,.int .i64 (IntKind.i64.wrap (j0+1)))]) (fun s=>[]) ?_ (fun hK65=>?_)
   ·rintro _
    refine az ?_
    refine zK [1,12] (by kernel_rfl) rfl ?_
    refine zk ?_ ?_
    ·refine ty ?_
     exact aw (hK58 ()) [0,1,2,3]
    refine zk ?_ ?_
    ·refine at' rfl (tc [(0,0)] Tryz.call266 (z8C q3h j7)) ?_
     rintro _ _ ⟨_,⟨v66,rfl,rfl⟩,rfl⟩
     refine sb ?_
     exact aw (hK61 v66) [0,1,2,3,4]
    exact zC
   refine a2 [1,1,1,1,9,2] 4 [0,4,5,19,21] [1,2,3,4,0] (fun (s:Value)=>[(26,.int .i64 r38),(31,.agg #[.int .i64 r40.X.Op,.int .i64 r40.X.At,.string (bs r40.X.S),s,.int .i64 r40.I,.bool r40.Bad])]) (fun s=>[nro s zj r40.X.Args]) ?_ (fun hK67=>?_)
   ·rintro v47
    refine az ?_
    refine zK [1,3] (by kernel_rfl) rfl ?_
    refine zk ?_ ?_
    ·refine ty ?_
     exact aw (hK60 v47) [0,1,2,3,4]
    refine zk ?_ ?_
    ·refine ty ?_
     exact aw (hK61 v47) [0,1,2,3,4]
    exact zC
   refine a2 [6,2,4,3] 5 [0,4,5,19,23,24,27] [1,2,3,4] (fun (s:Unit)=>[(20,.agg #[.int .i64 j2,.int .i64 j3,.string (bs j4),v24,.int .i64 j0,.bool j1]),(22,.int .i64 j0),(30,.int .i64 (IntKind.i64.wrap (j0+1)))]) (fun s=>[]) ?_ (fun hK68=>?_)
   ·rintro _
    refine az ?_
    refine zK [6] (by kernel_rfl) rfl ?_
    refine zk ?_ ?_
    ·refine ty ?_
     exact aw (hK62 ()) [0,1,2,3]
    exact zC
   refine a2 [3,1,3,1,4,3] 5 [0,4,5,19,21,23,27] [1,2,3,4] (fun (s:Unit)=>[(20,.agg #[.int .i64 j2,.int .i64 j3,.string (bs j4),v24,.int .i64 j0,.bool j1]),(25,.int .i64 j0),(30,.int .i64 (IntKind.i64.wrap (j0+1)))]) (fun s=>[]) ?_ (fun hK69=>?_)
   ·rintro _
    refine az ?_
    refine zK [3,7] (by kernel_rfl) rfl ?_
    refine zk ?_ ?_
    ·refine ty ?_
     exact aw (hK62 ()) [0,1,2,3]
    refine zk ?_ ?_
    ·refine at' rfl (tc [(0,0)] Tryz.call267 (z4T j5)) ?_
     rintro _ _ ⟨_,⟨rfl,rfl⟩,rfl⟩
     refine sb ?_
     exact aw (hK63 ()) [0,1,2,3]
    exact zC
   refine a2 [1,1,5,1,4,3] 5 [0,4,5,19,23,27] [1,2,3,4] (fun (s:Unit)=>[(22,.int .i64 j0),(25,.int .i64 j0),(30,.int .i64 (IntKind.i64.wrap (j0+1)))]) (fun s=>[]) ?_ (fun hK70=>?_)
   ·rintro _
    refine az ?_
    refine zK [1,7] (by kernel_rfl) rfl ?_
    refine zk ?_ ?_
    ·refine ty ?_
     exact aw (hK62 ()) [0,1,2,3]
    refine zk ?_ ?_
    ·refine at' rfl (tc [(0,0)] Tryz.call267 (z4T j5)) ?_
     rintro _ _ ⟨_,⟨rfl,rfl⟩,rfl⟩
     refine sb ?_
     exact aw (hK65 ()) [0,1,2,3]
    exact zC
   refine a2 [1,1,1,1,8,3] 5 [0,4,5,19,21,27] [1,2,3,4] (fun (s:Unit)=>[(26,.int .i64 r38),(30,.int .i64 (IntKind.i64.wrap (j0+1)))]) (fun s=>[]) ?_ (fun hK71=>?_)
   ·rintro _
    refine az ?_
    refine zK [1,3,12] (by kernel_rfl) rfl ?_
    refine zk ?_ ?_
    ·refine ty ?_
     exact aw (hK63 ()) [0,1,2,3]
    refine zk ?_ ?_
    ·refine ty ?_
     exact aw (hK65 ()) [0,1,2,3]
    refine zk ?_ ?_
    ·refine at' rfl (tc [(0,0)] Tryz.call266 (z8C q3h j7)) ?_
     rintro _ _ ⟨_,⟨v72,rfl,rfl⟩,rfl⟩
     refine sb ?_
     exact aw (hK67 v72) [0,1,2,3,4]
    exact zC
   refine a2 [10,5] 5 [0,4,5,19,27,28] [1,2,3,4] (fun (s:Unit)=>[(20,.agg #[.int .i64 j2,.int .i64 j3,.string (bs j4),v24,.int .i64 j0,.bool j1]),(22,.int .i64 j0),(26,.int .i64 r38)]) (fun s=>[]) ?_ (fun hK73=>?_)
   ·rintro _
    refine az ?_
    refine zK [10] (by kernel_rfl) rfl ?_
    refine zk ?_ ?_
    ·refine ty ?_
     refine aq [11] ?_
     exact aw (hK58 ()) [0,1,2,3]
    exact zC
   refine a2 [3,1,2,2,4,3] 6 [0,4,5,19,21,23,24,27] [1,2,3,4] (fun (s:Unit)=>[(20,.agg #[.int .i64 j2,.int .i64 j3,.string (bs j4),v24,.int .i64 j0,.bool j1]),(30,.int .i64 (IntKind.i64.wrap (j0+1)))]) (fun s=>[]) ?_ (fun hK74=>?_)
   ·rintro _
    refine az ?_
    refine zK [3,6] (by kernel_rfl) rfl ?_
    refine zk ?_ ?_
    ·refine ty ?_
     exact aw (hK68 ()) [0,1,2,3]
    refine zk ?_ ?_
    ·refine ty ?_
     exact aw (hK69 ()) [0,1,2,3]
    exact zC
   refine a2 [1,1,4,2,4,3] 6 [0,4,5,19,23,24,27] [1,2,3,4] (fun (s:Unit)=>[(22,.int .i64 j0),(30,.int .i64 (IntKind.i64.wrap (j0+1)))]) (fun s=>[]) ?_ (fun hK75=>?_)
   ·rintro _
    refine az ?_
    refine zK [1,6] (by kernel_rfl) rfl ?_
    refine zk ?_ ?_
    ·refine ty ?_
     exact aw (hK68 ()) [0,1,2,3]
    refine zk ?_ ?_
    ·refine ty ?_
     exact aw (hK70 ()) [0,1,2,3]
    exact zC
   refine a2 [1,1,1,1,3,1,4,3] 6 [0,4,5,19,21,23,27] [1,2,3,4] (fun (s:Unit)=>[(25,.int .i64 j0),(30,.int .i64 (IntKind.i64.wrap (j0+1)))]) (fun s=>[]) ?_ (fun hK76=>?_)
   ·rintro _
    refine az ?_
    refine zK [1,3,7] (by kernel_rfl) rfl ?_
    refine zk ?_ ?_
    ·refine ty ?_
     exact aw (hK69 ()) [0,1,2,3]
    refine zk ?_ ?_
    ·refine ty ?_
     exact aw (hK70 ()) [0,1,2,3]
    refine zk ?_ ?_
    ·refine at' rfl (tc [(0,0)] Tryz.call267 (z4T j5)) ?_
     rintro _ _ ⟨_,⟨rfl,rfl⟩,rfl⟩
     refine sb ?_
     exact aw (hK71 ()) [0,1,2,3]
    exact zC
   refine a2 [7,1,2,5] 6 [0,4,5,19,23,27,28] [1,2,3,4] (fun (s:Unit)=>[(20,.agg #[.int .i64 j2,.int .i64 j3,.string (bs j4),v24,.int .i64 j0,.bool j1]),(22,.int .i64 j0),(25,.int .i64 j0)]) (fun s=>[]) ?_ (fun hK77=>?_)
   ·rintro _
    refine az ?_
    refine zK [7,10] (by kernel_rfl) rfl ?_
    refine zk ?_ ?_
    ·refine at' rfl (tc [(0,0)] Tryz.call267 (z4T j5)) ?_
     rintro _ _ ⟨_,⟨rfl,rfl⟩,rfl⟩
     refine sb ?_
     exact aw (hK73 ()) [0,1,2,3]
    refine zk ?_ ?_
    ·refine ty ?_
     refine aq [11] ?_
     exact aw (hK62 ()) [0,1,2,3]
    exact zC
   refine a2 [3,1,6,5] 6 [0,4,5,19,21,27,28] [1,2,3,4] (fun (s:Unit)=>[(20,.agg #[.int .i64 j2,.int .i64 j3,.string (bs j4),v24,.int .i64 j0,.bool j1]),(26,.int .i64 r38)]) (fun s=>[]) ?_ (fun hK78=>?_)
   ·rintro _
    refine az ?_
    refine zK [3,10] (by kernel_rfl) rfl ?_
    refine zk ?_ ?_
    ·refine ty ?_
     exact aw (hK73 ()) [0,1,2,3]
    refine zk ?_ ?_
    ·refine ty ?_
     refine aq [11] ?_
     exact aw (hK63 ()) [0,1,2,3]
    exact zC
   refine a2 [1,1,8,5] 6 [0,4,5,19,27,28] [1,2,3,4] (fun (s:Unit)=>[(22,.int .i64 j0),(26,.int .i64 r38)]) (fun s=>[]) ?_ (fun hK79=>?_)
   ·rintro _
    refine az ?_
    refine zK [1,10] (by kernel_rfl) rfl ?_
    refine zk ?_ ?_
    ·refine ty ?_
     exact aw (hK73 ()) [0,1,2,3]
    refine zk ?_ ?_
    ·refine ty ?_
     refine aq [11] ?_
     exact aw (hK65 ()) [0,1,2,3]
    exact zC
   refine a2 [1,1,1,1,2,2,4,3] 7 [0,4,5,19,21,23,24,27] [1,2,3,4] (fun (s:Unit)=>[(30,.int .i64 (IntKind.i64.wrap (j0+1)))]) (fun s=>[]) ?_ (fun hK80=>?_)
   ·rintro _
    refine az ?_
    refine zK [1,3,6] (by kernel_rfl) rfl ?_
    refine zk ?_ ?_
    ·refine ty ?_
     exact aw (hK74 ()) [0,1,2,3]
    refine zk ?_ ?_
    ·refine ty ?_
     exact aw (hK75 ()) [0,1,2,3]
    refine zk ?_ ?_
    ·refine ty ?_
     exact aw (hK76 ()) [0,1,2,3]
    exact zC
   refine a2 [6,2,2,5] 7 [0,4,5,19,23,24,27,28] [1,2,3,4] (fun (s:Unit)=>[(20,.agg #[.int .i64 j2,.int .i64 j3,.string (bs j4),v24,.int .i64 j0,.bool j1]),(22,.int .i64 j0)]) (fun s=>[]) ?_ (fun hK81=>?_)
   ·rintro _
    refine az ?_
    refine zK [6,10] (by kernel_rfl) rfl ?_
    refine zk ?_ ?_
    ·refine ty ?_
     exact aw (hK77 ()) [0,1,2,3]
    refine zk ?_ ?_
    ·refine ty ?_
     refine aq [11] ?_
     exact aw (hK68 ()) [0,1,2,3]
    exact zC
   refine a2 [3,1,3,1,2,5] 7 [0,4,5,19,21,23,27,28] [1,2,3,4] (fun (s:Unit)=>[(20,.agg #[.int .i64 j2,.int .i64 j3,.string (bs j4),v24,.int .i64 j0,.bool j1]),(25,.int .i64 j0)]) (fun s=>[]) ?_ (fun hK82=>?_)
   ·rintro _
    refine az ?_
    refine zK [3,7,10] (by kernel_rfl) rfl ?_
    refine zk ?_ ?_
    ·refine ty ?_
     exact aw (hK77 ()) [0,1,2,3]
    refine zk ?_ ?_
    ·refine at' rfl (tc [(0,0)] Tryz.call267 (z4T j5)) ?_
     rintro _ _ ⟨_,⟨rfl,rfl⟩,rfl⟩
     refine sb ?_
     exact aw (hK78 ()) [0,1,2,3]
    refine zk ?_ ?_
    ·refine ty ?_
     refine aq [11] ?_
     exact aw (hK69 ()) [0,1,2,3]
    exact zC
   refine a2 [1,1,5,1,2,5] 7 [0,4,5,19,23,27,28] [1,2,3,4] (fun (s:Unit)=>[(22,.int .i64 j0),(25,.int .i64 j0)]) (fun s=>[]) ?_ (fun hK83=>?_)
   ·rintro _
    refine az ?_
    refine zK [1,7,10] (by kernel_rfl) rfl ?_
    refine zk ?_ ?_
    ·refine ty ?_
     exact aw (hK77 ()) [0,1,2,3]
    refine zk ?_ ?_
    ·refine at' rfl (tc [(0,0)] Tryz.call267 (z4T j5)) ?_
     rintro _ _ ⟨_,⟨rfl,rfl⟩,rfl⟩
     refine sb ?_
     exact aw (hK79 ()) [0,1,2,3]
    refine zk ?_ ?_
    ·refine ty ?_
     refine aq [11] ?_
     exact aw (hK70 ()) [0,1,2,3]
    exact zC
   refine a2 [1,1,1,1,6,5] 7 [0,4,5,19,21,27,28] [1,2,3,4] (fun (s:Unit)=>[(26,.int .i64 r38)]) (fun s=>[]) ?_ (fun hK84=>?_)
   ·rintro _
    refine az ?_
    refine zK [1,3,10] (by kernel_rfl) rfl ?_
    refine zk ?_ ?_
    ·refine ty ?_
     exact aw (hK78 ()) [0,1,2,3]
    refine zk ?_ ?_
    ·refine ty ?_
     exact aw (hK79 ()) [0,1,2,3]
    refine zk ?_ ?_
    ·refine ty ?_
     refine aq [11] ?_
     exact aw (hK71 ()) [0,1,2,3]
    exact zC
   refine a2 [3,1,2,2,2,5] 8 [0,4,5,19,21,23,24,27,28] [1,2,3,4] (fun (s:Unit)=>[(20,.agg #[.int .i64 j2,.int .i64 j3,.string (bs j4),v24,.int .i64 j0,.bool j1])]) (fun s=>[]) ?_ (fun hK85=>?_)
   ·rintro _
    refine az ?_
    refine zK [3,6,10] (by kernel_rfl) rfl ?_
    refine zk ?_ ?_
    ·refine ty ?_
     exact aw (hK81 ()) [0,1,2,3]
    refine zk ?_ ?_
    ·refine ty ?_
     exact aw (hK82 ()) [0,1,2,3]
    refine zk ?_ ?_
    ·refine ty ?_
     refine aq [11] ?_
     exact aw (hK74 ()) [0,1,2,3]
    exact zC
   refine a2 [1,1,4,2,2,5] 8 [0,4,5,19,23,24,27,28] [1,2,3,4] (fun (s:Unit)=>[(22,.int .i64 j0)]) (fun s=>[]) ?_ (fun hK86=>?_)
   ·rintro _
    refine az ?_
    refine zK [1,6,10] (by kernel_rfl) rfl ?_
    refine zk ?_ ?_
    ·refine ty ?_
     exact aw (hK81 ()) [0,1,2,3]
    refine zk ?_ ?_
    ·refine ty ?_
     exact aw (hK83 ()) [0,1,2,3]
    refine zk ?_ ?_
    ·refine ty ?_
     refine aq [11] ?_
     exact aw (hK75 ()) [0,1,2,3]
    exact zC
   refine a2 [1,1,1,1,3,1,2,5] 8 [0,4,5,19,21,23,27,28] [1,2,3,4] (fun (s:Unit)=>[(25,.int .i64 j0)]) (fun s=>[]) ?_ (fun hK87=>?_)
   ·rintro _
    refine az ?_
    refine zK [1,3,7,10] (by kernel_rfl) rfl ?_
    refine zk ?_ ?_
    ·refine ty ?_
     exact aw (hK82 ()) [0,1,2,3]
    refine zk ?_ ?_
    ·refine ty ?_
     exact aw (hK83 ()) [0,1,2,3]
    refine zk ?_ ?_
    ·refine at' rfl (tc [(0,0)] Tryz.call267 (z4T j5)) ?_
     rintro _ _ ⟨_,⟨rfl,rfl⟩,rfl⟩
     refine sb ?_
     exact aw (hK84 ()) [0,1,2,3]
    refine zk ?_ ?_
    ·refine ty ?_
     refine aq [11] ?_
     exact aw (hK76 ()) [0,1,2,3]
    exact zC
   refine zK [1,3,6,10] (by kernel_rfl) rfl ?_
   refine zk ?_ ?_
   ·refine ty ?_
    exact aw (hK85 ()) [0,1,2,3]
   refine zk ?_ ?_
   ·refine ty ?_
    exact aw (hK86 ()) [0,1,2,3]
   refine zk ?_ ?_
   ·refine ty ?_
    exact aw (hK87 ()) [0,1,2,3]
   refine zk ?_ ?_
   ·refine ty ?_
    refine aq [11] ?_
    exact aw (hK80 ()) [0,1,2,3]
   exact zC
  ·refine z1h _ rfl ?_
   exact gk jg j6 _ [1,2,3] h
 rintro ⟨x_7,x_8,x_9,ja,jb,jc⟩ v13 h
 refine rs ?_
 refine zh (ys ?_)
 refine zd (zA ?_)
 exact fr [2] Tryz.results253 h
def zcU (l_0:(List z6)) (i_1:Int):Option (Int):=
 obind (z2B l_0 i_1 [43]) fun r1=>
 cond r1
  (some 10)
  (obind (z2B l_0 i_1 [45]) fun r4=>
  cond r4
   (some 11)
   (some 0))
theorem z5l:K42 zcU 254:=by
 intro l_0 i_1 jf r h
 refine zN Tryz.func254 rfl Tryz.ntmps254 rfl (fun w0 o0=>?_)
 refine zh (ys ?_)
 refine zc (zh (ys ?_))
 refine cl0 [(0,0)] Tryz.call85 (fun h=>z1M h) h (fun r1 h=>?_)
 refine zd (rc h (fun _ h=>?_) (fun _ h=>?_))
 ·refine zh (ys ?_)
  refine zd (zA ?_)
  exact fs [4] [] Tryz.results254 h
 ·refine run_skip (zg (zh (ys ?_)))
  refine cl0 [(0,0)] Tryz.call85 (fun h=>z1M h) h (fun r4 h=>?_)
  refine zd (rc h (fun _ h=>?_) (fun _ h=>?_))
  ·refine zh (ys ?_)
   refine zd (zA ?_)
   exact fs [4] [] Tryz.results254 h
  ·refine run_skip (ze ?_)
   refine ys ?_
   refine zd (zA ?_)
   exact fs [4] [] Tryz.results254 h
end Go.Proofs.YtcmaoifiiigggaaGreatDoor
