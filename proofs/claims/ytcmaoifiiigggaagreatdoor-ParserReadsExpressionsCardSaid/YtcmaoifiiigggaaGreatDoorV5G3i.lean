/-
  Functions that the law ParserMatchesSpec needs, lifted.
-/
import Derived.Test.YtcmaoifiiigggaaGreatDoorV5G3h
set_option linter.unusedSimpArgs false
set_option linter.unusedVariables false
namespace Go.Proofs.YtcmaoifiiigggaaGreatDoor
open Go.Abs
set_option maxRecDepth 20000
set_option maxHeartbeats 4000000
def zgD (n:Nat) (l_0:(List z6)) (rec_ref19_expr:(List z6)→Int→Option (zR)):(Int×Int×(List UInt8)×(List zi)×Int×Bool)→Option (Lp (Int×Int×(List UInt8)×(List zi)×Int×Bool) (Lp (Int×Int×(List UInt8)×(List zi)×Int×Bool) (zR))):=
 fun (x_18,x_19,x_20,x_21,x_22,x_23)=>
  bindJ (S:=Bool)
   (cond (!x_23)
    (obind (z2R l_0 x_22 [97,110,100]) fun r35=>
    some (.go r35))
    (some (.go false)))
  (fun b29 =>
   cond b29
    (obind (zbS n rec_ref19_expr l_0 (IntKind.i64.wrap (x_22+1))) fun r38=>
    obind (z7p l_0 (zR.mk (zi.mk x_18 x_19 x_20 x_21) x_22 x_23) x_22 21 r38) fun r41=>
    some (.go (r41.X.Op,r41.X.At,r41.X.S,r41.X.Args,r41.I,r41.Bad)))
    (some (.stop (.go (x_18,x_19,x_20,x_21,x_22,x_23)))))
def zdi (n:Nat) (rec_ref19_expr:(List z6)→Int→Option (zR)) (l_0:(List z6)) (i_1:Int):Option (zR):=
 obind (zbS n rec_ref19_expr l_0 i_1) fun r2=>
 bindJ (S:=Int×Int×(List UInt8)×(List zi)×Int×Bool)
  (iter (zgD n l_0 rec_ref19_expr) n (r2.X.Op,r2.X.At,r2.X.S,r2.X.Args,r2.I,r2.Bad))
 (fun (x_7, x_8, x_9, x_10, x_11, x_12) =>
  some (zR.mk (zi.mk x_7 x_8 x_9 x_10) x_11 x_12))
theorem za8 {n:Nat} {rec_ref19_expr:(List z6)→Int→Option (zR)} (hrec_ref19_expr:K17 rec_ref19_expr 49):K17 (zdi n rec_ref19_expr) 109:=by
 intro l_0 i_1 l_0v r h
 refine zN Tryz.func109 rfl Tryz.ntmps109 rfl (fun w0 o0=>?_)
 refine zh ?_
 refine al fun b1=>?_
 refine za ?_
 refine ys ?_
 obtain ⟨r2,hr3,h⟩:=zJ h
 refine zt (tc [(0,0)] Tryz.call171 (zaj hrec_ref19_expr hr3)) ?_
 rintro _ _ ⟨_,⟨v4,rfl,rfl⟩,rfl⟩
 refine al fun b5=>?_
 refine ys ?_
 refine zd ?_
 refine jr h [4,5] [2,0,0] (fun s (g:Value)=>[]) (fun s g=>[box b5 [.int .i64 s.1,.int .i64 s.2.1,.string (bs s.2.2.1),g,.int .i64 s.2.2.2.2.1,.bool s.2.2.2.2.2],nro g zj s.2.2.2.1]) (fun _ h _ _ hL16=>?_) ?_
 ·refine zF ?_
  refine lo h [0,4,5] [1,2,0,0] (fun s (g:Value)=>[]) (fun s g=>[box b5 [.int .i64 s.1,.int .i64 s.2.1,.string (bs s.2.2.1),g,.int .i64 s.2.2.2.2.1,.bool s.2.2.2.2.2],nro g zj s.2.2.2.1]) _ [0,1,3,2] ?_
  rintro ⟨x_18,x_19,x_20,x_21,x_22,x_23⟩ v24 _ h _ hgo26 hstop27
  refine rs ?_
  refine zH ?_
  refine zh ?_
  refine ys ?_
  refine ob h 5 [0,4,5] [1,2,3,4] (fun s=>[(17,.bool s)]) (fun s=>[]) (fun _ h _ _ hL33=>?_) ?_
  ·refine z1c 12 (!x_23) rfl (fun hg34=>?_) (fun hg34=>?_)
   ·replace h:=z2F h hg34
    refine ys ?_
    refine cl0 [(0,0)] Tryz.call86 (fun h=>z25 h) h (fun r35 h=>?_)
    refine ys ?_
    refine zr ?_
    exact gb hL33 [0,1,2,3] h
   ·replace h:=z2E h hg34
    refine ys ?_
    refine zr ?_
    exact gb hL33 [0,1,2,3] h
  rintro b29 h
  refine os ?_
  refine zd ?_
  refine rc h (fun _ h=>?_) (fun _ h=>?_)
  ·refine run_skip ?_
   refine zD ?_
   refine zF ?_
   obtain ⟨r38,hr39,h⟩:=zJ h
   obtain ⟨r41,hr42,h⟩:=zJ h
   refine rf [1,1,0,1] fun hS=>?_
   refine aq [0,2,4,5] ?_
   refine a2 [11] 0 [0,4,5] [1,2,0,4,0,0] (fun (s:Value×Value)=>[]) (fun s=>[box b5 [.int .i64 r41.X.Op,.int .i64 r41.X.At,.string (bs r41.X.S),s.1,.int .i64 r41.I,.bool r41.Bad],nro s.2 zj r38.X.Args,nro s.1 zj r41.X.Args]) ?_ (fun hK51=>?_)
   ·rintro ⟨v49,v48⟩
    refine az ?_
    refine z1K (by kernel_rfl) ?_
    refine zS ?_
    exact gj hgo26 _ [0,1,2,5] h
   refine a2 [10,1] 1 [0,4,5] [1,2,3,4,0,0] (fun (s:Value×Value)=>[(27,.agg #[.int .i64 r41.X.Op,.int .i64 r41.X.At,.string (bs r41.X.S),s.1,.int .i64 r41.I,.bool r41.Bad])]) (fun s=>[nro s.2 zj r38.X.Args,nro s.1 zj r41.X.Args]) ?_ (fun hK52=>?_)
   ·rintro ⟨v49,v48⟩
    refine az ?_
    refine zK [10] (by kernel_rfl) rfl ?_
    refine zk ?_ ?_
    ·refine z1J 5 rfl z1j (fun hs53 hs53o=>?_)
     refine at' rfl (z55 2 Tryz.sizeOf122 rfl rfl rfl rfl (by simp [Value.cells,boxP]) (z1s rfl (z1s rfl (z1s rfl (z1s hs53o (z1s rfl (z1s rfl (z6b)))))))) ?_
     rintro _ _ ⟨rfl,rfl⟩
     refine sb ?_
     refine z1B (retell 2 (g:=box b5 [.int .i64 r41.X.Op,.int .i64 r41.X.At,.string (bs r41.X.S),v49,.int .i64 r41.I,.bool r41.Bad]) rfl rfl) ?_
     exact aw (hK51 (v49,v48)) [0,1,2,3,4,5]
    exact zC
   refine a2 [9,2] 2 [0,4,5,18] [1,2,3,4,0] (fun (s:Value)=>[(19,.agg #[.int .i64 x_18,.int .i64 x_19,.string (bs x_20),v24,.int .i64 x_22,.bool x_23]),(21,.int .i64 x_22),(26,.agg #[.int .i64 r38.X.Op,.int .i64 r38.X.At,.string (bs r38.X.S),s,.int .i64 r38.I,.bool r38.Bad])]) (fun s=>[nro s zj r38.X.Args]) ?_ (fun hK54=>?_)
   ·rintro v48
    refine az ?_
    refine zK [9] (by kernel_rfl) rfl ?_
    refine zk ?_ ?_
    ·refine at' rfl (tc [(0,0),(3,0),(4,0)] Tryz.call110 (z9q hr42)) ?_
     rintro _ _ ⟨_,⟨v55,rfl,rfl⟩,rfl⟩
     refine sb ?_
     exact aw (hK52 (v55,v48)) [0,1,2,3,4,5]
    exact zC
   refine a2 [8,3] 3 [0,4,5,18,22] [1,2,3,4] (fun (s:Unit)=>[(19,.agg #[.int .i64 x_18,.int .i64 x_19,.string (bs x_20),v24,.int .i64 x_22,.bool x_23]),(21,.int .i64 x_22),(25,.int .i64 (IntKind.i64.wrap (x_22+1)))]) (fun s=>[]) ?_ (fun hK56=>?_)
   ·rintro _
    refine az ?_
    refine zK [8] (by kernel_rfl) rfl ?_
    refine zk ?_ ?_
    ·refine at' rfl (tc [(0,0)] Tryz.call171 (zaj hrec_ref19_expr hr39)) ?_
     rintro _ _ ⟨_,⟨v57,rfl,rfl⟩,rfl⟩
     refine sb ?_
     exact aw (hK54 v57) [0,1,2,3,4]
    exact zC
   refine a2 [3,1,5,2] 3 [0,4,5,18,20] [1,2,3,4,0] (fun (s:Value)=>[(19,.agg #[.int .i64 x_18,.int .i64 x_19,.string (bs x_20),v24,.int .i64 x_22,.bool x_23]),(26,.agg #[.int .i64 r38.X.Op,.int .i64 r38.X.At,.string (bs r38.X.S),s,.int .i64 r38.I,.bool r38.Bad])]) (fun s=>[nro s zj r38.X.Args]) ?_ (fun hK58=>?_)
   ·rintro v46
    refine az ?_
    refine zK [3] (by kernel_rfl) rfl ?_
    refine zk ?_ ?_
    ·refine ty ?_
     exact aw (hK54 v46) [0,1,2,3,4]
    exact zC
   refine a2 [1,1,7,2] 3 [0,4,5,18] [1,2,3,4,0] (fun (s:Value)=>[(21,.int .i64 x_22),(26,.agg #[.int .i64 r38.X.Op,.int .i64 r38.X.At,.string (bs r38.X.S),s,.int .i64 r38.I,.bool r38.Bad])]) (fun s=>[nro s zj r38.X.Args]) ?_ (fun hK59=>?_)
   ·rintro v47
    refine az ?_
    refine zK [1] (by kernel_rfl) rfl ?_
    refine zk ?_ ?_
    ·refine ty ?_
     exact aw (hK54 v47) [0,1,2,3,4]
    exact zC
   refine a2 [3,1,4,3] 4 [0,4,5,18,20,22] [1,2,3,4] (fun (s:Unit)=>[(19,.agg #[.int .i64 x_18,.int .i64 x_19,.string (bs x_20),v24,.int .i64 x_22,.bool x_23]),(25,.int .i64 (IntKind.i64.wrap (x_22+1)))]) (fun s=>[]) ?_ (fun hK60=>?_)
   ·rintro _
    refine az ?_
    refine zK [3,8] (by kernel_rfl) rfl ?_
    refine zk ?_ ?_
    ·refine ty ?_
     exact aw (hK56 ()) [0,1,2,3]
    refine zk ?_ ?_
    ·refine at' rfl (tc [(0,0)] Tryz.call171 (zaj hrec_ref19_expr hr39)) ?_
     rintro _ _ ⟨_,⟨v61,rfl,rfl⟩,rfl⟩
     refine sb ?_
     exact aw (hK58 v61) [0,1,2,3,4]
    exact zC
   refine a2 [1,1,6,3] 4 [0,4,5,18,22] [1,2,3,4] (fun (s:Unit)=>[(21,.int .i64 x_22),(25,.int .i64 (IntKind.i64.wrap (x_22+1)))]) (fun s=>[]) ?_ (fun hK62=>?_)
   ·rintro _
    refine az ?_
    refine zK [1,8] (by kernel_rfl) rfl ?_
    refine zk ?_ ?_
    ·refine ty ?_
     exact aw (hK56 ()) [0,1,2,3]
    refine zk ?_ ?_
    ·refine at' rfl (tc [(0,0)] Tryz.call171 (zaj hrec_ref19_expr hr39)) ?_
     rintro _ _ ⟨_,⟨v63,rfl,rfl⟩,rfl⟩
     refine sb ?_
     exact aw (hK59 v63) [0,1,2,3,4]
    exact zC
   refine a2 [1,1,1,1,5,2] 4 [0,4,5,18,20] [1,2,3,4,0] (fun (s:Value)=>[(26,.agg #[.int .i64 r38.X.Op,.int .i64 r38.X.At,.string (bs r38.X.S),s,.int .i64 r38.I,.bool r38.Bad])]) (fun s=>[nro s zj r38.X.Args]) ?_ (fun hK64=>?_)
   ·rintro v45
    refine az ?_
    refine zK [1,3] (by kernel_rfl) rfl ?_
    refine zk ?_ ?_
    ·refine ty ?_
     exact aw (hK58 v45) [0,1,2,3,4]
    refine zk ?_ ?_
    ·refine ty ?_
     exact aw (hK59 v45) [0,1,2,3,4]
    exact zC
   refine a2 [1,1,1,1,4,3] 5 [0,4,5,18,20,22] [1,2,3,4] (fun (s:Unit)=>[(25,.int .i64 (IntKind.i64.wrap (x_22+1)))]) (fun s=>[]) ?_ (fun hK65=>?_)
   ·rintro _
    refine az ?_
    refine zK [1,3,8] (by kernel_rfl) rfl ?_
    refine zk ?_ ?_
    ·refine ty ?_
     exact aw (hK60 ()) [0,1,2,3]
    refine zk ?_ ?_
    ·refine ty ?_
     exact aw (hK62 ()) [0,1,2,3]
    refine zk ?_ ?_
    ·refine at' rfl (tc [(0,0)] Tryz.call171 (zaj hrec_ref19_expr hr39)) ?_
     rintro _ _ ⟨_,⟨v66,rfl,rfl⟩,rfl⟩
     refine sb ?_
     exact aw (hK64 v66) [0,1,2,3,4]
    exact zC
   refine a2 [6,5] 5 [0,4,5,18,22,23] [1,2,3,4] (fun (s:Unit)=>[(19,.agg #[.int .i64 x_18,.int .i64 x_19,.string (bs x_20),v24,.int .i64 x_22,.bool x_23]),(21,.int .i64 x_22)]) (fun s=>[]) ?_ (fun hK67=>?_)
   ·rintro _
    refine az ?_
    refine zK [6] (by kernel_rfl) rfl ?_
    refine zk ?_ ?_
    ·refine ty ?_
     refine aq [7] ?_
     exact aw (hK56 ()) [0,1,2,3]
    exact zC
   refine a2 [3,1,2,5] 6 [0,4,5,18,20,22,23] [1,2,3,4] (fun (s:Unit)=>[(19,.agg #[.int .i64 x_18,.int .i64 x_19,.string (bs x_20),v24,.int .i64 x_22,.bool x_23])]) (fun s=>[]) ?_ (fun hK68=>?_)
   ·rintro _
    refine az ?_
    refine zK [3,6] (by kernel_rfl) rfl ?_
    refine zk ?_ ?_
    ·refine ty ?_
     exact aw (hK67 ()) [0,1,2,3]
    refine zk ?_ ?_
    ·refine ty ?_
     refine aq [7] ?_
     exact aw (hK60 ()) [0,1,2,3]
    exact zC
   refine a2 [1,1,4,5] 6 [0,4,5,18,22,23] [1,2,3,4] (fun (s:Unit)=>[(21,.int .i64 x_22)]) (fun s=>[]) ?_ (fun hK69=>?_)
   ·rintro _
    refine az ?_
    refine zK [1,6] (by kernel_rfl) rfl ?_
    refine zk ?_ ?_
    ·refine ty ?_
     exact aw (hK67 ()) [0,1,2,3]
    refine zk ?_ ?_
    ·refine ty ?_
     refine aq [7] ?_
     exact aw (hK62 ()) [0,1,2,3]
    exact zC
   refine zK [1,3,6] (by kernel_rfl) rfl ?_
   refine zk ?_ ?_
   ·refine ty ?_
    exact aw (hK68 ()) [0,1,2,3]
   refine zk ?_ ?_
   ·refine ty ?_
    exact aw (hK69 ()) [0,1,2,3]
   refine zk ?_ ?_
   ·refine ty ?_
    refine aq [7] ?_
    exact aw (hK65 ()) [0,1,2,3]
   exact zC
  ·refine z1h _ rfl ?_
   exact gk hL16 hstop27 _ [1,2,3] h
 rintro ⟨x_7,x_8,x_9,x_10,x_11,x_12⟩ v13 h
 refine rs ?_
 refine zh ?_
 refine ys ?_
 refine zd ?_
 refine zA ?_
 exact fr [2] Tryz.results109 h
def zfF (n:Nat) (l_0:(List z6)) (rec_ref19_expr:(List z6)→Int→Option (zR)):(Int×Int×(List UInt8)×(List zi)×Int×Bool)→Option (Lp (Int×Int×(List UInt8)×(List zi)×Int×Bool) (Lp (Int×Int×(List UInt8)×(List zi)×Int×Bool) (zR))):=
 fun (x_18,x_19,x_20,x_21,x_22,x_23)=>
  bindJ (S:=Bool)
   (cond (!x_23)
    (obind (z2R l_0 x_22 [111,114]) fun r35=>
    some (.go r35))
    (some (.go false)))
  (fun b29 =>
   cond b29
    (obind (zdi n rec_ref19_expr l_0 (IntKind.i64.wrap (x_22+1))) fun r38=>
    obind (z7p l_0 (zR.mk (zi.mk x_18 x_19 x_20 x_21) x_22 x_23) x_22 22 r38) fun r41=>
    some (.go (r41.X.Op,r41.X.At,r41.X.S,r41.X.Args,r41.I,r41.Bad)))
    (some (.stop (.go (x_18,x_19,x_20,x_21,x_22,x_23)))))
def z9g (n:Nat) (rec_ref19_expr:(List z6)→Int→Option (zR)) (l_0:(List z6)) (i_1:Int):Option (zR):=
 obind (zdi n rec_ref19_expr l_0 i_1) fun r2=>
 bindJ (S:=Int×Int×(List UInt8)×(List zi)×Int×Bool)
  (iter (zfF n l_0 rec_ref19_expr) n (r2.X.Op,r2.X.At,r2.X.S,r2.X.Args,r2.I,r2.Bad))
 (fun (x_7, x_8, x_9, x_10, x_11, x_12) =>
  some (zR.mk (zi.mk x_7 x_8 x_9 x_10) x_11 x_12))
theorem zfp {n:Nat} {rec_ref19_expr:(List z6)→Int→Option (zR)} (hrec_ref19_expr:K17 rec_ref19_expr 49):K17 (z9g n rec_ref19_expr) 49:=by
 intro l_0 i_1 l_0v r h
 refine zN Tryz.func49 rfl Tryz.ntmps49 rfl (fun w0 o0=>?_)
 refine zh ?_
 refine al fun b1=>?_
 refine za ?_
 refine ys ?_
 refine cl1 [(0,0)] Tryz.call109 (fun h=>za8 hrec_ref19_expr h) h (fun r2 v4 h=>?_)
 refine al fun b5=>?_
 refine ys ?_
 refine zd ?_
 refine jr h [4,5] [2,0,0] (fun s (g:Value)=>[]) (fun s g=>[box b5 [.int .i64 s.1,.int .i64 s.2.1,.string (bs s.2.2.1),g,.int .i64 s.2.2.2.2.1,.bool s.2.2.2.2.2],nro g zj s.2.2.2.1]) (fun _ h _ _ hL16=>?_) ?_
 ·refine zF ?_
  refine lo h [0,4,5] [1,2,0,0] (fun s (g:Value)=>[]) (fun s g=>[box b5 [.int .i64 s.1,.int .i64 s.2.1,.string (bs s.2.2.1),g,.int .i64 s.2.2.2.2.1,.bool s.2.2.2.2.2],nro g zj s.2.2.2.1]) _ [0,1,3,2] ?_
  rintro ⟨x_18,x_19,x_20,x_21,x_22,x_23⟩ v24 _ h _ hgo26 hstop27
  refine rs ?_
  refine zH ?_
  refine zh ?_
  refine ys ?_
  refine ob h 5 [0,4,5] [1,2,3,4] (fun s=>[(17,.bool s)]) (fun s=>[]) (fun _ h _ _ hL33=>?_) ?_
  ·refine z1c 12 (!x_23) rfl (fun hg34=>?_) (fun hg34=>?_)
   ·replace h:=z2F h hg34
    refine ys ?_
    refine cl0 [(0,0)] Tryz.call86 (fun h=>z25 h) h (fun r35 h=>?_)
    refine ys ?_
    refine zr ?_
    exact gb hL33 [0,1,2,3] h
   ·replace h:=z2E h hg34
    refine ys ?_
    refine zr ?_
    exact gb hL33 [0,1,2,3] h
  rintro b29 h
  refine os ?_
  refine zd ?_
  refine rc h (fun _ h=>?_) (fun _ h=>?_)
  ·refine run_skip ?_
   refine zD ?_
   refine zF ?_
   obtain ⟨r38,hr39,h⟩:=zJ h
   obtain ⟨r41,hr42,h⟩:=zJ h
   refine rf [1,1,0,1] fun hS=>?_
   refine aq [0,2,4,5] ?_
   refine a2 [11] 0 [0,4,5] [1,2,0,4,0,0] (fun (s:Value×Value)=>[]) (fun s=>[box b5 [.int .i64 r41.X.Op,.int .i64 r41.X.At,.string (bs r41.X.S),s.1,.int .i64 r41.I,.bool r41.Bad],nro s.2 zj r38.X.Args,nro s.1 zj r41.X.Args]) ?_ (fun hK51=>?_)
   ·rintro ⟨v49,v48⟩
    refine az ?_
    refine z1K (by kernel_rfl) ?_
    refine zS ?_
    exact gj hgo26 _ [0,1,2,5] h
   refine a2 [10,1] 1 [0,4,5] [1,2,3,4,0,0] (fun (s:Value×Value)=>[(27,.agg #[.int .i64 r41.X.Op,.int .i64 r41.X.At,.string (bs r41.X.S),s.1,.int .i64 r41.I,.bool r41.Bad])]) (fun s=>[nro s.2 zj r38.X.Args,nro s.1 zj r41.X.Args]) ?_ (fun hK52=>?_)
   ·rintro ⟨v49,v48⟩
    refine az ?_
    refine zK [10] (by kernel_rfl) rfl ?_
    refine zk ?_ ?_
    ·refine z1J 5 rfl z1j (fun hs53 hs53o=>?_)
     refine at' rfl (z55 2 Tryz.sizeOf122 rfl rfl rfl rfl (by simp [Value.cells,boxP]) (z1s rfl (z1s rfl (z1s rfl (z1s hs53o (z1s rfl (z1s rfl (z6b)))))))) ?_
     rintro _ _ ⟨rfl,rfl⟩
     refine sb ?_
     refine z1B (retell 2 (g:=box b5 [.int .i64 r41.X.Op,.int .i64 r41.X.At,.string (bs r41.X.S),v49,.int .i64 r41.I,.bool r41.Bad]) rfl rfl) ?_
     exact aw (hK51 (v49,v48)) [0,1,2,3,4,5]
    exact zC
   refine a2 [9,2] 2 [0,4,5,18] [1,2,3,4,0] (fun (s:Value)=>[(19,.agg #[.int .i64 x_18,.int .i64 x_19,.string (bs x_20),v24,.int .i64 x_22,.bool x_23]),(21,.int .i64 x_22),(26,.agg #[.int .i64 r38.X.Op,.int .i64 r38.X.At,.string (bs r38.X.S),s,.int .i64 r38.I,.bool r38.Bad])]) (fun s=>[nro s zj r38.X.Args]) ?_ (fun hK54=>?_)
   ·rintro v48
    refine az ?_
    refine zK [9] (by kernel_rfl) rfl ?_
    refine zk ?_ ?_
    ·refine at' rfl (tc [(0,0),(3,0),(4,0)] Tryz.call110 (z9q hr42)) ?_
     rintro _ _ ⟨_,⟨v55,rfl,rfl⟩,rfl⟩
     refine sb ?_
     exact aw (hK52 (v55,v48)) [0,1,2,3,4,5]
    exact zC
   refine a2 [8,3] 3 [0,4,5,18,22] [1,2,3,4] (fun (s:Unit)=>[(19,.agg #[.int .i64 x_18,.int .i64 x_19,.string (bs x_20),v24,.int .i64 x_22,.bool x_23]),(21,.int .i64 x_22),(25,.int .i64 (IntKind.i64.wrap (x_22+1)))]) (fun s=>[]) ?_ (fun hK56=>?_)
   ·rintro _
    refine az ?_
    refine zK [8] (by kernel_rfl) rfl ?_
    refine zk ?_ ?_
    ·refine at' rfl (tc [(0,0)] Tryz.call109 (za8 hrec_ref19_expr hr39)) ?_
     rintro _ _ ⟨_,⟨v57,rfl,rfl⟩,rfl⟩
     refine sb ?_
     exact aw (hK54 v57) [0,1,2,3,4]
    exact zC
   refine a2 [3,1,5,2] 3 [0,4,5,18,20] [1,2,3,4,0] (fun (s:Value)=>[(19,.agg #[.int .i64 x_18,.int .i64 x_19,.string (bs x_20),v24,.int .i64 x_22,.bool x_23]),(26,.agg #[.int .i64 r38.X.Op,.int .i64 r38.X.At,.string (bs r38.X.S),s,.int .i64 r38.I,.bool r38.Bad])]) (fun s=>[nro s zj r38.X.Args]) ?_ (fun hK58=>?_)
   ·rintro v46
    refine az ?_
    refine zK [3] (by kernel_rfl) rfl ?_
    refine zk ?_ ?_
    ·refine ty ?_
     exact aw (hK54 v46) [0,1,2,3,4]
    exact zC
   refine a2 [1,1,7,2] 3 [0,4,5,18] [1,2,3,4,0] (fun (s:Value)=>[(21,.int .i64 x_22),(26,.agg #[.int .i64 r38.X.Op,.int .i64 r38.X.At,.string (bs r38.X.S),s,.int .i64 r38.I,.bool r38.Bad])]) (fun s=>[nro s zj r38.X.Args]) ?_ (fun hK59=>?_)
   ·rintro v47
    refine az ?_
    refine zK [1] (by kernel_rfl) rfl ?_
    refine zk ?_ ?_
    ·refine ty ?_
     exact aw (hK54 v47) [0,1,2,3,4]
    exact zC
   refine a2 [3,1,4,3] 4 [0,4,5,18,20,22] [1,2,3,4] (fun (s:Unit)=>[(19,.agg #[.int .i64 x_18,.int .i64 x_19,.string (bs x_20),v24,.int .i64 x_22,.bool x_23]),(25,.int .i64 (IntKind.i64.wrap (x_22+1)))]) (fun s=>[]) ?_ (fun hK60=>?_)
   ·rintro _
    refine az ?_
    refine zK [3,8] (by kernel_rfl) rfl ?_
    refine zk ?_ ?_
    ·refine ty ?_
     exact aw (hK56 ()) [0,1,2,3]
    refine zk ?_ ?_
    ·refine at' rfl (tc [(0,0)] Tryz.call109 (za8 hrec_ref19_expr hr39)) ?_
     rintro _ _ ⟨_,⟨v61,rfl,rfl⟩,rfl⟩
     refine sb ?_
     exact aw (hK58 v61) [0,1,2,3,4]
    exact zC
   refine a2 [1,1,6,3] 4 [0,4,5,18,22] [1,2,3,4] (fun (s:Unit)=>[(21,.int .i64 x_22),(25,.int .i64 (IntKind.i64.wrap (x_22+1)))]) (fun s=>[]) ?_ (fun hK62=>?_)
   ·rintro _
    refine az ?_
    refine zK [1,8] (by kernel_rfl) rfl ?_
    refine zk ?_ ?_
    ·refine ty ?_
     exact aw (hK56 ()) [0,1,2,3]
    refine zk ?_ ?_
    ·refine at' rfl (tc [(0,0)] Tryz.call109 (za8 hrec_ref19_expr hr39)) ?_
     rintro _ _ ⟨_,⟨v63,rfl,rfl⟩,rfl⟩
     refine sb ?_
     exact aw (hK59 v63) [0,1,2,3,4]
    exact zC
   refine a2 [1,1,1,1,5,2] 4 [0,4,5,18,20] [1,2,3,4,0] (fun (s:Value)=>[(26,.agg #[.int .i64 r38.X.Op,.int .i64 r38.X.At,.string (bs r38.X.S),s,.int .i64 r38.I,.bool r38.Bad])]) (fun s=>[nro s zj r38.X.Args]) ?_ (fun hK64=>?_)
   ·rintro v45
    refine az ?_
    refine zK [1,3] (by kernel_rfl) rfl ?_
    refine zk ?_ ?_
    ·refine ty ?_
     exact aw (hK58 v45) [0,1,2,3,4]
    refine zk ?_ ?_
    ·refine ty ?_
     exact aw (hK59 v45) [0,1,2,3,4]
    exact zC
   refine a2 [1,1,1,1,4,3] 5 [0,4,5,18,20,22] [1,2,3,4] (fun (s:Unit)=>[(25,.int .i64 (IntKind.i64.wrap (x_22+1)))]) (fun s=>[]) ?_ (fun hK65=>?_)
   ·rintro _
    refine az ?_
    refine zK [1,3,8] (by kernel_rfl) rfl ?_
    refine zk ?_ ?_
    ·refine ty ?_
     exact aw (hK60 ()) [0,1,2,3]
    refine zk ?_ ?_
    ·refine ty ?_
     exact aw (hK62 ()) [0,1,2,3]
    refine zk ?_ ?_
    ·refine at' rfl (tc [(0,0)] Tryz.call109 (za8 hrec_ref19_expr hr39)) ?_
     rintro _ _ ⟨_,⟨v66,rfl,rfl⟩,rfl⟩
     refine sb ?_
     exact aw (hK64 v66) [0,1,2,3,4]
    exact zC
   refine a2 [6,5] 5 [0,4,5,18,22,23] [1,2,3,4] (fun (s:Unit)=>[(19,.agg #[.int .i64 x_18,.int .i64 x_19,.string (bs x_20),v24,.int .i64 x_22,.bool x_23]),(21,.int .i64 x_22)]) (fun s=>[]) ?_ (fun hK67=>?_)
   ·rintro _
    refine az ?_
    refine zK [6] (by kernel_rfl) rfl ?_
    refine zk ?_ ?_
    ·refine ty ?_
     refine aq [7] ?_
     exact aw (hK56 ()) [0,1,2,3]
    exact zC
   refine a2 [3,1,2,5] 6 [0,4,5,18,20,22,23] [1,2,3,4] (fun (s:Unit)=>[(19,.agg #[.int .i64 x_18,.int .i64 x_19,.string (bs x_20),v24,.int .i64 x_22,.bool x_23])]) (fun s=>[]) ?_ (fun hK68=>?_)
   ·rintro _
    refine az ?_
    refine zK [3,6] (by kernel_rfl) rfl ?_
    refine zk ?_ ?_
    ·refine ty ?_
     exact aw (hK67 ()) [0,1,2,3]
    refine zk ?_ ?_
    ·refine ty ?_
     refine aq [7] ?_
     exact aw (hK60 ()) [0,1,2,3]
    exact zC
   refine a2 [1,1,4,5] 6 [0,4,5,18,22,23] [1,2,3,4] (fun (s:Unit)=>[(21,.int .i64 x_22)]) (fun s=>[]) ?_ (fun hK69=>?_)
   ·rintro _
    refine az ?_
    refine zK [1,6] (by kernel_rfl) rfl ?_
    refine zk ?_ ?_
    ·refine ty ?_
     exact aw (hK67 ()) [0,1,2,3]
    refine zk ?_ ?_
    ·refine ty ?_
     refine aq [7] ?_
     exact aw (hK62 ()) [0,1,2,3]
    exact zC
   refine zK [1,3,6] (by kernel_rfl) rfl ?_
   refine zk ?_ ?_
   ·refine ty ?_
    exact aw (hK68 ()) [0,1,2,3]
   refine zk ?_ ?_
   ·refine ty ?_
    exact aw (hK69 ()) [0,1,2,3]
   refine zk ?_ ?_
   ·refine ty ?_
    refine aq [7] ?_
    exact aw (hK65 ()) [0,1,2,3]
   exact zC
  ·refine z1h _ rfl ?_
   exact gk hL16 hstop27 _ [1,2,3] h
 rintro ⟨x_7,x_8,x_9,x_10,x_11,x_12⟩ v13 h
 refine rs ?_
 refine zh ?_
 refine ys ?_
 refine zd ?_
 refine zA ?_
 exact fr [2] Tryz.results49 h
def z4O:Nat→(List z6)→Int→Option (zR)
 | 0=>fun _ _=>none
 | n+1=>z9g n  (z4O n )
theorem zaH {n:Nat}:K17 (z4O n) 49:=by
 induction n with
 | zero=>intro _ _ _ _  h; cases h
 | succ n ih=>exact zfp ih
end Go.Proofs.YtcmaoifiiigggaaGreatDoor
