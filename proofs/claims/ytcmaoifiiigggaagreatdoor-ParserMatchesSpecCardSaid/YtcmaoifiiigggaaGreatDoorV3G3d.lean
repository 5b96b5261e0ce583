/-
  Functions that the law ParserMatchesSpec needs, lifted.
-/
import Derived.Test.YtcmaoifiiigggaaGreatDoorV3G3c
set_option linter.unusedSimpArgs false
set_option linter.unusedVariables false
namespace Go.Proofs.YtcmaoifiiigggaaGreatDoor
open Go.Abs
set_option maxRecDepth 20000
set_option maxHeartbeats 4000000
def z68 (n:Nat) (l_0:(List z6)):(Int×(List zQ))→Option (Lp (Int×(List zQ)) (Lp (Int×(List zQ)) (z1R))):=
 fun (j3,j6)=>
  obind (z2B l_0 j3 [125]) fun r27=>
  cond (!r27)
   (obind (z2R l_0 j3 [114,117,108,101]) fun r30=>
   cond (!r30)
    (some (.stop (.stop (z1R.mk (zG.mk ([]:List zL) ([]:List zI)) j3 true))))
    (obind (z3q l_0 (IntKind.i64.wrap (j3+1))) fun r33=>
    cond (decide (r33≠1))
     (some (.stop (.stop (z1R.mk (zG.mk ([]:List zL) ([]:List zI)) (IntKind.i64.wrap (j3+1)) true))))
     (obind (z6y n l_0 (IntKind.i64.wrap (j3+2)) false) fun r36=>
     cond r36.Bad
      (some (.stop (.stop (z1R.mk (zG.mk ([]:List zL) ([]:List zI)) r36.I true))))
      (obind (z35 l_0 (IntKind.i64.wrap (j3+1))) fun r42=>
      obind (z5F l_0 j3) fun r44=>
      need (j6.length+([(zQ.mk r42 r44 r36.L)]:List zQ).length≤4294967296) (
      some (.go (r36.I,(j6++([(zQ.mk r42 r44 r36.L)]:List zQ)))))))))
   (some (.stop (.go (j3,j6))))
def zbT (n:Nat) (l_0:(List z6)) (i_1:Int):Option (z1R):=
 obind (z3q l_0 (IntKind.i64.wrap (i_1+1))) fun r2=>
 cond (decide (r2≠1))
  (some (z1R.mk (zG.mk ([]:List zL) ([]:List zI)) (IntKind.i64.wrap (i_1+1)) true))
  (obind (z35 l_0 (IntKind.i64.wrap (i_1+1))) fun r5=>
  obind (z5F l_0 i_1) fun r7=>
  obind (z2B l_0 (IntKind.i64.wrap (i_1+2)) [123]) fun r10=>
  cond (!r10)
   (some (z1R.mk (zG.mk ([]:List zL) ([]:List zI)) (IntKind.i64.wrap (i_1+2)) true))
   (bindJ (S := Int × (List zQ))
    (iter (z68 n l_0) n ((IntKind.i64.wrap (i_1+3)),([]:List zQ)))
   (fun (jb, j7) =>
    some (z1R.mk (zG.mk ([(zL.mk r5 r7 j7)]:List zL) ([]:List zI)) (IntKind.i64.wrap (jb+1)) false))))
theorem zhh {n:Nat}:K45 (zbT n) 87:=by
 intro l_0 i_1 j4 r h
 refine zN Tryz.func87 rfl Tryz.ntmps87 rfl (fun w0 o0=>?_)
 refine zh (al fun b1=>?_)
 refine zc (zh (ys ?_))
 refine cl0 [(0,0)] Tryz.call152 (fun h=>z2A h) h (fun r2 h=>?_)
 refine ys ?_
 refine zd (rc h (fun _ h=>?_) (fun _ h=>?_))
 ·refine zh (ys ?_)
  refine zd (zA ?_)
  refine z1k (z1q zz) ?_
  refine z1k (z1q zw) ?_
  exact fr [2,3] Tryz.results87 h
 ·refine run_skip (ze ?_)
  refine ys ?_
  refine cl0 [(0,0)] Tryz.call153 (fun h=>z2b h) h (fun r5 h=>?_)
  refine ys ?_
  refine cl0 [(0,0)] Tryz.call154 (fun h=>z38 h) h (fun r7 h=>?_)
  refine ys ?_
  refine al fun b9=>?_
  refine ys ?_
  refine zc (zH (rj [0,1,4,5] [0,1,2] ?_))
  refine z8 (ys ?_)
  refine cl0 [(0,0)] Tryz.call85 (fun h=>z1M h) h (fun r10 h=>?_)
  refine ys ?_
  refine zd (rc h (fun _ h=>?_) (fun _ h=>?_))
  ·refine zh (ys ?_)
   refine zd (zA ?_)
   refine z1k (z1q zz) ?_
   refine z1k (z1q zw) ?_
   exact fr [3,4] Tryz.results87 h
  ·refine run_skip (ze ?_)
   refine ys ?_
   refine zd (jr h [4,5] [2,0,0] (fun s (g:Value)=>[(6,.int .i64 s.1)]) (fun s g=>[box b9 [.string (bs r5),.int .i64 r7,g],nrow g zY s.2]) (fun _ h j9 _ jl=>?_) ?_)
   ·refine zF (z3x (z1q zY) ?_)
    refine lo h [0,4,5] [1,2,0,0] (fun s (g:Value)=>[(6,.int .i64 s.1)]) (fun s g=>[box b9 [.string (bs r5),.int .i64 r7,g],nrow g zY s.2]) _ [0,1,2,3] ?_
    rintro ⟨j3,j6⟩ v22 _ h _ jc j2
    refine rs ?_
    refine zH (zh (ys ?_))
    refine cl0 [(0,0)] Tryz.call85 (fun h=>z1M h) h (fun r27 h=>?_)
    refine ys ?_
    refine zd (rc h (fun _ h=>?_) (fun _ h=>?_))
    ·refine run_skip (zD (zF (zH (zh (ys ?_)))))
     refine cl0 [(0,0)] Tryz.call86 (fun h=>z25 h) h (fun r30 h=>?_)
     refine ys ?_
     refine zd (rc h (fun _ h=>?_) (fun _ h=>?_))
     ·refine zH (rj [6,4] [1] ?_)
      refine z8 (ys ?_)
      refine zd (zA ?_)
      refine z1k (z1q zz) ?_
      refine z1k (z1q zw) ?_
      obtain rfl:=zU h
      obtain rfl:=j2 _ rfl
      skip
      obtain rfl:=zM j9
      exact fq [1,2] Tryz.results87
     ·refine run_skip (zg (zH (rj [6,0,4,5] [0,1,2,3] ?_)))
      refine z8 (ys ?_)
      refine cl0 [(0,0)] Tryz.call152 (fun h=>z2A h) h (fun r33 h=>?_)
      refine ys ?_
      refine zd (rc h (fun _ h=>?_) (fun _ h=>?_))
      ·refine zh (ys ?_)
       refine zd (zA ?_)
       refine z1k (z1q zz) ?_
       refine z1k (z1q zw) ?_
       obtain rfl:=zU h
       obtain rfl:=j2 _ rfl
       skip
       obtain rfl:=zM j9
       exact fq [4,5] Tryz.results87
      ·refine run_skip (ze ?_)
       refine ys ?_
       obtain ⟨r36,jm,h⟩:=zJ h
       refine zt (tc [(0,0)] Tryz.call155 (zgE jm)) ?_
       rintro _ _ ⟨_,⟨v38,rfl,rfl⟩,rfl⟩
       refine al fun b39=>?_
       refine ys ?_
       refine zc (zH (rj [6,0,4,5,7] [0,1,2,3,4,5] ?_))
       refine z8 (ys ?_)
       refine zd (rc h (fun _ h=>?_) (fun _ h=>?_))
       ·refine zh (ys ?_)
        refine zd (zA ?_)
        refine z1k (z1q zz) ?_
        refine z1k (z1q zw) ?_
        obtain rfl:=zU h
        obtain rfl:=j2 _ rfl
        skip
        obtain rfl:=zM j9
        exact fq [6,7] Tryz.results87
       ·refine run_skip (zg ?_)
        obtain ⟨r42,jd,h⟩:=zJ h
        obtain ⟨r44,je,h⟩:=zJ h
        obtain ⟨jn,h⟩:=zX h
        refine rf [1,1,0,0,0,1] fun hS=>?_
        refine aq [0,2,3,4,6,7,9,10] ?_
        refine a2 [16] 0 [0,4,5,7] [1,2,0,0,0,6,0] (fun (s:Value×Value)=>[]) (fun s=>[box b9 [.string (bs r5),.int .i64 r7,s.1],nrow s.1 zY (j6++([(zQ.mk r42 r44 r36.L)]:List zQ)),nro v38 zp r36.L,nrow s.2 zY ([(zQ.mk r42 r44 r36.L)]:List zQ)]) ?_ (fun hK60=>?_)
        ·rintro ⟨v58,v56⟩
         refine az ?_
         refine z1K (by kernel_rfl) ?_
         refine zf ?_
         refine ys ?_
         exact zr (zS (gj jc _ [0,1,2,3] h))
        refine a2 [15,1] 1 [0,4,5,7] [1,2,3,0,0,6,0] (fun (s:Value×Value)=>[(74,s.1),(75,boxP b9 2)]) (fun s=>[nrow s.1 zY (j6++([(zQ.mk r42 r44 r36.L)]:List zQ)),nro v38 zp r36.L,nrow s.2 zY ([(zQ.mk r42 r44 r36.L)]:List zQ)]) ?_ (fun hK61=>?_)
        ·rintro ⟨v58,v56⟩
         refine az ?_
         refine zK [15] (by kernel_rfl) rfl ?_
         refine zk ?_ ?_
         ·refine z1J 3 rfl z4N (fun ja hs62o=>?_)
          refine at' rfl (z55 2 Tryz.sizeOf74 rfl rfl rfl (by rw [ja]; rfl) (by simp [Value.cells,boxP]) (by rw [ja]; exact z1s hs62o (z6b))) ?_
          rintro _ _ ⟨rfl,rfl⟩
          refine sb ?_
          refine z1B (retell 2 (g:=box b9 [.string (bs r5),.int .i64 r7,v58]) rfl (by rw [ja]; rfl)) ?_
          exact aw (hK60 (v58,v56)) [0,1,2,3,4,5,6]
         exact zC
        refine a2 [13,3] 3 [0,4,5,7] [1,2,3,4,0,6,0] (fun (s:Value)=>[(62,v22),(73,s)]) (fun s=>[nro v38 zp r36.L,nrow s zY ([(zQ.mk r42 r44 r36.L)]:List zQ)]) ?_ (fun hK63=>?_)
        ·rintro v56
         refine az ?_
         refine zK [13] (by kernel_rfl) rfl ?_
         refine zk ?_ ?_
         ·refine at' rfl (z3P (C:=zY) 3 6 (by decide) rfl Tryz.runUnderlying74 rfl Tryz.runUnderlying74 Tryz.typeInfo79 rfl (by decide) (by decide) Tryz.zeroValue79 rfl rfl rfl rfl (z5I 6 rfl) jn) ?_
          rintro v64 _ rfl
          refine sb ?_
          refine aq [14] ?_
          exact aw (hK61 (v64,v56)) [0,1,2,3,4,5,6]
         exact zC
        refine a2 [12,4] 4 [0,4,5,7] [1,2,3,4,5,6] (fun (s:Unit)=>[(62,v22),(72,.agg #[.string (bs r42),.int .i64 r44,v38])]) (fun s=>[]) ?_ (fun hK65=>?_)
        ·rintro _
         refine az ?_
         refine zK [12] (by kernel_rfl) rfl ?_
         refine zk ?_ ?_
         ·refine z3n (z24 4 rfl) ?_
          refine z1J 4 rfl z1j (fun jf hs67o=>?_)
          refine at' rfl (t_lit [.agg #[.string (bs r42),.int .i64 r44,v38]] Tryz.runUnderlying74 Tryz.sizeOf79 Tryz.zeroValue79 rfl (by decide) (by decide) rfl (by intro q hq; simp only [y1,y0,or_false] at hq; rcases hq with rfl <;> first | rfl | (rw [jf]; rfl))) ?_
          rintro v66 _ ⟨rfl,_⟩
          refine sb ?_
          refine z1B (z1p (C:=zY) (l:=([(zQ.mk r42 r44 r36.L)]:List zQ)) 6 [((zQ.mk r42 r44 r36.L),v38)] rfl (by simp only [yI,List.map_nil,jf]; rfl) rfl (z1o (z1t 4 rfl z2u) z1x)) ?_
          exact aw (hK63 v66) [0,1,2,3,4,5,6]
         exact zC
        refine a2 [1,1,11,3] 4 [0,4,5,7,61] [1,2,3,4,0,6,0] (fun (s:Value)=>[(73,s)]) (fun s=>[nro v38 zp r36.L,nrow s zY ([(zQ.mk r42 r44 r36.L)]:List zQ)]) ?_ (fun hK68=>?_)
        ·rintro v54
         refine az ?_
         refine zK [1] (by kernel_rfl) rfl ?_
         refine zk ?_ ?_
         ·refine ty ?_
          exact aw (hK63 v54) [0,1,2,3,4,5,6]
         exact zC
        refine a2 [11,5] 5 [0,4,5,7,71] [1,2,3,4,5,6] (fun (s:Unit)=>[(62,v22),(66,.string (bs r42)),(69,.int .i64 r44)]) (fun s=>[]) ?_ (fun hK69=>?_)
        ·rintro _
         refine az ?_
         refine zK [11] (by kernel_rfl) rfl ?_
         refine zk ?_ ?_
         ·refine ty ?_
          exact aw (hK65 ()) [0,1,2,3,4,5]
         exact zC
        refine a2 [1,1,10,4] 5 [0,4,5,7,61] [1,2,3,4,5,6] (fun (s:Unit)=>[(72,.agg #[.string (bs r42),.int .i64 r44,v38])]) (fun s=>[]) ?_ (fun hK71=>?_)
        ·rintro _
         refine az ?_
         refine zK [1,12] (by kernel_rfl) rfl ?_
         refine zk ?_ ?_
         ·refine ty ?_
          exact aw (hK65 ()) [0,1,2,3,4,5]
         refine zk ?_ ?_
         ·refine z3n (z24 4 rfl) ?_
          refine z1J 4 rfl z1j (fun jg hs73o=>?_)
          refine at' rfl (t_lit [.agg #[.string (bs r42),.int .i64 r44,v38]] Tryz.runUnderlying74 Tryz.sizeOf79 Tryz.zeroValue79 rfl (by decide) (by decide) rfl (by intro q hq; simp only [y1,y0,or_false] at hq; rcases hq with rfl <;> first | rfl | (rw [jg]; rfl))) ?_
          rintro v72 _ ⟨rfl,_⟩
          refine sb ?_
          refine z1B (z1p (C:=zY) (l:=([(zQ.mk r42 r44 r36.L)]:List zQ)) 6 [((zQ.mk r42 r44 r36.L),v38)] rfl (by simp only [yI,List.map_nil,jg]; rfl) rfl (z1o (z1t 4 rfl z2u) z1x)) ?_
          exact aw (hK68 v72) [0,1,2,3,4,5,6]
         exact zC
        refine a2 [8,1,2,5] 6 [0,4,5,7,67,68,71] [1,2,3,4,5,6] (fun (s:Unit)=>[(62,v22),(66,.string (bs r42))]) (fun s=>[]) ?_ (fun hK74=>?_)
        ·rintro _
         refine az ?_
         refine zK [8] (by kernel_rfl) rfl ?_
         refine zk ?_ ?_
         ·refine at' rfl (tc [(0,0)] Tryz.call154 (z38 je)) ?_
          rintro _ _ ⟨_,⟨rfl,rfl⟩,rfl⟩
          refine sb ?_
          exact aw (hK69 ()) [0,1,2,3,4,5]
         exact zC
        refine a2 [1,1,9,5] 6 [0,4,5,7,61,71] [1,2,3,4,5,6] (fun (s:Unit)=>[(66,.string (bs r42)),(69,.int .i64 r44)]) (fun s=>[]) ?_ (fun hK75=>?_)
        ·rintro _
         refine az ?_
         refine zK [1,11] (by kernel_rfl) rfl ?_
         refine zk ?_ ?_
         ·refine ty ?_
          exact aw (hK69 ()) [0,1,2,3,4,5]
         refine zk ?_ ?_
         ·refine ty ?_
          exact aw (hK71 ()) [0,1,2,3,4,5]
         exact zC
        refine a2 [5,1,2,1,2,5] 7 [0,4,5,7,63,65,67,68,71] [1,2,3,4,5,6] (fun (s:Unit)=>[(62,v22)]) (fun s=>[]) ?_ (fun hK77=>?_)
        ·rintro _
         refine az ?_
         refine zK [5] (by kernel_rfl) rfl ?_
         refine zk ?_ ?_
         ·refine at' rfl (tc [(0,0)] Tryz.call153 (z2b jd)) ?_
          rintro _ _ ⟨_,⟨rfl,rfl⟩,rfl⟩
          refine sb ?_
          exact aw (hK74 ()) [0,1,2,3,4,5]
         exact zC
        refine a2 [1,1,6,1,2,5] 7 [0,4,5,7,61,67,68,71] [1,2,3,4,5,6] (fun (s:Unit)=>[(66,.string (bs r42))]) (fun s=>[]) ?_ (fun hK78=>?_)
        ·rintro _
         refine az ?_
         refine zK [1,8] (by kernel_rfl) rfl ?_
         refine zk ?_ ?_
         ·refine ty ?_
          exact aw (hK74 ()) [0,1,2,3,4,5]
         refine zk ?_ ?_
         ·refine at' rfl (tc [(0,0)] Tryz.call154 (z38 je)) ?_
          rintro _ _ ⟨_,⟨rfl,rfl⟩,rfl⟩
          refine sb ?_
          exact aw (hK75 ()) [0,1,2,3,4,5]
         exact zC
        refine zK [1,5] (by kernel_rfl) rfl ?_
        refine zk ?_ ?_
        ·refine ty ?_
         exact aw (hK77 ()) [0,1,2,3,4,5]
        refine zk ?_ ?_
        ·refine at' rfl (tc [(0,0)] Tryz.call153 (z2b jd)) ?_
         rintro _ _ ⟨_,⟨rfl,rfl⟩,rfl⟩
         refine sb ?_
         exact aw (hK78 ()) [0,1,2,3,4,5]
        exact zC
    ·refine z1h _ rfl ?_
     exact gk jl j2 _ [1,2,3] h
   rintro ⟨jb,j7⟩ v15 h
   refine rs ?_
   refine zh (ys ?_)
   refine zB (z24 2 rfl) ?_
   refine z2V 2 rfl z1j (fun jh hs80o=>?_)
   refine zt (t_lit [.agg #[.string (bs r5),.int .i64 r7,v15]] Tryz.runUnderlying23 Tryz.sizeOf76 Tryz.zeroValue76 rfl (by decide) (by decide) rfl (by intro q hq; simp only [y1,y0,or_false] at hq; rcases hq with rfl <;> first | rfl | (rw [jh]; rfl))) ?_
   rintro v79 _ ⟨rfl,_⟩
   refine zB (z1p (C:=zz) (l:=([(zL.mk r5 r7 j7)]:List zL)) 3 [((zL.mk r5 r7 j7),v15)] rfl (by simp only [yI,List.map_nil,jh]; rfl) rfl (z1o (z1t 2 rfl z2u) z1x)) ?_
   refine ys ?_
   refine zd (zA ?_)
   refine z1k (z1q zw) ?_
   exact fr [3,4] Tryz.results87 h
def z7D  : Option ((List (List UInt8))):=
 some ([[114,101,97,100,115],[119,114,105,116,101,115],[115,116,97,116,117,115],[108,111,103],[100,101,110,121],[114,101,112,108,121]]:List (List UInt8))
theorem zag:K5 z7D 137:=by
 intro  r h
 refine zN Tryz.func137 rfl Tryz.ntmps137 rfl (fun w0 o0=>?_)
 refine zh (ys ?_)
 refine za (zt (t_lit [.string (bs [114,101,97,100,115]),.string (bs [119,114,105,116,101,115]),.string (bs [115,116,97,116,117,115]),.string (bs [108,111,103]),.string (bs [100,101,110,121]),.string (bs [114,101,112,108,121])] Tryz.runUnderlying62 Tryz.sizeOf9 Tryz.zeroValue9 rfl (by decide) (by decide) rfl (by simp [Value.cells,boxP])) ?_)
 rintro v1 _ ⟨rfl,_⟩
 refine zB (retell 0 (g:=row v1 1 (([[114,101,97,100,115],[119,114,105,116,101,115],[115,116,97,116,117,115],[108,111,103],[100,101,110,121],[114,101,112,108,121]]:List (List UInt8)).map eStr)) rfl rfl) ?_
 refine ys ?_
 refine zd (zA ?_)
 exact fs [0] [0] Tryz.results137 h
def z7r (l_0:(List z6)) (i_1:Int) (r4:(List (List UInt8))):(Int)→Option (Lp (Int) (Lp (Unit) (Int))):=
 fun j8=>
  cond (decide (j8<(r4.length:Int)))
   (idx r4 j8 fun x17=>
   obind (z35 l_0 i_1) fun r18=>
   cond (decide (x17=r18))
    (some (.stop (.stop (IntKind.i64.wrap (j8+1)))))
    (some (.go (IntKind.i64.wrap (j8+1)))))
   (some (.stop (.go ())))
def zaf (n:Nat) (l_0:(List z6)) (i_1:Int):Option (Int):=
 obind (z3q l_0 i_1) fun r1=>
 cond (decide (r1≠2))
  (some 0)
  (obind (z7D) fun r4=>
  bindJ (S:=Unit)
   (iter (z7r l_0 i_1 r4) n 0)
  (fun _ =>
   some 0))
theorem zaY {n:Nat}:K42 (zaf n) 156:=by
 intro l_0 i_1 j4 r h
 refine zN Tryz.func156 rfl Tryz.ntmps156 rfl (fun w0 o0=>?_)
 refine zh (ys ?_)
 refine zc (zh (ys ?_))
 refine cl0 [(0,0)] Tryz.call152 (fun h=>z2A h) h (fun r1 h=>?_)
 refine ys ?_
 refine zd (rc h (fun _ h=>?_) (fun _ h=>?_))
 ·refine zh (ys ?_)
  refine zd (zA ?_)
  exact fs [4] [] Tryz.results156 h
 ·refine run_skip (ze ?_)
  obtain ⟨r4,hr5,h⟩:=zJ h
  refine zt (tc [] Tryz.call137 (zag hr5)) ?_
  rintro v6 _ ⟨_,⟨_,rfl,rfl⟩,rfl⟩
  refine ys ?_
  refine zd (jr h [] [] (fun s (g:Unit)=>[]) (fun s g=>[]) (fun _ h ho8 _ hL9=>?_) ?_)
  ·refine zh (ys ?_)
   refine zd (zF (lo h [0,1,5] [1,2] (fun s (g:Unit)=>[(6,.int .i64 s)]) (fun s g=>[]) () [0,1] ?_))
   rintro _ _ _ h _ ji j5
   refine rs ?_
   refine zH (zh (ys ?_))
   refine zd (rc h (fun _ h=>?_) (fun _ h=>?_))
   ·refine run_skip (zg (zF (zH (rf [1,1] fun hS=>?_))))
    refine aq [0,1] ?_
    obtain ⟨x17,jo,jp,jq,h⟩:=zP h
    refine aq [2,3,4,5] ?_
    refine al0 6 [(0,0)] Tryz.call153 (fun h=>z2b h) h (fun r18 h=>?_)
    refine aq [7] ?_
    refine z1K (by kernel_rfl) ?_
    refine zD (rc h (fun _ h=>?_) (fun _ h=>?_))
    ·refine zH (rj [6] [] ?_)
     refine z8 (ys ?_)
     refine zd (zA ?_)
     obtain rfl:=zU h
     obtain rfl:=j5 _ rfl
     skip
     obtain rfl:=zM ho8
     exact ft [4] [] Tryz.results156
    ·refine run_skip (zS (zD (rj [6,0,1,5] [0,1] ?_)))
     refine z8 (ys ?_)
     exact zr (gj ji () [0,1] h)
   ·refine z1h _ rfl ?_
    exact gk hL9 j5 () [] h
  rintro _ _ h
  refine rs ?_
  refine zh (ys ?_)
  refine zd (zA ?_)
  exact fs [4] [] Tryz.results156 h
def zbs (l_0:(List z6)) (i_1:Int) (j1:Int) (x_3:zR):Option (zR):=
 cond x_3.Bad
  (some x_3)
  (obind (z5F l_0 i_1) fun r5=>
  some (zR.mk (zi.mk j1 r5 [] ([x_3.X]:List zi)) x_3.I false))
theorem zeS {l_0:(List z6)} {i_1:Int} {j1:Int} {x_3:zR} {j4:Value} {j0:Value} {r:zR} (h:zbs l_0 i_1 j1 x_3=some r) :
  Meets Tryz.prog 211 [j4,.int .i64 i_1,.int .i64 j1,.agg #[.int .i64 x_3.X.Op,.int .i64 x_3.X.At,.string (bs x_3.X.S),j0,.int .i64 x_3.I,.bool x_3.Bad]] [ro j4 3 (l_0.map z6.enc),nro j0 zj x_3.X.Args] (fun v G=>∃ v0,v = .agg #[.int .i64 r.X.Op,.int .i64 r.X.At,.string (bs r.X.S),v0,.int .i64 r.I,.bool r.Bad]∧G=[nro v0 zj r.X.Args]):=by
 refine zN Tryz.func211 rfl Tryz.ntmps211 rfl (fun w0 o0=>?_)
 refine zh (zt (t_box rfl) ?_)
 rintro _ _ ⟨b1,rfl,rfl⟩
 refine al fun b2=>?_
 refine zc (zh (ys ?_))
 refine zd (rc h (fun _ h=>?_) (fun _ h=>?_))
 ·refine zh (ys ?_)
  refine zd (zA ?_)
  exact fr [1] Tryz.results211 h
 ·refine run_skip (zg ?_)
  obtain ⟨r5,hr6,h⟩:=zJ h
  refine rf [1,1,1] fun hS=>?_
  refine aq [0,1,2,4,5,8,9] ?_
  refine a2 [12] 0 [8] [1,2,3,0,0] (fun (s:Value)=>[]) (fun s=>[box b2 [.int .i64 j1,.int .i64 r5,.string (bs []),s,.int .i64 x_3.I,.bool false],nrow s zj ([x_3.X]:List zi)]) ?_ (fun hK19=>?_)
  ·rintro v14
   refine az ?_
   refine z1K (by kernel_rfl) ?_
   refine zD (zA ?_)
   refine z1k (z24 4 rfl) ?_
   exact fr [4] Tryz.results211 h
  refine a2 [11,1] 1 [8] [1,2,3,4,0] (fun (s:Value)=>[(22,.agg #[.int .i64 j1,.int .i64 r5,.string (bs []),s,.int .i64 x_3.I,.bool false])]) (fun s=>[nrow s zj ([x_3.X]:List zi)]) ?_ (fun hK20=>?_)
  ·rintro v14
   refine az ?_
   refine zK [11] (by kernel_rfl) rfl ?_
   refine zk ?_ ?_
   ·refine z1J 4 rfl z4N (fun js hs21o=>?_)
    refine at' rfl (z55 3 Tryz.sizeOf122 rfl rfl rfl rfl (by simp [Value.cells,boxP]) (z1s rfl (z1s rfl (z1s rfl (z1s hs21o (z1s rfl (z1s rfl (z6b)))))))) ?_
    rintro _ _ ⟨rfl,rfl⟩
    refine sb ?_
    refine z1B (retell 3 (g:=box b2 [.int .i64 j1,.int .i64 r5,.string (bs []),v14,.int .i64 x_3.I,.bool false]) rfl rfl) ?_
    exact aw (hK19 v14) [0,1,2,3,4]
   exact zC
  refine a2 [10,2] 2 [8,21] [1,2,3,4,0] (fun (s:Value)=>[(19,.agg #[.int .i64 j1,.int .i64 r5,.string (bs []),s])]) (fun s=>[nrow s zj ([x_3.X]:List zi)]) ?_ (fun hK22=>?_)
  ·rintro v14
   refine az ?_
   refine zK [10] (by kernel_rfl) rfl ?_
   refine zk ?_ ?_
   ·refine ty ?_
    exact aw (hK20 v14) [0,1,2,3,4]
   exact zC
  refine a2 [7,1,2,2] 3 [8,12,21] [1,2,3,4,0] (fun (s:Value)=>[(15,.int .i64 r5),(18,s)]) (fun s=>[nrow s zj ([x_3.X]:List zi)]) ?_ (fun hK24=>?_)
  ·rintro v14
   refine az ?_
   refine zK [7] (by kernel_rfl) rfl ?_
   refine zk ?_ ?_
   ·refine ty ?_
    exact aw (hK22 v14) [0,1,2,3,4]
   exact zC
  refine a2 [6,2,2,2] 4 [8,12,17,21] [1,2,3,4] (fun (s:Unit)=>[(15,.int .i64 r5)]) (fun s=>[]) ?_ (fun hK26=>?_)
  ·rintro _
   refine az ?_
   refine zK [6] (by kernel_rfl) rfl ?_
   refine zk ?_ ?_
   ·refine z1J 1 rfl z1j (fun jj hs28o=>?_)
    refine at' rfl (t_lit [.agg #[.int .i64 x_3.X.Op,.int .i64 x_3.X.At,.string (bs x_3.X.S),j0]] Tryz.runUnderlying45 Tryz.sizeOf47 Tryz.zeroValue47 rfl (by decide) (by decide) rfl (by intro q hq; simp only [y1,y0,or_false] at hq; rcases hq with rfl <;> first | rfl | (rw [jj]; rfl))) ?_
    rintro v27 _ ⟨rfl,_⟩
    refine sb ?_
    refine z1B (z1p (C:=zj) (l:=([x_3.X]:List zi)) 4 [(x_3.X,j0)] rfl (by simp only [yI,List.map_nil,jj]; rfl) rfl (z1o (z2P (T:=z1b) (z1t 1 rfl z2u)) z1x)) ?_
    exact aw (hK24 v27) [0,1,2,3,4]
   exact zC
  refine a2 [3,1,3,1,2,2] 4 [8,12,13,14,21] [1,2,3,4,0] (fun (s:Value)=>[(18,s)]) (fun s=>[nrow s zj ([x_3.X]:List zi)]) ?_ (fun hK29=>?_)
  ·rintro v12
   refine az ?_
   refine zK [3] (by kernel_rfl) rfl ?_
   refine zk ?_ ?_
   ·refine at' rfl (tc [(0,0)] Tryz.call154 (z38 hr6)) ?_
    rintro _ _ ⟨_,⟨rfl,rfl⟩,rfl⟩
    refine sb ?_
    exact aw (hK24 v12) [0,1,2,3,4]
   exact zC
  refine zK [3,6] (by kernel_rfl) rfl ?_
  refine zk ?_ ?_
  ·refine at' rfl (tc [(0,0)] Tryz.call154 (z38 hr6)) ?_
   rintro _ _ ⟨_,⟨rfl,rfl⟩,rfl⟩
   refine sb ?_
   exact aw (hK26 ()) [0,1,2,3]
  refine zk ?_ ?_
  ·refine z1J 1 rfl z1j (fun jk hs31o=>?_)
   refine at' rfl (t_lit [.agg #[.int .i64 x_3.X.Op,.int .i64 x_3.X.At,.string (bs x_3.X.S),j0]] Tryz.runUnderlying45 Tryz.sizeOf47 Tryz.zeroValue47 rfl (by decide) (by decide) rfl (by intro q hq; simp only [y1,y0,or_false] at hq; rcases hq with rfl <;> first | rfl | (rw [jk]; rfl))) ?_
   rintro v30 _ ⟨rfl,_⟩
   refine sb ?_
   refine z1B (z1p (C:=zj) (l:=([x_3.X]:List zi)) 4 [(x_3.X,j0)] rfl (by simp only [yI,List.map_nil,jk]; rfl) rfl (z1o (z2P (T:=z1b) (z1t 1 rfl z2u)) z1x)) ?_
   exact aw (hK29 v30) [0,1,2,3,4]
  exact zC
def z7s (l_0:(List z6)) (i_1:Int) (j1:Int) (s_3:(List UInt8)):Option (zR):=
 obind (z5F l_0 i_1) fun r2=>
 some (zR.mk (zi.mk j1 r2 s_3 ([]:List zi)) (IntKind.i64.wrap (i_1+1)) false)
theorem z6D {l_0:(List z6)} {i_1:Int} {j1:Int} {s_3:(List UInt8)} {j4:Value} {r:zR} (h:z7s l_0 i_1 j1 s_3=some r) :
  Meets Tryz.prog 229 [j4,.int .i64 i_1,.int .i64 j1,.string (bs s_3)] [ro j4 3 (l_0.map z6.enc)] (fun v G=>∃ v0,v = .agg #[.int .i64 r.X.Op,.int .i64 r.X.At,.string (bs r.X.S),v0,.int .i64 r.I,.bool r.Bad]∧G=[nrow v0 zj r.X.Args]):=by
 refine zN Tryz.func229 rfl Tryz.ntmps229 rfl (fun w0 o0=>?_)
 refine zh (al fun b1=>?_)
 refine za (ys ?_)
 refine cl0 [(0,0)] Tryz.call154 (fun h=>z38 h) h (fun r2 h=>?_)
 refine ys ?_
 refine zd (zA ?_)
 refine z1k (z1q zj) ?_
 exact fr [2] Tryz.results229 h
end Go.Proofs.YtcmaoifiiigggaaGreatDoor
