/-
  Functions that the law ParserMatchesSpec needs, lifted.
-/
import Derived.Test.YtcmaoifiiigggaaGreatDoorV3G3j
set_option linter.unusedSimpArgs false
set_option linter.unusedVariables false
namespace Go.Proofs.YtcmaoifiiigggaaGreatDoor
open Go.Abs
set_option maxRecDepth 20000
set_option maxHeartbeats 4000000
def z8t (n:Nat) (l_0:(List z6)) (q8r:(List z6)→Int→Option (z1g)):((List zm)×Int×Bool)→Option (Lp ((List zm)×Int×Bool) (Lp ((List zm)×Int×Bool) (z1g))):=
 fun (j0,jb,js)=>
  obind (z2B l_0 jb [125]) fun r22=>
  cond (!r22)
   (obind (zcX n q8r l_0 jb) fun r25=>
   need (j0.length+r25.L.length≤4294967296) (
   cond r25.Bad
    (some (.stop (.stop (z1g.mk (j0++r25.L) r25.I r25.Bad))))
    (some (.go ((j0++r25.L),r25.I,r25.Bad)))))
   (some (.stop (.go (j0,jb,js))))
def z8u (n:Nat) (q8r:(List z6)→Int→Option (z1g)) (l_0:(List z6)) (i_1:Int):Option (z1g):=
 obind (z2B l_0 i_1 [123]) fun r2=>
 cond (!r2)
  (some (z1g.mk ([]:List zm) i_1 true))
  (bindJ (S := (List zm) × Int × Bool)
   (iter (z8t n l_0 q8r) n (([]:List zm),(IntKind.i64.wrap (i_1+1)),false))
  (fun (x_6, x_7, x_8) =>
   some (z1g.mk x_6 (IntKind.i64.wrap (x_7+1)) x_8)))
theorem zeE {n:Nat} {q8r:(List z6)→Int→Option (z1g)} (q10h:K18 q8r 157):K18 (z8u n q8r) 157:=by
 intro l_0 i_1 j7 r h
 refine zN Tryz.func157 rfl Tryz.ntmps157 rfl (fun w0 o0=>?_)
 refine zh (al fun b1=>?_)
 refine zc (zh (ys ?_))
 refine cl0 [(0,0)] Tryz.call85 (fun h=>z1M h) h (fun r2 h=>?_)
 refine ys ?_
 refine zd (rc h (fun _ h=>?_) (fun _ h=>?_))
 ·refine zh (ys ?_)
  refine zd (zA ?_)
  refine z1k (z1q zE) ?_
  exact fr [2] Tryz.results157 h
 ·refine run_skip (ze ?_)
  refine ys ?_
  refine al fun b5=>?_
  refine ys ?_
  refine zd (jr h [4,5] [2,0,0] (fun s (g:Value)=>[]) (fun s g=>[box b5 [g,.int .i64 s.2.1,.bool s.2.2],nrow g zE s.1]) (fun _ h jt _ ju=>?_) ?_)
  ·refine zF (z3x (z1q zE) ?_)
   refine lo h [0,4,5] [1,2,0,0] (fun s (g:Value)=>[]) (fun s g=>[box b5 [g,.int .i64 s.2.1,.bool s.2.2],nrow g zE s.1]) _ [0,1,2,3] ?_
   rintro ⟨_,_,_⟩ _ _ h _ jh j5
   refine rs ?_
   refine zH (zh (ys ?_))
   refine cl0 [(0,0)] Tryz.call85 (fun h=>z1M h) h (fun r22 h=>?_)
   refine ys ?_
   refine zd (rc h (fun _ h=>?_) (fun _ h=>?_))
   ·refine run_skip (zD (zF (zh (ys ?_))))
    refine cl1 [(0,0)] Tryz.call199 (fun h=>zjp q10h h) h (fun r25 v27 h=>?_)
    refine al fun b28=>?_
    refine ys ?_
    refine zc (rj [0,4,5,6] [0,1,2,3,4,5] ?_)
    refine rf [1,1,0,0,1,1] fun hS=>?_
    refine aq [0,2,3,5,6,7,8] ?_
    refine zK [1] (by kernel_rfl) rfl (zk ?_ zC)
    refine ty ?_
    refine zK [4] (by kernel_rfl) rfl (zk ?_ zC)
    obtain ⟨jv,h⟩:=zX h
    refine at' rfl (z3P (C:=zE) 3 4 (by decide) rfl Tryz.runUnderlying80 rfl Tryz.runUnderlying80 Tryz.typeInfo84 rfl (by decide) (by decide) Tryz.zeroValue84 rfl rfl rfl rfl (z5I 4 rfl) jv) ?_
    rintro v30 _ rfl
    refine sb ?_
    refine zK [9] (by kernel_rfl) rfl (zk ?_ zC)
    refine ty ?_
    refine ast 10 ?_
    refine z1K (by kernel_rfl) ?_
    refine zg (rj [0,4,5] [0,1,2,3] ?_)
    refine z8 (ys ?_)
    refine zd (rc h (fun _ h=>?_) (fun _ h=>?_))
    ·refine zh (ys ?_)
     refine zd (zA ?_)
     obtain rfl:=zU h
     obtain rfl:=j5 _ rfl
     skip
     obtain rfl:=zM jt
     exact fq [3] Tryz.results157
    ·exact run_skip (zS (gj jh _ [0,1,2,3] h))
   ·refine z1h _ rfl ?_
    exact gk ju j5 _ [1,2,3] h
  rintro ⟨x_6,x_7,x_8⟩ v9 h
  refine rs ?_
  refine zh (ys ?_)
  refine za (ys ?_)
  refine zd (zA ?_)
  exact fr [2] Tryz.results157 h
def z6R:Nat→(List z6)→Int→Option (z1g)
 | 0=>fun _ _=>none
 | n+1=>z8u n  (z6R n )
theorem zin {n:Nat}:K18 (z6R n) 157:=by
 induction n with
 | zero=>intro _ _ _ _  h; cases h
 | succ n ih=>exact zeE ih
def z6F (n:Nat) (l_0:(List z6)):(Int×Bool×(List Int))→Option (Lp (Int×Bool×(List Int)) (Lp (Int×(List Int)) (z1R))):=
 fun (j3,j8,j4)=>
  cond j8
   (obind (zaf n l_0 (IntKind.i64.wrap (j3+1))) fun r28=>
   cond (decide (r28=0))
    (some (.stop (.stop (z1R.mk (zG.mk ([]:List zL) ([]:List zI)) (IntKind.i64.wrap (j3+1)) true))))
    (obind (zaf n l_0 (IntKind.i64.wrap (j3+1))) fun r31=>
    need (j4.length+([r31]:List Int).length≤4294967296) (
    obind (z2B l_0 (IntKind.i64.wrap ((IntKind.i64.wrap (j3+1))+1)) [44]) fun r42=>
    some (.go ((IntKind.i64.wrap ((IntKind.i64.wrap (j3+1))+1)),r42,(j4++([r31]:List Int)))))))
   (some (.stop (.go (j3,j4))))
def zaI (n:Nat) (l_0:(List z6)) (i_1:Int):Option (z1R):=
 obind (z3q l_0 (IntKind.i64.wrap (i_1+1))) fun r2=>
 cond (decide (r2≠1))
  (some (z1R.mk (zG.mk ([]:List zL) ([]:List zI)) (IntKind.i64.wrap (i_1+1)) true))
  (obind (z35 l_0 (IntKind.i64.wrap (i_1+1))) fun r5=>
  obind (z5F l_0 i_1) fun r7=>
  obind (z2R l_0 (IntKind.i64.wrap (i_1+2)) [101,102,102,101,99,116,115]) fun r10=>
  bindJ (S:=Int×(List Int))
   (iter (z6F n l_0) n ((IntKind.i64.wrap (i_1+2)),r10,([]:List Int)))
  (fun (ji, j2) =>
   obind (z6R n l_0 ji) fun r54=>
   cond r54.Bad
    (some (z1R.mk (zG.mk ([]:List zL) ([]:List zI)) r54.I true))
    (some (z1R.mk (zG.mk ([]:List zL) ([(zI.mk r5 r7 j2 r54.L)]:List zI)) r54.I false))))
theorem zgG {n:Nat}:K45 (zaI n) 88:=by
 intro l_0 i_1 j7 r h
 refine zN Tryz.func88 rfl Tryz.ntmps88 rfl (fun w0 o0=>?_)
 refine zh (al fun b1=>?_)
 refine zc (zh (ys ?_))
 refine cl0 [(0,0)] Tryz.call152 (fun h=>z2A h) h (fun r2 h=>?_)
 refine ys ?_
 refine zd (rc h (fun _ h=>?_) (fun _ h=>?_))
 ·refine zh (ys ?_)
  refine zd (zA ?_)
  refine z1k (z1q zz) ?_
  refine z1k (z1q zw) ?_
  exact fr [2,3] Tryz.results88 h
 ·refine run_skip (ze ?_)
  refine ys ?_
  refine cl0 [(0,0)] Tryz.call153 (fun h=>z2b h) h (fun r5 h=>?_)
  refine ys ?_
  refine cl0 [(0,0)] Tryz.call154 (fun h=>z38 h) h (fun r7 h=>?_)
  refine ys ?_
  refine al fun b9=>?_
  refine ys ?_
  refine zc (rj [0,1,4,5] [0,1,2] ?_)
  refine z8 (ys ?_)
  refine za (ys ?_)
  refine cl0 [(0,0)] Tryz.call86 (fun h=>z25 h) h (fun r10 h=>?_)
  refine ys ?_
  refine zd (jr h [0,4,5] [1,2,0,0] (fun s (g:Value)=>[(6,.int .i64 s.1)]) (fun s g=>[box b9 [.string (bs r5),.int .i64 r7,g,.slice none 0 0],row g 1 (s.2.map (eInt .i64))]) (fun _ h jw _ jx=>?_) ?_)
  ·refine zF (z3x (nilrow 1) ?_)
   refine z3x (retell 3 (g:=row (.slice none 0 0) 1 (([]:List Int).map (eInt .i64))) rfl rfl) ?_
   refine lo h [0,4,5] [1,2,0,0] (fun s (g:Value)=>[(6,.int .i64 s.1),(7,.bool s.2.1)]) (fun s g=>[box b9 [.string (bs r5),.int .i64 r7,g,.slice none 0 0],row g 1 (s.2.2.map (eInt .i64))]) _ [0,1,2,3] ?_
   rintro ⟨j3,_,j4⟩ v22 _ h _ jj j6
   refine rs ?_
   refine zH (zh (ys ?_))
   refine zd (rc h (fun _ h=>?_) (fun _ h=>?_))
   ·refine run_skip (zD (zF (zh (ys ?_))))
    refine zc (zh (ys ?_))
    refine cl0 [(0,0)] Tryz.call156 (fun h=>zaY h) h (fun r28 h=>?_)
    refine ys ?_
    refine zd (rc h (fun _ h=>?_) (fun _ h=>?_))
    ·refine zH (rj [6,4] [1] ?_)
     refine z8 (ys ?_)
     refine zd (zA ?_)
     refine z1k (z1q zz) ?_
     refine z1k (z1q zw) ?_
     obtain rfl:=zU h
     obtain rfl:=j6 _ rfl
     skip
     obtain rfl:=zM jw
     exact fq [1,2] Tryz.results88
    ·refine run_skip (zg (rj [6,0,4,5] [0,1,2,3] ?_))
     obtain ⟨r31,jk,h⟩:=zJ h
     obtain ⟨jl,h⟩:=zX h
     refine rf [1,1] fun hS=>?_
     refine aq [0,2,3] ?_
     refine a2 [9] 0 [6,0,4,5] [1,2,0,0,0] (fun (s:Value×Value)=>[]) (fun s=>[box b9 [.string (bs r5),.int .i64 r7,s.1,.slice none 0 0],row s.1 1 ((j4++([r31]:List Int)).map (eInt .i64)),row s.2 1 (([r31]:List Int).map (eInt .i64))]) ?_ (fun hK41=>?_)
     ·rintro ⟨v39,v38⟩
      refine az ?_
      refine z1K (by kernel_rfl) ?_
      refine ze ?_
      refine ys ?_
      refine zb ?_
      refine ys ?_
      refine cl0 [(0,0)] Tryz.call85 (fun h=>z1M h) h (fun r42 h=>?_)
      refine ys ?_
      exact zr (zS (gj jj _ [0,1,2,3] h))
     refine a2 [8,1] 1 [6,0,4,5] [1,2,3,0,0] (fun (s:Value×Value)=>[(45,s.1),(46,boxP b9 2)]) (fun s=>[row s.1 1 ((j4++([r31]:List Int)).map (eInt .i64)),row s.2 1 (([r31]:List Int).map (eInt .i64))]) ?_ (fun hK44=>?_)
     ·rintro ⟨v39,v38⟩
      refine az ?_
      refine zK [8] (by kernel_rfl) rfl ?_
      refine zk ?_ ?_
      ·refine zhR 3 rfl z1d (fun jc hs45o=>?_)
       refine at' rfl (z55 2 Tryz.sizeOf59 rfl rfl rfl (by rw [jc]; rfl) (by simp [Value.cells,boxP]) (by rw [jc]; exact z1s hs45o (z6b))) ?_
       rintro _ _ ⟨rfl,rfl⟩
       refine sb ?_
       refine z1B (retell 2 (g:=box b9 [.string (bs r5),.int .i64 r7,v39,.slice none 0 0]) rfl (by rw [jc]; rfl)) ?_
       exact aw (hK41 (v39,v38)) [0,1,2,3,4]
      exact zC
     refine a2 [6,3] 3 [6,0,4,5] [1,2,3,4,0] (fun (s:Value)=>[(40,v22),(44,s)]) (fun s=>[row s 1 (([r31]:List Int).map (eInt .i64))]) ?_ (fun hK46=>?_)
     ·rintro v38
      refine az ?_
      refine zK [6] (by kernel_rfl) rfl ?_
      refine zk ?_ ?_
      ·refine at' rfl (z1U (es:=1) 3 rfl Tryz.runUnderlying59 rfl Tryz.runUnderlying59 (.inr ⟨_,rfl⟩) Tryz.typeInfo3 rfl (by decide) Tryz.zeroValue3 rfl rfl rfl rfl (z1C 4 rfl z1d (z42 (zoB _) _)) (z1T jl (by decide)) (z2H jl)) ?_
       rintro v47 _ rfl
       refine sb ?_
       refine z1B (retell 3 (g:=row v47 1 ((j4++([r31]:List Int)).map (eInt .i64))) rfl (congrArg (row _ _) List.map_append.symm)) ?_
       refine aq [7] ?_
       exact aw (hK44 (v47,v38)) [0,1,2,3,4]
      exact zC
     refine a2 [5,4] 4 [6,0,4,5] [1,2,3,4] (fun (s:Unit)=>[(40,v22),(43,.int .i64 r31)]) (fun s=>[]) ?_ (fun hK48=>?_)
     ·rintro _
      refine az ?_
      refine zK [5] (by kernel_rfl) rfl ?_
      refine zk ?_ ?_
      ·refine at' rfl (t_lit [.int .i64 r31] Tryz.runUnderlying59 Tryz.sizeOf3 Tryz.zeroValue3 rfl (by decide) (by decide) rfl (by simp [Value.cells,boxP])) ?_
       rintro v49 _ ⟨rfl,_⟩
       refine sb ?_
       refine z1B (retell 4 (g:=row v49 1 (([r31]:List Int).map (eInt .i64))) rfl rfl) ?_
       exact aw (hK46 v49) [0,1,2,3,4]
      exact zC
     refine a2 [1,1,4,3] 4 [6,0,4,5,39] [1,2,3,4,0] (fun (s:Value)=>[(44,s)]) (fun s=>[row s 1 (([r31]:List Int).map (eInt .i64))]) ?_ (fun hK50=>?_)
     ·rintro v37
      refine az ?_
      refine zK [1] (by kernel_rfl) rfl ?_
      refine zk ?_ ?_
      ·refine ty ?_
       exact aw (hK46 v37) [0,1,2,3,4]
      exact zC
     refine a2 [4,5] 5 [6,0,4,5,41,42] [1,2,3,4] (fun (s:Unit)=>[(40,v22)]) (fun s=>[]) ?_ (fun hK51=>?_)
     ·rintro _
      refine az ?_
      refine zK [4] (by kernel_rfl) rfl ?_
      refine zk ?_ ?_
      ·refine at' rfl (tc [(0,0)] Tryz.call156 (zaY jk)) ?_
       rintro _ _ ⟨_,⟨rfl,rfl⟩,rfl⟩
       refine sb ?_
       exact aw (hK48 ()) [0,1,2,3]
      exact zC
     refine a2 [1,1,3,4] 5 [6,0,4,5,39] [1,2,3,4] (fun (s:Unit)=>[(43,.int .i64 r31)]) (fun s=>[]) ?_ (fun hK52=>?_)
     ·rintro _
      refine az ?_
      refine zK [1,5] (by kernel_rfl) rfl ?_
      refine zk ?_ ?_
      ·refine ty ?_
       exact aw (hK48 ()) [0,1,2,3]
      refine zk ?_ ?_
      ·refine at' rfl (t_lit [.int .i64 r31] Tryz.runUnderlying59 Tryz.sizeOf3 Tryz.zeroValue3 rfl (by decide) (by decide) rfl (by simp [Value.cells,boxP])) ?_
       rintro v53 _ ⟨rfl,_⟩
       refine sb ?_
       refine z1B (retell 4 (g:=row v53 1 (([r31]:List Int).map (eInt .i64))) rfl rfl) ?_
       exact aw (hK50 v53) [0,1,2,3,4]
      exact zC
     refine zK [1,4] (by kernel_rfl) rfl ?_
     refine zk ?_ ?_
     ·refine ty ?_
      exact aw (hK51 ()) [0,1,2,3]
     refine zk ?_ ?_
     ·refine at' rfl (tc [(0,0)] Tryz.call156 (zaY jk)) ?_
      rintro _ _ ⟨_,⟨rfl,rfl⟩,rfl⟩
      refine sb ?_
      exact aw (hK52 ()) [0,1,2,3]
     exact zC
   ·refine z1h _ rfl ?_
    exact gk jx j6 _ [0,1,2,3] h
  rintro ⟨ji,j2⟩ v14 h
  refine rs ?_
  refine zh (ys ?_)
  obtain ⟨r54,jd,h⟩:=zJ h
  refine zt (tc [(0,0)] Tryz.call157 (zin jd)) ?_
  rintro _ _ ⟨_,⟨v56,rfl,rfl⟩,rfl⟩
  refine al fun b57=>?_
  refine ys ?_
  refine zc (zh (ys ?_))
  refine zd (rc h (fun _ h=>?_) (fun _ h=>?_))
  ·refine zh (ys ?_)
   refine zd (zA ?_)
   refine z1k (z1q zz) ?_
   refine z1k (z1q zw) ?_
   exact fr [6,7] Tryz.results88 h
  ·refine run_skip (ze ?_)
   refine ys ?_
   refine zc (rj [4,5,8] [1,2,3,4,5] ?_)
   refine z8 (ys ?_)
   refine zB (Go.Abs.freeze 2 rfl) ?_
   refine zB (z24 3 rfl) ?_
   refine zcx 2 rfl z3N (fun jm hs62o=>?_)
   refine z2V 3 rfl z1j (fun jn hs63o=>?_)
   refine zt (t_lit [.agg #[.string (bs r5),.int .i64 r7,v14,v56]] Tryz.runUnderlying24 Tryz.sizeOf82 Tryz.zeroValue82 rfl (by decide) (by decide) rfl (by intro q hq; simp only [y1,y0,or_false] at hq; rcases hq with rfl <;> first | rfl | (rw [jm]; rfl) | (rw [jn]; rfl))) ?_
   rintro v61 _ ⟨rfl,_⟩
   refine zB (z1p (C:=zw) (l:=([(zI.mk r5 r7 j2 r54.L)]:List zI)) 5 [((zI.mk r5 r7 j2 r54.L),(v14,v56))] rfl (by simp only [yI,List.map_nil,jm,jn]; rfl) rfl (z1o (z1t 2 rfl (z1t 3 rfl z2u)) z1x)) ?_
   refine ys ?_
   refine zd (zA ?_)
   refine z1k (z1q zz) ?_
   exact fr [6,5] Tryz.results88 h
def z4W (n:Nat) (l_0:(List z6)):((List zL)×(List zI)×Int)→Option (Lp ((List zL)×(List zI)×Int) (Lp ((List zL)×(List zI)×Int) (z1R))):=
 fun (je,j2,j0)=>
  cond (decide (j0<(l_0.length:Int)))
   (bindJ (S := (List zL) × (List zI) × Int × Bool)
    (obind (z2R l_0 j0 [112,111,108,105,99,121]) fun r33=>
    cond r33
     (obind (zbT n l_0 j0) fun r36=>
     some (.go (r36.X.Policies,r36.X.Programs,r36.I,r36.Bad)))
     (obind (z2R l_0 j0 [112,114,111,103,114,97,109]) fun r42=>
     cond r42
      (obind (zaI n l_0 j0) fun r45=>
      some (.go (r45.X.Policies,r45.X.Programs,r45.I,r45.Bad)))
      (some (.stop (.stop (.stop (z1R.mk (zG.mk ([]:List zL) ([]:List zI)) j0 true)))))))
   (fun (j9, ja, jf, jg) =>
    cond jg
     (some (.stop (.stop (z1R.mk (zG.mk j9 ja) jf jg))))
     (need (je.length+j9.length≤4294967296) (
     need (j2.length+ja.length≤4294967296) (
     some (.go ((je++j9),(j2++ja),jf)))))))
   (some (.stop (.go (je,j2,j0))))
def ze3 (n:Nat) (l_0:(List z6)):Option (z1R):=
 bindJ (S:=(List zL)×(List zI)×Int)
  (iter (z4W n l_0) n (([]:List zL),([]:List zI),0))
 (fun (x_3, x_4, x_5) =>
  some (z1R.mk (zG.mk x_3 x_4) x_5 false))
theorem zhi {n:Nat} {l_0:(List z6)} {j7:Value} {r:z1R} (h:ze3 n l_0=some r) :
  Meets Tryz.prog 36 [j7] [ro j7 3 (l_0.map z6.enc)] (fun v G=>∃ v0 v1,v = .agg #[v0,v1,.int .i64 r.I,.bool r.Bad]∧G=[nrow v0 zz r.X.Policies,nrow v1 zw r.X.Programs]):=by
 refine zN Tryz.func36 rfl Tryz.ntmps36 rfl (fun w0 o0=>?_)
 refine zh (al fun b1=>?_)
 refine za (al fun b2=>?_)
 refine zd (jr h [2,3] [2,0,0,0] (fun s (g:V2)=>[]) (fun s g=>[box b2 [g.1,g.2,.int .i64 s.2.2,.bool false],nrow g.1 zz s.1,nrow g.2 zw s.2.1]) (fun _ h ho9 _ jy=>?_) ?_)
 ·refine zF (z3x (z1q zz) ?_)
  refine z3x (z1q zw) ?_
  refine lo h [0,2,3] [1,2,0,0,0] (fun s (g:V2)=>[]) (fun s g=>[box b2 [g.1,g.2,.int .i64 s.2.2,.bool false],nrow g.1 zz s.1,nrow g.2 zw s.2.1]) (_,_) [0,1,2,3,4] ?_
  rintro ⟨_,_,_⟩ ⟨_,_⟩ _ h _ jo j1
  refine rs ?_
  refine zH (zh (ys ?_))
  refine zd (rc h (fun _ h=>?_) (fun _ h=>?_))
  ·refine run_skip (zD (zF (zh (al fun b22=>?_))))
   refine zd (jr h [0,2,3,4] [1,2,3,4,5,0,0,0] (fun s (g:V2)=>[]) (fun s g=>[box b22 [g.1,g.2,.int .i64 s.2.2.1,.bool s.2.2.2],nrow g.1 zz s.1,nrow g.2 zw s.2.1]) (fun _ h jz _ jp=>?_) ?_)
   ·refine zh (ys ?_)
    refine cl0 [(0,0)] Tryz.call86 (fun h=>z25 h) h (fun r33 h=>?_)
    refine zd (rc h (fun _ h=>?_) (fun _ h=>?_))
    ·refine rj [0,2,3,4] [0,1,2,3,4,5] ?_
     refine z8 (ys ?_)
     refine cl2 [(0,0)] Tryz.call87 (fun h=>zhh h) h (fun r36 v38 v39 h=>?_)
     refine ys ?_
     exact zr (gj jp (_,_) [0,1,2,3,4,5,6,7] h)
    ·refine zH (rj [0,2,3,4] [0,1,2,3,4,5] ?_)
     refine z8 (ys ?_)
     refine cl0 [(0,0)] Tryz.call86 (fun h=>z25 h) h (fun r42 h=>?_)
     refine zd (rc h (fun _ h=>?_) (fun _ h=>?_))
     ·refine z8 (ys ?_)
      refine cl2 [(0,0)] Tryz.call88 (fun h=>zgG h) h (fun r45 v47 v48 h=>?_)
      refine ys ?_
      exact zr (gj jp (_,_) [0,1,2,3,4,5,6,7] h)
     ·refine zh (ys ?_)
      refine zd (zA ?_)
      refine z1k (z1q zz) ?_
      refine z1k (z1q zw) ?_
      obtain rfl:=zU h
      obtain rfl:=zM jz
      skip
      obtain rfl:=j1 _ rfl
      skip
      obtain rfl:=zM ho9
      exact fq [6,7] Tryz.results36
   rintro ⟨j9,ja,jf,jg⟩ ⟨v27,v28⟩ h
   refine rs ?_
   refine zH (zh (ys ?_))
   refine zd (rc h (fun _ h=>?_) (fun _ h=>?_))
   ·refine zh (ys ?_)
    refine zd (zA ?_)
    obtain rfl:=zU h
    obtain rfl:=j1 _ rfl
    skip
    obtain rfl:=zM ho9
    exact fq [6,7] Tryz.results36
   ·refine run_skip (ze ?_)
    refine ys ?_
    obtain ⟨jd,h⟩:=zX h
    refine zt (z3P (C:=zz) 3 6 (by decide) rfl Tryz.runUnderlying23 rfl Tryz.runUnderlying23 Tryz.typeInfo76 rfl (by decide) (by decide) Tryz.zeroValue76 rfl rfl rfl rfl (z5I 6 rfl) jd) ?_
    rintro v54 _ rfl
    refine ys ?_
    refine zc (rj [0,2,3,4] [0,1,2,3,4,5,6,7] ?_)
    refine z8 (ys ?_)
    obtain ⟨jA,h⟩:=zX h
    refine zt (z3P (C:=zw) 4 7 (by decide) rfl Tryz.runUnderlying24 rfl Tryz.runUnderlying24 Tryz.typeInfo82 rfl (by decide) (by decide) Tryz.zeroValue82 rfl rfl rfl rfl (z5I 7 rfl) jA) ?_
    rintro v57 _ rfl
    refine ys ?_
    refine zd (rj [0,2,3,4] [0,1,2,3,4,5,6,7] ?_)
    refine z8 (ys ?_)
    exact zr (zS (gj jo (_,_) [0,1,2,3,4] h))
  ·refine z1h _ rfl ?_
   exact gk jy j1 (_,_) [1,2,3,4] h
 rintro ⟨x_3,x_4,x_5⟩ ⟨v6,v7⟩ h
 refine rs ?_
 refine zh (ys ?_)
 refine zd (zA ?_)
 exact fr [2,3] Tryz.results36 h
def zbu (s_0:(List UInt8)) (l_1:(List z6)) (i_2:Int):Option (z11):=
 cond (decide ((l_1.length:Int)≤i_2))
  (some (z11.mk (s_0.length:Int) 180))
  (idx l_1 i_2 fun x3=>
  some (z11.mk x3.At 180))
theorem zeV {s_0:(List UInt8)} {l_1:(List z6)} {i_2:Int} {jq:Value} {r:z11} (h:zbu s_0 l_1 i_2=some r) :
  Meets Tryz.prog 37 [.string (bs s_0),jq,.int .i64 i_2] [ro jq 3 (l_1.map z6.enc)] (fun v G=>v = .agg #[.int .i64 r.At,.int .i64 r.E]∧G=[]):=by
 refine zN Tryz.func37 rfl Tryz.ntmps37 rfl (fun w0 o0=>?_)
 refine zh (al fun b1=>?_)
 refine zc (zh (ys ?_))
 refine zd (rc h (fun _ h=>?_) (fun _ h=>?_))
 ·refine zh (ys ?_)
  refine zd (zA ?_)
  exact fr [] Tryz.results37 h
 ·refine run_skip (ze ?_)
  refine ys ?_
  obtain ⟨x3,jE,jF,jG,h⟩:=zP h
  refine ys ?_
  refine zd (zA ?_)
  exact fr [] Tryz.results37 h
def zdh (n:Nat) (s_0:(List UInt8)):Option (z6K):=
 obind (z6w n s_0) fun r2=>
 cond (decide (r2.P.E≠0))
  (some (z6K.mk (zG.mk ([]:List zL) ([]:List zI)) r2.P))
  (obind (zcO n r2.L) fun r8=>
  cond (decide (0≤r8))
   (idx r2.L r8 fun x11=>
   some (z6K.mk (zG.mk ([]:List zL) ([]:List zI)) (z11.mk x11.At 2)))
   (obind (ze3 n r2.L) fun r12=>
   cond r12.Bad
    (obind (zbu s_0 r2.L r12.I) fun r20=>
    some (z6K.mk (zG.mk ([]:List zL) ([]:List zI)) r20))
    (some (z6K.mk r12.X (z11.mk 0 0)))))
theorem zij {n:Nat} {s_0:(List UInt8)} {r:z6K} (h:zdh n s_0=some r) :
  Meets Tryz.prog 13 [.string (bs s_0)] [] (fun v G=>∃ v0 v1,v = .agg #[v0,v1,.int .i64 r.P.At,.int .i64 r.P.E]∧G=[nrow v0 zz r.X.Policies,nrow v1 zw r.X.Programs]):=by
 refine zN Tryz.func13 rfl Tryz.ntmps13 rfl (fun w0 o0=>?_)
 refine zh (al fun b1=>?_)
 refine za (ys ?_)
 refine cl1 [] Tryz.call34 (fun h=>zaW h) h (fun r2 v4 h=>?_)
 refine al fun b5=>?_
 refine ys ?_
 refine zc (zh (ys ?_))
 refine zd (rc h (fun _ h=>?_) (fun _ h=>?_))
 ·refine zH (rj [2,3] [0,1,2] ?_)
  refine z8 (ys ?_)
  refine zd (zA ?_)
  refine z1k (z1q zz) ?_
  refine z1k (z1q zw) ?_
  exact fr [3,4] Tryz.results13 h
 ·refine run_skip (zg (rj [0,2,3] [0,1,2] ?_))
  refine z8 (ys ?_)
  refine cl0 [(1,1)] Tryz.call35 (fun h=>zcP h) h (fun r8 h=>?_)
  refine ys ?_
  refine zc (zh (ys ?_))
  refine zd (rc h (fun _ h=>?_) (fun _ h=>?_))
  ·refine zh (ys ?_)
   obtain ⟨x11,jB,jC,jD,h⟩:=zP h
   refine ys ?_
   refine zd (zA ?_)
   refine z1k (z1q zz) ?_
   refine z1k (z1q zw) ?_
   exact fr [3,4] Tryz.results13 h
  ·refine run_skip (ze ?_)
   refine ys ?_
   refine zB (Go.Abs.freeze 1 rfl) ?_
   refine cl2 [(1,0)] Tryz.call36 (fun h=>zhi h) h (fun r12 v14 v15 h=>?_)
   refine al fun b16=>?_
   refine ys ?_
   refine zc (zH (rj [0,2,3,5] [0,1,2,3,4,5] ?_))
   refine z8 (ys ?_)
   refine zd (rc h (fun _ h=>?_) (fun _ h=>?_))
   ·refine zh (ys ?_)
    refine cl0 [(1,0)] Tryz.call37 (fun h=>zeV h) h (fun r20 h=>?_)
    refine ys ?_
    refine zd (zA ?_)
    refine z1k (z1q zz) ?_
    refine z1k (z1q zw) ?_
    exact fr [6,7] Tryz.results13 h
   ·refine run_skip (ze ?_)
    refine ys ?_
    refine zd (zA ?_)
    exact fr [3,4] Tryz.results13 h
end Go.Proofs.YtcmaoifiiigggaaGreatDoor
