/-
  Functions that the law ParserMatchesSpec needs, lifted.
-/
import Derived.Test.YtcmaoifiiigggaaGreatDoorV3G3d
set_option linter.unusedSimpArgs false
set_option linter.unusedVariables false
namespace Go.Proofs.YtcmaoifiiigggaaGreatDoor
open Go.Abs
set_option maxRecDepth 20000
set_option maxHeartbeats 4000000
def zeD (q2r:(List z6)→Int→Option (zR)) (l_0:(List z6)) (i_1:Int):Option (zR):=
 obind (z3q l_0 i_1) fun r2=>
 cond (decide (r2=3))
  (obind (z35 l_0 i_1) fun r5=>
  obind (z7s l_0 i_1 1 r5) fun r7=>
  some r7)
  (cond (decide (r2 = 4))
   (obind (z35 l_0 i_1) fun r12=>
   obind (z7s l_0 i_1 2 r12) fun r14=>
   some r14)
   (cond (decide (r2 = 1))
    (obind (z35 l_0 i_1) fun r19=>
    obind (z7s l_0 i_1 3 r19) fun r21=>
    some r21)
    (obind (z2R l_0 i_1 [116,114,117,101]) fun r25=>
    cond r25
     (obind (z7s l_0 i_1 4 []) fun r28=>
     some r28)
     (obind (z2R l_0 i_1 [102,97,108,115,101]) fun r32=>
     cond r32
      (obind (z7s l_0 i_1 5 []) fun r35=>
      some r35)
      (obind (z2R l_0 i_1 [115,116,97,116,117,115]) fun r39=>
      cond r39
       (obind (z7s l_0 i_1 7 []) fun r42=>
       some r42)
       (obind (z2R l_0 i_1 [104,101,97,100,101,114]) fun r46=>
       cond r46
        (obind (z3q l_0 (IntKind.i64.wrap (i_1+1))) fun r49=>
        cond (decide (r49≠4))
         (some (zR.mk (zi.mk 0 0 [] ([]:List zi)) (IntKind.i64.wrap (i_1+1)) true))
         (obind (z5F l_0 i_1) fun r52=>
         obind (z35 l_0 (IntKind.i64.wrap (i_1+1))) fun r54=>
         some (zR.mk (zi.mk 6 r52 r54 ([]:List zi)) (IntKind.i64.wrap (i_1+2)) false)))
        (obind (z2B l_0 i_1 [40]) fun r56=>
        cond (!r56)
         (some (zR.mk (zi.mk 0 0 [] ([]:List zi)) i_1 true))
         (obind (q2r l_0 (IntKind.i64.wrap (i_1+1))) fun r59=>
         cond r59.Bad
          (some r59)
          (obind (z2B l_0 r59.I [41]) fun r66=>
          cond (!r66)
           (some (zR.mk (zi.mk 0 0 [] ([]:List zi)) r59.I true))
           (some (zR.mk r59.X (IntKind.i64.wrap (r59.I+1)) false)))))))))))
theorem zjm {q2r:(List z6)→Int→Option (zR)} (q3h:K17 q2r 49):K17 (zeD q2r) 277:=by
 intro l_0 i_1 j3 r h
 refine zN Tryz.func277 rfl Tryz.ntmps277 rfl (fun w0 o0=>?_)
 refine zh (al fun b1=>?_)
 refine zc (zh (ys ?_))
 refine cl0 [(0,0)] Tryz.call152 (fun h=>z2A h) h (fun r2 h=>?_)
 refine zd (zF (zh (ys ?_)))
 refine zd (rc h (fun _ h=>?_) (fun _ h=>?_))
 ·refine zh (ys ?_)
  refine cl0 [(0,0)] Tryz.call153 (fun h=>z2b h) h (fun r5 h=>?_)
  refine cl1 [(0,0)] Tryz.call229 (fun h=>z6D h) h (fun r7 v9 h=>?_)
  refine ys ?_
  refine zd (zA ?_)
  refine z1k (z24 2 rfl) ?_
  exact fr [2] Tryz.results277 h
 ·refine zh (ys ?_)
  refine zd (rc h (fun _ h=>?_) (fun _ h=>?_))
  ·refine zH (rj [0,1,4] [0,1] ?_)
   refine z8 (ys ?_)
   refine cl0 [(0,0)] Tryz.call153 (fun h=>z2b h) h (fun r12 h=>?_)
   refine cl1 [(0,0)] Tryz.call229 (fun h=>z6D h) h (fun r14 v16 h=>?_)
   refine ys ?_
   refine zd (zA ?_)
   refine z1k (z24 2 rfl) ?_
   exact fr [2] Tryz.results277 h
  ·refine zH (rj [0,1,4,8] [0,1] ?_)
   refine z8 (ys ?_)
   refine zd (rc h (fun _ h=>?_) (fun _ h=>?_))
   ·refine zh (ys ?_)
    refine cl0 [(0,0)] Tryz.call153 (fun h=>z2b h) h (fun r19 h=>?_)
    refine cl1 [(0,0)] Tryz.call229 (fun h=>z6D h) h (fun r21 v23 h=>?_)
    refine ys ?_
    refine zd (zA ?_)
    refine z1k (z24 2 rfl) ?_
    exact fr [2] Tryz.results277 h
   ·refine run_skip (zS (zg (zh (ys ?_))))
    refine cl0 [(0,0)] Tryz.call86 (fun h=>z25 h) h (fun r25 h=>?_)
    refine zd (rc h (fun _ h=>?_) (fun _ h=>?_))
    ·refine zh (ys ?_)
     refine cl1 [(0,0)] Tryz.call229 (fun h=>z6D h) h (fun r28 v30 h=>?_)
     refine ys ?_
     refine zd (zA ?_)
     refine z1k (z24 2 rfl) ?_
     exact fr [2] Tryz.results277 h
    ·refine run_skip (zg (zh (ys ?_)))
     refine cl0 [(0,0)] Tryz.call86 (fun h=>z25 h) h (fun r32 h=>?_)
     refine zd (rc h (fun _ h=>?_) (fun _ h=>?_))
     ·refine zH (rj [0,1,4] [0,1] ?_)
      refine z8 (ys ?_)
      refine cl1 [(0,0)] Tryz.call229 (fun h=>z6D h) h (fun r35 v37 h=>?_)
      refine ys ?_
      refine zd (zA ?_)
      refine z1k (z24 2 rfl) ?_
      exact fr [2] Tryz.results277 h
     ·refine run_skip (zg (zH (rj [0,1,4] [0,1] ?_)))
      refine z8 (ys ?_)
      refine cl0 [(0,0)] Tryz.call86 (fun h=>z25 h) h (fun r39 h=>?_)
      refine zd (rc h (fun _ h=>?_) (fun _ h=>?_))
      ·refine zh (ys ?_)
       refine cl1 [(0,0)] Tryz.call229 (fun h=>z6D h) h (fun r42 v44 h=>?_)
       refine ys ?_
       refine zd (zA ?_)
       refine z1k (z24 2 rfl) ?_
       exact fr [2] Tryz.results277 h
      ·refine run_skip (zg (zh (ys ?_)))
       refine cl0 [(0,0)] Tryz.call86 (fun h=>z25 h) h (fun r46 h=>?_)
       refine zd (rc h (fun _ h=>?_) (fun _ h=>?_))
       ·refine zH (zh (ys ?_))
        refine cl0 [(0,0)] Tryz.call152 (fun h=>z2A h) h (fun r49 h=>?_)
        refine ys ?_
        refine zd (rc h (fun _ h=>?_) (fun _ h=>?_))
        ·refine zH (rj [1,4] [1] ?_)
         refine z8 (ys ?_)
         refine zd (zA ?_)
         refine z1k (zas zj) ?_
         exact fr [1] Tryz.results277 h
        ·refine run_skip (zg (rj [0,1,4] [0,1] ?_))
         refine z8 (ys ?_)
         refine cl0 [(0,0)] Tryz.call154 (fun h=>z38 h) h (fun r52 h=>?_)
         refine ys ?_
         refine cl0 [(0,0)] Tryz.call153 (fun h=>z2b h) h (fun r54 h=>?_)
         refine ys ?_
         refine zd (zA ?_)
         refine z1k (zas zj) ?_
         exact fr [2] Tryz.results277 h
       ·refine run_skip (zg (zh (ys ?_)))
        refine cl0 [(0,0)] Tryz.call85 (fun h=>z1M h) h (fun r56 h=>?_)
        refine ys ?_
        refine zd (rc h (fun _ h=>?_) (fun _ h=>?_))
        ·refine zH (rj [1,4] [1] ?_)
         refine z8 (ys ?_)
         refine zd (zA ?_)
         refine z1k (zas zj) ?_
         exact fr [1] Tryz.results277 h
        ·refine run_skip (zg (rj [0,1,4] [0,1] ?_))
         refine z8 (ys ?_)
         refine cl1 [(0,0)] Tryz.call49 (fun h=>q3h h) h (fun r59 v61 h=>?_)
         refine al fun b62=>?_
         refine ys ?_
         refine zc (zh (ys ?_))
         refine zd (rc h (fun _ h=>?_) (fun _ h=>?_))
         ·refine zH (rj [4,5] [1,2,3] ?_)
          refine z8 (ys ?_)
          refine zd (zA ?_)
          exact fr [1] Tryz.results277 h
         ·refine run_skip (zg (zH (rj [0,4,5] [0,1,2,3] ?_)))
          refine z8 (ys ?_)
          refine cl0 [(0,0)] Tryz.call85 (fun h=>z1M h) h (fun r66 h=>?_)
          refine ys ?_
          refine zd (rc h (fun _ h=>?_) (fun _ h=>?_))
          ·refine zh (ys ?_)
           refine zd (zA ?_)
           refine z1k (zas zj) ?_
           exact fr [4] Tryz.results277 h
          ·refine run_skip (ze ?_)
           refine ys ?_
           refine zd (zA ?_)
           exact fr [2] Tryz.results277 h
def z8B (n:Nat) (q2r:(List z6)→Int→Option (zR)) (q4r:(List z6)→Int→Option (zR)) (l_0:(List z6)) (i_1:Int):Option (zR):=
 obind (z2B l_0 i_1 [45]) fun r2=>
 cond r2
  (obind (q4r l_0 (IntKind.i64.wrap (i_1+1))) fun r5=>
  obind (zbs l_0 i_1 8 r5) fun r8=>
  some r8)
  (obind (zeD q2r l_0 i_1) fun r12=>
  some r12)
theorem zeN {n:Nat} {q2r:(List z6)→Int→Option (zR)} (q3h:K17 q2r 49) {q4r:(List z6)→Int→Option (zR)} (q5h:K17 q4r 266):K17 (z8B n q2r q4r) 266:=by
 intro l_0 i_1 j3 r h
 refine zN Tryz.func266 rfl Tryz.ntmps266 rfl (fun w0 o0=>?_)
 refine zh (al fun b1=>?_)
 refine zc (zh (ys ?_))
 refine cl0 [(0,0)] Tryz.call85 (fun h=>z1M h) h (fun r2 h=>?_)
 refine zd (rc h (fun _ h=>?_) (fun _ h=>?_))
 ·refine zh (ys ?_)
  refine cl1 [(0,0)] Tryz.call266 (fun h=>q5h h) h (fun r5 v7 h=>?_)
  refine cl1 [(0,0),(2,0)] Tryz.call211 (fun h=>zeS h) h (fun r8 v10 h=>?_)
  refine ys ?_
  refine zd (zA ?_)
  exact fr [3] Tryz.results266 h
 ·refine run_skip (ze ?_)
  refine ys ?_
  refine cl1 [(0,0)] Tryz.call277 (fun h=>zjm q3h h) h (fun r12 v14 h=>?_)
  refine ys ?_
  refine zd (zA ?_)
  exact fr [2] Tryz.results266 h
def z94:Nat→((List z6)→Int→Option (zR))→(List z6)→Int→Option (zR)
 | 0,_=>fun _ _=>none
 | n+1,q2r=>z8B n q2r (z94 n q2r)
theorem z8C {n:Nat} {q2r:(List z6)→Int→Option (zR)} (q3h:K17 q2r 49):K17 (z94 n q2r) 266:=by
 induction n with
 | zero=>intro _ _ _ _  h; cases h
 | succ n ih=>exact zeN q3h ih
def zbr (l_0:(List z6)) (i_1:Int):Option (Int):=
 obind (z2B l_0 i_1 [42]) fun r1=>
 cond r1
  (some 12)
  (obind (z2B l_0 i_1 [47]) fun r4=>
  cond r4
   (some 13)
   (obind (z2B l_0 i_1 [37]) fun r7=>
   cond r7
    (some 14)
    (some 0)))
theorem z4T:K42 zbr 267:=by
 intro l_0 i_1 j3 r h
 refine zN Tryz.func267 rfl Tryz.ntmps267 rfl (fun w0 o0=>?_)
 refine zh (ys ?_)
 refine zc (zh (ys ?_))
 refine cl0 [(0,0)] Tryz.call85 (fun h=>z1M h) h (fun r1 h=>?_)
 refine zd (rc h (fun _ h=>?_) (fun _ h=>?_))
 ·refine zh (ys ?_)
  refine zd (zA ?_)
  exact fs [4] [] Tryz.results267 h
 ·refine run_skip (zg (zh (ys ?_)))
  refine cl0 [(0,0)] Tryz.call85 (fun h=>z1M h) h (fun r4 h=>?_)
  refine zd (rc h (fun _ h=>?_) (fun _ h=>?_))
  ·refine zh (ys ?_)
   refine zd (zA ?_)
   exact fs [4] [] Tryz.results267 h
  ·refine run_skip (zg (zh (ys ?_)))
   refine cl0 [(0,0)] Tryz.call85 (fun h=>z1M h) h (fun r7 h=>?_)
   refine zd (rc h (fun _ h=>?_) (fun _ h=>?_))
   ·refine zH (rj [] [] ?_)
    refine z8 (ys ?_)
    refine zd (zA ?_)
    exact fs [4] [] Tryz.results267 h
   ·refine run_skip (zg (rj [] [] ?_))
    refine z8 (ys ?_)
    refine zd (zA ?_)
    exact fs [4] [] Tryz.results267 h
def z7p (l_0:(List z6)) (a_1:zR) (i_2:Int) (j2:Int) (b_4:zR):Option (zR):=
 cond b_4.Bad
  (some b_4)
  (obind (z5F l_0 i_2) fun r6=>
  some (zR.mk (zi.mk j2 r6 [] ([a_1.X,b_4.X]:List zi)) b_4.I false))
theorem z9q {l_0:(List z6)} {a_1:zR} {i_2:Int} {j2:Int} {b_4:zR} {j3:Value} {j0:Value} {j1:Value} {r:zR} (h:z7p l_0 a_1 i_2 j2 b_4=some r) :
  Meets Tryz.prog 110 [j3,.agg #[.int .i64 a_1.X.Op,.int .i64 a_1.X.At,.string (bs a_1.X.S),j0,.int .i64 a_1.I,.bool a_1.Bad],.int .i64 i_2,.int .i64 j2,.agg #[.int .i64 b_4.X.Op,.int .i64 b_4.X.At,.string (bs b_4.X.S),j1,.int .i64 b_4.I,.bool b_4.Bad]] [ro j3 3 (l_0.map z6.enc),nro j0 zj a_1.X.Args,nro j1 zj b_4.X.Args] (fun v G=>∃ v0,v = .agg #[.int .i64 r.X.Op,.int .i64 r.X.At,.string (bs r.X.S),v0,.int .i64 r.I,.bool r.Bad]∧G=[nro v0 zj r.X.Args]):=by
 refine zN Tryz.func110 rfl Tryz.ntmps110 rfl (fun w0 o0=>?_)
 refine zh (zt (t_box rfl) ?_)
 rintro _ _ ⟨b1,rfl,rfl⟩
 refine zt (t_box rfl) ?_
 rintro _ _ ⟨b2,rfl,rfl⟩
 refine al fun b3=>?_
 refine zc (zh (ys ?_))
 refine zd (rc h (fun _ h=>?_) (fun _ h=>?_))
 ·refine zh (ys ?_)
  refine zd (zA ?_)
  exact fr [2] Tryz.results110 h
 ·refine run_skip (zg ?_)
  obtain ⟨r6,hr7,h⟩:=zJ h
  refine rf [1,1,1,1,1] fun hS=>?_
  refine aq [0,1,2,4,5,6,7,10,11] ?_
  refine a2 [14] 0 [10] [1,2,3,4,5,0,0] (fun (s:Value)=>[]) (fun s=>[box b3 [.int .i64 j2,.int .i64 r6,.string (bs []),s,.int .i64 b_4.I,.bool false],nrow s zj ([a_1.X,b_4.X]:List zi)]) ?_ (fun hK23=>?_)
  ·rintro v17
   refine az ?_
   refine z1K (by kernel_rfl) ?_
   refine zD (zA ?_)
   refine z1k (z24 6 rfl) ?_
   exact fr [6] Tryz.results110 h
  refine a2 [13,1] 1 [10] [1,2,3,4,5,6,0] (fun (s:Value)=>[(26,.agg #[.int .i64 j2,.int .i64 r6,.string (bs []),s,.int .i64 b_4.I,.bool false])]) (fun s=>[nrow s zj ([a_1.X,b_4.X]:List zi)]) ?_ (fun hK24=>?_)
  ·rintro v17
   refine az ?_
   refine zK [13] (by kernel_rfl) rfl ?_
   refine zk ?_ ?_
   ·refine z1J 6 rfl z4N (fun j8 hs25o=>?_)
    refine at' rfl (z55 5 Tryz.sizeOf122 rfl rfl rfl rfl (by simp [Value.cells,boxP]) (z1s rfl (z1s rfl (z1s rfl (z1s hs25o (z1s rfl (z1s rfl (z6b)))))))) ?_
    rintro _ _ ⟨rfl,rfl⟩
    refine sb ?_
    refine z1B (retell 5 (g:=box b3 [.int .i64 j2,.int .i64 r6,.string (bs []),v17,.int .i64 b_4.I,.bool false]) rfl rfl) ?_
    exact aw (hK23 v17) [0,1,2,3,4,5,6]
   exact zC
  refine a2 [12,2] 2 [10,25] [1,2,3,4,5,6,0] (fun (s:Value)=>[(23,.agg #[.int .i64 j2,.int .i64 r6,.string (bs []),s])]) (fun s=>[nrow s zj ([a_1.X,b_4.X]:List zi)]) ?_ (fun hK26=>?_)
  ·rintro v17
   refine az ?_
   refine zK [12] (by kernel_rfl) rfl ?_
   refine zk ?_ ?_
   ·refine ty ?_
    exact aw (hK24 v17) [0,1,2,3,4,5,6]
   exact zC
  refine a2 [9,1,2,2] 3 [10,14,25] [1,2,3,4,5,6,0] (fun (s:Value)=>[(17,.int .i64 r6),(22,s)]) (fun s=>[nrow s zj ([a_1.X,b_4.X]:List zi)]) ?_ (fun hK28=>?_)
  ·rintro v17
   refine az ?_
   refine zK [9] (by kernel_rfl) rfl ?_
   refine zk ?_ ?_
   ·refine ty ?_
    exact aw (hK26 v17) [0,1,2,3,4,5,6]
   exact zC
  refine a2 [8,2,2,2] 4 [10,14,19,21,25] [1,2,3,4,5,6] (fun (s:Unit)=>[(17,.int .i64 r6)]) (fun s=>[]) ?_ (fun hK30=>?_)
  ·rintro _
   refine az ?_
   refine zK [8] (by kernel_rfl) rfl ?_
   refine zk ?_ ?_
   ·refine z1J 1 rfl z1j (fun j4 hs32o=>?_)
    refine z1J 2 rfl z1j (fun j5 hs33o=>?_)
    refine at' rfl (t_lit [.agg #[.int .i64 a_1.X.Op,.int .i64 a_1.X.At,.string (bs a_1.X.S),j0],.agg #[.int .i64 b_4.X.Op,.int .i64 b_4.X.At,.string (bs b_4.X.S),j1]] Tryz.runUnderlying45 Tryz.sizeOf47 Tryz.zeroValue47 rfl (by decide) (by decide) rfl (by intro q hq; simp only [y1,y0,or_false] at hq; rcases hq with rfl | rfl <;> first | rfl | (rw [j4]; rfl) | (rw [j5]; rfl))) ?_
    rintro v31 _ ⟨rfl,_⟩
    refine sb ?_
    refine z1B (z1p (C:=zj) (l:=([a_1.X,b_4.X]:List zi)) 6 [(a_1.X,j0),(b_4.X,j1)] rfl (by simp only [yI,List.map_nil,j4,j5]; rfl) rfl (z1o (z2P (T:=z1b) (z1t 1 rfl z2u)) (z1o (z2P (T:=z1b) (z1t 2 rfl z2u)) z1x))) ?_
    exact aw (hK28 v31) [0,1,2,3,4,5,6]
   exact zC
  refine a2 [3,1,5,1,2,2] 4 [10,14,15,16,25] [1,2,3,4,5,6,0] (fun (s:Value)=>[(22,s)]) (fun s=>[nrow s zj ([a_1.X,b_4.X]:List zi)]) ?_ (fun hK34=>?_)
  ·rintro v14
   refine az ?_
   refine zK [3] (by kernel_rfl) rfl ?_
   refine zk ?_ ?_
   ·refine at' rfl (tc [(0,0)] Tryz.call154 (z38 hr7)) ?_
    rintro _ _ ⟨_,⟨rfl,rfl⟩,rfl⟩
    refine sb ?_
    exact aw (hK28 v14) [0,1,2,3,4,5,6]
   exact zC
  refine zK [3,8] (by kernel_rfl) rfl ?_
  refine zk ?_ ?_
  ·refine at' rfl (tc [(0,0)] Tryz.call154 (z38 hr7)) ?_
   rintro _ _ ⟨_,⟨rfl,rfl⟩,rfl⟩
   refine sb ?_
   exact aw (hK30 ()) [0,1,2,3,4,5]
  refine zk ?_ ?_
  ·refine z1J 1 rfl z1j (fun j6 hs36o=>?_)
   refine z1J 2 rfl z1j (fun j7 hs37o=>?_)
   refine at' rfl (t_lit [.agg #[.int .i64 a_1.X.Op,.int .i64 a_1.X.At,.string (bs a_1.X.S),j0],.agg #[.int .i64 b_4.X.Op,.int .i64 b_4.X.At,.string (bs b_4.X.S),j1]] Tryz.runUnderlying45 Tryz.sizeOf47 Tryz.zeroValue47 rfl (by decide) (by decide) rfl (by intro q hq; simp only [y1,y0,or_false] at hq; rcases hq with rfl | rfl <;> first | rfl | (rw [j6]; rfl) | (rw [j7]; rfl))) ?_
   rintro v35 _ ⟨rfl,_⟩
   refine sb ?_
   refine z1B (z1p (C:=zj) (l:=([a_1.X,b_4.X]:List zi)) 6 [(a_1.X,j0),(b_4.X,j1)] rfl (by simp only [yI,List.map_nil,j6,j7]; rfl) rfl (z1o (z2P (T:=z1b) (z1t 1 rfl z2u)) (z1o (z2P (T:=z1b) (z1t 2 rfl z2u)) z1x))) ?_
   exact aw (hK34 v35) [0,1,2,3,4,5,6]
  exact zC
end Go.Proofs.YtcmaoifiiigggaaGreatDoor
