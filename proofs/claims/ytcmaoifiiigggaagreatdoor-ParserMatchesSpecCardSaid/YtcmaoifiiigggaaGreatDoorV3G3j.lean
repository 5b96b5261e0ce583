/-
  Functions that the law ParserMatchesSpec needs, lifted.
-/
import Derived.Test.YtcmaoifiiigggaaGreatDoorV3G3i
set_option linter.unusedSimpArgs false
set_option linter.unusedVariables false
namespace Go.Proofs.YtcmaoifiiigggaaGreatDoor
open Go.Abs
set_option maxRecDepth 20000
set_option maxHeartbeats 4000000
def zg6 (n:Nat) (l_0:(List z6)) (i_1:Int):Option (z1g):=
 obind (z3q l_0 (IntKind.i64.wrap (i_1+1))) fun r2=>
 cond (decide (r2=1))
  (obind (z5F l_0 i_1) fun r5=>
  obind (z35 l_0 (IntKind.i64.wrap (i_1+1))) fun r7=>
  obind (z7M n l_0 (zm.mk 2 r5 r7 (zi.mk 0 0 [] ([]:List zi)) ([]:List zm) ([]:List zm)) (IntKind.i64.wrap (i_1+2))) fun r9=>
  some r9)
  (obind (z2R l_0 (IntKind.i64.wrap (i_1+1)) [115,116,97,116,117,115]) fun r13=>
  cond r13
   (obind (z5F l_0 i_1) fun r16=>
   obind (z7M n l_0 (zm.mk 4 r16 [] (zi.mk 0 0 [] ([]:List zi)) ([]:List zm) ([]:List zm)) (IntKind.i64.wrap (i_1+2))) fun r18=>
   some r18)
   (obind (z2R l_0 (IntKind.i64.wrap (i_1+1)) [104,101,97,100,101,114]) fun r22=>
   cond (!r22)
    (some (z1g.mk ([]:List zm) (IntKind.i64.wrap (i_1+1)) true))
    (obind (z3q l_0 (IntKind.i64.wrap (i_1+2))) fun r25=>
    cond (decide (r25≠4))
     (some (z1g.mk ([]:List zm) (IntKind.i64.wrap (i_1+2)) true))
     (obind (z5F l_0 i_1) fun r28=>
     obind (z35 l_0 (IntKind.i64.wrap (i_1+2))) fun r30=>
     obind (z7M n l_0 (zm.mk 3 r28 r30 (zi.mk 0 0 [] ([]:List zi)) ([]:List zm) ([]:List zm)) (IntKind.i64.wrap (i_1+3))) fun r32=>
     some r32))))
theorem zk6 {n:Nat}:K18 (zg6 n) 225:=by
 intro l_0 i_1 j4 r h
 refine zN Tryz.func225 rfl Tryz.ntmps225 rfl (fun w0 o0=>?_)
 refine zh (al fun b1=>?_)
 refine zc (zh (ys ?_))
 refine cl0 [(0,0)] Tryz.call152 (fun h=>z2A h) h (fun r2 h=>?_)
 refine ys ?_
 refine zd (rc h (fun _ h=>?_) (fun _ h=>?_))
 ·refine zh (ys ?_)
  refine cl0 [(0,0)] Tryz.call154 (fun h=>z38 h) h (fun r5 h=>?_)
  refine ys ?_
  refine cl0 [(0,0)] Tryz.call153 (fun h=>z2b h) h (fun r7 h=>?_)
  refine ys ?_
  refine oh [0,1] [ro j4 3 (l_0.map z6.enc),box b1 [.slice none 0 0,.int .i64 0,.bool false]] ?_
  refine ys ?_
  refine zB (z1q zj) ?_
  refine zB (z1q zE) ?_
  refine zB (z1q zE) ?_
  refine cl1 [(0,0),(2,2),(3,2),(4,2)] Tryz.call224 (fun h=>z9f h) h (fun r9 v11 h=>?_)
  refine ys ?_
  refine zd (zA ?_)
  exact fr [5] Tryz.results225 h
 ·refine run_skip (zg (zh (ys ?_)))
  refine cl0 [(0,0)] Tryz.call86 (fun h=>z25 h) h (fun r13 h=>?_)
  refine zd (rc h (fun _ h=>?_) (fun _ h=>?_))
  ·refine zH (rj [0,1,4] [0,1] ?_)
   refine z8 (ys ?_)
   refine cl0 [(0,0)] Tryz.call154 (fun h=>z38 h) h (fun r16 h=>?_)
   refine ys ?_
   refine zB (z1q zj) ?_
   refine zB (z1q zE) ?_
   refine zB (z1q zE) ?_
   refine cl1 [(0,0),(2,2),(3,2),(4,2)] Tryz.call224 (fun h=>z9f h) h (fun r18 v20 h=>?_)
   refine ys ?_
   refine zd (zA ?_)
   exact fr [5] Tryz.results225 h
  ·refine run_skip (zg (zH (rj [0,1,4] [0,1] ?_)))
   refine z8 (ys ?_)
   refine cl0 [(0,0)] Tryz.call86 (fun h=>z25 h) h (fun r22 h=>?_)
   refine ys ?_
   refine zd (rc h (fun _ h=>?_) (fun _ h=>?_))
   ·refine zh (ys ?_)
    refine zd (zA ?_)
    refine z1k (z1q zE) ?_
    exact fr [2] Tryz.results225 h
   ·refine run_skip (zg (zh (ys ?_)))
    refine cl0 [(0,0)] Tryz.call152 (fun h=>z2A h) h (fun r25 h=>?_)
    refine ys ?_
    refine zd (rc h (fun _ h=>?_) (fun _ h=>?_))
    ·refine zH (rj [1,4] [1] ?_)
     refine z8 (ys ?_)
     refine zd (zA ?_)
     refine z1k (z1q zE) ?_
     exact fr [1] Tryz.results225 h
    ·refine run_skip (zg (rj [0,1,4] [0,1] ?_))
     refine z8 (ys ?_)
     refine cl0 [(0,0)] Tryz.call154 (fun h=>z38 h) h (fun r28 h=>?_)
     refine ys ?_
     refine cl0 [(0,0)] Tryz.call153 (fun h=>z2b h) h (fun r30 h=>?_)
     refine ys ?_
     refine zB (z1q zj) ?_
     refine zB (z1q zE) ?_
     refine zB (z1q zE) ?_
     refine cl1 [(0,0),(2,2),(3,2),(4,2)] Tryz.call224 (fun h=>z9f h) h (fun r32 v34 h=>?_)
     refine ys ?_
     refine zd (zA ?_)
     exact fr [5] Tryz.results225 h
def z7B (n:Nat) (q8r:(List z6)→Int→Option (z1g)) (q9r:(List z6)→Int→Option (z1g)) (l_0:(List z6)) (i_1:Int):Option (z1g):=
 obind (z4O n l_0 (IntKind.i64.wrap (i_1+1))) fun r2=>
 cond r2.Bad
  (some (z1g.mk ([]:List zm) r2.I true))
  (obind (q8r l_0 r2.I) fun r8=>
  cond r8.Bad
   (some r8)
   (obind (z5F l_0 i_1) fun r15=>
   obind (z2R l_0 r8.I [101,108,115,101]) fun r29=>
   cond (!r29)
    (some (z1g.mk ([(zm.mk 5 r15 [] r2.X r8.L [])]:List zm) r8.I false))
    (bindJ (S := (List zm) × Int × Bool)
     (obind (z2R l_0 (IntKind.i64.wrap (r8.I+1)) [105,102]) fun r46=>
     cond r46
      (obind (q9r l_0 (IntKind.i64.wrap (r8.I+1))) fun r49=>
      some (.go (r49.L,r49.I,r49.Bad)))
      (obind (q8r l_0 (IntKind.i64.wrap (r8.I+1))) fun r53=>
      some (.go (r53.L,r53.I,r53.Bad))))
    (fun (j5, j6, j7) =>
     cond j7
      (some (z1g.mk j5 j6 j7))
      (some (z1g.mk ([(zm.mk 5 r15 [] r2.X r8.L j5)]:List zm) j6 false))))))
theorem ze1 {n:Nat} {q8r:(List z6)→Int→Option (z1g)} (q10h:K18 q8r 157) {q9r:(List z6)→Int→Option (z1g)} (q11h:K18 q9r 226):K18 (z7B n q8r q9r) 226:=by
 intro l_0 i_1 j4 r h
 refine zN Tryz.func226 rfl Tryz.ntmps226 rfl (fun w0 o0=>?_)
 refine zh (al fun b1=>?_)
 refine za (ys ?_)
 obtain ⟨r2,hr3,h⟩:=zJ h
 refine zt (tc [(0,0)] Tryz.call49 (zaH hr3)) ?_
 rintro _ _ ⟨_,⟨v4,rfl,rfl⟩,rfl⟩
 refine al fun b5=>?_
 refine ys ?_
 refine zc (zh (ys ?_))
 refine zd (rc h (fun _ h=>?_) (fun _ h=>?_))
 ·refine zH (rj [4,5] [1,2,3] ?_)
  refine z8 (ys ?_)
  refine zd (zA ?_)
  refine z1k (z1q zE) ?_
  exact fr [3] Tryz.results226 h
 ·refine run_skip (zg (rj [0,1,4,5] [0,1,2,3] ?_))
  refine z8 (ys ?_)
  refine cl1 [(0,0)] Tryz.call157 (fun h=>q10h h) h (fun r8 v10 h=>?_)
  refine al fun b11=>?_
  refine ys ?_
  refine zc (zh (ys ?_))
  refine zd (rc h (fun _ h=>?_) (fun _ h=>?_))
  ·refine zH (rj [4,6] [1,4,5] ?_)
   refine z8 (ys ?_)
   refine zd (zA ?_)
   exact fr [1] Tryz.results226 h
  ·refine run_skip (zg (rj [0,1,4,5,6] [0,1,2,3,4,5] ?_))
   obtain ⟨r15,j8,h⟩:=zJ h
   refine rf [1,1,1,1,1,1] fun hS=>?_
   refine aq [0,1,3,4,5,6] ?_
   refine a2 [10] 0 [0,4,6] [1,2,3,4,5,6,0] (fun (s:Nat)=>[(7,boxP s 0)]) (fun s=>[box s [.int .i64 5,.int .i64 r15,.string (bs []),.int .i64 r2.X.Op,.int .i64 r2.X.At,.string (bs r2.X.S),v4,v10,.slice none 0 0]]) ?_ (fun hK28=>?_)
   ·rintro b25
    refine az ?_
    refine z1K (by kernel_rfl) ?_
    refine zg (zh (ys ?_))
    refine cl0 [(0,0)] Tryz.call86 (fun h=>z25 h) h (fun r29 h=>?_)
    refine ys ?_
    refine zd (rc h (fun _ h=>?_) (fun _ h=>?_))
    ·refine zh (ys ?_)
     refine zB (z24 4 rfl) ?_
     refine z2V 2 rfl z1j (fun j9 hs33o=>?_)
     refine z2V 4 rfl z1j (fun ja hs34o=>?_)
     refine zt (t_lit [.agg #[.int .i64 5,.int .i64 r15,.string (bs []),.int .i64 r2.X.Op,.int .i64 r2.X.At,.string (bs r2.X.S),v4,v10,.slice none 0 0]] Tryz.runUnderlying80 Tryz.sizeOf84 Tryz.zeroValue84 rfl (by decide) (by decide) rfl (by intro q hq; simp only [y1,y0,or_false] at hq; rcases hq with rfl <;> first | rfl | (rw [j9]; rfl) | (rw [ja]; rfl))) ?_
     rintro v32 _ ⟨rfl,_⟩
     refine zB (z1p (C:=zE) (l:=([(zm.mk 5 r15 [] r2.X r8.L [])]:List zm)) 7 [((zm.mk 5 r15 [] r2.X r8.L []),(v4,v10,(.slice none 0 0)))] rfl (by simp only [yI,List.map_nil,j9,ja]; rfl) rfl (z1o (z2P (T:=z1S) (z1t 2 rfl (z1t 4 rfl (zjQ zhx z2u)))) z1x)) ?_
     refine ys ?_
     refine zd (zA ?_)
     exact fr [7] Tryz.results226 h
    ·refine run_skip (ze ?_)
     refine al fun b37=>?_
     refine zd (jr h [4,7,8] [2,7,3,5,0,0] (fun s (g:Value)=>[]) (fun s g=>[box b37 [g,.int .i64 s.2.1,.bool s.2.2],nrow g zE s.1]) (fun _ h _ _ jb=>?_) ?_)
     ·refine zh (ys ?_)
      refine cl0 [(0,0)] Tryz.call86 (fun h=>z25 h) h (fun r46 h=>?_)
      refine zd (rc h (fun _ h=>?_) (fun _ h=>?_))
      ·refine rj [0,4,6,7,8] [0,1,2,4,5,6,7] ?_
       refine z8 (ys ?_)
       refine cl1 [(0,0)] Tryz.call226 (fun h=>q11h h) h (fun r49 v51 h=>?_)
       refine ys ?_
       exact zr (gj jb _ [1,5,2,3,6,7] h)
      ·refine rj [0,4,6,7,8] [0,1,2,4,5,6,7] ?_
       refine z8 (ys ?_)
       refine cl1 [(0,0)] Tryz.call157 (fun h=>q10h h) h (fun r53 v55 h=>?_)
       refine ys ?_
       exact zr (gj jb _ [1,5,2,3,6,7] h)
     rintro ⟨j5,j6,j7⟩ v41 h
     refine rs ?_
     refine zH (zh (ys ?_))
     refine zd (rc h (fun _ h=>?_) (fun _ h=>?_))
     ·refine zh (ys ?_)
      refine zd (zA ?_)
      exact fr [5] Tryz.results226 h
     ·refine run_skip (ze ?_)
      refine ys ?_
      refine za (ys ?_)
      refine zB (z24 3 rfl) ?_
      refine zB (z24 5 rfl) ?_
      refine z2V 2 rfl z1j (fun jc hs61o=>?_)
      refine z2V 3 rfl z1j (fun jd hs62o=>?_)
      refine z2V 5 rfl z1j (fun je hs63o=>?_)
      refine zt (t_lit [.agg #[.int .i64 5,.int .i64 r15,.string (bs []),.int .i64 r2.X.Op,.int .i64 r2.X.At,.string (bs r2.X.S),v4,v10,v41]] Tryz.runUnderlying80 Tryz.sizeOf84 Tryz.zeroValue84 rfl (by decide) (by decide) rfl (by intro q hq; simp only [y1,y0,or_false] at hq; rcases hq with rfl <;> first | rfl | (rw [jc]; rfl) | (rw [jd]; rfl) | (rw [je]; rfl))) ?_
      rintro v60 _ ⟨rfl,_⟩
      refine zB (z1p (C:=zE) (l:=([(zm.mk 5 r15 [] r2.X r8.L j5)]:List zm)) 6 [((zm.mk 5 r15 [] r2.X r8.L j5),(v4,v10,v41))] rfl (by simp only [yI,List.map_nil,jc,jd,je]; rfl) rfl (z1o (z2P (T:=z1S) (z1t 2 rfl (z1t 3 rfl (z1t 5 rfl z2u)))) z1x)) ?_
      refine ys ?_
      refine zd (zA ?_)
      exact fr [6] Tryz.results226 h
   refine a2 [9,1] 1 [0,4,6] [1,2,3,4,5,6,0] (fun (s:Nat)=>[(32,.agg #[.int .i64 5,.int .i64 r15,.string (bs []),.int .i64 r2.X.Op,.int .i64 r2.X.At,.string (bs r2.X.S),v4,v10,.slice none 0 0]),(7,boxP s 0)]) (fun s=>[box s [.int .i64 0,.int .i64 0,.string (bs []),.int .i64 0,.int .i64 0,.string (bs []),.slice none 0 0,.slice none 0 0,.slice none 0 0]]) ?_ (fun hK66=>?_)
   ·rintro b25
    refine az ?_
    refine zK [9] (by kernel_rfl) rfl ?_
    refine zk ?_ ?_
    ·refine z1J 2 rfl z1j (fun jm hs67o=>?_)
     refine z1J 4 rfl z4N (fun jn hs68o=>?_)
     refine at' rfl (z55 6 Tryz.sizeOf84 rfl rfl rfl rfl (by simp [Value.cells,boxP]) (z1s rfl (z1s rfl (z1s rfl (z1s rfl (z1s rfl (z1s rfl (z1s hs67o (z1s hs68o (z1s rfl (z6b))))))))))) ?_
     rintro _ _ ⟨rfl,rfl⟩
     refine sb ?_
     refine z1B (retell 6 (g:=box b25 [.int .i64 5,.int .i64 r15,.string (bs []),.int .i64 r2.X.Op,.int .i64 r2.X.At,.string (bs r2.X.S),v4,v10,.slice none 0 0]) rfl (by kernel_rfl)) ?_
     exact aw (hK28 b25) [0,1,2,3,4,5,6]
    exact zC
   refine a2 [8,2] 2 [0,4,6] [1,2,3,4,5,6] (fun (s:Unit)=>[(32,.agg #[.int .i64 5,.int .i64 r15,.string (bs []),.int .i64 r2.X.Op,.int .i64 r2.X.At,.string (bs r2.X.S),v4,v10,.slice none 0 0])]) (fun s=>[]) ?_ (fun hK69=>?_)
   ·rintro _
    refine az ?_
    refine zK [8] (by kernel_rfl) rfl ?_
    refine zk ?_ ?_
    ·refine at' rfl (zaL Tryz.zeroValue84) ?_
     rintro _ _ ⟨b70,rfl,rfl⟩
     refine sb ?_
     exact aw (hK66 b70) [0,1,2,3,4,5,6]
    exact zC
   refine a2 [2,1,4,1,1,1] 3 [0,4,6,25,26,29,31] [1,2,3,4,5,6,0] (fun (s:Nat)=>[(7,boxP s 0)]) (fun s=>[box s [.int .i64 0,.int .i64 0,.string (bs []),.int .i64 0,.int .i64 0,.string (bs []),.slice none 0 0,.slice none 0 0,.slice none 0 0]]) ?_ (fun hK71=>?_)
   ·rintro b24
    refine az ?_
    refine zK [2] (by kernel_rfl) rfl ?_
    refine zk ?_ ?_
    ·refine at' rfl (tc [(0,0)] Tryz.call154 (z38 j8)) ?_
     rintro _ _ ⟨_,⟨rfl,rfl⟩,rfl⟩
     refine sb ?_
     refine aq [7] ?_
     exact aw (hK66 b24) [0,1,2,3,4,5,6]
    exact zC
   refine zK [2,8] (by kernel_rfl) rfl ?_
   refine zk ?_ ?_
   ·refine at' rfl (tc [(0,0)] Tryz.call154 (z38 j8)) ?_
    rintro _ _ ⟨_,⟨rfl,rfl⟩,rfl⟩
    refine sb ?_
    refine aq [7] ?_
    exact aw (hK69 ()) [0,1,2,3,4,5]
   refine zk ?_ ?_
   ·refine at' rfl (zaL Tryz.zeroValue84) ?_
    rintro _ _ ⟨b76,rfl,rfl⟩
    refine sb ?_
    exact aw (hK71 b76) [0,1,2,3,4,5,6]
   exact zC
def zab:Nat→((List z6)→Int→Option (z1g))→(List z6)→Int→Option (z1g)
 | 0,_=>fun _ _=>none
 | n+1,q8r=>z7B n q8r (zab n q8r)
theorem zhf {n:Nat} {q8r:(List z6)→Int→Option (z1g)} (q10h:K18 q8r 157):K18 (zab n q8r) 226:=by
 induction n with
 | zero=>intro _ _ _ _  h; cases h
 | succ n ih=>exact ze1 q10h ih
def zam (l_0:(List z6)) (i_1:Int):Option (Int):=
 obind (z2R l_0 i_1 [108,111,103]) fun r1=>
 cond r1
  (some 7)
  (obind (z2R l_0 i_1 [100,101,110,121]) fun r4=>
  cond r4
   (some 8)
   (obind (z2R l_0 i_1 [114,101,112,108,121]) fun r7=>
   cond r7
    (some 9)
    (some 0)))
theorem zdL:K42 zam 227:=by
 intro l_0 i_1 j4 r h
 refine zN Tryz.func227 rfl Tryz.ntmps227 rfl (fun w0 o0=>?_)
 refine zh (ys ?_)
 refine zc (zh (ys ?_))
 refine cl0 [(0,0)] Tryz.call86 (fun h=>z25 h) h (fun r1 h=>?_)
 refine zd (rc h (fun _ h=>?_) (fun _ h=>?_))
 ·refine zh (ys ?_)
  refine zd (zA ?_)
  exact fs [4] [] Tryz.results227 h
 ·refine run_skip (zg (zh (ys ?_)))
  refine cl0 [(0,0)] Tryz.call86 (fun h=>z25 h) h (fun r4 h=>?_)
  refine zd (rc h (fun _ h=>?_) (fun _ h=>?_))
  ·refine zh (ys ?_)
   refine zd (zA ?_)
   exact fs [4] [] Tryz.results227 h
  ·refine run_skip (zg (zh (ys ?_)))
   refine cl0 [(0,0)] Tryz.call86 (fun h=>z25 h) h (fun r7 h=>?_)
   refine zd (rc h (fun _ h=>?_) (fun _ h=>?_))
   ·refine zH (rj [] [] ?_)
    refine z8 (ys ?_)
    refine zd (zA ?_)
    exact fs [4] [] Tryz.results227 h
   ·refine run_skip (zg (rj [] [] ?_))
    refine z8 (ys ?_)
    refine zd (zA ?_)
    exact fs [4] [] Tryz.results227 h
def zbQ (l_0:(List z6)) (s_1:zm) (x_2:zR):Option (z1g):=
 bindJ (S:=Bool)
  (cond x_2.Bad
   (some (.go true))
   (obind (z2B l_0 x_2.I [59]) fun r10=>
   some (.go (!r10))))
 (fun b4 =>
  cond b4
   (some (z1g.mk ([]:List zm) x_2.I true))
   (some (z1g.mk ([(zm.mk s_1.Kind s_1.At s_1.Name x_2.X s_1.Body s_1.Else)]:List zm) (IntKind.i64.wrap (x_2.I+1)) false)))
theorem zfS {l_0:(List z6)} {s_1:zm} {x_2:zR} {j4:Value} {j3:Value} {j1:Value} {j2:Value} {j0:Value} {r:z1g} (h:zbQ l_0 s_1 x_2=some r) :
  Meets Tryz.prog 228 [j4,.agg #[.int .i64 s_1.Kind,.int .i64 s_1.At,.string (bs s_1.Name),.int .i64 s_1.X.Op,.int .i64 s_1.X.At,.string (bs s_1.X.S),j3,j1,j2],.agg #[.int .i64 x_2.X.Op,.int .i64 x_2.X.At,.string (bs x_2.X.S),j0,.int .i64 x_2.I,.bool x_2.Bad]] [ro j4 3 (l_0.map z6.enc),nrow j3 zj s_1.X.Args,nrow j1 zE s_1.Body,nrow j2 zE s_1.Else,nro j0 zj x_2.X.Args] (fun v G=>∃ v0,v = .agg #[v0,.int .i64 r.I,.bool r.Bad]∧G=[nrow v0 zE r.L]):=by
 refine zN Tryz.func228 rfl Tryz.ntmps228 rfl (fun w0 o0=>?_)
 refine zh (zt (t_box rfl) ?_)
 rintro _ _ ⟨b1,rfl,rfl⟩
 refine zt (t_box rfl) ?_
 rintro _ _ ⟨b2,rfl,rfl⟩
 refine al fun b3=>?_
 refine zc (zh (ys ?_))
 refine ob h 6 [4,5,6] [2,3,4,5,6,7,8] (fun s=>[(15,.bool s)]) (fun s=>[]) (fun _ h _ _ hL8=>?_) ?_
 ·refine z1c 9 x_2.Bad rfl (fun hg9=>?_) (fun hg9=>?_)
  ·replace h:=z2F h hg9
   refine ys ?_
   exact zr (gb hL8 [1,2,3,4,5,6,7] h)
  ·replace h:=z2E h hg9
   refine ys ?_
   refine cl0 [(0,0)] Tryz.call85 (fun h=>z1M h) h (fun r10 h=>?_)
   refine ys ?_
   exact zr (gb hL8 [1,2,3,4,5,6,7] h)
 rintro b4 h
 refine os ?_
 refine zd (rc h (fun _ h=>?_) (fun _ h=>?_))
 ·refine zh (ys ?_)
  refine zd (zA ?_)
  refine z1k (z1q zE) ?_
  exact fr [7] Tryz.results228 h
 ·refine run_skip (ze ?_)
  refine ys ?_
  refine za (ys ?_)
  refine zB (z24 1 rfl) ?_
  refine zB (z24 2 rfl) ?_
  refine z2V 1 rfl z1j (fun jf hs15o=>?_)
  refine z2V 2 rfl z1j (fun jg hs16o=>?_)
  refine z2V 3 rfl z1j (fun jh hs17o=>?_)
  refine zt (t_lit [.agg #[.int .i64 s_1.Kind,.int .i64 s_1.At,.string (bs s_1.Name),.int .i64 x_2.X.Op,.int .i64 x_2.X.At,.string (bs x_2.X.S),j0,j1,j2]] Tryz.runUnderlying80 Tryz.sizeOf84 Tryz.zeroValue84 rfl (by decide) (by decide) rfl (by intro q hq; simp only [y1,y0,or_false] at hq; rcases hq with rfl <;> first | rfl | (rw [jf]; rfl) | (rw [jg]; rfl) | (rw [jh]; rfl))) ?_
  rintro v14 _ ⟨rfl,_⟩
  refine zB (z1p (C:=zE) (l:=([(zm.mk s_1.Kind s_1.At s_1.Name x_2.X s_1.Body s_1.Else)]:List zm)) 7 [((zm.mk s_1.Kind s_1.At s_1.Name x_2.X s_1.Body s_1.Else),(j0,j1,j2))] rfl (by simp only [yI,List.map_nil,jf,jg,jh]; rfl) rfl (z1o (z2P (T:=z1S) (z1t 3 rfl (z1t 1 rfl (z1t 2 rfl z2u)))) z1x)) ?_
  refine ys ?_
  refine zd (zA ?_)
  exact fr [7] Tryz.results228 h
def zcX (n:Nat) (q8r:(List z6)→Int→Option (z1g)) (l_0:(List z6)) (i_1:Int):Option (z1g):=
 obind (z2R l_0 i_1 [108,101,116]) fun r2=>
 cond r2
  (obind (z3q l_0 (IntKind.i64.wrap (i_1+1))) fun r5=>
  cond (decide (r5≠1))
   (some (z1g.mk ([]:List zm) (IntKind.i64.wrap (i_1+1)) true))
   (obind (z5F l_0 i_1) fun r8=>
   obind (z35 l_0 (IntKind.i64.wrap (i_1+1))) fun r10=>
   obind (z7M n l_0 (zm.mk 1 r8 r10 (zi.mk 0 0 [] ([]:List zi)) ([]:List zm) ([]:List zm)) (IntKind.i64.wrap (i_1+2))) fun r12=>
   some r12))
  (obind (z2R l_0 i_1 [115,101,116]) fun r16=>
  cond r16
   (obind (zg6 n l_0 i_1) fun r19=>
   some r19)
   (obind (z2R l_0 i_1 [105,102]) fun r23=>
   cond r23
    (obind (zab n q8r l_0 i_1) fun r26=>
    some r26)
    (obind (zam l_0 i_1) fun r30=>
    cond (decide (0<r30))
     (obind (zam l_0 i_1) fun r33=>
     obind (z5F l_0 i_1) fun r35=>
     obind (z4O n l_0 (IntKind.i64.wrap (i_1+1))) fun r37=>
     obind (zbQ l_0 (zm.mk r33 r35 [] (zi.mk 0 0 [] ([]:List zi)) ([]:List zm) ([]:List zm)) r37) fun r40=>
     some r40)
     (obind (z2R l_0 i_1 [114,101,112,101,97,116]) fun r44=>
     cond (!r44)
      (some (z1g.mk ([]:List zm) i_1 true))
      (obind (z3q l_0 (IntKind.i64.wrap (i_1+1))) fun r47=>
      cond (decide (r47≠3))
       (some (z1g.mk ([]:List zm) (IntKind.i64.wrap (i_1+1)) true))
       (obind (q8r l_0 (IntKind.i64.wrap (i_1+2))) fun r50=>
       cond r50.Bad
        (some r50)
        (obind (z35 l_0 (IntKind.i64.wrap (i_1+1))) fun r57=>
        obind (z7s l_0 (IntKind.i64.wrap (i_1+1)) 1 r57) fun r59=>
        obind (z5F l_0 i_1) fun r64=>
        some (z1g.mk ([(zm.mk 6 r64 [] r59.X r50.L [])]:List zm) r50.I false))))))))
theorem zjp {n:Nat} {q8r:(List z6)→Int→Option (z1g)} (q10h:K18 q8r 157):K18 (zcX n q8r) 199:=by
 intro l_0 i_1 j4 r h
 refine zN Tryz.func199 rfl Tryz.ntmps199 rfl (fun w0 o0=>?_)
 refine zh (al fun b1=>?_)
 refine zc (zh (ys ?_))
 refine cl0 [(0,0)] Tryz.call86 (fun h=>z25 h) h (fun r2 h=>?_)
 refine zd (rc h (fun _ h=>?_) (fun _ h=>?_))
 ·refine zH (zh (ys ?_))
  refine cl0 [(0,0)] Tryz.call152 (fun h=>z2A h) h (fun r5 h=>?_)
  refine ys ?_
  refine zd (rc h (fun _ h=>?_) (fun _ h=>?_))
  ·refine zH (rj [1,4] [1] ?_)
   refine z8 (ys ?_)
   refine zd (zA ?_)
   refine z1k (z1q zE) ?_
   exact fr [1] Tryz.results199 h
  ·refine run_skip (zg (rj [0,1,4] [0,1] ?_))
   refine z8 (ys ?_)
   refine cl0 [(0,0)] Tryz.call154 (fun h=>z38 h) h (fun r8 h=>?_)
   refine ys ?_
   refine cl0 [(0,0)] Tryz.call153 (fun h=>z2b h) h (fun r10 h=>?_)
   refine ys ?_
   refine zB (z1q zj) ?_
   refine zB (z1q zE) ?_
   refine zB (z1q zE) ?_
   refine cl1 [(0,0),(2,2),(3,2),(4,2)] Tryz.call224 (fun h=>z9f h) h (fun r12 v14 h=>?_)
   refine ys ?_
   refine zd (zA ?_)
   exact fr [5] Tryz.results199 h
 ·refine run_skip (zg (zh (ys ?_)))
  refine cl0 [(0,0)] Tryz.call86 (fun h=>z25 h) h (fun r16 h=>?_)
  refine zd (rc h (fun _ h=>?_) (fun _ h=>?_))
  ·refine zh (ys ?_)
   refine cl1 [(0,0)] Tryz.call225 (fun h=>zk6 h) h (fun r19 v21 h=>?_)
   refine ys ?_
   refine zd (zA ?_)
   exact fr [2] Tryz.results199 h
  ·refine run_skip (zg (zh (ys ?_)))
   refine cl0 [(0,0)] Tryz.call86 (fun h=>z25 h) h (fun r23 h=>?_)
   refine zd (rc h (fun _ h=>?_) (fun _ h=>?_))
   ·refine zH (rj [0,1,4] [0,1] ?_)
    refine z8 (ys ?_)
    obtain ⟨r26,jk,h⟩:=zJ h
    refine zt (tc [(0,0)] Tryz.call226 (zhf q10h jk)) ?_
    rintro _ _ ⟨_,⟨v28,rfl,rfl⟩,rfl⟩
    refine ys ?_
    refine zd (zA ?_)
    exact fr [2] Tryz.results199 h
   ·refine run_skip (zg (zH (rj [0,1,4] [0,1] ?_)))
    refine z8 (ys ?_)
    refine cl0 [(0,0)] Tryz.call227 (fun h=>zdL h) h (fun r30 h=>?_)
    refine ys ?_
    refine zd (rc h (fun _ h=>?_) (fun _ h=>?_))
    ·refine zh (ys ?_)
     refine cl0 [(0,0)] Tryz.call227 (fun h=>zdL h) h (fun r33 h=>?_)
     refine ys ?_
     refine cl0 [(0,0)] Tryz.call154 (fun h=>z38 h) h (fun r35 h=>?_)
     refine ys ?_
     obtain ⟨r37,jl,h⟩:=zJ h
     refine zt (tc [(0,0)] Tryz.call49 (zaH jl)) ?_
     rintro _ _ ⟨_,⟨v39,rfl,rfl⟩,rfl⟩
     refine oh [0,1,2] [ro j4 3 (l_0.map z6.enc),box b1 [.slice none 0 0,.int .i64 0,.bool false],nro v39 zj r37.X.Args] ?_
     refine zB (z1q zj) ?_
     refine zB (z1q zE) ?_
     refine zB (z1q zE) ?_
     refine cl1 [(0,0),(3,2),(4,2),(5,2),(2,0)] Tryz.call228 (fun h=>zfS h) h (fun r40 v42 h=>?_)
     refine ys ?_
     refine zd (zA ?_)
     exact fr [6] Tryz.results199 h
    ·refine run_skip (zg (zh (ys ?_)))
     refine cl0 [(0,0)] Tryz.call86 (fun h=>z25 h) h (fun r44 h=>?_)
     refine ys ?_
     refine zd (rc h (fun _ h=>?_) (fun _ h=>?_))
     ·refine zH (rj [1,4] [1] ?_)
      refine z8 (ys ?_)
      refine zd (zA ?_)
      refine z1k (z1q zE) ?_
      exact fr [1] Tryz.results199 h
     ·refine run_skip (zg (zH (rj [0,1,4] [0,1] ?_)))
      refine z8 (ys ?_)
      refine cl0 [(0,0)] Tryz.call152 (fun h=>z2A h) h (fun r47 h=>?_)
      refine ys ?_
      refine zd (rc h (fun _ h=>?_) (fun _ h=>?_))
      ·refine zh (ys ?_)
       refine zd (zA ?_)
       refine z1k (z1q zE) ?_
       exact fr [2] Tryz.results199 h
      ·refine run_skip (ze ?_)
       refine ys ?_
       refine cl1 [(0,0)] Tryz.call157 (fun h=>q10h h) h (fun r50 v52 h=>?_)
       refine al fun b53=>?_
       refine ys ?_
       refine zc (zH (rj [0,1,4,5] [0,1,2,3] ?_))
       refine z8 (ys ?_)
       refine zd (rc h (fun _ h=>?_) (fun _ h=>?_))
       ·refine zh (ys ?_)
        refine zd (zA ?_)
        exact fr [2] Tryz.results199 h
       ·refine run_skip (ze ?_)
        refine ys ?_
        refine cl0 [(0,0)] Tryz.call153 (fun h=>z2b h) h (fun r57 h=>?_)
        refine cl1 [(0,0)] Tryz.call229 (fun h=>z6D h) h (fun r59 v61 h=>?_)
        refine al fun b62=>?_
        refine ys ?_
        refine zc (rj [0,1,4,5,6] [0,1,2,3,4,5] ?_)
        refine rf [1,0,0,1,0,1] fun hS=>?_
        refine aq [0,1,3,4,5,6,9,10] ?_
        refine al0 2 [(0,0)] Tryz.call154 (fun h=>z38 h) h (fun r64 h=>?_)
        refine zK [7] (by kernel_rfl) rfl (zk ?_ zC)
        refine ty ?_
        refine zK [8] (by kernel_rfl) rfl (zk ?_ zC)
        refine z3n (z24 4 rfl) ?_
        refine z3n (z24 2 rfl) ?_
        refine z1J 2 rfl z1j (fun ji hs69o=>?_)
        refine z1J 4 rfl z1j (fun jj hs70o=>?_)
        refine at' rfl (t_lit [.agg #[.int .i64 6,.int .i64 r64,.string (bs []),.int .i64 r59.X.Op,.int .i64 r59.X.At,.string (bs r59.X.S),v61,v52,.slice none 0 0]] Tryz.runUnderlying80 Tryz.sizeOf84 Tryz.zeroValue84 rfl (by decide) (by decide) rfl (by intro q hq; simp only [y1,y0,or_false] at hq; rcases hq with rfl <;> first | rfl | (rw [ji]; rfl) | (rw [jj]; rfl))) ?_
        rintro v68 _ ⟨rfl,_⟩
        refine sb ?_
        refine z1B (z1p (C:=zE) (l:=([(zm.mk 6 r64 [] r59.X r50.L [])]:List zm)) 6 [((zm.mk 6 r64 [] r59.X r50.L []),(v61,v52,(.slice none 0 0)))] rfl (by simp only [yI,List.map_nil,ji,jj]; rfl) rfl (z1o (z2P (T:=z1S) (z1t 4 rfl (z1t 2 rfl (zjQ zhx z2u)))) z1x)) ?_
        refine zK [11] (by kernel_rfl) rfl (zk ?_ zC)
        refine ty ?_
        refine ast 12 ?_
        refine z1K (by kernel_rfl) ?_
        refine zD (zA ?_)
        exact fr [6] Tryz.results199 h
end Go.Proofs.YtcmaoifiiigggaaGreatDoor
