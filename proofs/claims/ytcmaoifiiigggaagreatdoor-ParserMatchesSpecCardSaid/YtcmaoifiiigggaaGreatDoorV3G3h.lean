/-
  Functions that the law ParserMatchesSpec needs, lifted.
-/
import Derived.Test.YtcmaoifiiigggaaGreatDoorV3G3g
set_option linter.unusedSimpArgs false
set_option linter.unusedVariables false
namespace Go.Proofs.YtcmaoifiiigggaaGreatDoor
open Go.Abs
set_option maxRecDepth 20000
set_option maxHeartbeats 4000000
def z8y (l_0:(List z6)) (q2r:(List z6)→Int→Option (zR)):(Int×Int×(List UInt8)×(List zi)×Int×Bool×(List zi)×Int×Bool)→Option (Lp (Int×Int×(List UInt8)×(List zi)×Int×Bool×(List zi)×Int×Bool) (Lp ((List zi)×Int×Bool) (z8W))):=
 fun (jj,jk,jl,jm,jn,jo,j0,j6,j3)=>
  bindJ (S:=Bool)
   (cond (!j3)
    (obind (z2B l_0 j6 [44]) fun r41=>
    some (.go r41))
    (some (.go false)))
  (fun b35 =>
   cond b35
    (obind (q2r l_0 (IntKind.i64.wrap (j6+1))) fun r44=>
    need (j0.length+([r44.X]:List zi).length≤4294967296) (
    some (.go (r44.X.Op,r44.X.At,r44.X.S,r44.X.Args,r44.I,r44.Bad,(j0++([r44.X]:List zi)),r44.I,r44.Bad))))
    (some (.stop (.go (j0,j6,j3)))))
def zbm (n:Nat) (q2r:(List z6)→Int→Option (zR)) (l_0:(List z6)) (i_1:Int):Option (z8W):=
 obind (q2r l_0 i_1) fun r2=>
 bindJ (S:=(List zi)×Int×Bool)
  (iter (z8y l_0 q2r) n (r2.X.Op,r2.X.At,r2.X.S,r2.X.Args,r2.I,r2.Bad,([r2.X]:List zi),r2.I,r2.Bad))
 (fun (j9, ja, jb) =>
  some (z8W.mk j9 ja jb))
theorem ziq {n:Nat} {q2r:(List z6)→Int→Option (zR)} (q3h:K17 q2r 49) {l_0:(List z6)} {i_1:Int} {j4:Value} {r:z8W} (h:zbm n q2r l_0 i_1=some r) :
  Meets Tryz.prog 242 [j4,.int .i64 i_1] [ro j4 3 (l_0.map z6.enc)] (fun v G=>∃ v0,v = .agg #[v0,.int .i64 r.I,.bool r.Bad]∧G=[nrow v0 zj r.X]):=by
 refine zN Tryz.func242 rfl Tryz.ntmps242 rfl (fun w0 o0=>?_)
 refine zh (al fun b1=>?_)
 refine za (ys ?_)
 refine cl1 [(0,0)] Tryz.call49 (fun h=>q3h h) h (fun r2 v4 h=>?_)
 refine al fun b5=>?_
 refine ys ?_
 refine za (ys ?_)
 refine z2V 2 rfl z1j (fun hs8 hs8o=>?_)
 refine zt (t_lit [.agg #[.int .i64 r2.X.Op,.int .i64 r2.X.At,.string (bs r2.X.S),v4]] Tryz.runUnderlying45 Tryz.sizeOf47 Tryz.zeroValue47 rfl (by decide) (by decide) rfl (by intro q hq; simp only [y1,y0,or_false] at hq; rcases hq with rfl <;> first | rfl | (rw [hs8]; rfl))) ?_
 rintro v7 _ ⟨rfl,_⟩
 refine zB (z1p (C:=zj) (l:=([r2.X]:List zi)) 4 [(r2.X,v4)] rfl (by simp only [yI,List.map_nil,hs8]; rfl) rfl (z1o (z2P (T:=z1b) (z1t 2 rfl z2u)) z1x)) ?_
 refine ys ?_
 refine al fun b10=>?_
 refine ys ?_
 refine zd (jr h [4,6] [2,0,0] (fun s (g:Value)=>[]) (fun s g=>[box b10 [g,.int .i64 s.2.1,.bool s.2.2],nrow g zj s.1]) (fun _ h _ _ jg=>?_) ?_)
 ·refine zF (lo h [0,4,5,6] [1,2,0,0,0,0] (fun s (g:V2)=>[]) (fun s g=>[box b5 [.int .i64 s.1,.int .i64 s.2.1,.string (bs s.2.2.1),g.1,.int .i64 s.2.2.2.2.1,.bool s.2.2.2.2.2.1],nro g.1 zj s.2.2.2.1,box b10 [g.2,.int .i64 s.2.2.2.2.2.2.2.1,.bool s.2.2.2.2.2.2.2.2],nrow g.2 zj s.2.2.2.2.2.2.1]) (_,_) [0,1,3,2,5,4] ?_)
  rintro ⟨_,_,_,_,_,_,j0,_,j3⟩ ⟨_,v30⟩ _ h _ jc j5
  refine rs ?_
  refine zH (zh (ys ?_))
  refine ob h 5 [0,4,5,6] [1,2,3,4,5,6] (fun s=>[(26,.bool s)]) (fun s=>[]) (fun _ h _ _ jd=>?_) ?_
  ·refine z1c 21 (!j3) rfl (fun j7=>?_) (fun j7=>?_)
   ·replace h:=z2F h j7
    refine ys ?_
    refine cl0 [(0,0)] Tryz.call85 (fun h=>z1M h) h (fun r41 h=>?_)
    refine ys ?_
    exact zr (gb jd [0,1,2,3,4,5] h)
   ·replace h:=z2E h j7
    refine ys ?_
    exact zr (gb jd [0,1,2,3,4,5] h)
  rintro b35 h
  refine os ?_
  refine zd (rc h (fun _ h=>?_) (fun _ h=>?_))
  ·refine run_skip (zD (zF (zh (ys ?_))))
   refine cl1 [(0,0)] Tryz.call49 (fun h=>q3h h) h (fun r44 v46 h=>?_)
   refine ys ?_
   refine zd ?_
   obtain ⟨jh,h⟩:=zX h
   refine rf [1,1,1,1,0,0,1] fun hS=>?_
   refine aq [0,1,2,3,4,6,7] ?_
   refine a2 [12] 0 [0,4,5,6] [1,2,3,4,0,0,7,0] (fun (s:Value×Value)=>[]) (fun s=>[box b10 [s.1,.int .i64 r44.I,.bool r44.Bad],nrow s.1 zj (j0++([r44.X]:List zi)),nrow s.2 zj ([r44.X]:List zi)]) ?_ (fun hK61=>?_)
   ·rintro ⟨v58,v56⟩
    refine az ?_
    refine z1K (by kernel_rfl) ?_
    exact zS (gj jc (_,_) [0,1,2,6,4,5] h)
   refine a2 [11,1] 1 [0,4,5,6] [1,2,3,4,5,0,7,0] (fun (s:Value×Value)=>[(42,.agg #[s.1,.int .i64 r44.I,.bool r44.Bad])]) (fun s=>[nrow s.1 zj (j0++([r44.X]:List zi)),nrow s.2 zj ([r44.X]:List zi)]) ?_ (fun hK62=>?_)
   ·rintro ⟨v58,v56⟩
    refine az ?_
    refine zK [11] (by kernel_rfl) rfl ?_
    refine zk ?_ ?_
    ·refine z1J 5 rfl z4N (fun jp hs63o=>?_)
     refine at' rfl (z55 4 Tryz.sizeOf281 rfl rfl rfl rfl (by simp [Value.cells,boxP]) (z1s hs63o (z1s rfl (z1s rfl (z6b))))) ?_
     rintro _ _ ⟨rfl,rfl⟩
     refine sb ?_
     refine z1B (retell 4 (g:=box b10 [v58,.int .i64 r44.I,.bool r44.Bad]) rfl rfl) ?_
     exact aw (hK61 (v58,v56)) [0,1,2,3,4,5,6,7]
    exact zC
   refine a2 [10,2] 2 [0,4,5,6,33,35] [1,2,3,4,5,0,7,0] (fun (s:Value×Value)=>[(41,s.1)]) (fun s=>[nrow s.1 zj (j0++([r44.X]:List zi)),nrow s.2 zj ([r44.X]:List zi)]) ?_ (fun hK64=>?_)
   ·rintro ⟨v58,v56⟩
    refine az ?_
    refine zK [10] (by kernel_rfl) rfl ?_
    refine zk ?_ ?_
    ·refine ty ?_
     exact aw (hK62 (v58,v56)) [0,1,2,3,4,5,6,7]
    exact zC
   refine a2 [9,3] 3 [0,4,5,6,33,35] [1,2,3,4,5,6,7,0] (fun (s:Value)=>[(37,v30),(40,s)]) (fun s=>[nrow s zj ([r44.X]:List zi)]) ?_ (fun hK66=>?_)
   ·rintro v56
    refine az ?_
    refine zK [9] (by kernel_rfl) rfl ?_
    refine zk ?_ ?_
    ·refine at' rfl (z3P (C:=zj) 5 7 (by decide) rfl Tryz.runUnderlying45 rfl Tryz.runUnderlying45 Tryz.typeInfo47 rfl (by decide) (by decide) Tryz.zeroValue47 rfl rfl rfl rfl (z5I 7 rfl) jh) ?_
     rintro v67 _ rfl
     refine sb ?_
     exact aw (hK64 (v67,v56)) [0,1,2,3,4,5,6,7]
    exact zC
   refine a2 [8,4] 4 [0,4,5,6,33,35,39] [1,2,3,4,5,6,7] (fun (s:Unit)=>[(37,v30)]) (fun s=>[]) ?_ (fun hK68=>?_)
   ·rintro _
    refine az ?_
    refine zK [8] (by kernel_rfl) rfl ?_
    refine zk ?_ ?_
    ·refine z1J 6 rfl z1j (fun j1 hs70o=>?_)
     refine at' rfl (t_lit [.agg #[.int .i64 r44.X.Op,.int .i64 r44.X.At,.string (bs r44.X.S),v46]] Tryz.runUnderlying45 Tryz.sizeOf47 Tryz.zeroValue47 rfl (by decide) (by decide) rfl (by intro q hq; simp only [y1,y0,or_false] at hq; rcases hq with rfl <;> first | rfl | (rw [j1]; rfl))) ?_
     rintro v69 _ ⟨rfl,_⟩
     refine sb ?_
     refine z1B (z1p (C:=zj) (l:=([r44.X]:List zi)) 7 [(r44.X,v46)] rfl (by simp only [yI,List.map_nil,j1]; rfl) rfl (z1o (z2P (T:=z1b) (z1t 6 rfl z2u)) z1x)) ?_
     exact aw (hK66 v69) [0,1,2,3,4,5,6,7]
    exact zC
   refine a2 [5,1,3,3] 4 [0,4,5,6,33,35,36] [1,2,3,4,5,6,7,0] (fun (s:Value)=>[(40,s)]) (fun s=>[nrow s zj ([r44.X]:List zi)]) ?_ (fun hK71=>?_)
   ·rintro v54
    refine az ?_
    refine zK [5] (by kernel_rfl) rfl ?_
    refine zk ?_ ?_
    ·refine ty ?_
     exact aw (hK66 v54) [0,1,2,3,4,5,6,7]
    exact zC
   refine zK [5,8] (by kernel_rfl) rfl ?_
   refine zk ?_ ?_
   ·refine ty ?_
    exact aw (hK68 ()) [0,1,2,3,4,5,6]
   refine zk ?_ ?_
   ·refine z1J 6 rfl z1j (fun j2 hs73o=>?_)
    refine at' rfl (t_lit [.agg #[.int .i64 r44.X.Op,.int .i64 r44.X.At,.string (bs r44.X.S),v46]] Tryz.runUnderlying45 Tryz.sizeOf47 Tryz.zeroValue47 rfl (by decide) (by decide) rfl (by intro q hq; simp only [y1,y0,or_false] at hq; rcases hq with rfl <;> first | rfl | (rw [j2]; rfl))) ?_
    rintro v72 _ ⟨rfl,_⟩
    refine sb ?_
    refine z1B (z1p (C:=zj) (l:=([r44.X]:List zi)) 7 [(r44.X,v46)] rfl (by simp only [yI,List.map_nil,j2]; rfl) rfl (z1o (z2P (T:=z1b) (z1t 6 rfl z2u)) z1x)) ?_
    exact aw (hK71 v72) [0,1,2,3,4,5,6,7]
   exact zC
  ·refine z1h _ rfl ?_
   exact gk jg j5 _ [1,4,5] h
 rintro ⟨j9,ja,jb⟩ v15 h
 refine rs ?_
 refine zh (ys ?_)
 refine zd (zA ?_)
 exact fr [2] Tryz.results242 h
def zeM (n:Nat) (q2r:(List z6)→Int→Option (zR)) (l_0:(List z6)) (i_1:Int):Option (zR):=
 obind (zeR n q2r l_0 i_1) fun r2=>
 cond r2.Bad
  (some r2)
  (obind (zbn l_0 r2.I) fun r9=>
  cond (decide (0<r9))
   (obind (zbn l_0 r2.I) fun r12=>
   obind (zeR n q2r l_0 (IntKind.i64.wrap (r2.I+1))) fun r14=>
   obind (z7p l_0 r2 r2.I r12 r14) fun r17=>
   some r17)
   (obind (z2R l_0 r2.I [105,110]) fun r21=>
   cond (!r21)
    (some r2)
    (obind (z2B l_0 (IntKind.i64.wrap (r2.I+1)) [40]) fun r25=>
    cond (!r25)
     (some (zR.mk (zi.mk 0 0 [] ([]:List zi)) (IntKind.i64.wrap (r2.I+1)) true))
     (obind (zbm n q2r l_0 (IntKind.i64.wrap (r2.I+2))) fun r28=>
     bindJ (S:=Bool)
      (cond r28.Bad
       (some (.go true))
       (obind (z2B l_0 r28.I [41]) fun r39=>
       some (.go (!r39))))
     (fun b33 =>
      cond b33
       (some (zR.mk (zi.mk 0 0 [] ([]:List zi)) r28.I true))
       (obind (z5F l_0 r2.I) fun r42=>
       need (([r2.X]:List zi).length+r28.X.length≤4294967296) (
       some (zR.mk (zi.mk 23 r42 [] (([r2.X]:List zi)++r28.X)) (IntKind.i64.wrap (r28.I+1)) false))))))))
theorem zjo {n:Nat} {q2r:(List z6)→Int→Option (zR)} (q3h:K17 q2r 49):K17 (zeM n q2r) 212:=by
 intro l_0 i_1 j4 r h
 refine zN Tryz.func212 rfl Tryz.ntmps212 rfl (fun w0 o0=>?_)
 refine zh (al fun b1=>?_)
 refine za (ys ?_)
 refine cl1 [(0,0)] Tryz.call240 (fun h=>zgI q3h h) h (fun r2 v4 h=>?_)
 refine al fun b5=>?_
 refine ys ?_
 refine zc (zh (ys ?_))
 refine zd (rc h (fun _ h=>?_) (fun _ h=>?_))
 ·refine zH (rj [4,5] [1,2,3] ?_)
  refine z8 (ys ?_)
  refine zd (zA ?_)
  exact fr [1] Tryz.results212 h
 ·refine run_skip (zg (zH (rj [0,4,5] [0,1,2,3] ?_)))
  refine z8 (ys ?_)
  refine cl0 [(0,0)] Tryz.call241 (fun h=>zeQ h) h (fun r9 h=>?_)
  refine ys ?_
  refine zd (rc h (fun _ h=>?_) (fun _ h=>?_))
  ·refine zH (rf [1,0,1,1] fun hS=>?_)
   refine aq [0,1,2,3,4,5,6,8,9,10,11] ?_
   refine al0 7 [(0,0)] Tryz.call241 (fun h=>zeQ h) h (fun r12 h=>?_)
   refine al1 12 [(0,0)] Tryz.call240 (fun h=>zgI q3h h) h (fun r14 v16 h=>?_)
   refine al1 13 [(0,0),(2,0),(4,0)] Tryz.call110 (fun h=>z9q h) h (fun r17 v19 h=>?_)
   refine ast 14 ?_
   refine z1K (by kernel_rfl) ?_
   refine zD (zA ?_)
   exact fr [5] Tryz.results212 h
  ·refine run_skip (zg (zh (ys ?_)))
   refine cl0 [(0,0)] Tryz.call86 (fun h=>z25 h) h (fun r21 h=>?_)
   refine ys ?_
   refine zd (rc h (fun _ h=>?_) (fun _ h=>?_))
   ·refine zH (rj [4,5] [1,2,3] ?_)
    refine z8 (ys ?_)
    refine zd (zA ?_)
    exact fr [1] Tryz.results212 h
   ·refine run_skip (zg (zH (rj [0,4,5] [0,1,2,3] ?_)))
    refine z8 (ys ?_)
    refine cl0 [(0,0)] Tryz.call85 (fun h=>z1M h) h (fun r25 h=>?_)
    refine ys ?_
    refine zd (rc h (fun _ h=>?_) (fun _ h=>?_))
    ·refine zh (ys ?_)
     refine zd (zA ?_)
     refine z1k (zas zj) ?_
     exact fr [4] Tryz.results212 h
    ·refine run_skip (ze ?_)
     refine ys ?_
     refine cl1 [(0,0)] Tryz.call242 (fun h=>ziq q3h h) h (fun r28 v30 h=>?_)
     refine al fun b31=>?_
     refine ys ?_
     refine zc (zH (rj [0,4,5,6] [0,1,2,3,4,5] ?_))
     refine z8 (ys ?_)
     refine ob h 6 [0,4,5,6] [1,2,3,4,5,6] (fun s=>[(61,.bool s)]) (fun s=>[]) (fun _ h _ _ je=>?_) ?_
     ·refine z1c 55 r28.Bad rfl (fun j8=>?_) (fun j8=>?_)
      ·replace h:=z2F h j8
       refine ys ?_
       exact zr (gb je [0,1,2,3,4,5] h)
      ·replace h:=z2E h j8
       refine ys ?_
       refine cl0 [(0,0)] Tryz.call85 (fun h=>z1M h) h (fun r39 h=>?_)
       refine ys ?_
       exact zr (gb je [0,1,2,3,4,5] h)
     rintro b33 h
     refine os ?_
     refine zd (rc h (fun _ h=>?_) (fun _ h=>?_))
     ·refine zh (ys ?_)
      refine zd (zA ?_)
      refine z1k (zas zj) ?_
      exact fr [6] Tryz.results212 h
     ·refine run_skip (zg ?_)
      obtain ⟨r42,jf,h⟩:=zJ h
      obtain ⟨ji,h⟩:=zX h
      refine rf [1,0,1,1,1,1] fun hS=>?_
      refine aq [0,1,2,4,5,7,8,11,12,13] ?_
      refine a2 [16] 0 [4] [1,0,3,4,5,6,0] (fun (s:Value)=>[]) (fun s=>[box b1 [.int .i64 23,.int .i64 r42,.string (bs []),s,.int .i64 (IntKind.i64.wrap (r28.I+1)),.bool false],nrow s zj (([r2.X]:List zi)++r28.X)]) ?_ (fun hK59=>?_)
      ·rintro v55
       refine az ?_
       refine z1K (by kernel_rfl) ?_
       refine zD (zA ?_)
       refine z1k (z24 6 rfl) ?_
       exact fr [6] Tryz.results212 h
      refine a2 [15,1] 1 [4] [1,2,3,4,5,6,0] (fun (s:Value)=>[(79,.agg #[.int .i64 23,.int .i64 r42,.string (bs []),s,.int .i64 (IntKind.i64.wrap (r28.I+1)),.bool false])]) (fun s=>[nrow s zj (([r2.X]:List zi)++r28.X)]) ?_ (fun hK60=>?_)
      ·rintro v55
       refine az ?_
       refine zK [15] (by kernel_rfl) rfl ?_
       refine zk ?_ ?_
       ·refine z1J 6 rfl z4N (fun jq hs61o=>?_)
        refine at' rfl (z55 1 Tryz.sizeOf122 rfl rfl rfl rfl (by simp [Value.cells,boxP]) (z1s rfl (z1s rfl (z1s rfl (z1s hs61o (z1s rfl (z1s rfl (z6b)))))))) ?_
        rintro _ _ ⟨rfl,rfl⟩
        refine sb ?_
        refine z1B (retell 1 (g:=box b1 [.int .i64 23,.int .i64 r42,.string (bs []),v55,.int .i64 (IntKind.i64.wrap (r28.I+1)),.bool false]) rfl rfl) ?_
        exact aw (hK59 v55) [0,1,2,3,4,5,6]
       exact zC
      refine a2 [14,2] 2 [4,78] [1,2,3,4,5,6,0] (fun (s:Value)=>[(75,.agg #[.int .i64 23,.int .i64 r42,.string (bs []),s])]) (fun s=>[nrow s zj (([r2.X]:List zi)++r28.X)]) ?_ (fun hK62=>?_)
      ·rintro v55
       refine az ?_
       refine zK [14] (by kernel_rfl) rfl ?_
       refine zk ?_ ?_
       ·refine ty ?_
        exact aw (hK60 v55) [0,1,2,3,4,5,6]
       exact zC
      refine a2 [10,1,3,2] 3 [4,78] [1,2,3,4,5,6,0] (fun (s:Value)=>[(68,.int .i64 r42),(74,s)]) (fun s=>[nrow s zj (([r2.X]:List zi)++r28.X)]) ?_ (fun hK64=>?_)
      ·rintro v55
       refine az ?_
       refine zK [10] (by kernel_rfl) rfl ?_
       refine zk ?_ ?_
       ·refine ty ?_
        exact aw (hK62 v55) [0,1,2,3,4,5,6]
       exact zC
      refine a2 [9,2,3,2] 4 [4,73,78] [1,2,3,4,5,6,0] (fun (s:Value)=>[(68,.int .i64 r42),(71,s)]) (fun s=>[nrow s zj ([r2.X]:List zi)]) ?_ (fun hK66=>?_)
      ·rintro v53
       refine az ?_
       refine zK [9] (by kernel_rfl) rfl ?_
       refine zk ?_ ?_
       ·refine at' rfl (z3P (C:=zj) 6 4 (by decide) rfl Tryz.runUnderlying45 rfl Tryz.runUnderlying45 Tryz.typeInfo47 rfl (by decide) (by decide) Tryz.zeroValue47 rfl rfl rfl rfl (z5I 4 rfl) ji) ?_
        rintro v67 _ rfl
        refine sb ?_
        exact aw (hK64 v67) [0,1,2,3,4,5,6]
       exact zC
      refine a2 [6,1,2,2,3,2] 5 [4,70,73,78] [1,2,3,4,5,6] (fun (s:Unit)=>[(68,.int .i64 r42)]) (fun s=>[]) ?_ (fun hK68=>?_)
      ·rintro _
       refine az ?_
       refine zK [6] (by kernel_rfl) rfl ?_
       refine zk ?_ ?_
       ·refine z1J 2 rfl z1j (fun j1 hs70o=>?_)
        refine at' rfl (t_lit [.agg #[.int .i64 r2.X.Op,.int .i64 r2.X.At,.string (bs r2.X.S),v4]] Tryz.runUnderlying45 Tryz.sizeOf47 Tryz.zeroValue47 rfl (by decide) (by decide) rfl (by intro q hq; simp only [y1,y0,or_false] at hq; rcases hq with rfl <;> first | rfl | (rw [j1]; rfl))) ?_
        rintro v69 _ ⟨rfl,_⟩
        refine sb ?_
        refine z1B (z1p (C:=zj) (l:=([r2.X]:List zi)) 6 [(r2.X,v4)] rfl (by simp only [yI,List.map_nil,j1]; rfl) rfl (z1o (z2P (T:=z1b) (z1t 2 rfl z2u)) z1x)) ?_
        exact aw (hK66 v69) [0,1,2,3,4,5,6]
       exact zC
      refine a2 [3,1,5,2,3,2] 5 [4,65,67,73,78] [1,2,3,4,5,6,0] (fun (s:Value)=>[(71,s)]) (fun s=>[nrow s zj ([r2.X]:List zi)]) ?_ (fun hK71=>?_)
      ·rintro v51
       refine az ?_
       refine zK [3] (by kernel_rfl) rfl ?_
       refine zk ?_ ?_
       ·refine at' rfl (tc [(0,0)] Tryz.call154 (z38 jf)) ?_
        rintro _ _ ⟨_,⟨rfl,rfl⟩,rfl⟩
        refine sb ?_
        exact aw (hK66 v51) [0,1,2,3,4,5,6]
       exact zC
      refine zK [3,6] (by kernel_rfl) rfl ?_
      refine zk ?_ ?_
      ·refine at' rfl (tc [(0,0)] Tryz.call154 (z38 jf)) ?_
       rintro _ _ ⟨_,⟨rfl,rfl⟩,rfl⟩
       refine sb ?_
       exact aw (hK68 ()) [0,1,2,3,4,5]
      refine zk ?_ ?_
      ·refine z1J 2 rfl z1j (fun j2 hs73o=>?_)
       refine at' rfl (t_lit [.agg #[.int .i64 r2.X.Op,.int .i64 r2.X.At,.string (bs r2.X.S),v4]] Tryz.runUnderlying45 Tryz.sizeOf47 Tryz.zeroValue47 rfl (by decide) (by decide) rfl (by intro q hq; simp only [y1,y0,or_false] at hq; rcases hq with rfl <;> first | rfl | (rw [j2]; rfl))) ?_
       rintro v72 _ ⟨rfl,_⟩
       refine sb ?_
       refine z1B (z1p (C:=zj) (l:=([r2.X]:List zi)) 6 [(r2.X,v4)] rfl (by simp only [yI,List.map_nil,j2]; rfl) rfl (z1o (z2P (T:=z1b) (z1t 2 rfl z2u)) z1x)) ?_
       exact aw (hK71 v72) [0,1,2,3,4,5,6]
      exact zC
def z9O (n:Nat) (q2r:(List z6)→Int→Option (zR)) (q6r:(List z6)→Int→Option (zR)) (l_0:(List z6)) (i_1:Int):Option (zR):=
 obind (z2R l_0 i_1 [110,111,116]) fun r2=>
 cond r2
  (obind (q6r l_0 (IntKind.i64.wrap (i_1+1))) fun r5=>
  obind (zbs l_0 i_1 9 r5) fun r8=>
  some r8)
  (obind (zeM n q2r l_0 i_1) fun r12=>
  some r12)
theorem zfT {n:Nat} {q2r:(List z6)→Int→Option (zR)} (q3h:K17 q2r 49) {q6r:(List z6)→Int→Option (zR)} (q7h:K17 q6r 171):K17 (z9O n q2r q6r) 171:=by
 intro l_0 i_1 j4 r h
 refine zN Tryz.func171 rfl Tryz.ntmps171 rfl (fun w0 o0=>?_)
 refine zh (al fun b1=>?_)
 refine zc (zh (ys ?_))
 refine cl0 [(0,0)] Tryz.call86 (fun h=>z25 h) h (fun r2 h=>?_)
 refine zd (rc h (fun _ h=>?_) (fun _ h=>?_))
 ·refine zh (ys ?_)
  refine cl1 [(0,0)] Tryz.call171 (fun h=>q7h h) h (fun r5 v7 h=>?_)
  refine cl1 [(0,0),(2,0)] Tryz.call211 (fun h=>zeS h) h (fun r8 v10 h=>?_)
  refine ys ?_
  refine zd (zA ?_)
  exact fr [3] Tryz.results171 h
 ·refine run_skip (ze ?_)
  refine ys ?_
  refine cl1 [(0,0)] Tryz.call212 (fun h=>zjo q3h h) h (fun r12 v14 h=>?_)
  refine ys ?_
  refine zd (zA ?_)
  exact fr [2] Tryz.results171 h
def zbS:Nat→((List z6)→Int→Option (zR))→(List z6)→Int→Option (zR)
 | 0,_=>fun _ _=>none
 | n+1,q2r=>z9O n q2r (zbS n q2r)
theorem zaj {n:Nat} {q2r:(List z6)→Int→Option (zR)} (q3h:K17 q2r 49):K17 (zbS n q2r) 171:=by
 induction n with
 | zero=>intro _ _ _ _  h; cases h
 | succ n ih=>exact zfT q3h ih
end Go.Proofs.YtcmaoifiiigggaaGreatDoor
