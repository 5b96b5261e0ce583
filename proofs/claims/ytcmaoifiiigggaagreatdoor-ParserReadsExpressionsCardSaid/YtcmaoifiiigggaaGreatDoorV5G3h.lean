/-
  Functions that the law ParserMatchesSpec needs, lifted.
-/
import Derived.Test.YtcmaoifiiigggaaGreatDoorV5G3g
set_option linter.unusedSimpArgs false
set_option linter.unusedVariables false
namespace Go.Proofs.YtcmaoifiiigggaaGreatDoor
open Go.Abs
set_option maxRecDepth 20000
set_option maxHeartbeats 4000000
def z8y (l_0:(List z6)) (rec_ref19_expr:(List z6)→Int→Option (zR)):(Int×Int×(List UInt8)×(List zi)×Int×Bool×(List zi)×Int×Bool)→Option (Lp (Int×Int×(List UInt8)×(List zi)×Int×Bool×(List zi)×Int×Bool) (Lp ((List zi)×Int×Bool) (z8W))):=
 fun (x_20,x_21,x_22,x_23,x_24,x_25,x_26,x_27,x_28)=>
  bindJ (S:=Bool)
   (cond (!x_28)
    (obind (z2B l_0 x_27 [44]) fun r41=>
    some (.go r41))
    (some (.go false)))
  (fun b35 =>
   cond b35
    (obind (rec_ref19_expr l_0 (IntKind.i64.wrap (x_27+1))) fun r44=>
    need (x_26.length+([r44.X]:List zi).length≤4294967296) (
    some (.go (r44.X.Op,r44.X.At,r44.X.S,r44.X.Args,r44.I,r44.Bad,(x_26++([r44.X]:List zi)),r44.I,r44.Bad))))
    (some (.stop (.go (x_26,x_27,x_28)))))
def zbm (n:Nat) (rec_ref19_expr:(List z6)→Int→Option (zR)) (l_0:(List z6)) (i_1:Int):Option (z8W):=
 obind (rec_ref19_expr l_0 i_1) fun r2=>
 bindJ (S:=(List zi)×Int×Bool)
  (iter (z8y l_0 rec_ref19_expr) n (r2.X.Op,r2.X.At,r2.X.S,r2.X.Args,r2.I,r2.Bad,([r2.X]:List zi),r2.I,r2.Bad))
 (fun (x_12, x_13, x_14) =>
  some (z8W.mk x_12 x_13 x_14))
theorem ziq {n:Nat} {rec_ref19_expr:(List z6)→Int→Option (zR)} (hrec_ref19_expr:K17 rec_ref19_expr 49) {l_0:(List z6)} {i_1:Int} {l_0v:Value} {r:z8W} (h:zbm n rec_ref19_expr l_0 i_1=some r) :
  Meets Tryz.prog 242 [l_0v,.int .i64 i_1] [ro l_0v 3 (l_0.map z6.enc)] (fun v G=>∃ v0,v = .agg #[v0,.int .i64 r.I,.bool r.Bad]∧G=[nrow v0 zj r.X]):=by
 refine zN Tryz.func242 rfl Tryz.ntmps242 rfl (fun w0 o0=>?_)
 refine zh ?_
 refine al fun b1=>?_
 refine za ?_
 refine ys ?_
 refine cl1 [(0,0)] Tryz.call49 (fun h=>hrec_ref19_expr h) h (fun r2 v4 h=>?_)
 refine al fun b5=>?_
 refine ys ?_
 refine za ?_
 refine ys ?_
 refine z2V 2 rfl z1j (fun hs8 hs8o=>?_)
 refine zt (t_lit [.agg #[.int .i64 r2.X.Op,.int .i64 r2.X.At,.string (bs r2.X.S),v4]] Tryz.runUnderlying45 Tryz.sizeOf47 Tryz.zeroValue47 rfl (by decide) (by decide) rfl (by intro q hq; simp only [List.mem_cons,List.not_mem_nil,or_false] at hq; rcases hq with rfl <;> first | rfl | (rw [hs8]; rfl))) ?_
 rintro v7 _ ⟨rfl,_⟩
 refine zB (z1p (C:=zj) (l:=([r2.X]:List zi)) 4 [(r2.X,v4)] rfl (by simp only [List.map_cons,List.map_nil,hs8]; rfl) rfl (z1o (z2P (T:=z1b) (z1t 2 rfl z2u)) z1x)) ?_
 refine ys ?_
 refine al fun b10=>?_
 refine ys ?_
 refine zd ?_
 refine jr h [4,6] [2,0,0] (fun s (g:Value)=>[]) (fun s g=>[box b10 [g,.int .i64 s.2.1,.bool s.2.2],nrow g zj s.1]) (fun _ h _ _ hL18=>?_) ?_
 ·refine zF ?_
  refine lo h [0,4,5,6] [1,2,0,0,0,0] (fun s (g:V2)=>[]) (fun s g=>[box b5 [.int .i64 s.1,.int .i64 s.2.1,.string (bs s.2.2.1),g.1,.int .i64 s.2.2.2.2.1,.bool s.2.2.2.2.2.1],nro g.1 zj s.2.2.2.1,box b10 [g.2,.int .i64 s.2.2.2.2.2.2.2.1,.bool s.2.2.2.2.2.2.2.2],nrow g.2 zj s.2.2.2.2.2.2.1]) (_,_) [0,1,3,2,5,4] ?_
  rintro ⟨_,_,_,_,_,_,x_26,_,x_28⟩ ⟨_,v30⟩ _ h _ hgo32 hstop33
  refine rs ?_
  refine zH ?_
  refine zh ?_
  refine ys ?_
  refine ob h 5 [0,4,5,6] [1,2,3,4,5,6] (fun s=>[(26,.bool s)]) (fun s=>[]) (fun _ h _ _ hL39=>?_) ?_
  ·refine z1c 21 (!x_28) rfl (fun hg40=>?_) (fun hg40=>?_)
   ·replace h:=z2F h hg40
    refine ys ?_
    refine cl0 [(0,0)] Tryz.call85 (fun h=>z1M h) h (fun r41 h=>?_)
    refine ys ?_
    refine zr ?_
    exact gb hL39 [0,1,2,3,4,5] h
   ·replace h:=z2E h hg40
    refine ys ?_
    refine zr ?_
    exact gb hL39 [0,1,2,3,4,5] h
  rintro b35 h
  refine os ?_
  refine zd ?_
  refine rc h (fun _ h=>?_) (fun _ h=>?_)
  ·refine run_skip ?_
   refine zD ?_
   refine zF ?_
   refine zh ?_
   refine ys ?_
   refine cl1 [(0,0)] Tryz.call49 (fun h=>hrec_ref19_expr h) h (fun r44 v46 h=>?_)
   refine ys ?_
   refine zd ?_
   obtain ⟨hr51,h⟩:=zX h
   refine rf [1,1,1,1,0,0,1] fun hS=>?_
   refine aq [0,1,2,3,4,6,7] ?_
   refine a2 [12] 0 [0,4,5,6] [1,2,3,4,0,0,7,0] (fun (s:Value×Value)=>[]) (fun s=>[box b10 [s.1,.int .i64 r44.I,.bool r44.Bad],nrow s.1 zj (x_26++([r44.X]:List zi)),nrow s.2 zj ([r44.X]:List zi)]) ?_ (fun hK61=>?_)
   ·rintro ⟨v58,v56⟩
    refine az ?_
    refine z1K (by kernel_rfl) ?_
    refine zS ?_
    exact gj hgo32 (_,_) [0,1,2,6,4,5] h
   refine a2 [11,1] 1 [0,4,5,6] [1,2,3,4,5,0,7,0] (fun (s:Value×Value)=>[(42,.agg #[s.1,.int .i64 r44.I,.bool r44.Bad])]) (fun s=>[nrow s.1 zj (x_26++([r44.X]:List zi)),nrow s.2 zj ([r44.X]:List zi)]) ?_ (fun hK62=>?_)
   ·rintro ⟨v58,v56⟩
    refine az ?_
    refine zK [11] (by kernel_rfl) rfl ?_
    refine zk ?_ ?_
    ·refine z1J 5 rfl z4N (fun hs63 hs63o=>?_)
     refine at' rfl (z55 4 Tryz.sizeOf281 rfl rfl rfl rfl (by simp [Value.cells,boxP]) (z1s hs63o (z1s rfl (z1s rfl (z6b))))) ?_
     rintro _ _ ⟨rfl,rfl⟩
     refine sb ?_
     refine z1B (retell 4 (g:=box b10 [v58,.int .i64 r44.I,.bool r44.Bad]) rfl rfl) ?_
     exact aw (hK61 (v58,v56)) [0,1,2,3,4,5,6,7]
    exact zC
   refine a2 [10,2] 2 [0,4,5,6,33,35] [1,2,3,4,5,0,7,0] (fun (s:Value×Value)=>[(41,s.1)]) (fun s=>[nrow s.1 zj (x_26++([r44.X]:List zi)),nrow s.2 zj ([r44.X]:List zi)]) ?_ (fun hK64=>?_)
   ·rintro ⟨v58,v56⟩
    refine az ?_
    refine zK [10] (by kernel_rfl) rfl ?_
    refine zk ?_ ?_
    ·refine ty ?_
     exact aw (hK62 (v58,v56)) [0,1,2,3,4,5,6,7]
    exact zC
   refine a2 [9,3] 3 [0,4,5,6,33,35] [1,2,3,4,5,6,7,0] (fun (s:Value)=>[(37,v30),(40,s)]) (fun s=>[nrow s zj ([r44.X]:List zi)]) ?_ (fun hK66=>?_)
   ·rintro v56
    refine az ?_
    refine zK [9] (by kernel_rfl) rfl ?_
    refine zk ?_ ?_
    ·refine at' rfl (z3P (C:=zj) 5 7 (by decide) rfl Tryz.runUnderlying45 rfl Tryz.runUnderlying45 Tryz.typeInfo47 rfl (by decide) (by decide) Tryz.zeroValue47 rfl rfl rfl rfl (z5I 7 rfl) hr51) ?_
     rintro v67 _ rfl
     refine sb ?_
     exact aw (hK64 (v67,v56)) [0,1,2,3,4,5,6,7]
    exact zC
   refine a2 [8,4] 4 [0,4,5,6,33,35,39] [1,2,3,4,5,6,7] (fun (s:Unit)=>[(37,v30)]) (fun s=>[]) ?_ (fun hK68=>?_)
   ·rintro _
    refine az ?_
    refine zK [8] (by kernel_rfl) rfl ?_
    refine zk ?_ ?_
    ·refine z1J 6 rfl z1j (fun hs70 hs70o=>?_)
     refine at' rfl (t_lit [.agg #[.int .i64 r44.X.Op,.int .i64 r44.X.At,.string (bs r44.X.S),v46]] Tryz.runUnderlying45 Tryz.sizeOf47 Tryz.zeroValue47 rfl (by decide) (by decide) rfl (by intro q hq; simp only [List.mem_cons,List.not_mem_nil,or_false] at hq; rcases hq with rfl <;> first | rfl | (rw [hs70]; rfl))) ?_
     rintro v69 _ ⟨rfl,_⟩
     refine sb ?_
     refine z1B (z1p (C:=zj) (l:=([r44.X]:List zi)) 7 [(r44.X,v46)] rfl (by simp only [List.map_cons,List.map_nil,hs70]; rfl) rfl (z1o (z2P (T:=z1b) (z1t 6 rfl z2u)) z1x)) ?_
     exact aw (hK66 v69) [0,1,2,3,4,5,6,7]
    exact zC
   refine a2 [5,1,3,3] 4 [0,4,5,6,33,35,36] [1,2,3,4,5,6,7,0] (fun (s:Value)=>[(40,s)]) (fun s=>[nrow s zj ([r44.X]:List zi)]) ?_ (fun hK71=>?_)
   ·rintro v54
    refine az ?_
    refine zK [5] (by kernel_rfl) rfl ?_
    refine zk ?_ ?_
    ·refine ty ?_
     exact aw (hK66 v54) [0,1,2,3,4,5,6,7]
    exact zC
   refine zK [5,8] (by kernel_rfl) rfl ?_
   refine zk ?_ ?_
   ·refine ty ?_
    exact aw (hK68 ()) [0,1,2,3,4,5,6]
   refine zk ?_ ?_
   ·refine z1J 6 rfl z1j (fun hs73 hs73o=>?_)
    refine at' rfl (t_lit [.agg #[.int .i64 r44.X.Op,.int .i64 r44.X.At,.string (bs r44.X.S),v46]] Tryz.runUnderlying45 Tryz.sizeOf47 Tryz.zeroValue47 rfl (by decide) (by decide) rfl (by intro q hq; simp only [List.mem_cons,List.not_mem_nil,or_false] at hq; rcases hq with rfl <;> first | rfl | (rw [hs73]; rfl))) ?_
    rintro v72 _ ⟨rfl,_⟩
    refine sb ?_
    refine z1B (z1p (C:=zj) (l:=([r44.X]:List zi)) 7 [(r44.X,v46)] rfl (by simp only [List.map_cons,List.map_nil,hs73]; rfl) rfl (z1o (z2P (T:=z1b) (z1t 6 rfl z2u)) z1x)) ?_
    exact aw (hK71 v72) [0,1,2,3,4,5,6,7]
   exact zC
  ·refine z1h _ rfl ?_
   exact gk hL18 hstop33 _ [1,4,5] h
 rintro ⟨x_12,x_13,x_14⟩ v15 h
 refine rs ?_
 refine zh ?_
 refine ys ?_
 refine zd ?_
 refine zA ?_
 exact fr [2] Tryz.results242 h
def zeM (n:Nat) (rec_ref19_expr:(List z6)→Int→Option (zR)) (l_0:(List z6)) (i_1:Int):Option (zR):=
 obind (zeR n rec_ref19_expr l_0 i_1) fun r2=>
 cond r2.Bad
  (some r2)
  (obind (zbn l_0 r2.I) fun r9=>
  cond (decide (0<r9))
   (obind (zbn l_0 r2.I) fun r12=>
   obind (zeR n rec_ref19_expr l_0 (IntKind.i64.wrap (r2.I+1))) fun r14=>
   obind (z7p l_0 r2 r2.I r12 r14) fun r17=>
   some r17)
   (obind (z2R l_0 r2.I [105,110]) fun r21=>
   cond (!r21)
    (some r2)
    (obind (z2B l_0 (IntKind.i64.wrap (r2.I+1)) [40]) fun r25=>
    cond (!r25)
     (some (zR.mk (zi.mk 0 0 [] ([]:List zi)) (IntKind.i64.wrap (r2.I+1)) true))
     (obind (zbm n rec_ref19_expr l_0 (IntKind.i64.wrap (r2.I+2))) fun r28=>
     bindJ (S:=Bool)
      (cond r28.Bad
       (some (.go true))
       (obind (z2B l_0 r28.I [41]) fun r39=>
       some (.go (!r39))))
     (fun b33 =>
      cond b33
       (some (zR.mk (zi.mk 0 0 [] ([]:List zi)) r28.I true))
       (obind (z5F l_0 r2.I) fun r42=>
       need (([r2.X]:List zi).length+r28.X.length≤4294967296) (
       some (zR.mk (zi.mk 23 r42 [] (([r2.X]:List zi)++r28.X)) (IntKind.i64.wrap (r28.I+1)) false))))))))
theorem zjo {n:Nat} {rec_ref19_expr:(List z6)→Int→Option (zR)} (hrec_ref19_expr:K17 rec_ref19_expr 49):K17 (zeM n rec_ref19_expr) 212:=by
 intro l_0 i_1 l_0v r h
 refine zN Tryz.func212 rfl Tryz.ntmps212 rfl (fun w0 o0=>?_)
 refine zh ?_
 refine al fun b1=>?_
 refine za ?_
 refine ys ?_
 refine cl1 [(0,0)] Tryz.call240 (fun h=>zgI hrec_ref19_expr h) h (fun r2 v4 h=>?_)
 refine al fun b5=>?_
 refine ys ?_
 refine zc ?_
 refine zh ?_
 refine ys ?_
 refine zd ?_
 refine rc h (fun _ h=>?_) (fun _ h=>?_)
 ·refine zH ?_
  refine rj [4,5] [1,2,3] ?_
  refine z8 ?_
  refine ys ?_
  refine zd ?_
  refine zA ?_
  exact fr [1] Tryz.results212 h
 ·refine run_skip ?_
  refine zg ?_
  refine zH ?_
  refine rj [0,4,5] [0,1,2,3] ?_
  refine z8 ?_
  refine ys ?_
  refine cl0 [(0,0)] Tryz.call241 (fun h=>zeQ h) h (fun r9 h=>?_)
  refine ys ?_
  refine zd ?_
  refine rc h (fun _ h=>?_) (fun _ h=>?_)
  ·refine zH ?_
   refine rf [1,0,1,1] fun hS=>?_
   refine aq [0,1,2,3,4,5,6,8,9,10,11] ?_
   refine al0 7 [(0,0)] Tryz.call241 (fun h=>zeQ h) h (fun r12 h=>?_)
   refine al1 12 [(0,0)] Tryz.call240 (fun h=>zgI hrec_ref19_expr h) h (fun r14 v16 h=>?_)
   refine al1 13 [(0,0),(2,0),(4,0)] Tryz.call110 (fun h=>z9q h) h (fun r17 v19 h=>?_)
   refine ast 14 ?_
   refine z1K (by kernel_rfl) ?_
   refine zD ?_
   refine zA ?_
   exact fr [5] Tryz.results212 h
  ·refine run_skip ?_
   refine zg ?_
   refine zh ?_
   refine ys ?_
   refine cl0 [(0,0)] Tryz.call86 (fun h=>z25 h) h (fun r21 h=>?_)
   refine ys ?_
   refine zd ?_
   refine rc h (fun _ h=>?_) (fun _ h=>?_)
   ·refine zH ?_
    refine rj [4,5] [1,2,3] ?_
    refine z8 ?_
    refine ys ?_
    refine zd ?_
    refine zA ?_
    exact fr [1] Tryz.results212 h
   ·refine run_skip ?_
    refine zg ?_
    refine zH ?_
    refine rj [0,4,5] [0,1,2,3] ?_
    refine z8 ?_
    refine ys ?_
    refine cl0 [(0,0)] Tryz.call85 (fun h=>z1M h) h (fun r25 h=>?_)
    refine ys ?_
    refine zd ?_
    refine rc h (fun _ h=>?_) (fun _ h=>?_)
    ·refine zh ?_
     refine ys ?_
     refine zd ?_
     refine zA ?_
     refine z1k (zas zj) ?_
     exact fr [4] Tryz.results212 h
    ·refine run_skip ?_
     refine ze ?_
     refine ys ?_
     refine cl1 [(0,0)] Tryz.call242 (fun h=>ziq hrec_ref19_expr h) h (fun r28 v30 h=>?_)
     refine al fun b31=>?_
     refine ys ?_
     refine zc ?_
     refine zH ?_
     refine rj [0,4,5,6] [0,1,2,3,4,5] ?_
     refine z8 ?_
     refine ys ?_
     refine ob h 6 [0,4,5,6] [1,2,3,4,5,6] (fun s=>[(61,.bool s)]) (fun s=>[]) (fun _ h _ _ hL37=>?_) ?_
     ·refine z1c 55 r28.Bad rfl (fun hg38=>?_) (fun hg38=>?_)
      ·replace h:=z2F h hg38
       refine ys ?_
       refine zr ?_
       exact gb hL37 [0,1,2,3,4,5] h
      ·replace h:=z2E h hg38
       refine ys ?_
       refine cl0 [(0,0)] Tryz.call85 (fun h=>z1M h) h (fun r39 h=>?_)
       refine ys ?_
       refine zr ?_
       exact gb hL37 [0,1,2,3,4,5] h
     rintro b33 h
     refine os ?_
     refine zd ?_
     refine rc h (fun _ h=>?_) (fun _ h=>?_)
     ·refine zh ?_
      refine ys ?_
      refine zd ?_
      refine zA ?_
      refine z1k (zas zj) ?_
      exact fr [6] Tryz.results212 h
     ·refine run_skip ?_
      refine zg ?_
      obtain ⟨r42,hr43,h⟩:=zJ h
      obtain ⟨hr47,h⟩:=zX h
      refine rf [1,0,1,1,1,1] fun hS=>?_
      refine aq [0,1,2,4,5,7,8,11,12,13] ?_
      refine a2 [16] 0 [4] [1,0,3,4,5,6,0] (fun (s:Value)=>[]) (fun s=>[box b1 [.int .i64 23,.int .i64 r42,.string (bs []),s,.int .i64 (IntKind.i64.wrap (r28.I+1)),.bool false],nrow s zj (([r2.X]:List zi)++r28.X)]) ?_ (fun hK59=>?_)
      ·rintro v55
       refine az ?_
       refine z1K (by kernel_rfl) ?_
       refine zD ?_
       refine zA ?_
       refine z1k (z24 6 rfl) ?_
       exact fr [6] Tryz.results212 h
      refine a2 [15,1] 1 [4] [1,2,3,4,5,6,0] (fun (s:Value)=>[(79,.agg #[.int .i64 23,.int .i64 r42,.string (bs []),s,.int .i64 (IntKind.i64.wrap (r28.I+1)),.bool false])]) (fun s=>[nrow s zj (([r2.X]:List zi)++r28.X)]) ?_ (fun hK60=>?_)
      ·rintro v55
       refine az ?_
       refine zK [15] (by kernel_rfl) rfl ?_
       refine zk ?_ ?_
       ·refine z1J 6 rfl z4N (fun hs61 hs61o=>?_)
        refine at' rfl (z55 1 Tryz.sizeOf122 rfl rfl rfl rfl (by simp [Value.cells,boxP]) (z1s rfl (z1s rfl (z1s rfl (z1s hs61o (z1s rfl (z1s rfl (z6b)))))))) ?_
        rintro _ _ ⟨rfl,rfl⟩
        refine sb ?_
        refine z1B (retell 1 (g:=box b1 [.int .i64 23,.int .i64 r42,.string (bs []),v55,.int .i64 (IntKind.i64.wrap (r28.I+1)),.bool false]) rfl rfl) ?_
        exact aw (hK59 v55) [0,1,2,3,4,5,6]
       exact zC
      refine a2 [14,2] 2 [4,78] [1,2,3,4,5,6,0] (fun (s:Value)=>[(75,.agg #[.int .i64 23,.int .i64 r42,.string (bs []),s])]) (fun s=>[nrow s zj (([r2.X]:List zi)++r28.X)]) ?_ (fun hK62=>?_)
      ·rintro v55
       refine az ?_
       refine zK [14] (by kernel_rfl) rfl ?_
       refine zk ?_ ?_
       ·refine ty ?_
        exact aw (hK60 v55) [0,1,2,3,4,5,6]
       exact zC
      refine a2 [10,1,3,2] 3 [4,78] [1,2,3,4,5,6,0] (fun (s:Value)=>[(68,.int .i64 r42),(74,s)]) (fun s=>[nrow s zj (([r2.X]:List zi)++r28.X)]) ?_ (fun hK64=>?_)
      ·rintro v55
       refine az ?_
       refine zK [10] (by kernel_rfl) rfl ?_
       refine zk ?_ ?_
       ·refine ty ?_
        exact aw (hK62 v55) [0,1,2,3,4,5,6]
       exact zC
      refine a2 [9,2,3,2] 4 [4,73,78] [1,2,3,4,5,6,0] (fun (s:Value)=>[(68,.int .i64 r42),(71,s)]) (fun s=>[nrow s zj ([r2.X]:List zi)]) ?_ (fun hK66=>?_)
      ·rintro v53
       refine az ?_
       refine zK [9] (by kernel_rfl) rfl ?_
       refine zk ?_ ?_
       ·refine at' rfl (z3P (C:=zj) 6 4 (by decide) rfl Tryz.runUnderlying45 rfl Tryz.runUnderlying45 Tryz.typeInfo47 rfl (by decide) (by decide) Tryz.zeroValue47 rfl rfl rfl rfl (z5I 4 rfl) hr47) ?_
        rintro v67 _ rfl
        refine sb ?_
        exact aw (hK64 v67) [0,1,2,3,4,5,6]
       exact zC
      refine a2 [6,1,2,2,3,2] 5 [4,70,73,78] [1,2,3,4,5,6] (fun (s:Unit)=>[(68,.int .i64 r42)]) (fun s=>[]) ?_ (fun hK68=>?_)
      ·rintro _
       refine az ?_
       refine zK [6] (by kernel_rfl) rfl ?_
       refine zk ?_ ?_
       ·refine z1J 2 rfl z1j (fun hs70 hs70o=>?_)
        refine at' rfl (t_lit [.agg #[.int .i64 r2.X.Op,.int .i64 r2.X.At,.string (bs r2.X.S),v4]] Tryz.runUnderlying45 Tryz.sizeOf47 Tryz.zeroValue47 rfl (by decide) (by decide) rfl (by intro q hq; simp only [List.mem_cons,List.not_mem_nil,or_false] at hq; rcases hq with rfl <;> first | rfl | (rw [hs70]; rfl))) ?_
        rintro v69 _ ⟨rfl,_⟩
        refine sb ?_
        refine z1B (z1p (C:=zj) (l:=([r2.X]:List zi)) 6 [(r2.X,v4)] rfl (by simp only [List.map_cons,List.map_nil,hs70]; rfl) rfl (z1o (z2P (T:=z1b) (z1t 2 rfl z2u)) z1x)) ?_
        exact aw (hK66 v69) [0,1,2,3,4,5,6]
       exact zC
      refine a2 [3,1,5,2,3,2] 5 [4,65,67,73,78] [1,2,3,4,5,6,0] (fun (s:Value)=>[(71,s)]) (fun s=>[nrow s zj ([r2.X]:List zi)]) ?_ (fun hK71=>?_)
      ·rintro v51
       refine az ?_
       refine zK [3] (by kernel_rfl) rfl ?_
       refine zk ?_ ?_
       ·refine at' rfl (tc [(0,0)] Tryz.call154 (z38 hr43)) ?_
        rintro _ _ ⟨_,⟨rfl,rfl⟩,rfl⟩
        refine sb ?_
        exact aw (hK66 v51) [0,1,2,3,4,5,6]
       exact zC
      refine zK [3,6] (by kernel_rfl) rfl ?_
      refine zk ?_ ?_
      ·refine at' rfl (tc [(0,0)] Tryz.call154 (z38 hr43)) ?_
       rintro _ _ ⟨_,⟨rfl,rfl⟩,rfl⟩
       refine sb ?_
       exact aw (hK68 ()) [0,1,2,3,4,5]
      refine zk ?_ ?_
      ·refine z1J 2 rfl z1j (fun hs73 hs73o=>?_)
       refine at' rfl (t_lit [.agg #[.int .i64 r2.X.Op,.int .i64 r2.X.At,.string (bs r2.X.S),v4]] Tryz.runUnderlying45 Tryz.sizeOf47 Tryz.zeroValue47 rfl (by decide) (by decide) rfl (by intro q hq; simp only [List.mem_cons,List.not_mem_nil,or_false] at hq; rcases hq with rfl <;> first | rfl | (rw [hs73]; rfl))) ?_
       rintro v72 _ ⟨rfl,_⟩
       refine sb ?_
       refine z1B (z1p (C:=zj) (l:=([r2.X]:List zi)) 6 [(r2.X,v4)] rfl (by simp only [List.map_cons,List.map_nil,hs73]; rfl) rfl (z1o (z2P (T:=z1b) (z1t 2 rfl z2u)) z1x)) ?_
       exact aw (hK71 v72) [0,1,2,3,4,5,6]
      exact zC
def z9O (n:Nat) (rec_ref19_expr:(List z6)→Int→Option (zR)) (rec_ref19_not:(List z6)→Int→Option (zR)) (l_0:(List z6)) (i_1:Int):Option (zR):=
 obind (z2R l_0 i_1 [110,111,116]) fun r2=>
 cond r2
  (obind (rec_ref19_not l_0 (IntKind.i64.wrap (i_1+1))) fun r5=>
  obind (zbs l_0 i_1 9 r5) fun r8=>
  some r8)
  (obind (zeM n rec_ref19_expr l_0 i_1) fun r12=>
  some r12)
theorem zfT {n:Nat} {rec_ref19_expr:(List z6)→Int→Option (zR)} (hrec_ref19_expr:K17 rec_ref19_expr 49) {rec_ref19_not:(List z6)→Int→Option (zR)} (hrec_ref19_not:K17 rec_ref19_not 171):K17 (z9O n rec_ref19_expr rec_ref19_not) 171:=by
 intro l_0 i_1 l_0v r h
 refine zN Tryz.func171 rfl Tryz.ntmps171 rfl (fun w0 o0=>?_)
 refine zh ?_
 refine al fun b1=>?_
 refine zc ?_
 refine zh ?_
 refine ys ?_
 refine cl0 [(0,0)] Tryz.call86 (fun h=>z25 h) h (fun r2 h=>?_)
 refine zd ?_
 refine rc h (fun _ h=>?_) (fun _ h=>?_)
 ·refine zh ?_
  refine ys ?_
  refine cl1 [(0,0)] Tryz.call171 (fun h=>hrec_ref19_not h) h (fun r5 v7 h=>?_)
  refine cl1 [(0,0),(2,0)] Tryz.call211 (fun h=>zeS h) h (fun r8 v10 h=>?_)
  refine ys ?_
  refine zd ?_
  refine zA ?_
  exact fr [3] Tryz.results171 h
 ·refine run_skip ?_
  refine ze ?_
  refine ys ?_
  refine cl1 [(0,0)] Tryz.call212 (fun h=>zjo hrec_ref19_expr h) h (fun r12 v14 h=>?_)
  refine ys ?_
  refine zd ?_
  refine zA ?_
  exact fr [2] Tryz.results171 h
def zbS:Nat→((List z6)→Int→Option (zR))→(List z6)→Int→Option (zR)
 | 0,_=>fun _ _=>none
 | n+1,rec_ref19_expr=>z9O n rec_ref19_expr (zbS n rec_ref19_expr)
theorem zaj {n:Nat} {rec_ref19_expr:(List z6)→Int→Option (zR)} (hrec_ref19_expr:K17 rec_ref19_expr 49):K17 (zbS n rec_ref19_expr) 171:=by
 induction n with
 | zero=>intro _ _ _ _  h; cases h
 | succ n ih=>exact zfT hrec_ref19_expr ih
end Go.Proofs.YtcmaoifiiigggaaGreatDoor
