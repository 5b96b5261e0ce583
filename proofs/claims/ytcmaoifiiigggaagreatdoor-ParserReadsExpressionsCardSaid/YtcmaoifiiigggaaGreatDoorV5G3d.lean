/-
  Functions that the law ParserMatchesSpec needs, lifted.
-/
import Derived.Test.YtcmaoifiiigggaaGreatDoorV5G3b
set_option linter.unusedSimpArgs false
set_option linter.unusedVariables false
namespace Go.Proofs.YtcmaoifiiigggaaGreatDoor
open Go.Abs
set_option maxRecDepth 20000
set_option maxHeartbeats 4000000
def zbs (l_0:(List z6)) (i_1:Int) (op_2:Int) (x_3:zR):Option (zR):=
 cond x_3.Bad
  (some x_3)
  (obind (z5F l_0 i_1) fun r5=>
  some (zR.mk (zi.mk op_2 r5 [] ([x_3.X]:List zi)) x_3.I false))
theorem zeS {l_0:(List z6)} {i_1:Int} {op_2:Int} {x_3:zR} {l_0v:Value} {x_3_X_Argsv:Value} {r:zR} (h:zbs l_0 i_1 op_2 x_3=some r) :
  Meets Tryz.prog 211 [l_0v,.int .i64 i_1,.int .i64 op_2,.agg #[.int .i64 x_3.X.Op,.int .i64 x_3.X.At,.string (bs x_3.X.S),x_3_X_Argsv,.int .i64 x_3.I,.bool x_3.Bad]] [ro l_0v 3 (l_0.map z6.enc),nro x_3_X_Argsv zj x_3.X.Args] (fun v G=>∃ v0,v = .agg #[.int .i64 r.X.Op,.int .i64 r.X.At,.string (bs r.X.S),v0,.int .i64 r.I,.bool r.Bad]∧G=[nro v0 zj r.X.Args]):=by
 refine zN Tryz.func211 rfl Tryz.ntmps211 rfl (fun w0 o0=>?_)
 refine zh ?_
 refine zt (t_box rfl) ?_
 rintro _ _ ⟨b1,rfl,rfl⟩
 refine al fun b2=>?_
 refine zc ?_
 refine zh ?_
 refine ys ?_
 refine zd ?_
 refine rc h (fun _ h=>?_) (fun _ h=>?_)
 ·refine zh ?_
  refine ys ?_
  refine zd ?_
  refine zA ?_
  exact fr [1] Tryz.results211 h
 ·refine run_skip ?_
  refine zg ?_
  obtain ⟨r5,hr6,h⟩:=zJ h
  refine rf [1,1,1] fun hS=>?_
  refine aq [0,1,2,4,5,8,9] ?_
  refine a2 [12] 0 [8] [1,2,3,0,0] (fun (s:Value)=>[]) (fun s=>[box b2 [.int .i64 op_2,.int .i64 r5,.string (bs []),s,.int .i64 x_3.I,.bool false],nrow s zj ([x_3.X]:List zi)]) ?_ (fun hK19=>?_)
  ·rintro v14
   refine az ?_
   refine z1K (by kernel_rfl) ?_
   refine zD ?_
   refine zA ?_
   refine z1k (z24 4 rfl) ?_
   exact fr [4] Tryz.results211 h
  refine a2 [11,1] 1 [8] [1,2,3,4,0] (fun (s:Value)=>[(22,.agg #[.int .i64 op_2,.int .i64 r5,.string (bs []),s,.int .i64 x_3.I,.bool false])]) (fun s=>[nrow s zj ([x_3.X]:List zi)]) ?_ (fun hK20=>?_)
  ·rintro v14
   refine az ?_
   refine zK [11] (by kernel_rfl) rfl ?_
   refine zk ?_ ?_
   ·refine z1J 4 rfl z4N (fun hs21 hs21o=>?_)
    refine at' rfl (z55 3 Tryz.sizeOf122 rfl rfl rfl rfl (by simp [Value.cells,boxP]) (z1s rfl (z1s rfl (z1s rfl (z1s hs21o (z1s rfl (z1s rfl (z6b)))))))) ?_
    rintro _ _ ⟨rfl,rfl⟩
    refine sb ?_
    refine z1B (retell 3 (g:=box b2 [.int .i64 op_2,.int .i64 r5,.string (bs []),v14,.int .i64 x_3.I,.bool false]) rfl rfl) ?_
    exact aw (hK19 v14) [0,1,2,3,4]
   exact zC
  refine a2 [10,2] 2 [8,21] [1,2,3,4,0] (fun (s:Value)=>[(19,.agg #[.int .i64 op_2,.int .i64 r5,.string (bs []),s])]) (fun s=>[nrow s zj ([x_3.X]:List zi)]) ?_ (fun hK22=>?_)
  ·rintro v14
   refine az ?_
   refine zK [10] (by kernel_rfl) rfl ?_
   refine zk ?_ ?_
   ·refine ty ?_
    exact aw (hK20 v14) [0,1,2,3,4]
   exact zC
  refine a2 [7,1,2,2] 3 [8,12,21] [1,2,3,4,0] (fun (s:Value)=>[(15,.int .i64 r5),(18,s)]) (fun s=>[nrow s zj ([x_3.X]:List zi)]) ?_ (fun hK24=>?_)
  ·rintro v14
   refine az ?_
   refine zK [7] (by kernel_rfl) rfl ?_
   refine zk ?_ ?_
   ·refine ty ?_
    exact aw (hK22 v14) [0,1,2,3,4]
   exact zC
  refine a2 [6,2,2,2] 4 [8,12,17,21] [1,2,3,4] (fun (s:Unit)=>[(15,.int .i64 r5)]) (fun s=>[]) ?_ (fun hK26=>?_)
  ·rintro _
   refine az ?_
   refine zK [6] (by kernel_rfl) rfl ?_
   refine zk ?_ ?_
   ·refine z1J 1 rfl z1j (fun hs28 hs28o=>?_)
    refine at' rfl (t_lit [.agg #[.int .i64 x_3.X.Op,.int .i64 x_3.X.At,.string (bs x_3.X.S),x_3_X_Argsv]] Tryz.runUnderlying45 Tryz.sizeOf47 Tryz.zeroValue47 rfl (by decide) (by decide) rfl (by intro q hq; simp only [List.mem_cons,List.not_mem_nil,or_false] at hq; rcases hq with rfl <;> first | rfl | (rw [hs28]; rfl))) ?_
    rintro v27 _ ⟨rfl,_⟩
    refine sb ?_
    refine z1B (z1p (C:=zj) (l:=([x_3.X]:List zi)) 4 [(x_3.X,x_3_X_Argsv)] rfl (by simp only [List.map_cons,List.map_nil,hs28]; rfl) rfl (z1o (z2P (T:=z1b) (z1t 1 rfl z2u)) z1x)) ?_
    exact aw (hK24 v27) [0,1,2,3,4]
   exact zC
  refine a2 [3,1,3,1,2,2] 4 [8,12,13,14,21] [1,2,3,4,0] (fun (s:Value)=>[(18,s)]) (fun s=>[nrow s zj ([x_3.X]:List zi)]) ?_ (fun hK29=>?_)
  ·rintro v12
   refine az ?_
   refine zK [3] (by kernel_rfl) rfl ?_
   refine zk ?_ ?_
   ·refine at' rfl (tc [(0,0)] Tryz.call154 (z38 hr6)) ?_
    rintro _ _ ⟨_,⟨rfl,rfl⟩,rfl⟩
    refine sb ?_
    exact aw (hK24 v12) [0,1,2,3,4]
   exact zC
  refine zK [3,6] (by kernel_rfl) rfl ?_
  refine zk ?_ ?_
  ·refine at' rfl (tc [(0,0)] Tryz.call154 (z38 hr6)) ?_
   rintro _ _ ⟨_,⟨rfl,rfl⟩,rfl⟩
   refine sb ?_
   exact aw (hK26 ()) [0,1,2,3]
  refine zk ?_ ?_
  ·refine z1J 1 rfl z1j (fun hs31 hs31o=>?_)
   refine at' rfl (t_lit [.agg #[.int .i64 x_3.X.Op,.int .i64 x_3.X.At,.string (bs x_3.X.S),x_3_X_Argsv]] Tryz.runUnderlying45 Tryz.sizeOf47 Tryz.zeroValue47 rfl (by decide) (by decide) rfl (by intro q hq; simp only [List.mem_cons,List.not_mem_nil,or_false] at hq; rcases hq with rfl <;> first | rfl | (rw [hs31]; rfl))) ?_
   rintro v30 _ ⟨rfl,_⟩
   refine sb ?_
   refine z1B (z1p (C:=zj) (l:=([x_3.X]:List zi)) 4 [(x_3.X,x_3_X_Argsv)] rfl (by simp only [List.map_cons,List.map_nil,hs31]; rfl) rfl (z1o (z2P (T:=z1b) (z1t 1 rfl z2u)) z1x)) ?_
   exact aw (hK29 v30) [0,1,2,3,4]
  exact zC
def z7s (l_0:(List z6)) (i_1:Int) (op_2:Int) (s_3:(List UInt8)):Option (zR):=
 obind (z5F l_0 i_1) fun r2=>
 some (zR.mk (zi.mk op_2 r2 s_3 ([]:List zi)) (IntKind.i64.wrap (i_1+1)) false)
theorem z6D {l_0:(List z6)} {i_1:Int} {op_2:Int} {s_3:(List UInt8)} {l_0v:Value} {r:zR} (h:z7s l_0 i_1 op_2 s_3=some r) :
  Meets Tryz.prog 229 [l_0v,.int .i64 i_1,.int .i64 op_2,.string (bs s_3)] [ro l_0v 3 (l_0.map z6.enc)] (fun v G=>∃ v0,v = .agg #[.int .i64 r.X.Op,.int .i64 r.X.At,.string (bs r.X.S),v0,.int .i64 r.I,.bool r.Bad]∧G=[nrow v0 zj r.X.Args]):=by
 refine zN Tryz.func229 rfl Tryz.ntmps229 rfl (fun w0 o0=>?_)
 refine zh ?_
 refine al fun b1=>?_
 refine za ?_
 refine ys ?_
 refine cl0 [(0,0)] Tryz.call154 (fun h=>z38 h) h (fun r2 h=>?_)
 refine ys ?_
 refine zd ?_
 refine zA ?_
 refine z1k (z1q zj) ?_
 exact fr [2] Tryz.results229 h
end Go.Proofs.YtcmaoifiiigggaaGreatDoor
