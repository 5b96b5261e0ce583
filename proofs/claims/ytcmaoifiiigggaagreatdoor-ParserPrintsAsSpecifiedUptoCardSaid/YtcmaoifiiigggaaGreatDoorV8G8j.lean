/-
  Functions that the law ParserPrintsAsSpecified needs, lifted.
-/
import Derived.Test.YtcmaoifiiigggaaGreatDoorV8G8i
set_option linter.unusedSimpArgs false
set_option linter.unusedVariables false
namespace Go.Proofs.YtcmaoifiiigggaaGreatDoor
open Go.Abs Tryz
set_option maxRecDepth 20000
set_option maxHeartbeats 4000000
def zji (n:Nat) (x_0:zG) (j0:Int):(Int×(List zQ))→Option (Lp (Int×(List zQ)) (Lp ((List zQ)) (Lp (Int×(List zL)) (Lp ((List zL)) (zG))))):=
 fun (j3,j1)=>
  idx x_0.Policies j0 fun x34=>
  cond (decide (j3<(x34.Rules.length:Int)))
   (idx x34.Rules j3 fun x38=>
   obind (z9x n x38.Clauses) fun r42=>
   need (j1.length+([(zQ.mk x38.Name 0 r42)]:List zQ).length≤4294967296) (
   some (.go ((IntKind.i64.wrap (j3+1)),(j1++([(zQ.mk x38.Name 0 r42)]:List zQ))))))
   (some (.stop (.go j1)))
def zjh (n:Nat) (x_0:zG):(Int×(List zL))→Option (Lp (Int×(List zL)) (Lp ((List zL)) (zG))):=
 fun (j0,ji)=>
  cond (decide (j0<(x_0.Policies.length:Int)))
   (idx x_0.Policies j0 fun x18=>
   bindJ (S:=(List zQ))
    (iter (zji n x_0 j0) n (0,([]:List zQ)))
   (fun j4 =>
    need (ji.length+([(zL.mk x18.Name 0 j4)]:List zL).length≤4294967296) (
    some (.go ((IntKind.i64.wrap (j0+1)),(ji++([(zL.mk x18.Name 0 j4)]:List zL)))))))
   (some (.stop (.go ji)))
def zjj (n:Nat) (x_0:zG):(Int×(List zI))→Option (Lp (Int×(List zI)) (Lp ((List zI)) (zG))):=
 fun (j5,j2)=>
  cond (decide (j5<(x_0.Programs.length:Int)))
   (idx x_0.Programs j5 fun x99=>
   obind (zbN n x99.Code) fun r105=>
   need (j2.length+([(zI.mk x99.Name 0 x99.Effects r105)]:List zI).length≤4294967296) (
   some (.go ((IntKind.i64.wrap (j5+1)),(j2++([(zI.mk x99.Name 0 x99.Effects r105)]:List zI))))))
   (some (.stop (.go j2)))
def zjg (n:Nat) (x_0:zG):Option (zG):=
 bindJ (S:=(List zL))
  (iter (zjh n x_0) n (0,([]:List zL)))
 (fun x_4 =>
  bindJ (S:=(List zI))
   (iter (zjj n x_0) n (0,([]:List zI)))
  (fun jk =>
   some (zG.mk x_4 jk)))
theorem zjk {n:Nat}:K47 (zjg n) 29:=by
 intro x_0 j7 j8 r h
 refine zN func29 rfl ntmps29 rfl (fun w0 o0=>?_)
 refine zh (lB fun b1=>?_)
 refine al fun b2=>?_
 refine za (al fun b3=>?_)
 refine zd (jr h [1,2,3] [3,1,2,4,0,0] (fun s (g:Value)=>[]) (fun s g=>[box b3 [g,.slice none 0 0],nrow g zz s]) (fun _ h _ _ hL8=>?_) ?_)
 ·refine yn 4 ?_
  refine z3x (z1q zz) ?_
  refine lo h [1,2,3] [3,1,2,4,0,0] (fun s (g:Value)=>[(4,.int .i64 s.1)]) (fun s g=>[box b3 [g,.slice none 0 0],nrow g zz s.2]) _ [2,0,1,3,4,5] ?_
  rintro ⟨j0,_⟩ _ _ h _ jl j9
  refine rs ?_
  refine yc 4 h (fun _ h=>?_) fun _ h=>?_
  ·refine yn 5 ?_
   obtain ⟨x18,jC,jD,jm,h⟩:=zP h
   refine ys ?_
   refine z4a (exAt (C:=zz) (i:=j0.toNat) 1 rfl jm) ?_
   rintro (g19:Value)
   refine ys ?_
   refine al fun b20=>?_
   refine ys ?_
   refine zd (jr h [1,2,3,4,5] [1,2,3,4,5,6,0,0] (fun s (g:Value)=>[]) (fun s g=>[box b20 [.string (bs x18.Name),.int .i64 0,g],nrow g zY s]) (fun _ h _ _ jy=>?_) ?_)
   ·refine zH (rj [4,1,2,3,5] [0,1,2,3,4,5,8] ?_)
    refine yn 4 ?_
    refine z3x (z1q zY) ?_
    refine lo h [1,2,3,4,5] [1,2,3,4,5,6,0,0] (fun s (g:Value)=>[(6,.int .i64 s.1)]) (fun s g=>[box b20 [.string (bs x18.Name),.int .i64 0,g],nrow g zY s.2]) _ [0,1,2,3,4,5,6,7] ?_
    rintro ⟨j3,j1⟩ v29 _ h _ jo ja
    refine rs ?_
    refine yn 3 ?_
    obtain ⟨x34,jE,jF,jc,h⟩:=zP h
    refine ys ?_
    refine z4a (exAt (C:=zz) (i:=j0.toNat) 1 rfl jc) ?_
    rintro (g35:Value)
    refine yc 2 h (fun _ h=>?_) fun _ h=>?_
    ·refine yn 3 ?_
     refine zH (rj [6,1,2,3,4,5] [0,1,2,3,4,5,6,7] ?_)
     refine yn 2 ?_
     refine z4a (exAt (C:=zz) (i:=j0.toNat) 1 rfl jc) ?_
     rintro (g37:Value)
     refine ys ?_
     obtain ⟨x38,jG,jH,jp,h⟩:=zP h
     refine ys ?_
     refine z4a (exAt (C:=zY) (i:=j3.toNat) 9 rfl jp) ?_
     rintro (g39:Value)
     refine ys ?_
     refine al fun b40=>?_
     refine ys ?_
     refine zd (rj [6,1,2,3,4,5,7] [0,1,2,3,4,5,6,7,11,12] ?_)
     obtain ⟨r42,jq,h⟩:=zJ h
     obtain ⟨jz,h⟩:=zX h
     refine rf [1,1,1,1,1,1,0,0,1,1] fun hS=>?_
     refine aq [0,2,3,4,5] ?_
     refine a2 [12] 0 [6,1,2,3,4,5] [1,2,3,4,5,6,0,0,9,10,0,0] (fun (s:Value×Value×Value)=>[]) (fun s=>[box b20 [.string (bs x18.Name),.int .i64 0,s.1],nrow s.1 zY (j1++([(zQ.mk x38.Name 0 r42)]:List zQ)),nro s.2.1 zp r42,nrow s.2.2 zY ([(zQ.mk x38.Name 0 r42)]:List zQ)]) ?_ (fun hK61=>?_)
     ·rintro ⟨v59,v52,v57⟩
      refine az ?_
      refine z1K (by kernel_rfl) ?_
      refine yn 4 ?_
      exact gj jo _ [0,1,2,3,4,5,6,7] h
     refine a2 [11,1] 1 [6,1,2,3,4,5] [1,2,3,4,5,6,7,0,9,10,0,0] (fun (s:Value×Value×Value)=>[(53,s.1),(54,boxP b20 2)]) (fun s=>[nrow s.1 zY (j1++([(zQ.mk x38.Name 0 r42)]:List zQ)),nro s.2.1 zp r42,nrow s.2.2 zY ([(zQ.mk x38.Name 0 r42)]:List zQ)]) ?_ (fun hK62=>?_)
     ·rintro ⟨v59,v52,v57⟩
      refine az ?_
      refine zK [11] (by kernel_rfl) rfl ?_
      refine zk ?_ ?_
      ·refine z1J 7 rfl z4N (fun jj hs63o=>?_)
       refine at' rfl (z55 6 sizeOf74 rfl rfl rfl (by rw [jj]; rfl) (by simp [Value.cells,boxP]) (by rw [jj]; exact z1s hs63o (z6b))) ?_
       rintro _ _ ⟨rfl,rfl⟩
       refine sb ?_
       refine z1B (retell 6 (g:=box b20 [.string (bs x18.Name),.int .i64 0,v59]) rfl (by rw [jj]; rfl)) ?_
       exact aw (hK61 (v59,v52,v57)) [0,1,2,3,4,5,6,7,8,9,10,11]
      exact zC
     refine a2 [9,3] 3 [6,1,2,3,4,5] [1,2,3,4,5,6,7,8,9,10,0,0] (fun (s:Value×Value)=>[(45,v29),(52,s.1)]) (fun s=>[nro s.2 zp r42,nrow s.1 zY ([(zQ.mk x38.Name 0 r42)]:List zQ)]) ?_ (fun hK64=>?_)
     ·rintro ⟨v57,v52⟩
      refine az ?_
      refine zK [9] (by kernel_rfl) rfl ?_
      refine zk ?_ ?_
      ·refine at' rfl (z3P (C:=zY) 7 11 (by decide) rfl runUnderlying74 rfl runUnderlying74 typeInfo79 rfl (by decide) (by decide) zeroValue79 rfl rfl rfl rfl (z5I 11 rfl) jz) ?_
       rintro v65 _ rfl
       refine sb ?_
       refine aq [10] ?_
       exact aw (hK62 (v65,v52,v57)) [0,1,2,3,4,5,6,7,8,9,10,11]
      exact zC
     refine a2 [8,4] 4 [6,1,2,3,4,5] [1,2,3,4,5,6,7,8,9,10,0] (fun (s:Value)=>[(45,v29),(51,.agg #[.string (bs x38.Name),.int .i64 0,s])]) (fun s=>[nrow s zp r42]) ?_ (fun hK66=>?_)
     ·rintro v52
      refine az ?_
      refine zK [8] (by kernel_rfl) rfl ?_
      refine zk ?_ ?_
      ·refine z3n (z24 10 rfl) ?_
       refine z1J 10 rfl z1j (fun js hs68o=>?_)
       refine at' rfl (t_lit [.agg #[.string (bs x38.Name),.int .i64 0,v52]] runUnderlying74 sizeOf79 zeroValue79 rfl (by decide) (by decide) rfl (by intro q hq; simp only [y1,y0,or_false] at hq; rcases hq with rfl <;> first | rfl | (rw [js]; rfl))) ?_
       rintro v67 _ ⟨rfl,_⟩
       refine sb ?_
       refine z1B (z1p (C:=zY) (l:=([(zQ.mk x38.Name 0 r42)]:List zQ)) 11 [((zQ.mk x38.Name 0 r42),v52)] rfl (by simp only [yI,List.map_nil,js]; rfl) rfl (z1o (z1t 10 rfl z2u) z1x)) ?_
       exact aw (hK64 (v67,v52)) [0,1,2,3,4,5,6,7,8,9,10,11]
      exact zC
     refine a2 [1,1,7,3] 4 [6,1,2,3,4,5,44] [1,2,3,4,5,6,7,8,9,10,0,0] (fun (s:Value×Value)=>[(52,s.1)]) (fun s=>[nro s.2 zp r42,nrow s.1 zY ([(zQ.mk x38.Name 0 r42)]:List zQ)]) ?_ (fun hK69=>?_)
     ·rintro ⟨v55,v51⟩
      refine az ?_
      refine zK [1] (by kernel_rfl) rfl ?_
      refine zk ?_ ?_
      ·refine ty ?_
       exact aw (hK64 (v55,v51)) [0,1,2,3,4,5,6,7,8,9,10,11]
      exact zC
     refine a2 [7,5] 5 [6,1,2,3,4,5,47] [1,2,3,4,5,6,7,8,9,10,0] (fun (s:Value)=>[(45,v29),(50,s)]) (fun s=>[nrow s zp r42]) ?_ (fun hK70=>?_)
     ·rintro v52
      refine az ?_
      refine zK [7] (by kernel_rfl) rfl ?_
      refine zk ?_ ?_
      ·refine ty ?_
       exact aw (hK66 v52) [0,1,2,3,4,5,6,7,8,9,10]
      exact zC
     refine a2 [1,1,6,4] 5 [6,1,2,3,4,5,44] [1,2,3,4,5,6,7,8,9,10,0] (fun (s:Value)=>[(51,.agg #[.string (bs x38.Name),.int .i64 0,s])]) (fun s=>[nrow s zp r42]) ?_ (fun hK72=>?_)
     ·rintro v51
      refine az ?_
      refine zK [1,8] (by kernel_rfl) rfl ?_
      refine zk ?_ ?_
      ·refine ty ?_
       exact aw (hK66 v51) [0,1,2,3,4,5,6,7,8,9,10]
      refine zk ?_ ?_
      ·refine z3n (z24 10 rfl) ?_
       refine z1J 10 rfl z1j (fun jt hs74o=>?_)
       refine at' rfl (t_lit [.agg #[.string (bs x38.Name),.int .i64 0,v51]] runUnderlying74 sizeOf79 zeroValue79 rfl (by decide) (by decide) rfl (by intro q hq; simp only [y1,y0,or_false] at hq; rcases hq with rfl <;> first | rfl | (rw [jt]; rfl))) ?_
       rintro v73 _ ⟨rfl,_⟩
       refine sb ?_
       refine z1B (z1p (C:=zY) (l:=([(zQ.mk x38.Name 0 r42)]:List zQ)) 11 [((zQ.mk x38.Name 0 r42),v51)] rfl (by simp only [yI,List.map_nil,jt]; rfl) rfl (z1o (z1t 10 rfl z2u) z1x)) ?_
       exact aw (hK69 (v73,v51)) [0,1,2,3,4,5,6,7,8,9,10,11]
      exact zC
     refine a2 [6,6] 6 [6,1,2,3,4,5,47,49] [1,2,3,4,5,6,7,8,9,10] (fun (s:Unit)=>[(45,v29)]) (fun s=>[]) ?_ (fun hK75=>?_)
     ·rintro _
      refine az ?_
      refine zK [6] (by kernel_rfl) rfl ?_
      refine zk ?_ ?_
      ·refine at' rfl (tc [(8,0)] call70 (za9 jq)) ?_
       rintro v76 _ ⟨_,⟨_,rfl,rfl⟩,rfl⟩
       refine sb ?_
       exact aw (hK70 v76) [0,1,2,3,4,5,6,7,8,9,10]
      exact zC
     refine a2 [1,1,5,5] 6 [6,1,2,3,4,5,44,47] [1,2,3,4,5,6,7,8,9,10,0] (fun (s:Value)=>[(50,s)]) (fun s=>[nrow s zp r42]) ?_ (fun hK77=>?_)
     ·rintro v51
      refine az ?_
      refine zK [1,7] (by kernel_rfl) rfl ?_
      refine zk ?_ ?_
      ·refine ty ?_
       exact aw (hK70 v51) [0,1,2,3,4,5,6,7,8,9,10]
      refine zk ?_ ?_
      ·refine ty ?_
       exact aw (hK72 v51) [0,1,2,3,4,5,6,7,8,9,10]
      exact zC
     refine zK [1,6] (by kernel_rfl) rfl ?_
     refine zk ?_ ?_
     ·refine ty ?_
      exact aw (hK75 ()) [0,1,2,3,4,5,6,7,8,9]
     refine zk ?_ ?_
     ·refine at' rfl (tc [(8,0)] call70 (za9 jq)) ?_
      rintro v79 _ ⟨_,⟨_,rfl,rfl⟩,rfl⟩
      refine sb ?_
      exact aw (hK77 v79) [0,1,2,3,4,5,6,7,8,9,10]
     exact zC
    ·refine z1h _ rfl ?_
     exact gk jy ja _ [0,1,2,3,4,5,6,7] h
   rintro j4 v22 h
   refine rs ?_
   refine yn 2 ?_
   refine zB (z24 7 rfl) ?_
   refine z2V 7 rfl z1j (fun ju hs81o=>?_)
   refine zt (t_lit [.agg #[.string (bs x18.Name),.int .i64 0,v22]] runUnderlying23 sizeOf76 zeroValue76 rfl (by decide) (by decide) rfl (by intro q hq; simp only [y1,y0,or_false] at hq; rcases hq with rfl <;> first | rfl | (rw [ju]; rfl))) ?_
   rintro v80 _ ⟨rfl,_⟩
   refine zB (z1p (C:=zz) (l:=([(zL.mk x18.Name 0 j4)]:List zL)) 8 [((zL.mk x18.Name 0 j4),v22)] rfl (by simp only [yI,List.map_nil,ju]; rfl) rfl (z1o (z1t 7 rfl z2u) z1x)) ?_
   obtain ⟨jA,h⟩:=zX h
   refine zt (z3P (C:=zz) 5 8 (by decide) rfl runUnderlying23 rfl runUnderlying23 typeInfo76 rfl (by decide) (by decide) zeroValue76 rfl rfl rfl rfl (z5I 8 rfl) jA) ?_
   rintro v82 _ rfl
   refine yn 6 ?_
   exact gj jl _ [0,1,2,3,4,5] h
  ·refine z1h _ rfl ?_
   exact gk hL8 j9 _ [0,1,2,3,4,5] h
 rintro x_4 v5 h
 refine rs ?_
 refine jr h [2,3] [4,0,6,0] (fun s (g:Value)=>[]) (fun s g=>[box b3 [v5,g],nrow g zw s]) (fun _ h _ _ jB=>?_) ?_
 ·refine yn 4 ?_
  refine z3x (z1q zw) ?_
  refine lo h [1,2,3] [1,2,3,4,0,6,0] (fun s (g:Value)=>[(8,.int .i64 s.1)]) (fun s g=>[box b3 [v5,g],nrow g zw s.2]) _ [0,1,2,3,4,5,6] ?_
  rintro ⟨j5,j2⟩ v93 _ h _ jv jb
  refine rs ?_
  refine yc 4 h (fun _ h=>?_) fun _ h=>?_
  ·refine yn 5 ?_
   obtain ⟨x99,jI,jJ,jw,h⟩:=zP h
   refine ys ?_
   refine z4a (exAt (C:=zw) (i:=j5.toNat) 2 rfl jw) ?_
   rintro ⟨g100,g101⟩
   refine ys ?_
   refine al fun b102=>?_
   refine ys ?_
   refine zd (rj [8,1,2,3,9] [0,1,2,3,4,5,6,8,9,10] ?_)
   obtain ⟨r105,jd,h⟩:=zJ h
   obtain ⟨jx,h⟩:=zX h
   refine rf [1,1,1,1,0,1,0,1,1,1] fun hS=>?_
   refine aq [0,2,3,4,5,6,7] ?_
   refine a2 [14] 0 [8,1,2,3] [1,2,3,4,0,6,0,8,9,10,0,0] (fun (s:Value×Value×Value)=>[]) (fun s=>[box b3 [v5,s.1],nrow s.1 zw (j2++([(zI.mk x99.Name 0 x99.Effects r105)]:List zI)),nro s.2.1 zE r105,nrow s.2.2 zw ([(zI.mk x99.Name 0 x99.Effects r105)]:List zI)]) ?_ (fun hK130=>?_)
   ·rintro ⟨v128,v117,v125⟩
    refine az ?_
    refine z1K (by kernel_rfl) ?_
    refine yn 4 ?_
    exact gj jv _ [0,1,2,3,4,5,6] h
   refine a2 [13,1] 1 [8,1,2,3] [1,2,3,4,5,6,0,8,9,10,0,0] (fun (s:Value×Value×Value)=>[(84,s.1),(85,boxP b3 1)]) (fun s=>[nrow s.1 zw (j2++([(zI.mk x99.Name 0 x99.Effects r105)]:List zI)),nro s.2.1 zE r105,nrow s.2.2 zw ([(zI.mk x99.Name 0 x99.Effects r105)]:List zI)]) ?_ (fun hK131=>?_)
   ·rintro ⟨v128,v117,v125⟩
    refine az ?_
    refine zK [13] (by kernel_rfl) rfl ?_
    refine zk ?_ ?_
    ·refine z1J 6 rfl z4N (fun j6 hs132o=>?_)
     refine at' rfl (z55 4 sizeOf24 rfl rfl rfl (by rw [j6]; rfl) (by simp [Value.cells,boxP]) (by rw [j6]; exact z1s hs132o (z6b))) ?_
     rintro _ _ ⟨rfl,rfl⟩
     refine sb ?_
     refine z1B (retell 4 (g:=box b3 [v5,v128]) rfl (by rw [j6]; rfl)) ?_
     exact aw (hK130 (v128,v117,v125)) [0,1,2,3,4,5,6,7,8,9,10,11]
    exact zC
   refine a2 [11,3] 3 [8,1,2,3] [1,2,3,4,5,6,7,8,9,10,0,0] (fun (s:Value×Value)=>[(74,v93),(83,s.1)]) (fun s=>[nro s.2 zE r105,nrow s.1 zw ([(zI.mk x99.Name 0 x99.Effects r105)]:List zI)]) ?_ (fun hK133=>?_)
   ·rintro ⟨v125,v117⟩
    refine az ?_
    refine zK [11] (by kernel_rfl) rfl ?_
    refine zk ?_ ?_
    ·refine at' rfl (z3P (C:=zw) 6 11 (by decide) rfl runUnderlying24 rfl runUnderlying24 typeInfo82 rfl (by decide) (by decide) zeroValue82 rfl rfl rfl rfl (z5I 11 rfl) jx) ?_
     rintro v134 _ rfl
     refine sb ?_
     refine aq [12] ?_
     exact aw (hK131 (v134,v117,v125)) [0,1,2,3,4,5,6,7,8,9,10,11]
    exact zC
   refine a2 [10,4] 4 [8,1,2,3] [1,2,3,4,5,6,7,8,9,10,0] (fun (s:Value)=>[(74,v93),(82,.agg #[.string (bs x99.Name),.int .i64 0,g100,s])]) (fun s=>[nrow s zE r105]) ?_ (fun hK135=>?_)
   ·rintro v117
    refine az ?_
    refine zK [10] (by kernel_rfl) rfl ?_
    refine zk ?_ ?_
    ·refine z3n (z24 10 rfl) ?_
     refine zhR 7 rfl z3N (fun je hs137o=>?_)
     refine z1J 10 rfl z1j (fun jf hs138o=>?_)
     refine at' rfl (t_lit [.agg #[.string (bs x99.Name),.int .i64 0,g100,v117]] runUnderlying24 sizeOf82 zeroValue82 rfl (by decide) (by decide) rfl (by intro q hq; simp only [y1,y0,or_false] at hq; rcases hq with rfl <;> first | rfl | (rw [je]; rfl) | (rw [jf]; rfl))) ?_
     rintro v136 _ ⟨rfl,_⟩
     refine sb ?_
     refine z1B (z1p (C:=zw) (l:=([(zI.mk x99.Name 0 x99.Effects r105)]:List zI)) 11 [((zI.mk x99.Name 0 x99.Effects r105),(g100,v117))] rfl (by simp only [yI,List.map_nil,je,jf]; rfl) rfl (z1o (z1t 7 rfl (z1t 10 rfl z2u)) z1x)) ?_
     exact aw (hK133 (v136,v117)) [0,1,2,3,4,5,6,7,8,9,10,11]
    exact zC
   refine a2 [1,1,9,3] 4 [8,1,2,3,73] [1,2,3,4,5,6,7,8,9,10,0,0] (fun (s:Value×Value)=>[(83,s.1)]) (fun s=>[nro s.2 zE r105,nrow s.1 zw ([(zI.mk x99.Name 0 x99.Effects r105)]:List zI)]) ?_ (fun hK139=>?_)
   ·rintro ⟨v122,v116⟩
    refine az ?_
    refine zK [1] (by kernel_rfl) rfl ?_
    refine zk ?_ ?_
    ·refine ty ?_
     exact aw (hK133 (v122,v116)) [0,1,2,3,4,5,6,7,8,9,10,11]
    exact zC
   refine a2 [9,5] 5 [8,1,2,3,76,78] [1,2,3,4,5,6,7,8,9,10,0] (fun (s:Value)=>[(74,v93),(81,s)]) (fun s=>[nrow s zE r105]) ?_ (fun hK140=>?_)
   ·rintro v117
    refine az ?_
    refine zK [9] (by kernel_rfl) rfl ?_
    refine zk ?_ ?_
    ·refine ty ?_
     exact aw (hK135 v117) [0,1,2,3,4,5,6,7,8,9,10]
    exact zC
   refine a2 [1,1,8,4] 5 [8,1,2,3,73] [1,2,3,4,5,6,7,8,9,10,0] (fun (s:Value)=>[(82,.agg #[.string (bs x99.Name),.int .i64 0,g100,s])]) (fun s=>[nrow s zE r105]) ?_ (fun hK143=>?_)
   ·rintro v116
    refine az ?_
    refine zK [1,10] (by kernel_rfl) rfl ?_
    refine zk ?_ ?_
    ·refine ty ?_
     exact aw (hK135 v116) [0,1,2,3,4,5,6,7,8,9,10]
    refine zk ?_ ?_
    ·refine z3n (z24 10 rfl) ?_
     refine zhR 7 rfl z3N (fun jg hs145o=>?_)
     refine z1J 10 rfl z1j (fun jh hs146o=>?_)
     refine at' rfl (t_lit [.agg #[.string (bs x99.Name),.int .i64 0,g100,v116]] runUnderlying24 sizeOf82 zeroValue82 rfl (by decide) (by decide) rfl (by intro q hq; simp only [y1,y0,or_false] at hq; rcases hq with rfl <;> first | rfl | (rw [jg]; rfl) | (rw [jh]; rfl))) ?_
     rintro v144 _ ⟨rfl,_⟩
     refine sb ?_
     refine z1B (z1p (C:=zw) (l:=([(zI.mk x99.Name 0 x99.Effects r105)]:List zI)) 11 [((zI.mk x99.Name 0 x99.Effects r105),(g100,v116))] rfl (by simp only [yI,List.map_nil,jg,jh]; rfl) rfl (z1o (z1t 7 rfl (z1t 10 rfl z2u)) z1x)) ?_
     exact aw (hK139 (v144,v116)) [0,1,2,3,4,5,6,7,8,9,10,11]
    exact zC
   refine a2 [8,6] 6 [8,1,2,3,76,78,80] [1,2,3,4,5,6,7,8,9,10] (fun (s:Unit)=>[(74,v93)]) (fun s=>[]) ?_ (fun hK147=>?_)
   ·rintro _
    refine az ?_
    refine zK [8] (by kernel_rfl) rfl ?_
    refine zk ?_ ?_
    ·refine at' rfl (tc [(8,0)] call71 (zc9 jd)) ?_
     rintro v148 _ ⟨_,⟨_,rfl,rfl⟩,rfl⟩
     refine sb ?_
     exact aw (hK140 v148) [0,1,2,3,4,5,6,7,8,9,10]
    exact zC
   refine a2 [1,1,7,5] 6 [8,1,2,3,73,76,78] [1,2,3,4,5,6,7,8,9,10,0] (fun (s:Value)=>[(81,s)]) (fun s=>[nrow s zE r105]) ?_ (fun hK149=>?_)
   ·rintro v116
    refine az ?_
    refine zK [1,9] (by kernel_rfl) rfl ?_
    refine zk ?_ ?_
    ·refine ty ?_
     exact aw (hK140 v116) [0,1,2,3,4,5,6,7,8,9,10]
    refine zk ?_ ?_
    ·refine ty ?_
     exact aw (hK143 v116) [0,1,2,3,4,5,6,7,8,9,10]
    exact zC
   refine zK [1,8] (by kernel_rfl) rfl ?_
   refine zk ?_ ?_
   ·refine ty ?_
    exact aw (hK147 ()) [0,1,2,3,4,5,6,7,8,9]
   refine zk ?_ ?_
   ·refine at' rfl (tc [(8,0)] call71 (zc9 jd)) ?_
    rintro v152 _ ⟨_,⟨_,rfl,rfl⟩,rfl⟩
    refine sb ?_
    exact aw (hK149 v152) [0,1,2,3,4,5,6,7,8,9,10]
   exact zC
  ·refine z1h _ rfl ?_
   exact gk jB jb _ [3,4,5,6] h
 rintro jk v86 h
 refine rs ?_
 refine yn 4 ?_
 exact fr [2,3] results29 h
end Go.Proofs.YtcmaoifiiigggaaGreatDoor
