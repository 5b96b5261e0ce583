/-
  Functions of the program, lifted: part 5.
-/
import Derived.Test.YtcmaoifiiigggaaGreatDoorV8Fd
set_option linter.unusedSimpArgs false
set_option linter.unusedVariables false
namespace Go.Proofs.YtcmaoifiiigggaaGreatDoor
open Go.Abs Tryz
set_option maxRecDepth 20000
set_option maxHeartbeats 4000000
def z3F (n:Nat) (q0r:z7→Bool→Option (Pn ((List zl)×z7))) (r_0:z7) (j0:Bool):Option (Pn (zl×z7)):=
 obind (z1a r_0) fun r2=>
 obind (z6N) fun r5=>
 obind (z2o n r5 r2.S) fun r8=>
 bindJ (S:=Unit)
  (cond ((decide (r2.Kind ≠ 2) || decide ((IntKind.i64.wrap (1 + r8)) = 0)) || (decide ((IntKind.i64.wrap (1 + r8)) ≠ 1) && (!(j0 == (decide (12 ≤ (IntKind.i64.wrap (1 + r8))))))))
   (obind (z16 r_0) fun r30=>
   pbind r30 (fun e33=>
    some (.stop (.pan e33))) fun q32=>
   some (.go ()))
   (some (.go ())))
 (fun _ =>
  bindJ (S:=(List z6)×Int×Int×Int×Int×(List UInt8)×(List (List UInt8))×(List UInt8)×(List UInt8)×Int×(List UInt8)×Bool×(List zl))
   (cond (decide ((IntKind.i64.wrap (1 + r8)) = 1))
    (obind (z22 (z7.mk r_0.l_ (IntKind.i64.wrap (r_0.i_+1)) r_0.at_)) fun r55=>
    pbind r55 (fun e58=>
     some (.stop (.pan e58))) fun q57=>
    some (.go (q57.2.l_,q57.2.i_,q57.2.at_,(IntKind.i64.wrap (1+r8)),r2.At,[],([q57.1]:List (List UInt8)),[],[],0,[],false,([]:List zl))))
    (bindJ (S := Bool)
     (cond (decide ((IntKind.i64.wrap (1 + r8)) = 2))
      (some (.go (decide ((IntKind.i64.wrap (1+r8))=2))))
      (cond (decide ((IntKind.i64.wrap (1 + r8)) = 14))
       (some (.go (decide ((IntKind.i64.wrap (1+r8))=14))))
       (some (.go (decide ((IntKind.i64.wrap (1+r8))=15))))))
    (fun jh =>
     cond jh
      (obind (z4u n (z7.mk r_0.l_ (IntKind.i64.wrap (r_0.i_+1)) r_0.at_)) fun r70=>
      pbind r70 (fun e73=>
       some (.stop (.pan e73))) fun q72=>
      some (.go (q72.2.l_,q72.2.i_,q72.2.at_,(IntKind.i64.wrap (1+r8)),r2.At,[],q72.1,[],[],0,[],false,([]:List zl))))
      (cond (decide ((IntKind.i64.wrap (1 + r8)) = 16))
       (obind (z4C n (z7.mk r_0.l_ (IntKind.i64.wrap (r_0.i_+1)) r_0.at_)) fun r78=>
       pbind r78 (fun e81=>
        some (.stop (.pan e81))) fun q80=>
       some (.go (q80.2.l_,q80.2.i_,q80.2.at_,(IntKind.i64.wrap (1+r8)),r2.At,[],q80.1,[],[],0,[],false,([]:List zl))))
       (cond (decide ((IntKind.i64.wrap (1 + r8)) = 8))
        (obind (z3T n (z7.mk r_0.l_ (IntKind.i64.wrap (r_0.i_+1)) r_0.at_) (zl.mk (IntKind.i64.wrap (1+r8)) r2.At [] ([]:List (List UInt8)) (z1r.mk [] [] 0) [] false ([]:List zl))) fun r86=>
        pbind r86 (fun e89=>
         some (.stop (.pan e89))) fun q88=>
        some (.go (q88.1.l_,q88.1.i_,q88.1.at_,q88.2.Kind,q88.2.At,q88.2.Name,q88.2.Texts,q88.2.Amount.Number,q88.2.Amount.Unit,q88.2.Amount.At,q88.2.Default,q88.2.HasDefault,q88.2.Conds)))
        (cond (decide ((IntKind.i64.wrap (1 + r8)) = 11))
         (obind (z1l (z7.mk r_0.l_ (IntKind.i64.wrap (r_0.i_+1)) r_0.at_) 1) fun r94=>
         pbind r94 (fun e97=>
          some (.stop (.pan e97))) fun q96=>
         some (.go (q96.2.l_,q96.2.i_,q96.2.at_,(IntKind.i64.wrap (1+r8)),r2.At,q96.1,([]:List (List UInt8)),[],[],0,[],false,([]:List zl))))
         (cond (decide ((IntKind.i64.wrap (1 + r8)) = 9))
          (obind (q0r (z7.mk r_0.l_ (IntKind.i64.wrap (r_0.i_+1)) r_0.at_) true) fun r100=>
          pbind r100 (fun e103=>
           some (.stop (.pan e103))) fun q102=>
          some (.stop (.ret ((zl.mk (IntKind.i64.wrap (1+r8)) r2.At [] ([]:List (List UInt8)) (z1r.mk [] [] 0) [] false q102.1),q102.2))))
          (cond (decide ((IntKind.i64.wrap (1 + r8)) = 10))
           (some (.go (r_0.l_,(IntKind.i64.wrap (r_0.i_+1)),r_0.at_,(IntKind.i64.wrap (1+r8)),r2.At,[],([]:List (List UInt8)),[],[],0,[],false,([]:List zl))))
           (obind (z3D (z7.mk r_0.l_ (IntKind.i64.wrap (r_0.i_+1)) r_0.at_) (zl.mk (IntKind.i64.wrap (1+r8)) r2.At [] ([]:List (List UInt8)) (z1r.mk [] [] 0) [] false ([]:List zl))) fun r109=>
           pbind r109 (fun e112=>
            some (.stop (.pan e112))) fun q111=>
           some (.go (q111.1.l_,q111.1.i_,q111.1.at_,q111.2.Kind,q111.2.At,q111.2.Name,q111.2.Texts,q111.2.Amount.Number,q111.2.Amount.Unit,q111.2.Amount.At,q111.2.Default,q111.2.HasDefault,q111.2.Conds)))))))))))
  (fun (ji, jj, jk, jl, jm, jo, jp, jq, js, jt, ju, jv, jw) =>
   obind (z19 (z7.mk ji jj jk) 5 [59]) fun r116=>
   pbind r116 (fun e119=>
    some (.pan e119)) fun q118=>
   some (.ret ((zl.mk jl jm jo jp (z1r.mk jq js jt) ju jv jw),q118))))
theorem z7V {n:Nat} {q0r:z7→Bool→Option (Pn ((List zl)×z7))} (q1h:K8 q0r 79) {r_0:z7} {j0:Bool} {j2:Nat} {j1:Value} {r:Pn (zl×z7)} (h:z3F n q0r r_0 j0=some r) :
  z4t Tryz.prog 143 [boxP j2 0,.bool j0] [ro j1 3 (r_0.l_.map z6.enc),box j2 [j1,.int .i64 r_0.i_,.int .i64 r_0.at_]] (fun v G=>∃ q,r = .ret q∧(∃ v0 v1 v2,v = .agg #[.int .i64 q.1.Kind,.int .i64 q.1.At,.string (bs q.1.Name),v0,.string (bs q.1.Amount.Number),.string (bs q.1.Amount.Unit),.int .i64 q.1.Amount.At,.string (bs q.1.Default),.bool q.1.HasDefault,v1]∧G=[row v0 1 (q.1.Texts.map eStr),nrow v1 zp q.1.Conds,ro v2 3 (q.2.l_.map z6.enc),box j2 [v2,.int .i64 q.2.i_,.int .i64 q.2.at_]])) (fun v=>∃ e,r = .pan e∧v = .iface 29 (.agg #[.int .i64 e,.int .i64 180])):=by
 refine z1y func143 rfl ntmps143 rfl (fun w0 o0=>?_)
 refine zh (al fun b1=>?_)
 refine yn 2 ?_
 refine cl0 [(0,0),(1,2)] call75 (fun h=>z1e h) h (fun r2 h=>?_)
 refine al fun b4=>?_
 refine ys ?_
 refine zc ?_
 obtain ⟨r5,hr6,h⟩:=zJ h
 obtain ⟨r8,hr9,h⟩:=zJ h
 refine rf [1,0,1,1,1] fun hS=>?_
 refine aq [1,2,5,6] ?_
 refine a2 [10] 0 [0,1,4,5] [1,2,3,4,5,0,0] (fun (s:Nat×Value)=>[(6,boxP s.1 0)]) (fun s=>[row s.2 1 (r5.map eStr),box s.1 [.int .i64 (IntKind.i64.wrap (1+r8)),.int .i64 r2.At,.string (bs []),.slice none 0 0,.string (bs []),.string (bs []),.int .i64 0,.string (bs []),.bool false,.slice none 0 0]]) ?_ (fun hK15=>?_)
 ·rintro ⟨b14,v11⟩
  refine az ?_
  refine z1K (by kernel_rfl) ?_
  refine zD (jr h [0,4,6] [4,1,3,7] (fun s (g:Unit)=>[]) (fun s g=>[]) (fun _ h jJ _ jx=>?_) ?_)
  ·refine yn 2 ?_
   refine oq 4 20 24 [0,1,4,6] [0,2,3,6] (decide (r2.Kind≠2) || decide ((IntKind.i64.wrap (1+r8))=0)) ?_
   refine ys ?_
   refine oe 11 [0,4,6] [1,2,3,4] (fun s=>[(36,.bool s)]) ((decide (r2.Kind≠2) || decide ((IntKind.i64.wrap (1+r8))=0)) || (decide ((IntKind.i64.wrap (1+r8))≠1) && (!(j0 == (decide (12≤(IntKind.i64.wrap (1+r8)))))))) (fun _ jy=>?_) ?_
   ·refine z1c 25 (decide (r2.Kind≠2) || decide ((IntKind.i64.wrap (1+r8))=0)) rfl (fun jc=>?_) (fun jc=>?_)
    ·skip
     refine ys ?_
     refine z2p 12 true 29 rfl rfl rfl rfl rfl ?_
     refine z2p 12 true 29 rfl rfl rfl rfl rfl ?_
     refine z2p 12 true 29 rfl rfl rfl rfl rfl ?_
     refine z2p 12 true 29 rfl rfl rfl rfl rfl ?_
     refine z2p 12 true 29 rfl rfl rfl rfl rfl ?_
     refine yn 2 ?_
     exact gc jy true [0,1,2,3] (hi:=by rw [jc]; simp)
    ·skip
     refine ys ?_
     refine oe 6 [0,4,6,25] [1,2,3,4] (fun s=>[(35,.bool s)]) (decide ((IntKind.i64.wrap (1+r8))≠1) && (!(j0 == (decide (12≤(IntKind.i64.wrap (1+r8))))))) (fun _ jz=>?_) ?_
     ·refine z1c 29 (decide ((IntKind.i64.wrap (1+r8))≠1)) rfl (fun jd=>?_) (fun jd=>?_)
      ·skip
       refine ys ?_
       refine zq (zoo runUnderlying4 rfl rfl) ?_
       refine yn 2 ?_
       exact gc jz (!(j0 == (decide (12≤(IntKind.i64.wrap (1+r8)))))) [0,1,2,3] (hi:=by rw [jd]; simp)
      ·skip
       refine yn 2 ?_
       exact gc jz false [0,1,2,3] (hi:=by rw [jd]; simp)
     refine os ?_
     refine yn 2 ?_
     exact gc jy (decide ((IntKind.i64.wrap (1+r8))≠1) && (!(j0 == (decide (12≤(IntKind.i64.wrap (1+r8))))))) [0,1,2,3] (hi:=by rw [jc]; simp)
   refine os ?_
   refine yc 1 h (fun _ h=>?_) fun _ h=>?_
   ·refine yn 2 ?_
    refine cp0 [(0,0),(2,2)] call74 (fun h=>z15 h) h (fun _ h=>?_) (hp:=fun e h=>by obtain rfl:=zU h; obtain rfl:=zM jJ; exact finP ⟨_,rfl,rfl⟩)
    exact zr (gj jx () [4,0,1,3] h)
   ·exact run_skip (gj jx () [2,0,1,3] h)
  rintro _ _ h
  refine rs ?_
  refine yn 2 ?_
  refine zd (jr h [0,4,6] [0,0,3,0,0,0] (fun s (g:V3)=>[]) (fun s g=>[box j2 [g.1,.int .i64 s.2.1,.int .i64 s.2.2.1],ro g.1 3 (s.1.map z6.enc),box b14 [.int .i64 s.2.2.2.1,.int .i64 s.2.2.2.2.1,.string (bs s.2.2.2.2.2.1),g.2.1,.string (bs s.2.2.2.2.2.2.2.1),.string (bs s.2.2.2.2.2.2.2.2.1),.int .i64 s.2.2.2.2.2.2.2.2.2.1,.string (bs s.2.2.2.2.2.2.2.2.2.2.1),.bool s.2.2.2.2.2.2.2.2.2.2.2.1,g.2.2],row g.2.1 1 (s.2.2.2.2.2.2.1.map eStr),nrow g.2.2 zp s.2.2.2.2.2.2.2.2.2.2.2.2]) (fun _ h j4 _ j5=>?_) ?_)
  ·refine zH (rj [0,4,6] [0,1,2,3] ?_)
   refine yc 7 h (fun _ h=>?_) fun _ h=>?_
   ·refine yn 2 ?_
    refine cp1 [(1,0),(0,2)] call182 (fun h=>z2O h) h (fun q57 v59 h=>?_) (hp:=fun e h=>by obtain rfl:=zU h; obtain rfl:=zM j4; exact finP ⟨_,rfl,rfl⟩)
    refine lS [q57.1] fun _=>?_
    refine yn 3 ?_
    refine z2G (z1q zp) ?_
    exact gj j5 (_,_,_) [5,4,2,3,6,7] h
   ·refine jr h [0,4,6,47] [1,2,3,4] (fun s (g:Unit)=>[(56,.bool s)]) (fun s g=>[]) (fun _ h _ _ je=>?_) ?_
    ·refine yc 3 h (fun _ h=>?_) fun _ h=>?_
     ·exact run_skip (gj je () [0,1,2,3] h)
     ·refine yc 3 h (fun _ h=>?_) fun _ h=>?_
      ·exact run_skip (gj je () [0,1,2,3] h)
      ·refine rj [0,4,6,47] [0,1,2,3] ?_
       refine yn 3 ?_
       exact gj je () [0,1,2,3] h
    rintro jh _ h
    refine rs ?_
    refine rc h (fun _ h=>?_) (fun _ h=>?_)
    ·refine yn 2 ?_
     obtain ⟨r70,jA,h⟩:=zJ h
     rcases r70 with q72 | e73
     rotate_left
     ·replace h:=z32 h
      refine z6M (wn rfl) rfl (tp [(1,0),(0,2)] call183 (z4B jA)) (by rintro _ _ ⟨_,⟨_,hq,_⟩,_⟩; cases hq) ?_
      rintro _ ⟨_,he,rfl⟩
      obtain rfl:=Pn.pan.inj he
      obtain rfl:=zU h
      obtain rfl:=zM j4
      exact finP ⟨_,rfl,rfl⟩
     replace h:=z33 h
     refine zt (tc [(1,0),(0,2)] call183 (z5a (z4B jA))) ?_
     rintro v74 _ ⟨_,⟨_,v75,rfl,rfl⟩,rfl⟩
     refine yn 3 ?_
     refine z2G (z1q zp) ?_
     exact gj j5 (_,_,_) [6,5,2,3,4,7] h
    ·refine yc 3 h (fun _ h=>?_) fun _ h=>?_
     ·refine yn 2 ?_
      obtain ⟨r78,jB,h⟩:=zJ h
      rcases r78 with q80 | e81
      rotate_left
      ·replace h:=z32 h
       refine z6M (wn rfl) rfl (tp [(1,0),(0,2)] call183 (z6v jB)) (by rintro _ _ ⟨_,⟨_,hq,_⟩,_⟩; cases hq) ?_
       rintro _ ⟨_,he,rfl⟩
       obtain rfl:=Pn.pan.inj he
       obtain rfl:=zU h
       obtain rfl:=zM j4
       exact finP ⟨_,rfl,rfl⟩
      replace h:=z33 h
      refine zt (tc [(1,0),(0,2)] call183 (z5a (z6v jB))) ?_
      rintro v82 _ ⟨_,⟨_,v83,rfl,rfl⟩,rfl⟩
      refine yn 3 ?_
      refine z2G (z1q zp) ?_
      exact gj j5 (_,_,_) [6,5,2,3,4,7] h
     ·refine yc 3 h (fun _ h=>?_) fun _ h=>?_
      ·refine yn 2 ?_
       refine zB (nilrow 1) ?_
       refine zB (retell 4 (g:=row (.slice none 0 0) 1 (([]:List (List UInt8)).map eStr)) rfl rfl) ?_
       refine zB (z1q zp) ?_
       refine cp3 [(1,0),(0,2),(4,2),(5,2),(3,2)] call185 (fun h=>z8L h) h (fun q88 v90 v91 v92 h=>?_) (hp:=fun e h=>by obtain rfl:=zU h; obtain rfl:=zM j4; exact finP ⟨_,rfl,rfl⟩)
       refine yn 2 ?_
       exact gj j5 (_,_,_) [7,6,2,10,8,9] h
      ·refine yc 3 h (fun _ h=>?_) fun _ h=>?_
       ·refine yn 2 ?_
        refine cp1 [(1,0),(0,2)] call77 (fun h=>z1v h) h (fun q96 v98 h=>?_) (hp:=fun e h=>by obtain rfl:=zU h; obtain rfl:=zM j4; exact finP ⟨_,rfl,rfl⟩)
        refine yn 3 ?_
        refine z2G (nilrow 1) ?_
        refine z2G (retell 6 (g:=row (.slice none 0 0) 1 (([]:List (List UInt8)).map eStr)) rfl rfl) ?_
        refine z2G (z1q zp) ?_
        exact gj j5 (_,_,_) [5,4,2,3,6,7] h
       ·refine yc 3 h (fun _ h=>?_) fun _ h=>?_
        ·refine zH (rj [0,4,6] [0,1,2,3] ?_)
         refine yn 2 ?_
         obtain ⟨r100,j9,h⟩:=zJ h
         rcases r100 with q102 | e103
         rotate_left
         ·replace h:=z32 h
          refine z6M (wn rfl) rfl (tp [(1,0),(0,2)] call79 (q1h j9)) (by rintro _ _ ⟨_,⟨_,hq,_⟩,_⟩; cases hq) ?_
          rintro _ ⟨_,he,rfl⟩
          obtain rfl:=Pn.pan.inj he
          obtain rfl:=zU h
          obtain rfl:=zM j4
          exact finP ⟨_,rfl,rfl⟩
         replace h:=z33 h
         refine zt (tc [(1,0),(0,2)] call79 (z5a (q1h j9))) ?_
         rintro v104 _ ⟨_,⟨_,v105,rfl,rfl⟩,rfl⟩
         refine yn 3 ?_
         refine zd (rj [4] [2,4,5,6] ?_)
         refine zA ?_
         refine z1k (nilrow 1) ?_
         refine z1k (retell 4 (g:=row (.slice none 0 0) 1 (([]:List (List UInt8)).map eStr)) rfl rfl) ?_
         obtain rfl:=zU h
         obtain rfl:=zM j4
         exact fq [4,1,2,3] results143
        ·refine zH (rj [0,4,6,47] [0,1,2,3] ?_)
         refine yc 3 h (fun _ h=>?_) fun _ h=>?_
         ·refine yn 2 ?_
          refine z2G (nilrow 1) ?_
          refine z2G (retell 4 (g:=row (.slice none 0 0) 1 (([]:List (List UInt8)).map eStr)) rfl rfl) ?_
          refine z2G (z1q zp) ?_
          exact gj j5 (_,_,_) [0,1,2,3,4,5] h
         ·refine yn 2 ?_
          refine zB (nilrow 1) ?_
          refine zB (retell 4 (g:=row (.slice none 0 0) 1 (([]:List (List UInt8)).map eStr)) rfl rfl) ?_
          refine zB (z1q zp) ?_
          refine cp3 [(1,0),(0,2),(4,2),(5,2),(3,2)] call186 (fun h=>z7T h) h (fun q111 v113 v114 v115 h=>?_) (hp:=fun e h=>by obtain rfl:=zU h; obtain rfl:=zM j4; exact finP ⟨_,rfl,rfl⟩)
          refine yn 2 ?_
          exact gj j5 (_,_,_) [7,6,2,10,8,9] h
  rintro ⟨ji,jj,jk,jl,jm,jo,jp,jq,js,jt,ju,jv,jw⟩ ⟨v47,v48,v49⟩ h
  refine rs ?_
  refine yn 2 ?_
  refine cp1 [(1,0),(0,2)] call78 (fun h=>z1u h) h (fun q118 v120 h=>?_)
  refine yn 2 ?_
  refine zd (rj [4] [2,4,5,6,7] ?_)
  refine zA ?_
  exact fr [1,2,3,4] results143 h
 refine a2 [9,1] 1 [0,1,4,5] [1,2,3,4,5,0,0] (fun (s:Nat×Value)=>[(16,.agg #[.int .i64 (IntKind.i64.wrap (1+r8)),.int .i64 r2.At,.string (bs []),.slice none 0 0,.string (bs []),.string (bs []),.int .i64 0,.string (bs []),.bool false,.slice none 0 0]),(6,boxP s.1 0)]) (fun s=>[row s.2 1 (r5.map eStr),box s.1 [.int .i64 0,.int .i64 0,.string (bs []),.slice none 0 0,.string (bs []),.string (bs []),.int .i64 0,.string (bs []),.bool false,.slice none 0 0]]) ?_ (fun hK123=>?_)
 ·rintro ⟨b14,v11⟩
  refine az ?_
  refine zK [9] (by kernel_rfl) rfl ?_
  refine zk ?_ ?_
  ·refine at' rfl (z55 6 sizeOf88 rfl rfl rfl rfl (by simp [Value.cells,boxP]) (by simp [Value.cells,Value.oneCell',boxP])) ?_
   rintro _ _ ⟨rfl,rfl⟩
   refine sb ?_
   refine z1B (retell 6 (g:=box b14 [.int .i64 (IntKind.i64.wrap (1+r8)),.int .i64 r2.At,.string (bs []),.slice none 0 0,.string (bs []),.string (bs []),.int .i64 0,.string (bs []),.bool false,.slice none 0 0]) rfl (by kernel_rfl)) ?_
   exact aw (hK15 (b14,v11)) [0,1,2,3,4,5,6]
  exact zC
 refine a2 [8,2] 2 [0,1,4,5] [1,2,3,4,5,0] (fun (s:Value)=>[(16,.agg #[.int .i64 (IntKind.i64.wrap (1+r8)),.int .i64 r2.At,.string (bs []),.slice none 0 0,.string (bs []),.string (bs []),.int .i64 0,.string (bs []),.bool false,.slice none 0 0])]) (fun s=>[row s 1 (r5.map eStr)]) ?_ (fun hK124=>?_)
 ·rintro v11
  refine az ?_
  refine zK [8] (by kernel_rfl) rfl ?_
  refine zk ?_ ?_
  ·refine at' rfl (zaL zeroValue88) ?_
   rintro _ _ ⟨b125,rfl,rfl⟩
   refine sb ?_
   exact aw (hK123 (b125,v11)) [0,1,2,3,4,5,6]
  exact zC
 refine a2 [3,2,2,1,1,1] 4 [0,1,4,5,11,15] [1,2,3,4,5,0,0] (fun (s:Value×Nat)=>[(9,s.1),(6,boxP s.2 0)]) (fun s=>[row s.1 1 (r5.map eStr),box s.2 [.int .i64 0,.int .i64 0,.string (bs []),.slice none 0 0,.string (bs []),.string (bs []),.int .i64 0,.string (bs []),.bool false,.slice none 0 0]]) ?_ (fun hK126=>?_)
 ·rintro ⟨v11,b13⟩
  refine az ?_
  refine zK [3] (by kernel_rfl) rfl ?_
  refine zk ?_ ?_
  ·refine at' rfl (zbx (vs:=[v11,.string (bs r2.S)]) (cs:=[]) [(5,1)] rfl call144 rfl (z3y hr9) (z69 5 rfl z6S z3r) rfl (.inr (by rintro _ _ ⟨rfl,rfl⟩ g hg; first | (cases hg; done) | (simp only [y1,y0,or_false] at hg; first | (subst hg; first | exact z5K | exact z5J) | (rcases hg with rfl | rfl <;> first | exact z5K | exact z5J) | (rcases hg with rfl | rfl | rfl <;> first | exact z5K | exact z5J))))) ?_
   rintro _ _ ⟨_,⟨rfl,rfl⟩,rfl⟩
   refine sb ?_
   refine aq [4,7] ?_
   exact aw (hK123 (b13,v11)) [0,1,2,3,4,5,6]
  exact zC
 refine a2 [3,2,2,3] 5 [0,1,4,5,11,15] [1,2,3,4,5,0] (fun (s:Value)=>[(9,s)]) (fun s=>[row s 1 (r5.map eStr)]) ?_ (fun hK127=>?_)
 ·rintro v11
  refine az ?_
  refine zK [3,8] (by kernel_rfl) rfl ?_
  refine zk ?_ ?_
  ·refine at' rfl (zbx (vs:=[v11,.string (bs r2.S)]) (cs:=[]) [(5,1)] rfl call144 rfl (z3y hr9) (z69 5 rfl z6S z3r) rfl (.inr (by rintro _ _ ⟨rfl,rfl⟩ g hg; first | (cases hg; done) | (simp only [y1,y0,or_false] at hg; first | (subst hg; first | exact z5K | exact z5J) | (rcases hg with rfl | rfl <;> first | exact z5K | exact z5J) | (rcases hg with rfl | rfl | rfl <;> first | exact z5K | exact z5J))))) ?_
   rintro _ _ ⟨_,⟨rfl,rfl⟩,rfl⟩
   refine sb ?_
   refine aq [4,7] ?_
   exact aw (hK124 v11) [0,1,2,3,4,5]
  refine zk ?_ ?_
  ·refine at' rfl (zaL zeroValue88) ?_
   rintro _ _ ⟨b128,rfl,rfl⟩
   refine sb ?_
   exact aw (hK126 (v11,b128)) [0,1,2,3,4,5,6]
  exact zC
 refine a2 [0,1,2,2,2,1,1,1] 5 [0,1,4,5,11,15] [1,2,3,4,5,0] (fun (s:Nat)=>[(6,boxP s 0)]) (fun s=>[box s [.int .i64 0,.int .i64 0,.string (bs []),.slice none 0 0,.string (bs []),.string (bs []),.int .i64 0,.string (bs []),.bool false,.slice none 0 0]]) ?_ (fun hK129=>?_)
 ·rintro b12
  refine az ?_
  refine zK [0] (by kernel_rfl) rfl ?_
  refine zk ?_ ?_
  ·refine at' rfl (tc [] call181 (z78 hr6)) ?_
   rintro v130 _ ⟨_,⟨_,rfl,rfl⟩,rfl⟩
   refine sb ?_
   exact aw (hK126 (v130,b12)) [0,1,2,3,4,6,5]
  exact zC
 refine zK [0,8] (by kernel_rfl) rfl ?_
 refine zk ?_ ?_
 ·refine at' rfl (tc [] call181 (z78 hr6)) ?_
  rintro v131 _ ⟨_,⟨_,rfl,rfl⟩,rfl⟩
  refine sb ?_
  exact aw (hK127 v131) [0,1,2,3,4,5]
 refine zk ?_ ?_
 ·refine at' rfl (zaL zeroValue88) ?_
  rintro _ _ ⟨b132,rfl,rfl⟩
  refine sb ?_
  exact aw (hK129 b132) [0,1,2,3,4,5]
 exact zC
def z7W (n:Nat) (j0:Bool) (q0r:z7→Bool→Option (Pn ((List zl)×z7))):((List zl)×(List z6)×Int×Int)→Option (Lp ((List zl)×(List z6)×Int×Int) (Lp ((List zl)×(List z6)×Int×Int) (Pn ((List zl)×z7)))):=
 fun (j6,jK,jf,jg)=>
  obind (z10 (z7.mk jK jf jg) 5 [125]) fun r26=>
  cond (!r26.1)
   (obind (z3F n q0r r26.2 j0) fun r30=>
   pbind r30 (fun e33=>
    some (.stop (.stop (.pan e33)))) fun q32=>
   need (j6.length+([q32.1]:List zl).length≤4294967296) (
   some (.go ((j6++([q32.1]:List zl)),q32.2.l_,q32.2.i_,q32.2.at_))))
   (some (.stop (.go (j6,r26.2.l_,r26.2.i_,r26.2.at_))))
def z23 (n:Nat) (q0r:z7→Bool→Option (Pn ((List zl)×z7))) (r_0:z7) (j0:Bool):Option (Pn ((List zl)×z7)):=
 obind (z19 r_0 5 [123]) fun r1=>
 pbind r1 (fun e4=>
  some (.pan e4)) fun q3=>
 bindJ (S:=(List zl)×(List z6)×Int×Int)
  (iter (z7W n j0 q0r) n (([]:List zl),q3.l_,q3.i_,q3.at_))
 (fun (ja, x_7, x_8, x_9) =>
  some (.ret (ja,(z7.mk x_7 x_8 x_9))))
theorem z6q {n:Nat} {q0r:z7→Bool→Option (Pn ((List zl)×z7))} (q1h:K8 q0r 79):K8 (z23 n q0r) 79:=by
 intro r_0 j0 j2 j1 r h
 refine z1y func79 rfl ntmps79 rfl (fun w0 o0=>?_)
 refine yn 4 ?_
 refine cp1 [(0,0),(1,2)] call78 (fun h=>z1u h) h (fun q3 v5 h=>?_)
 refine yn 2 ?_
 refine zd (jr h [] [0,0,0] (fun s (g:V2)=>[(5,g.1)]) (fun s g=>[nrow g.1 zp s.1,box j2 [g.2,.int .i64 s.2.2.1,.int .i64 s.2.2.2],ro g.2 3 (s.2.1.map z6.enc)]) (fun _ h jL _ jM=>?_) ?_)
 ·refine zF (z3x (z1q zp) ?_)
  refine lo h [0,1] [0,0,0] (fun s (g:V2)=>[(5,g.1)]) (fun s g=>[nrow g.1 zp s.1,box j2 [g.2,.int .i64 s.2.2.1,.int .i64 s.2.2.2],ro g.2 3 (s.2.1.map z6.enc)]) (_,_) [4,3,2] ?_
  rintro ⟨_,_,_,_⟩ ⟨_,_⟩ _ h _ jC j7
  refine rs ?_
  refine yn 3 ?_
  refine cl1 [(2,0),(1,2)] call76 (fun h=>z13 h) h (fun r26 v28 h=>?_)
  refine yc 2 h (fun _ h=>?_) fun _ h=>?_
  ·refine yn 5 ?_
   refine cp3 [(3,0),(4,2)] call143 (fun h=>z7V q1h h) h (fun q32 v34 v35 v36 h=>?_) (hp:=fun e h=>by obtain rfl:=zU h; obtain rfl:=j7 _ rfl; obtain rfl:=zM jL; exact finP ⟨_,rfl,rfl⟩)
   refine zB (Go.Abs.freeze 5 rfl) ?_
   refine zB (z24 6 rfl) ?_
   refine zcx 5 rfl z3N (fun jD hs38o=>?_)
   refine z2V 6 rfl z1j (fun jE hs39o=>?_)
   refine zt (t_lit [.agg #[.int .i64 q32.1.Kind,.int .i64 q32.1.At,.string (bs q32.1.Name),v34,.string (bs q32.1.Amount.Number),.string (bs q32.1.Amount.Unit),.int .i64 q32.1.Amount.At,.string (bs q32.1.Default),.bool q32.1.HasDefault,v35]] runUnderlying77 sizeOf88 zeroValue88 rfl (by decide) (by decide) rfl (by intro q hq; simp only [y1,y0,or_false] at hq; rcases hq with rfl <;> first | rfl | (rw [jD]; rfl) | (rw [jE]; rfl))) ?_
   rintro v37 _ ⟨rfl,_⟩
   refine zB (z1p (C:=zp) (l:=([q32.1]:List zl)) 9 [(q32.1,(v34,v35))] rfl (by simp only [yI,List.map_nil,jD,jE]; rfl) rfl (z1o (z2P (T:=z1W) (z1t 5 rfl (z1t 6 rfl z2u))) z1x)) ?_
   obtain ⟨jN,h⟩:=zX h
   refine zt (z3P (C:=zp) 0 9 (by decide) rfl runUnderlying77 rfl runUnderlying77 typeInfo88 rfl (by decide) (by decide) zeroValue88 rfl rfl rfl rfl (z5I 9 rfl) jN) ?_
   rintro v40 _ rfl
   refine yn 3 ?_
   exact gj jC (_,_) [0,8,7] h
  ·refine z1h _ rfl ?_
   exact gk jM j7 (_,_) [0,4,3] h
 rintro ⟨ja,x_7,x_8,x_9⟩ ⟨v10,v11⟩ h
 refine rs ?_
 refine yn 4 ?_
 exact fs [4] [0,2,1] results79 h
def z1G:Nat→z7→Bool→Option (Pn ((List zl)×z7))
 | 0=>fun _ _=>none
 | n+1=>z23 n  (z1G n )
theorem z3b {n:Nat}:K8 (z1G n) 79:=by
 induction n with
 | zero=>intro _ _ _ _ _  h; cases h
 | succ n ih=>exact z6q ih
def z6O  : Option ((List (List UInt8))):=
 some ([[114,101,97,100,115],[119,114,105,116,101,115],[115,116,97,116,117,115],[108,111,103],[100,101,110,121],[114,101,112,108,121]]:List (List UInt8))
theorem z9C:K5 z6O 132:=by
 intro  r h
 refine zN func132 rfl ntmps132 rfl (fun w0 o0=>?_)
 refine yn 3 ?_
 refine lS [[114,101,97,100,115],[119,114,105,116,101,115],[115,116,97,116,117,115],[108,111,103],[100,101,110,121],[114,101,112,108,121]] fun _=>?_
 refine yn 3 ?_
 exact fs [0] [0] results132 h
def z2X (n:Nat) (r_0:z7):Option (Pn (Int×z7)):=
 obind (z1a r_0) fun r1=>
 obind (z6O) fun r4=>
 obind (z2o n r4 r1.S) fun r7=>
 bindJ (S:=Unit)
  (cond (decide (r1.Kind ≠ 2) || decide ((IntKind.i64.wrap (1 + r7)) = 0))
   (obind (z16 r_0) fun r17=>
   pbind r17 (fun e20=>
    some (.stop (.pan e20))) fun q19=>
   some (.go ()))
   (some (.go ())))
 (fun _ =>
  some (.ret ((IntKind.i64.wrap (1+r7)),(z7.mk r_0.l_ (IntKind.i64.wrap (r_0.i_+1)) r_0.at_))))
theorem z5f {n:Nat} {r_0:z7} {j2:Nat} {j1:Value} {r:Pn (Int×z7)} (h:z2X n r_0=some r) :
  z4t Tryz.prog 81 [boxP j2 0] [ro j1 3 (r_0.l_.map z6.enc),box j2 [j1,.int .i64 r_0.i_,.int .i64 r_0.at_]] (fun v G=>∃ q,r = .ret q∧(∃ v0,v = .int .i64 q.1∧G=[ro v0 3 (q.2.l_.map z6.enc),box j2 [v0,.int .i64 q.2.i_,.int .i64 q.2.at_]])) (fun v=>∃ e,r = .pan e∧v = .iface 29 (.agg #[.int .i64 e,.int .i64 180])):=by
 refine z1y func81 rfl ntmps81 rfl (fun w0 o0=>?_)
 refine yn 4 ?_
 refine cl0 [(0,0),(1,2)] call75 (fun h=>z1e h) h (fun r1 h=>?_)
 refine al fun b3=>?_
 refine yn 2 ?_
 refine rf [1,0,1,1] fun hS=>?_
 refine aq [1,2] ?_
 refine ao 0 ?_
 obtain ⟨r4,hr5,h⟩:=zJ h
 refine at' rfl (tc [] call132 (z9C hr5)) ?_
 rintro v6 _ ⟨_,⟨_,rfl,rfl⟩,rfl⟩
 refine sb ?_
 refine al0 3 [(4,1)] call144 (fun h=>z3y h) h (fun r7 h=>?_)
 refine aq [4,5] ?_
 refine z1K (by kernel_rfl) ?_
 refine zD (jr h [0,4] [3,1] (fun s (g:Unit)=>[]) (fun s g=>[]) (fun _ h jO _ jF=>?_) ?_)
 ·refine zH (rj [0,3,4] [0,2,3] ?_)
  refine yn 2 ?_
  refine oq 3 15 18 [0,4] [0,1] (decide (r1.Kind≠2) || decide ((IntKind.i64.wrap (1+r7))=0)) ?_
  refine yc 1 h (fun _ h=>?_) fun _ h=>?_
  ·refine yn 2 ?_
   refine cp0 [(0,0),(1,2)] call74 (fun h=>z15 h) h (fun _ h=>?_) (hp:=fun e h=>by obtain rfl:=zU h; obtain rfl:=zM jO; exact finP ⟨_,rfl,rfl⟩)
   exact zr (gj jF () [2,0] h)
  ·exact run_skip (gj jF () [1,0] h)
 rintro _ _ h
 refine rs ?_
 refine yn 2 ?_
 refine zc (rj [4] [0,1] ?_)
 refine yn 4 ?_
 exact fs [2] [1,0] results81 h
def zds (n:Nat):((List Int)×(List z6)×Int×Int)→Option (Lp ((List Int)×(List z6)×Int×Int) (Lp ((List Int)×(List z6)×Int×Int) (Pn ((List Int)×z7)))):=
 fun (j3,jf,jg,jP)=>
  obind (z10 (z7.mk jf jg jP) 5 [44]) fun r27=>
  cond r27.1
   (obind (z2X n r27.2) fun r31=>
   pbind r31 (fun e34=>
    some (.stop (.stop (.pan e34)))) fun q33=>
   need (j3.length+([q33.1]:List Int).length≤4294967296) (
   some (.go ((j3++([q33.1]:List Int)),q33.2.l_,q33.2.i_,q33.2.at_))))
   (some (.stop (.go (j3,r27.2.l_,r27.2.i_,r27.2.at_))))
def z5E (n:Nat) (r_0:z7):Option (Pn ((List Int)×z7)):=
 obind (z2X n r_0) fun r1=>
 pbind r1 (fun e4=>
  some (.pan e4)) fun q3=>
 bindJ (S:=(List Int)×(List z6)×Int×Int)
  (iter (zds n) n (([q3.1]:List Int),q3.2.l_,q3.2.i_,q3.2.at_))
 (fun (jb, x_8, x_9, jG) =>
  some (.ret (jb,(z7.mk x_8 x_9 jG))))
theorem z9D {n:Nat} {r_0:z7} {j2:Nat} {j1:Value} {r:Pn ((List Int)×z7)} (h:z5E n r_0=some r) :
  z4t Tryz.prog 80 [boxP j2 0,.func (.func 81) #[boxP j2 0] #[]] [ro j1 3 (r_0.l_.map z6.enc),box j2 [j1,.int .i64 r_0.i_,.int .i64 r_0.at_]] (fun v G=>∃ q,r = .ret q∧(∃ v0 v1,v=v0∧G=[row v0 1 (q.1.map (eInt .i64)),ro v1 3 (q.2.l_.map z6.enc),box j2 [v1,.int .i64 q.2.i_,.int .i64 q.2.at_]])) (fun v=>∃ e,r = .pan e∧v = .iface 29 (.agg #[.int .i64 e,.int .i64 180])):=by
 refine z1y func80 rfl ntmps80 rfl (fun w0 o0=>?_)
 refine yn 4 ?_
 refine cp1 [(0,0),(1,2)] call81 (fun h=>z5f h) h (fun q3 v5 h=>?_)
 refine zt (t_lit [.int .i64 q3.1] runUnderlying59 sizeOf3 zeroValue3 rfl (by decide) (by decide) rfl (by simp [Value.cells,boxP])) ?_
 rintro v6 _ ⟨rfl,_⟩
 refine zB (retell 4 (g:=row v6 1 (([q3.1]:List Int).map (eInt .i64))) rfl rfl) ?_
 refine ys ?_
 refine zd (jr h [] [0,0,0] (fun s (g:V2)=>[(5,g.1)]) (fun s g=>[row g.1 1 (s.1.map (eInt .i64)),box j2 [g.2,.int .i64 s.2.2.1,.int .i64 s.2.2.2],ro g.2 3 (s.2.1.map z6.enc)]) (fun _ h jQ _ jR=>?_) ?_)
 ·refine zF (lo h [0,1] [0,0,0] (fun s (g:V2)=>[(5,g.1)]) (fun s g=>[row g.1 1 (s.1.map (eInt .i64)),box j2 [g.2,.int .i64 s.2.2.1,.int .i64 s.2.2.2],ro g.2 3 (s.2.1.map z6.enc)]) (_,_) [4,3,2] ?_)
  rintro ⟨j3,_,_,_⟩ ⟨_,_⟩ _ h _ jH j8
  refine rs ?_
  refine yn 3 ?_
  refine cl1 [(2,0),(1,2)] call76 (fun h=>z13 h) h (fun r27 v29 h=>?_)
  refine yc 1 h (fun _ h=>?_) fun _ h=>?_
  ·refine yn 5 ?_
   refine cp1 [(3,0),(4,2)] call81 (fun h=>z5f h) h (fun q33 v35 h=>?_) (hp:=fun e h=>by obtain rfl:=zU h; obtain rfl:=j8 _ rfl; obtain rfl:=zM jQ; exact finP ⟨_,rfl,rfl⟩)
   refine zt (t_lit [.int .i64 q33.1] runUnderlying59 sizeOf3 zeroValue3 rfl (by decide) (by decide) rfl (by simp [Value.cells,boxP])) ?_
   rintro v36 _ ⟨rfl,_⟩
   refine zB (retell 7 (g:=row v36 1 (([q33.1]:List Int).map (eInt .i64))) rfl rfl) ?_
   obtain ⟨jI,h⟩:=zX h
   refine zt (z1U (es:=1) 0 rfl runUnderlying59 rfl runUnderlying59 (.inr ⟨_,rfl⟩) typeInfo3 rfl (by decide) zeroValue3 rfl rfl rfl rfl (z1C 7 rfl z1d (z42 (zoB _) _)) (z1T jI (by decide)) (z2H jI)) ?_
   rintro v37 _ rfl
   refine zB (retell 0 (g:=row v37 1 ((j3++([q33.1]:List Int)).map (eInt .i64))) rfl (congrArg (row _ _) List.map_append.symm)) ?_
   refine yn 3 ?_
   exact gj jH (_,_) [0,6,5] h
  ·refine z1h _ rfl ?_
   exact gk jR j8 (_,_) [0,4,3] h
 rintro ⟨jb,x_8,x_9,jG⟩ ⟨v11,v12⟩ h
 refine rs ?_
 refine yn 4 ?_
 exact fs [4] [0,2,1] results80 h
def z84  : Option ((List ((List UInt8)×Int))):=
 some (mput (mput (mput (mput ([]:(List ((List UInt8)×Int))) [116,114,117,101] (4:Int)) [102,97,108,115,101] (5:Int)) [115,116,97,116,117,115] (7:Int)) [104,101,97,100,101,114] (6:Int))
theorem zcy:K37 z84 115:=by
 intro  r h
 refine zN func115 rfl ntmps115 rfl (fun w0 o0=>?_)
 refine yn 3 ?_
 refine zt (ziC) ?_
 rintro _ _ ⟨b1,rfl,rfl⟩
 refine zB (retell 0 (g:=mapis b1 (mcells (fun l:List UInt8=>Value.string (bs l)) (fun n:Int=>Value.int .i64 n) ([]:(List ((List UInt8)×Int))))) rfl rfl) ?_
 refine zt (z2L (k:=[116,114,117,101]) (v:=(4:Int)) 0 z4A runUnderlying179 runUnderlying9 rfl rfl rfl rfl true) ?_
 rintro _ _ ⟨rfl,rfl⟩
 refine zt (z2L (k:=[102,97,108,115,101]) (v:=(5:Int)) 0 z4A runUnderlying179 runUnderlying9 rfl rfl rfl rfl true) ?_
 rintro _ _ ⟨rfl,rfl⟩
 refine zt (z2L (k:=[115,116,97,116,117,115]) (v:=(7:Int)) 0 z4A runUnderlying179 runUnderlying9 rfl rfl rfl rfl true) ?_
 rintro _ _ ⟨rfl,rfl⟩
 refine zt (z2L (k:=[104,101,97,100,101,114]) (v:=(6:Int)) 0 z4A runUnderlying179 runUnderlying9 rfl rfl rfl rfl true) ?_
 rintro _ _ ⟨rfl,rfl⟩
 refine yn 3 ?_
 exact fs [0] [0] results115 h
end Go.Proofs.YtcmaoifiiigggaaGreatDoor
