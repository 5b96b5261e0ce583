/-
  The law ParserFindsTheToken, lifted.
-/
import Derived.Test.YtcmaoifiiigggaaGreatDoorFq
set_option linter.unusedSimpArgs false
set_option linter.unusedVariables false
namespace Go.Proofs.YtcmaoifiiigggaaGreatDoor
open Go.Abs
set_option maxRecDepth 20000
set_option maxHeartbeats 4000000
def z2g (n:Nat) (s_0:(List UInt8)) (more_1:(List UInt8)) (r7:zG×z11) (r15:(List z6)×z11):(Int)→Option (Lp (Int) (Lp (Unit) (Bool))):=
 fun s_36=>
  cond (decide (s_36<(r15.1.length:Int)))
   (idx r15.1 s_36 fun x42=>
   cond (decide (x42.At≠r7.2.At))
    (some (.go (IntKind.i64.wrap (s_36+1))))
    (need (0≤s_36∧s_36≤(IntKind.i64.wrap (s_36+1))∧(IntKind.i64.wrap (s_36+1))≤(r15.1.length:Int)) (
    obind (z8n n ((r15.1.take (((IntKind.i64.wrap (s_36+1))).toNat)).drop s_36.toNat)) fun r45=>
    cond (decide (r45.2≠0))
     (some (.stop (.stop false)))
     (need (0≤(0:Int)∧0≤r7.2.At∧r7.2.At≤(s_0.length:Int)) (
     need ((s_0.take ((r7.2.At).toNat)).length+r45.1.length≤4294967296) (
     need (((s_0.take ((r7.2.At).toNat))++r45.1).length+[32].length≤4294967296) (
     need ((((s_0.take ((r7.2.At).toNat))++r45.1)++[32]).length+more_1.length≤4294967296) (
     obind (z39 n ((((s_0.take ((r7.2.At).toNat))++r45.1)++[32])++more_1)) fun r52=>
     need (0≤(0:Int)∧0≤r7.2.At∧r7.2.At≤(s_0.length:Int)) (
     obind (z39 n (s_0.take ((r7.2.At).toNat))) fun r61=>
     obind (z1X n) fun r69=>
     some (.stop (.stop ((r69 && ((decide (r52.2.At=r7.2.At) && (decide (r52.2.E=r7.2.E))) || decide (r52.2.E=2))) && (decide (r61.2.E=0) || (decide (r61.2.E=180) && decide (r61.2.At=r7.2.At)))))))))))))))
   (some (.stop (.go ())))
def z5A (n:Nat) (s_0:(List UInt8)) (more_1:(List UInt8)):Option (Bool):=
 cond (decide (1000<(s_0.length:Int)) || decide (200<(more_1.length:Int)))
  (obind (z1X n) fun r5=>
  some r5)
  (obind (z39 n s_0) fun r7=>
  obind (z4J n s_0) fun r15=>
  obind (z4J n more_1) fun r19=>
  cond ((decide (r7.2.E≠180) || decide (r15.2.E≠0)) || decide (r19.2.E≠0))
   (obind (z1X n) fun r30=>
   some r30)
   (bindJ (S := Unit)
    (iter (z2g n s_0 more_1 r7 r15) n 0)
   (fun _ =>
    obind (z1X n) fun r86=>
    some (r86 && decide (r7.2.At=(s_0.length:Int))))))
theorem z9X (n:Nat) (s_0:(List UInt8)) (more_1:(List UInt8))  {r:Bool} (h:z5A n s_0 more_1=some r) :
  Meets Tryz.prog 4 [.string (bs s_0),.string (bs more_1)] [globA] (fun v G=>v = .bool r∧G=[]):=by
 refine zN Tryz.func4 rfl Tryz.ntmps4 rfl (fun w0 o0=>?_)
 refine zh ?_
 refine ys ?_
 refine zc ?_
 refine zh ?_
 refine ys ?_
 refine oq 4 21 25 [0,1] [0] (decide (1000<(s_0.length:Int)) || decide (200<(more_1.length:Int))) ?_
 refine zd ?_
 refine rc h (fun _ h=>?_) (fun _ h=>?_)
 ·refine zh ?_
  refine cl0 [(0,0)] Tryz.call11 (fun h=>z1P h) h (fun r5 h=>?_)
  refine ys ?_
  refine zd ?_
  refine zA ?_
  exact fs [4] [] Tryz.results4 h
 ·refine run_skip ?_
  refine ze ?_
  refine ys ?_
  refine cl2 [(0,0)] Tryz.call12 (fun h=>z3m h) h (fun r7 v9 v10 h=>?_)
  refine ys ?_
  refine al fun b11=>?_
  refine al fun b12=>?_
  refine ys ?_
  refine zc ?_
  refine rj [0,1,6] [0,4] ?_
  refine z8 ?_
  refine ys ?_
  refine cl1 [(0,0)] Tryz.call15 (fun h=>z66 h) h (fun r15 v17 h=>?_)
  refine ys ?_
  refine al fun b18=>?_
  refine ys ?_
  refine zc ?_
  refine rj [0,1,6,8,7] [0,1,2,3] ?_
  refine z8 ?_
  refine ys ?_
  refine cl1 [(0,0)] Tryz.call15 (fun h=>z66 h) h (fun r19 _ h=>?_)
  refine ys ?_
  refine al fun b22=>?_
  refine ys ?_
  refine zc ?_
  refine zH ?_
  refine rj [0,1,6,8,7,10] [0,1,2,3,5] ?_
  refine z8 ?_
  refine ys ?_
  refine oq 4 45 49 [0,1,6,7,10] [0,1,2,4] (decide (r7.2.E≠180) || decide (r15.2.E≠0)) ?_
  refine ys ?_
  refine oq 4 50 54 [0,1,6,7] [0,1,2] ((decide (r7.2.E≠180) || decide (r15.2.E≠0)) || decide (r19.2.E≠0)) ?_
  refine zd ?_
  refine rc h (fun _ h=>?_) (fun _ h=>?_)
  ·refine zh ?_
   refine cl0 [(0,0)] Tryz.call11 (fun h=>z1P h) h (fun r30 h=>?_)
   refine ys ?_
   refine zd ?_
   refine zA ?_
   exact fs [4] [] Tryz.results4 h
  ·refine run_skip ?_
   refine zD ?_
   refine jr h [0,6] [2,1] (fun s (g:Unit)=>[]) (fun s g=>[]) (fun _ h ho33 _ hL34=>?_) ?_
   ·refine zh ?_
    refine ys ?_
    refine zd ?_
    refine zF ?_
    refine lo h [0,1,6,7,57] [2,3,1] (fun s (g:Unit)=>[(58,.int .i64 s)]) (fun s g=>[]) () [1,2,0] ?_
    rintro s_36 _ _ h _ hgo38 hstop39
    refine rs ?_
    refine zh ?_
    refine ys ?_
    refine zc ?_
    refine rc h (fun _ h=>?_) (fun _ h=>?_)
    ·refine run_skip ?_
     refine zg ?_
     refine zF ?_
     refine zh ?_
     refine ys ?_
     refine zc ?_
     refine zH ?_
     refine z4U (by kernel_rfl) (by kernel_rfl) ?_
     refine yu ?_
     obtain ⟨x42,hzx42,hlx42,hxx42,h⟩:=zP h
     refine yu ?_
     refine z2m ?_
     refine zD ?_
     refine rc h (fun _ h=>?_) (fun _ h=>?_)
     ·refine z1h _ rfl ?_
      refine zD ?_
      refine rj [58,0,1,6,7,57] [0,1,2] ?_
      refine z8 ?_
      refine ys ?_
      refine zr ?_
      exact gj hgo38 () [0,1,2] h
     ·refine run_skip ?_
      refine zg ?_
      refine rj [0,1,6,7,11] [0,1,2] ?_
      refine z8 ?_
      refine ys ?_
      obtain ⟨hb44,h⟩:=zX h
      refine zB (Go.Abs.freeze 1 rfl) ?_
      refine zq (zle (l:=s_36) (r:=(IntKind.i64.wrap (s_36+1))) 1 Tryz.runUnderlying37 Tryz.sizeOf41 rfl rfl z3N (bi1 (kd:=.i64) rfl) (bi1 (kd:=.i64) rfl) hb44.1 hb44.2.1 (zes hb44.2.2)) ?_
      refine zB (znq (l:=s_36.toNat) (r:=((IntKind.i64.wrap (s_36+1))).toNat) 1 rfl (by first | omega | exact Int.toNat_le_toNat hb44.2.1) (zgs hb44.2.2)) ?_
      refine zB (retell 3 (g:=ro (subS v17 3 s_36.toNat (((IntKind.i64.wrap (s_36+1))).toNat)) 3 (((r15.1.take (((IntKind.i64.wrap (s_36+1))).toNat)).drop s_36.toNat).map z6.enc)) rfl (congrArg (ro _ _) (zoQ _ _ _))) ?_
      refine cl0 [(3,0),(2,0)] Tryz.call16 (fun h=>zaA h) h (fun r45 h=>?_)
      refine ys ?_
      refine zc ?_
      refine zH ?_
      refine rj [0,1,6,12,13] [0,2] ?_
      refine z8 ?_
      refine ys ?_
      refine zd ?_
      refine rc h (fun _ h=>?_) (fun _ h=>?_)
      ·refine zh ?_
       refine ys ?_
       refine zd ?_
       refine zA ?_
       obtain rfl:=zU h
       obtain rfl:=hstop39 _ rfl
       skip
       obtain rfl:=zM ho33
       exact ft [4] [] Tryz.results4
      ·refine run_skip ?_
       refine ze ?_
       refine ys ?_
       obtain ⟨hb48,h⟩:=zX h
       refine zq (OpY.to (v':=.string (bs (s_0.take ((r7.2.At).toNat)))) (z5R (l:=0) (r:=r7.2.At) Tryz.runUnderlying9 rfl bi0 (bi1 (kd:=.i64) rfl) hb48.1 hb48.2.1 hb48.2.2) (by simp)) ?_
       refine ys ?_
       obtain ⟨hs49,h⟩:=zX h
       refine zq (zdd rfl rfl hs49) ?_
       obtain ⟨hs50,h⟩:=zX h
       refine zq (zdd rfl rfl hs50) ?_
       refine ys ?_
       obtain ⟨hs51,h⟩:=zX h
       refine zq (zdd rfl rfl hs51) ?_
       refine cl2 [(1,0)] Tryz.call12 (fun h=>z3m h) h (fun r52 v54 v55 h=>?_)
       refine ys ?_
       refine al fun b56=>?_
       refine oh [0,1,2,3,4] [box b12 [.int .i64 r7.2.At,.int .i64 r7.2.E],globA,nro v54 zz r52.1.Policies,nro v55 zw r52.1.Programs,box b56 [.slice none 0 0,.slice none 0 0]] ?_
       refine al fun b57=>?_
       refine ys ?_
       refine za ?_
       refine ys ?_
       obtain ⟨hb60,h⟩:=zX h
       refine zq (OpY.to (v':=.string (bs (s_0.take ((r7.2.At).toNat)))) (z5R (l:=0) (r:=r7.2.At) Tryz.runUnderlying9 rfl bi0 (bi1 (kd:=.i64) rfl) hb60.1 hb60.2.1 hb60.2.2) (by simp)) ?_
       refine cl2 [(1,0)] Tryz.call12 (fun h=>z3m h) h (fun r61 v63 v64 h=>?_)
       refine ys ?_
       refine al fun b65=>?_
       refine al fun b66=>?_
       refine ys ?_
       refine zc ?_
       refine rj [6,15,17] [0,1,5,9] ?_
       refine z8 ?_
       refine cl0 [(1,0)] Tryz.call11 (fun h=>z1P h) h (fun r69 h=>?_)
       refine ys ?_
       refine oe 9 [6,17] [1,2,4] (fun s=>[(111,.bool s)]) (r69 && ((decide (r52.2.At=r7.2.At) && (decide (r52.2.E=r7.2.E))) || decide (r52.2.E=2))) (fun _ hL72=>?_) ?_
       ·refine z1c 102 r69 rfl (fun hg73=>?_) (fun hg73=>?_)
        ·skip
         refine ys ?_
         refine zq (y_eqS (by kernel_rfl) (by kernel_rfl) Tryz.runUnderlying29 rfl rfl (.cons (z7k (by decide) Tryz.runUnderlying3 Tryz.isAgg3 rfl rfl) (.cons (z7k (by decide) Tryz.runUnderlying27 Tryz.isAgg27 rfl rfl) EqFs.nil))) ?_
         refine ys ?_
         refine oe 4 [6,17,102] [1,2,4] (fun s=>[(110,.bool s)]) ((decide (r52.2.At=r7.2.At) && (decide (r52.2.E=r7.2.E))) || decide (r52.2.E=2)) (fun _ hL75=>?_) ?_
         ·refine z1c 106 (decide (r52.2.At=r7.2.At) && (decide (r52.2.E=r7.2.E))) rfl (fun hg76=>?_) (fun hg76=>?_)
          ·skip
           refine ys ?_
           refine zr ?_
           exact gc hL75 true [0,1,3] (hi:=by rw [hg76]; simp)
          ·skip
           refine ys ?_
           refine zr ?_
           exact gc hL75 (decide (r52.2.E=2)) [0,1,3] (hi:=by rw [hg76]; simp)
         refine os ?_
         refine ys ?_
         refine zr ?_
         exact gc hL72 ((decide (r52.2.At=r7.2.At) && (decide (r52.2.E=r7.2.E))) || decide (r52.2.E=2)) [0,1,2] (hi:=by rw [hg73]; simp)
        ·skip
         refine ys ?_
         refine z2p 5 false 106 rfl rfl rfl rfl rfl ?_
         refine z2p 5 false 106 rfl rfl rfl rfl rfl ?_
         refine z2p 5 false 106 rfl rfl rfl rfl rfl ?_
         refine ys ?_
         refine zr ?_
         exact gc hL72 false [0,1,3] (hi:=by rw [hg73]; simp)
       refine os ?_
       refine ys ?_
       refine oe 16 [] [2] (fun s=>[(128,.bool s)]) ((r69 && ((decide (r52.2.At=r7.2.At) && (decide (r52.2.E=r7.2.E))) || decide (r52.2.E=2))) && (decide (r61.2.E=0) || (decide (r61.2.E=180) && decide (r61.2.At=r7.2.At)))) (fun _ hL78=>?_) ?_
       ·refine z1c 112 (r69 && ((decide (r52.2.At=r7.2.At) && (decide (r52.2.E=r7.2.E))) || decide (r52.2.E=2))) rfl (fun hg79=>?_) (fun hg79=>?_)
        ·skip
         refine ys ?_
         refine oe 11 [112] [2] (fun s=>[(127,.bool s)]) (decide (r61.2.E=0) || (decide (r61.2.E=180) && decide (r61.2.At=r7.2.At))) (fun _ hL81=>?_) ?_
         ·refine z1c 116 (decide (r61.2.E=0)) rfl (fun hg82=>?_) (fun hg82=>?_)
          ·skip
           refine ys ?_
           refine z2p 19 true 120 rfl rfl rfl rfl rfl ?_
           refine z2p 19 true 120 rfl rfl rfl rfl rfl ?_
           refine z2p 19 true 120 rfl rfl rfl rfl rfl ?_
           refine z2p 19 true 120 rfl rfl rfl rfl rfl ?_
           refine z2p 19 true 120 rfl rfl rfl rfl rfl ?_
           refine oh [1] [globA] ?_
           refine ys ?_
           refine zr ?_
           exact gc hL81 true [0] (hi:=by rw [hg82]; simp)
          ·skip
           refine ys ?_
           refine oe 6 [112,116] [2] (fun s=>[(126,.bool s)]) (decide (r61.2.E=180) && decide (r61.2.At=r7.2.At)) (fun _ hL84=>?_) ?_
           ·refine z1c 120 (decide (r61.2.E=180)) rfl (fun hg85=>?_) (fun hg85=>?_)
            ·skip
             refine ys ?_
             refine oh [1] [globA] ?_
             refine ys ?_
             refine zr ?_
             exact gc hL84 (decide (r61.2.At=r7.2.At)) [0] (hi:=by rw [hg85]; simp)
            ·skip
             refine ys ?_
             refine oh [1] [globA] ?_
             refine ys ?_
             refine zr ?_
             exact gc hL84 false [0] (hi:=by rw [hg85]; simp)
           refine os ?_
           refine ys ?_
           refine zr ?_
           exact gc hL81 (decide (r61.2.E=180) && decide (r61.2.At=r7.2.At)) [0] (hi:=by rw [hg82]; simp)
         refine os ?_
         refine ys ?_
         refine zr ?_
         exact gc hL78 (decide (r61.2.E=0) || (decide (r61.2.E=180) && decide (r61.2.At=r7.2.At))) [0] (hi:=by rw [hg79]; simp)
        ·skip
         refine ys ?_
         refine z2p 15 false 116 rfl rfl rfl rfl rfl ?_
         refine z2p 15 false 116 rfl rfl rfl rfl rfl ?_
         refine z2p 15 false 116 rfl rfl rfl rfl rfl ?_
         refine z2p 15 false 116 rfl rfl rfl rfl rfl ?_
         refine z2p 19 true 120 rfl rfl rfl rfl rfl ?_
         refine z2p 19 true 120 rfl rfl rfl rfl rfl ?_
         refine z2p 19 true 120 rfl rfl rfl rfl rfl ?_
         refine z2p 19 true 120 rfl rfl rfl rfl rfl ?_
         refine z2p 19 true 120 rfl rfl rfl rfl rfl ?_
         refine z2p 15 false 116 rfl rfl rfl rfl rfl ?_
         refine oh [1] [globA] ?_
         refine ys ?_
         refine zr ?_
         exact gc hL78 false [0] (hi:=by rw [hg79]; simp)
       refine os ?_
       refine ys ?_
       refine zd ?_
       refine zA ?_
       obtain rfl:=zU h
       obtain rfl:=hstop39 _ rfl
       skip
       obtain rfl:=zM ho33
       exact ft [4] [] Tryz.results4
    ·refine z1h _ rfl ?_
     exact gk hL34 hstop39 () [0,2] h
   rintro _ _ h
   refine rs ?_
   refine zh ?_
   refine cl0 [(1,0)] Tryz.call11 (fun h=>z1P h) h (fun r86 h=>?_)
   refine ys ?_
   refine oq 6 131 137 [] [1] (r86 && decide (r7.2.At=(s_0.length:Int))) ?_
   refine ys ?_
   refine zd ?_
   refine zA ?_
   exact fs [4] [] Tryz.results4 h
end Go.Proofs.YtcmaoifiiigggaaGreatDoor
