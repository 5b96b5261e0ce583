/-
  The law ParserIgnoresSpaces, lifted.
-/
import Derived.Test.YtcmaoifiiigggaaGreatDoorFq
import Derived.Test.YtcmaoifiiigggaaGreatDoorV7G3l
import Derived.Test.YtcmaoifiiigggaaGreatDoorV7G7a
set_option linter.unusedSimpArgs false
set_option linter.unusedVariables false
namespace Go.Proofs.YtcmaoifiiigggaaGreatDoor
open Go.Abs
set_option maxRecDepth 20000
set_option maxHeartbeats 4000000
def z3H (n:Nat) (put_1:(List UInt8)) (r10:(List z6)×z11):((List UInt8)×Int)→Option (Lp ((List UInt8)×Int) (Lp ((List UInt8)) (Bool))):=
 fun (out_34,s_35)=>
  cond (decide (s_35<(r10.1.length:Int)))
   (need (0≤s_35∧s_35≤(IntKind.i64.wrap (s_35+1))∧(IntKind.i64.wrap (s_35+1))≤(r10.1.length:Int)) (
   obind (z8n n ((r10.1.take (((IntKind.i64.wrap (s_35+1))).toNat)).drop s_35.toNat)) fun r42=>
   cond (decide (r42.2≠0))
    (some (.stop (.stop false)))
    (need ((put_1.length:Int)≠0) (
    idx put_1 (s_35.tmod (put_1.length:Int)) fun x46=>
    idx ([[32],[10],[9,32],[32,35,32,108,101,116,32,97,32,61,32,49,59,10],[35,10,35,125,10]]:List (List UInt8)) (((x46).toNat:Int).tmod 5) fun x47=>
    need (r42.1.length+x47.length≤4294967296) (
    need (out_34.length+(r42.1++x47).length≤4294967296) (
    some (.go ((out_34++(r42.1++x47)),(IntKind.i64.wrap (s_35+1))))))))))
   (some (.stop (.go out_34)))
def z5B (n:Nat) (s_0:(List UInt8)) (put_1:(List UInt8)):Option (Bool):=
 cond ((decide (1000<(s_0.length:Int)) || decide ((put_1.length:Int)=0)) || decide (20<(put_1.length:Int)))
  (obind (z1X n) fun r8=>
  some r8)
  (obind (z4J n s_0) fun r10=>
  cond (decide (r10.2.E≠0))
   (obind (z39 n s_0) fun r15=>
   obind (z1X n) fun r23=>
   some (r23 && (decide (r10.2.At=r15.2.At) && (decide (r10.2.E=r15.2.E)))))
   (bindJ (S := (List UInt8))
    (iter (z3H n put_1 r10) n ([],0))
   (fun out_29 =>
    obind (z39 n s_0) fun r50=>
    obind (z39 n out_29) fun r58=>
    obind (z1X n) fun r66=>
    bindJ (S:=Bool)
     (cond (r66 && decide (r50.2.E = r58.2.E))
      (obind (z67 n r50.1) fun r77=>
      obind (z67 n r58.1) fun r81=>
      obind (z5T n r77 r81) fun r85=>
      some (.go r85))
      (some (.go false)))
    (fun b71 =>
     some b71))))
theorem z9Y (n:Nat) (s_0:(List UInt8)) (put_1:(List UInt8)) (put_1v:Value) {r:Bool} (h:z5B n s_0 put_1=some r) :
  Meets Tryz.prog 7 [.string (bs s_0),put_1v] [ro put_1v 1 (put_1.map eB8),globA] (fun v G=>v = .bool r∧G=[]):=by
 refine zN Tryz.func7 rfl Tryz.ntmps7 rfl (fun w0 o0=>?_)
 refine zh ?_
 refine ys ?_
 refine zc ?_
 refine zh ?_
 refine ys ?_
 refine oq 4 21 25 [0,1] [0,1] (decide (1000<(s_0.length:Int)) || decide ((put_1.length:Int)=0)) ?_
 refine ys ?_
 refine oq 4 26 30 [0,1] [0,1] ((decide (1000<(s_0.length:Int)) || decide ((put_1.length:Int)=0)) || decide (20<(put_1.length:Int))) ?_
 refine zd ?_
 refine rc h (fun _ h=>?_) (fun _ h=>?_)
 ·refine zh ?_
  refine cl0 [(1,0)] Tryz.call11 (fun h=>z1P h) h (fun r8 h=>?_)
  refine ys ?_
  refine zd ?_
  refine zA ?_
  exact fs [4] [] Tryz.results7 h
 ·refine run_skip ?_
  refine ze ?_
  refine ys ?_
  refine cl1 [(1,0)] Tryz.call15 (fun h=>z66 h) h (fun r10 v12 h=>?_)
  refine ys ?_
  refine al fun b13=>?_
  refine ys ?_
  refine zc ?_
  refine zH ?_
  refine rj [0,1,6,5] [0,1,2,3] ?_
  refine z8 ?_
  refine ys ?_
  refine zd ?_
  refine rc h (fun _ h=>?_) (fun _ h=>?_)
  ·refine zh ?_
   refine ys ?_
   refine cl2 [(1,0)] Tryz.call12 (fun h=>z3m h) h (fun r15 v17 v18 h=>?_)
   refine ys ?_
   refine al fun b19=>?_
   refine al fun b20=>?_
   refine ys ?_
   refine zc ?_
   refine rj [6,8] [1,3,7] ?_
   refine z8 ?_
   refine cl0 [(0,0)] Tryz.call11 (fun h=>z1P h) h (fun r23 h=>?_)
   refine ys ?_
   refine oe 4 [] [1] (fun s=>[(50,.bool s)]) (r23 && (decide (r10.2.At=r15.2.At) && (decide (r10.2.E=r15.2.E)))) (fun _ hL26=>?_) ?_
   ·refine z1c 46 r23 rfl (fun hg27=>?_) (fun hg27=>?_)
    ·skip
     refine ys ?_
     refine zq (y_eqS (by kernel_rfl) (by kernel_rfl) Tryz.runUnderlying29 rfl rfl (.cons (z7k (by decide) Tryz.runUnderlying3 Tryz.isAgg3 rfl rfl) (.cons (z7k (by decide) Tryz.runUnderlying27 Tryz.isAgg27 rfl rfl) EqFs.nil))) ?_
     refine ys ?_
     refine zr ?_
     exact gc hL26 (decide (r10.2.At=r15.2.At) && (decide (r10.2.E=r15.2.E))) [0] (hi:=by rw [hg27]; simp)
    ·skip
     refine ys ?_
     refine zr ?_
     exact gc hL26 false [0] (hi:=by rw [hg27]; simp)
   refine os ?_
   refine ys ?_
   refine zd ?_
   refine zA ?_
   exact fs [4] [] Tryz.results7 h
  ·refine run_skip ?_
   refine ze ?_
   refine zt (t_lit [.string (bs [32]),.string (bs [10]),.string (bs [9,32]),.string (bs [32,35,32,108,101,116,32,97,32,61,32,49,59,10]),.string (bs [35,10,35,125,10])] Tryz.runUnderlying62 Tryz.sizeOf9 Tryz.zeroValue9 rfl (by decide) (by decide) rfl (by simp [Value.cells,boxP])) ?_
   rintro v28 _ ⟨rfl,_⟩
   refine zB (retell 4 (g:=row v28 1 (([[32],[10],[9,32],[32,35,32,108,101,116,32,97,32,61,32,49,59,10],[35,10,35,125,10]]:List (List UInt8)).map eStr)) rfl rfl) ?_
   refine ys ?_
   refine za ?_
   refine ys ?_
   refine zd ?_
   refine jr h [0] [2] (fun s (g:Unit)=>[(10,.string (bs s))]) (fun s g=>[]) (fun _ h ho31 _ hL32=>?_) ?_
   ·refine zh ?_
    refine ys ?_
    refine zd ?_
    refine zF ?_
    refine z3x (Go.Abs.freeze 2 rfl) ?_
    refine lo h [0,1,5,9,53] [1,3,5,2] (fun s (g:Unit)=>[(10,.string (bs s.1)),(54,.int .i64 s.2)]) (fun s g=>[]) () [0,2,4,1] ?_
    rintro ⟨_,s_35⟩ _ _ h _ hgo37 hstop38
    refine rs ?_
    refine zh ?_
    refine ys ?_
    refine zc ?_
    refine rc h (fun _ h=>?_) (fun _ h=>?_)
    ·refine run_skip ?_
     refine zg ?_
     refine zF ?_
     refine zh ?_
     refine ys ?_
     refine za ?_
     refine ys ?_
     obtain ⟨hb41,h⟩:=zX h
     refine zq (zle (l:=s_35) (r:=(IntKind.i64.wrap (s_35+1))) 1 Tryz.runUnderlying37 Tryz.sizeOf41 rfl rfl z3N (bi1 (kd:=.i64) rfl) (bi1 (kd:=.i64) rfl) hb41.1 hb41.2.1 (zes hb41.2.2)) ?_
     refine zB (znq (l:=s_35.toNat) (r:=((IntKind.i64.wrap (s_35+1))).toNat) 1 rfl (by first | omega | exact Int.toNat_le_toNat hb41.2.1) (zgs hb41.2.2)) ?_
     refine zB (retell 4 (g:=ro (subS v12 3 s_35.toNat (((IntKind.i64.wrap (s_35+1))).toNat)) 3 (((r10.1.take (((IntKind.i64.wrap (s_35+1))).toNat)).drop s_35.toNat).map z6.enc)) rfl (congrArg (ro _ _) (zoQ _ _ _))) ?_
     refine cl0 [(4,0),(3,0)] Tryz.call16 (fun h=>zaA h) h (fun r42 h=>?_)
     refine ys ?_
     refine zc ?_
     refine zH ?_
     refine rj [10,54,0,1,5,9,53,11,12,13] [0,1,2,3] ?_
     refine z8 ?_
     refine ys ?_
     refine zd ?_
     refine rc h (fun _ h=>?_) (fun _ h=>?_)
     ·refine zh ?_
      refine ys ?_
      refine zd ?_
      refine zA ?_
      obtain rfl:=zU h
      obtain rfl:=hstop38 _ rfl
      skip
      obtain rfl:=zM ho31
      exact ft [4] [] Tryz.results7
     ·refine run_skip ?_
      refine zf ?_
      refine ys ?_
      obtain ⟨hd45,h⟩:=zX h
      refine zq (y_rem rfl rfl hd45) ?_
      obtain ⟨x46,hzx46,hlx46,hxx46,h⟩:=zP h
      refine ys ?_
      refine zq (y_rem rfl rfl (by decide)) ?_
      obtain ⟨x47,hzx47,hlx47,hxx47,h⟩:=zP h
      refine ys ?_
      obtain ⟨hs48,h⟩:=zX h
      refine zq (zdd rfl rfl hs48) ?_
      refine oh [0,1,2,3] [ro put_1v 1 (put_1.map eB8),ro v12 3 (r10.1.map z6.enc),row v28 1 (([[32],[10],[9,32],[32,35,32,108,101,116,32,97,32,61,32,49,59,10],[35,10,35,125,10]]:List (List UInt8)).map eStr),globA] ?_
      obtain ⟨hs49,h⟩:=zX h
      refine zq (zdd rfl rfl hs49) ?_
      refine ys ?_
      refine zr ?_
      refine zS ?_
      refine zf ?_
      refine ys ?_
      refine zr ?_
      exact gj hgo37 () [0,1,2,3] h
    ·refine z1h _ rfl ?_
     exact gk hL32 hstop38 () [3] h
   rintro out_29 _ h
   refine rs ?_
   refine zh ?_
   refine ys ?_
   refine cl2 [(0,0)] Tryz.call12 (fun h=>z3m h) h (fun r50 v52 v53 h=>?_)
   refine ys ?_
   refine al fun b54=>?_
   refine al fun b55=>?_
   refine ys ?_
   refine zc ?_
   refine rj [10,14,15] [0,1,2,3,4] ?_
   refine z8 ?_
   refine ys ?_
   refine cl2 [(0,0)] Tryz.call12 (fun h=>z3m h) h (fun r58 v60 v61 h=>?_)
   refine ys ?_
   refine al fun b62=>?_
   refine al fun b63=>?_
   refine ys ?_
   refine zc ?_
   refine rj [14,15,16,17] [0,1,2,3,4,5,6,7,8] ?_
   refine rf [1,1,1,1,1,1,1,1,1] fun hS=>?_
   refine al0 0 [(0,0)] Tryz.call11 (fun h=>z1P h) h (fun r66 h=>?_)
   refine aq [1] ?_
   refine ae [8,8] 8 [14,16] [1,2,3,4,5,6,7,8,9] (fun s=>[(101,.bool s)]) (r66 && decide (r50.2.E=r58.2.E)) (fun hL69=>?_) ?_
   ·refine z1L 95 r66 rfl (fun hg70=>?_) (fun hg70=>?_)
    ·skip
     refine aq [2,3,4,5,6,7] ?_
     exact aw (hL69 (decide (r50.2.E=r58.2.E)) (by rw [hg70]; simp)) [0,1,2,3,4,5,6,7,8]
    ·skip
     refine aq [2,3,4,5,6,7] ?_
     exact aw (hL69 false (by rw [hg70]; simp)) [0,1,2,3,4,5,6,7,8]
   refine az ?_
   refine aq [8] ?_
   refine ab h [15,1] 1 [] [1,2,3,4,5,6,7,8,9] (fun s=>[(108,.bool s)]) (fun s=>[]) (fun _ h _ hL75=>?_) ?_
   ·refine z1L 102 (r66 && decide (r50.2.E=r58.2.E)) rfl (fun hg76=>?_) (fun hg76=>?_)
    ·replace h:=z2F h hg76
     refine aq [9,11] ?_
     refine al2 10 [(1,0),(2,0)] Tryz.call24 (fun h=>z5U h) h (fun r77 v79 v80 h=>?_)
     refine al2 12 [(5,0),(6,0)] Tryz.call24 (fun h=>z5U h) h (fun r81 v83 v84 h=>?_)
     refine al0 13 [(9,1),(10,1),(11,1),(12,1)] Tryz.call14 (fun h=>z6x h) h (fun r85 h=>?_)
     refine aq [14] ?_
     exact aw (hL75 _ (zU h).symm) [0,1,2,3,4,5,6,7,8]
    ·replace h:=z2E h hg76
     refine aq [9,11,10,12,13,14] ?_
     exact aw (hL75 _ (zU h).symm) [0,1,2,3,4,5,6,7,8]
   rintro b71 h
   refine az ?_
   refine aq [15] ?_
   refine z1K (by kernel_rfl) ?_
   refine zD ?_
   refine zA ?_
   exact fs [4] [] Tryz.results7 h
end Go.Proofs.YtcmaoifiiigggaaGreatDoor
