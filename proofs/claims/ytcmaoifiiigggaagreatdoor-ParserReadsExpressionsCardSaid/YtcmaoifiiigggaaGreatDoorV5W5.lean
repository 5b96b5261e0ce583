/-
  The law ParserReadsExpressions, lifted.
-/
import Derived.Test.YtcmaoifiiigggaaGreatDoorFq
import Derived.Test.YtcmaoifiiigggaaGreatDoorV5G5c
set_option linter.unusedSimpArgs false
set_option linter.unusedVariables false
namespace Go.Proofs.YtcmaoifiiigggaaGreatDoor
open Go.Abs
set_option maxRecDepth 20000
set_option maxHeartbeats 4000000
def z50 (n:Nat) (s_0:(List UInt8)):Option (Bool):=
 cond (decide (500<(s_0.length:Int)))
  (obind (z1X n) fun r2=>
  some r2)
  (obind (z8Z n s_0) fun r4=>
  obind (zeC n s_0) fun r10=>
  bindJ (S:=Bool)
   (cond (!(decide (r4.2.At = r10.P.At) && (decide (r4.2.E = r10.P.E))))
    (some (.go true))
    (obind (z6Q n r4.1 r10.X) fun r21=>
    some (.go (!r21))))
  (fun b15 =>
   cond b15
    (some false)
    (cond (decide (r4.2.E ≠ 0))
     (obind (z1X n) fun r25=>
     some r25)
     (obind (z5C n r4.1) fun r27=>
     obind (z7o n r4.1) fun r29=>
     obind (z1X n) fun r32=>
     some ((r32 && decide (r27.1=r29.S)) && decide (r27.2=r29.E))))))
theorem z9l (n:Nat) (s_0:(List UInt8))  {r:Bool} (h:z50 n s_0=some r) :
  Meets Tryz.prog 5 [.string (bs s_0)] [globA] (fun v G=>v = .bool r∧G=[]):=by
 refine zN Tryz.func5 rfl Tryz.ntmps5 rfl (fun w0 o0=>?_)
 refine zh ?_
 refine ys ?_
 refine zc ?_
 refine zh ?_
 refine ys ?_
 refine zd ?_
 refine rc h (fun _ h=>?_) (fun _ h=>?_)
 ·refine zh ?_
  refine cl0 [(0,0)] Tryz.call11 (fun h=>z1P h) h (fun r2 h=>?_)
  refine ys ?_
  refine zd ?_
  refine zA ?_
  exact fs [2] [] Tryz.results5 h
 ·refine run_skip ?_
  refine ze ?_
  refine ys ?_
  refine cl1 [(0,0)] Tryz.call17 (fun h=>zeu h) h (fun r4 v6 h=>?_)
  refine ys ?_
  refine al fun b7=>?_
  refine al fun b8=>?_
  refine ys ?_
  refine zc ?_
  refine rj [0,3,4] [0,1,2,3] ?_
  refine z8 ?_
  refine ys ?_
  refine cl1 [] Tryz.call18 (fun h=>zjl h) h (fun r10 v12 h=>?_)
  refine al fun b13=>?_
  refine ys ?_
  refine zc ?_
  refine zh ?_
  refine ys ?_
  refine zq (y_neS (by kernel_rfl) (by kernel_rfl) Tryz.runUnderlying29 rfl rfl (.cons (z7k (by decide) Tryz.runUnderlying3 Tryz.isAgg3 rfl rfl) (.cons (z7k (by decide) Tryz.runUnderlying27 Tryz.isAgg27 rfl rfl) EqFs.nil))) ?_
  refine ys ?_
  refine ob h 6 [3,4] [1,2,3,4] (fun s=>[(30,.bool s)]) (fun s=>[]) (fun _ h _ _ hL19=>?_) ?_
  ·refine z1c 24 (!(decide (r4.2.At=r10.P.At) && (decide (r4.2.E=r10.P.E)))) rfl (fun hg20=>?_) (fun hg20=>?_)
   ·replace h:=z2F h hg20
    refine ys ?_
    refine zr ?_
    exact gb hL19 [0,1,2,3] h
   ·replace h:=z2E h hg20
    refine ys ?_
    obtain ⟨r21,hr22,h⟩:=zJ h
    refine zt (tc [(1,0),(4,0)] Tryz.call19 (zc8 hr22)) ?_
    rintro _ _ ⟨_,⟨rfl,rfl⟩,rfl⟩
    refine ys ?_
    refine zr ?_
    exact gb hL19 [0,1,2,3] h
  rintro b15 h
  refine os ?_
  refine zd ?_
  refine rc h (fun _ h=>?_) (fun _ h=>?_)
  ·refine zh ?_
   refine ys ?_
   refine zd ?_
   refine zA ?_
   exact fs [2] [] Tryz.results5 h
  ·refine run_skip ?_
   refine zg ?_
   refine zh ?_
   refine ys ?_
   refine zd ?_
   refine rc h (fun _ h=>?_) (fun _ h=>?_)
   ·refine zh ?_
    refine cl0 [(0,0)] Tryz.call11 (fun h=>z1P h) h (fun r25 h=>?_)
    refine ys ?_
    refine zd ?_
    refine zA ?_
    exact fs [2] [] Tryz.results5 h
   ·refine run_skip ?_
    refine ze ?_
    refine ys ?_
    refine cl0 [(1,0),(0,0)] Tryz.call20 (fun h=>z8r h) h (fun r27 h=>?_)
    refine ys ?_
    refine zc ?_
    refine rj [3,6,7] [0,1,2] ?_
    refine z8 ?_
    refine ys ?_
    refine cl0 [(1,0)] Tryz.call21 (fun h=>zbg h) h (fun r29 h=>?_)
    refine al fun b31=>?_
    refine ys ?_
    refine za ?_
    refine cl0 [(0,0)] Tryz.call11 (fun h=>z1P h) h (fun r32 h=>?_)
    refine ys ?_
    refine oq 5 43 48 [7,8] [0,3] (r32 && decide (r27.1=r29.S)) ?_
    refine ys ?_
    refine oq 5 49 54 [] [0] ((r32 && decide (r27.1=r29.S)) && decide (r27.2=r29.E)) ?_
    refine ys ?_
    refine zd ?_
    refine zA ?_
    exact fs [2] [] Tryz.results5 h
end Go.Proofs.YtcmaoifiiigggaaGreatDoor
