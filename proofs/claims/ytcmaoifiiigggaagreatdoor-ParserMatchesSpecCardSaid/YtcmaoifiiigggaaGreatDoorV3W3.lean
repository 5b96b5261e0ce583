/-
  The law ParserMatchesSpec, lifted.
-/
import Derived.Test.YtcmaoifiiigggaaGreatDoorFq
import Derived.Test.YtcmaoifiiigggaaGreatDoorV3G3k
import Derived.Test.YtcmaoifiiigggaaGreatDoorV3G3l
set_option linter.unusedSimpArgs false
set_option linter.unusedVariables false
namespace Go.Proofs.YtcmaoifiiigggaaGreatDoor
open Go.Abs
set_option maxRecDepth 20000
set_option maxHeartbeats 4000000
def z6c (n:Nat) (s_0:(List UInt8)):Option (Bool):=
 cond (decide (2000<(s_0.length:Int)))
  (obind (z1X n) fun r2=>
  some r2)
  (obind (z39 n s_0) fun r4=>
  obind (zdh n s_0) fun r12=>
  obind (z1X n) fun r19=>
  bindJ (S:=Bool)
   (cond (r19 && (decide (r4.2.At = r12.P.At) && (decide (r4.2.E = r12.P.E))))
    (obind (z5T n r4.1 r12.X) fun r30=>
    some (.go r30))
    (some (.go false)))
  (fun b24 =>
   some b24))
theorem zaT (n:Nat) (s_0:(List UInt8))  {r:Bool} (h:z6c n s_0=some r) :
  Meets Tryz.prog 3 [.string (bs s_0)] [globA] (fun v G=>v = .bool r∧G=[]):=by
 refine zN Tryz.func3 rfl Tryz.ntmps3 rfl (fun w0 o0=>?_)
 refine zh (ys ?_)
 refine zc (zh (ys ?_))
 refine zd (rc h (fun _ h=>?_) (fun _ h=>?_))
 ·refine zh (cl0 [(0,0)] Tryz.call11 (fun h=>z1P h) h (fun r2 h=>?_))
  refine ys ?_
  refine zd (zA ?_)
  exact fs [2] [] Tryz.results3 h
 ·refine run_skip (ze ?_)
  refine ys ?_
  refine cl2 [(0,0)] Tryz.call12 (fun h=>z3m h) h (fun r4 v6 v7 h=>?_)
  refine ys ?_
  refine al fun b8=>?_
  refine al fun b9=>?_
  refine ys ?_
  refine zc (rj [0,3,4] [0,1,2,3,4] ?_)
  refine z8 (ys ?_)
  refine cl2 [] Tryz.call13 (fun h=>zij h) h (fun r12 v14 v15 h=>?_)
  refine al fun b16=>?_
  refine ys ?_
  refine za (cl0 [(0,0)] Tryz.call11 (fun h=>z1P h) h (fun r19 h=>?_))
  refine ys ?_
  refine oe 5 [3,5] [1,2,3,4,6,7,8] (fun s=>[(23,.bool s)]) (r19 && (decide (r4.2.At=r12.P.At) && (decide (r4.2.E=r12.P.E)))) (fun _ j2=>?_) ?_
  ·refine z1c 18 r19 rfl (fun j0=>?_) (fun j0=>?_)
   ·skip
    refine ys ?_
    refine zq (y_eqS (by kernel_rfl) (by kernel_rfl) Tryz.runUnderlying29 rfl rfl (.cons (z7k (by decide) Tryz.runUnderlying3 Tryz.isAgg3 rfl rfl) (.cons (z7k (by decide) Tryz.runUnderlying27 Tryz.isAgg27 rfl rfl) EqFs.nil))) ?_
    refine ys ?_
    exact zr (gc j2 (decide (r4.2.At=r12.P.At) && (decide (r4.2.E=r12.P.E))) [0,1,2,3,5,6,7] (hi:=by rw [j0]; simp))
   ·skip
    refine ys ?_
    exact zr (gc j2 false [0,1,2,3,5,6,7] (hi:=by rw [j0]; simp))
  refine os ?_
  refine ys ?_
  refine ob h 5 [] [1] (fun s=>[(29,.bool s)]) (fun s=>[]) (fun _ h _ _ j3=>?_) ?_
  ·refine z1c 24 (r19 && (decide (r4.2.At=r12.P.At) && (decide (r4.2.E=r12.P.E)))) rfl (fun j1=>?_) (fun j1=>?_)
   ·replace h:=z2F h j1
    refine ys ?_
    refine cl0 [(1,0),(2,0),(4,1),(5,1)] Tryz.call14 (fun h=>z6x h) h (fun r30 h=>?_)
    refine ys ?_
    exact zr (gb j3 [0] h)
   ·replace h:=z2E h j1
    refine ys ?_
    exact zr (gb j3 [0] h)
  rintro b24 h
  refine os ?_
  refine ys ?_
  refine zd (zA ?_)
  exact fs [2] [] Tryz.results3 h
end Go.Proofs.YtcmaoifiiigggaaGreatDoor
