/-
  Functions that the law ParserMatchesSpec needs, lifted.
-/
import Derived.Test.YtcmaoifiiigggaaGreatDoorV5G3i
set_option linter.unusedSimpArgs false
set_option linter.unusedVariables false
namespace Go.Proofs.YtcmaoifiiigggaaGreatDoor
open Go.Abs
set_option maxRecDepth 20000
set_option maxHeartbeats 4000000
def zbu (s_0:(List UInt8)) (l_1:(List z6)) (i_2:Int):Option (z11):=
 cond (decide ((l_1.length:Int)≤i_2))
  (some (z11.mk (s_0.length:Int) 180))
  (idx l_1 i_2 fun x3=>
  some (z11.mk x3.At 180))
theorem zeV {s_0:(List UInt8)} {l_1:(List z6)} {i_2:Int} {l_1v:Value} {r:z11} (h:zbu s_0 l_1 i_2=some r) :
  Meets Tryz.prog 37 [.string (bs s_0),l_1v,.int .i64 i_2] [ro l_1v 3 (l_1.map z6.enc)] (fun v G=>v = .agg #[.int .i64 r.At,.int .i64 r.E]∧G=[]):=by
 refine zN Tryz.func37 rfl Tryz.ntmps37 rfl (fun w0 o0=>?_)
 refine zh ?_
 refine al fun b1=>?_
 refine zc ?_
 refine zh ?_
 refine ys ?_
 refine zd ?_
 refine rc h (fun _ h=>?_) (fun _ h=>?_)
 ·refine zh ?_
  refine ys ?_
  refine zd ?_
  refine zA ?_
  exact fr [] Tryz.results37 h
 ·refine run_skip ?_
  refine ze ?_
  refine ys ?_
  obtain ⟨x3,hzx3,hlx3,hxx3,h⟩:=zP h
  refine ys ?_
  refine zd ?_
  refine zA ?_
  exact fr [] Tryz.results37 h
end Go.Proofs.YtcmaoifiiigggaaGreatDoor
