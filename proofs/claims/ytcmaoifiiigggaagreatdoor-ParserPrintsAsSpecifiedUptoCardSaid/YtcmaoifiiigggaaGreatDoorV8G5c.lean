/-
  Functions that the law ParserReadsExpressions needs, lifted.
-/
import Derived.Test.YtcmaoifiiigggaaGreatDoorV8G5b
set_option linter.unusedSimpArgs false
set_option linter.unusedVariables false
namespace Go.Proofs.YtcmaoifiiigggaaGreatDoor
open Go.Abs Tryz
set_option maxRecDepth 20000
set_option maxHeartbeats 4000000
def z7o (n:Nat) (x_0:zi):Option (z2n):=
 obind (z93 n x_0) fun r3=>
 cond (!r3)
  (some (z2n.mk [] 3))
  (obind (z5X n x_0) fun r6=>
  obind (z9t n r6) fun r9=>
  some r9)
theorem zbg {n:Nat} {x_0:zi} {j0:Value} {r:z2n} (h:z7o n x_0=some r) :
  Meets Tryz.prog 21 [.agg #[.int .i64 x_0.Op,.int .i64 x_0.At,.string (bs x_0.S),j0]] [nro j0 zj x_0.Args] (fun v G=>v = .agg #[.string (bs r.S),.int .i64 r.E]∧G=[]):=by
 refine zN func21 rfl ntmps21 rfl (fun w0 o0=>?_)
 refine zh (lB fun b1=>?_)
 refine al fun b2=>?_
 refine yn 2 ?_
 obtain ⟨r3,hr4,h⟩:=zJ h
 refine zt (tc [(0,0)] call54 (zdI hr4)) ?_
 rintro _ _ ⟨_,⟨rfl,rfl⟩,rfl⟩
 refine yc 5 h (fun _ h=>?_) fun _ h=>?_
 ·refine yn 4 ?_
  exact fr [] results21 h
 ·refine yn 3 ?_
  obtain ⟨r6,hr7,h⟩:=zJ h
  refine zt (tc [(0,0)] call56 (z9i hr7)) ?_
  rintro v8 _ ⟨_,⟨_,rfl,rfl⟩,rfl⟩
  refine cl0 [(3,1)] call55 (fun h=>zcV h) h (fun r9 h=>?_)
  refine yn 3 ?_
  exact fr [] results21 h
end Go.Proofs.YtcmaoifiiigggaaGreatDoor
