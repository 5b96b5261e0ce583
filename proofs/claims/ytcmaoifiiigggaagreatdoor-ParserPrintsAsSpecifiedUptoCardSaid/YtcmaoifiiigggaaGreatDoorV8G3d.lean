/-
  Functions that the law ParserMatchesSpec needs, lifted.
-/
import Derived.Test.YtcmaoifiiigggaaGreatDoorV8Fa
set_option linter.unusedSimpArgs false
set_option linter.unusedVariables false
namespace Go.Proofs.YtcmaoifiiigggaaGreatDoor
open Go.Abs Tryz
set_option maxRecDepth 20000
set_option maxHeartbeats 4000000
def z7D  : Option ((List (List UInt8))):=
 some ([[114,101,97,100,115],[119,114,105,116,101,115],[115,116,97,116,117,115],[108,111,103],[100,101,110,121],[114,101,112,108,121]]:List (List UInt8))
theorem zag:K5 z7D 137:=by
 intro  r h
 refine zN func137 rfl ntmps137 rfl (fun w0 o0=>?_)
 refine yn 3 ?_
 refine lS [[114,101,97,100,115],[119,114,105,116,101,115],[115,116,97,116,117,115],[108,111,103],[100,101,110,121],[114,101,112,108,121]] fun _=>?_
 refine yn 3 ?_
 exact fs [0] [0] results137 h
end Go.Proofs.YtcmaoifiiigggaaGreatDoor
