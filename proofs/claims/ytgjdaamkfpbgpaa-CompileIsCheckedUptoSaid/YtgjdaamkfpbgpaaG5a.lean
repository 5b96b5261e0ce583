/-
  Functions that the law CompileCodes needs, lifted.
-/
import Derived.Test.YtgjdaamkfpbgpaaFh
namespace Go.Proofs.Ytgjdaamkfpbgpaa
open Go.Abs
set_option linter.unusedVariables false
set_option linter.unusedSimpArgs false
set_option maxRecDepth 20000
set_option maxHeartbeats 4000000

end Go.Proofs.Ytgjdaamkfpbgpaa
