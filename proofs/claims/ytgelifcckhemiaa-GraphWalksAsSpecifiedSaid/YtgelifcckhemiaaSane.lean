/-
  The examples of the document.
-/
import Derived.Test.YtgelifcckhemiaaFe
namespace Go.Proofs.Ytgelifcckhemiaa
open Go.Abs
theorem sane (n : Nat) : law09_sanity (n + 40) = some true := by kernel_rfl
end Go.Proofs.Ytgelifcckhemiaa
