/-
  The examples that every topo law looks at first.
-/
import Derived.Test.YtigiikkenamneaaFd
namespace Go.Proofs.Ytigiikkenamneaa
open Go.Abs
theorem sane (n : Nat) : law42_sanity (n + 60) = some true := by kernel_rfl
end Go.Proofs.Ytigiikkenamneaa
