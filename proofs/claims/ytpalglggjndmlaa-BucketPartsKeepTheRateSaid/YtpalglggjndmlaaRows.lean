/-
  No cell of these rows narrows 'for every input' (looked for: loops, veiled, ifaces, maps, wideKeys, modest, calm, conditions, laid).
  DERIVED. THE GIVEN ROWS OF THIS SEAT. 6 by the template 'for every input the law returns true; each argument reads behind the call as it read before'; 0 by the template 'total and deterministic' (their statements: YtpalglggjndmlaaTotals.lean).
  GIVEN WITH THE SEED: the statements are not yours to turn. If you find one false, say at which input.
  Laid BY PROGRAM, IN A SANDBOX (cutbox-rows.mjs): the forced cells as the released guide's own fill.sh prints them over the translation e2eee82019a2349f… (all of the seat's roots in one cut). By AI agents, Wed Nov 11 2026. No macro, syntax, notation, axiom, sorry.
-/
import Derived.Test.YtpalglggjndmlaaChecked
import GoSem.Claim
import GoSem.ClaimJoined
import GoSem.ClaimMapViews
import Derived.JoinedTies
import Derived.KernelRfl
namespace Go.Proofs.Ytpalglggjndmlaa
/- THE CELL 'sum', in the pinned program and in every row, IS THE sha256 OF THE DUMP (.gsa) THAT YtpalglggjndmlaaProg.lean LOADS. Nothing in Lean hashes anything: it is a label: what it is worth is what the hold of that sum in a sandbox is worth. -/
noncomputable def Try.pinned : Pinned := { name := "ytpalglggjndmlaa", sum := "e2eee82019a2349ffbf61c8e58d3856d579e7c38fd7ad58b524925b32d89b9cd", checked := Try.checked }
namespace Rows
def none {H : Type} : Left H := { results := [], args := [] }

/-- 'weirgatelaw12.BucketMatchesSpec': WHATEVER THE INPUT: true; the input reads as it did. -/
def bucketMatchesSpecSpec : ChangeSpec := { name := "bucketMatchesSpec", fn := fun _ => fun
  | [d1, d2, d3, d4] => { results := [.lit (.bool true)], args := [d1, d2, d3, d4] }
  | _ => none }
def bucketMatchesSpecRow : OpenClaim := { program := "ytpalglggjndmlaa", sum := "e2eee82019a2349ffbf61c8e58d3856d579e7c38fd7ad58b524925b32d89b9cd", func := "weirgate/weirgatelaw12.BucketMatchesSpec", spec := "bucketMatchesSpec", apart := false }
def BucketMatchesSpecSaid : Prop := bucketMatchesSpecRow.holds Try.pinned (OpenSpec.ofChange bucketMatchesSpecSpec)

/-- ITS FALSE NEIGHBOUR: 'it returns false'. Refute it at one input. -/
def bucketMatchesSpecWrong : ChangeSpec := { name := "bucketMatchesSpec", fn := fun _ => fun
  | [d1, d2, d3, d4] => { results := [.lit (.bool false)], args := [d1, d2, d3, d4] }
  | _ => none }
def BucketMatchesSpecWrongFalsely : Prop := bucketMatchesSpecRow.holds Try.pinned (OpenSpec.ofChange bucketMatchesSpecWrong)

/-- 'weirgatelaw12.BucketKeepsItsRate': WHATEVER THE INPUT: true; the input reads as it did. -/
def bucketKeepsItsRateSpec : ChangeSpec := { name := "bucketKeepsItsRate", fn := fun _ => fun
  | [d1, d2] => { results := [.lit (.bool true)], args := [d1, d2] }
  | _ => none }
def bucketKeepsItsRateRow : OpenClaim := { program := "ytpalglggjndmlaa", sum := "e2eee82019a2349ffbf61c8e58d3856d579e7c38fd7ad58b524925b32d89b9cd", func := "weirgate/weirgatelaw12.BucketKeepsItsRate", spec := "bucketKeepsItsRate", apart := false }
def BucketKeepsItsRateSaid : Prop := bucketKeepsItsRateRow.holds Try.pinned (OpenSpec.ofChange bucketKeepsItsRateSpec)

/-- ITS FALSE NEIGHBOUR: 'it returns false'. Refute it at one input. -/
def bucketKeepsItsRateWrong : ChangeSpec := { name := "bucketKeepsItsRate", fn := fun _ => fun
  | [d1, d2] => { results := [.lit (.bool false)], args := [d1, d2] }
  | _ => none }
def BucketKeepsItsRateWrongFalsely : Prop := bucketKeepsItsRateRow.holds Try.pinned (OpenSpec.ofChange bucketKeepsItsRateWrong)

/-- 'weirgatelaw12.BucketWaitsExactly': WHATEVER THE INPUT: true; the input reads as it did. -/
def bucketWaitsExactlySpec : ChangeSpec := { name := "bucketWaitsExactly", fn := fun _ => fun
  | [d1, d2, d3] => { results := [.lit (.bool true)], args := [d1, d2, d3] }
  | _ => none }
def bucketWaitsExactlyRow : OpenClaim := { program := "ytpalglggjndmlaa", sum := "e2eee82019a2349ffbf61c8e58d3856d579e7c38fd7ad58b524925b32d89b9cd", func := "weirgate/weirgatelaw12.BucketWaitsExactly", spec := "bucketWaitsExactly", apart := false }
def BucketWaitsExactlySaid : Prop := bucketWaitsExactlyRow.holds Try.pinned (OpenSpec.ofChange bucketWaitsExactlySpec)

/-- ITS FALSE NEIGHBOUR: 'it returns false'. Refute it at one input. -/
def bucketWaitsExactlyWrong : ChangeSpec := { name := "bucketWaitsExactly", fn := fun _ => fun
  | [d1, d2, d3] => { results := [.lit (.bool false)], args := [d1, d2, d3] }
  | _ => none }
def BucketWaitsExactlyWrongFalsely : Prop := bucketWaitsExactlyRow.holds Try.pinned (OpenSpec.ofChange bucketWaitsExactlyWrong)

/-- 'weirgatelaw12.BucketRefillsInSteps': WHATEVER THE INPUT: true; the input reads as it did. -/
def bucketRefillsInStepsSpec : ChangeSpec := { name := "bucketRefillsInSteps", fn := fun _ => fun
  | [d1, d2, d3, d4] => { results := [.lit (.bool true)], args := [d1, d2, d3, d4] }
  | _ => none }
def bucketRefillsInStepsRow : OpenClaim := { program := "ytpalglggjndmlaa", sum := "e2eee82019a2349ffbf61c8e58d3856d579e7c38fd7ad58b524925b32d89b9cd", func := "weirgate/weirgatelaw12.BucketRefillsInSteps", spec := "bucketRefillsInSteps", apart := false }
def BucketRefillsInStepsSaid : Prop := bucketRefillsInStepsRow.holds Try.pinned (OpenSpec.ofChange bucketRefillsInStepsSpec)

/-- ITS FALSE NEIGHBOUR: 'it returns false'. Refute it at one input. -/
def bucketRefillsInStepsWrong : ChangeSpec := { name := "bucketRefillsInSteps", fn := fun _ => fun
  | [d1, d2, d3, d4] => { results := [.lit (.bool false)], args := [d1, d2, d3, d4] }
  | _ => none }
def BucketRefillsInStepsWrongFalsely : Prop := bucketRefillsInStepsRow.holds Try.pinned (OpenSpec.ofChange bucketRefillsInStepsWrong)

/-- 'weirgatelaw12.BucketPartsMatchSpec': WHATEVER THE INPUT: true; the input reads as it did. -/
def bucketPartsMatchSpecSpec : ChangeSpec := { name := "bucketPartsMatchSpec", fn := fun _ => fun
  | [d1, d2, d3, d4] => { results := [.lit (.bool true)], args := [d1, d2, d3, d4] }
  | _ => none }
def bucketPartsMatchSpecRow : OpenClaim := { program := "ytpalglggjndmlaa", sum := "e2eee82019a2349ffbf61c8e58d3856d579e7c38fd7ad58b524925b32d89b9cd", func := "weirgate/weirgatelaw12.BucketPartsMatchSpec", spec := "bucketPartsMatchSpec", apart := false }
def BucketPartsMatchSpecSaid : Prop := bucketPartsMatchSpecRow.holds Try.pinned (OpenSpec.ofChange bucketPartsMatchSpecSpec)

/-- ITS FALSE NEIGHBOUR: 'it returns false'. Refute it at one input. -/
def bucketPartsMatchSpecWrong : ChangeSpec := { name := "bucketPartsMatchSpec", fn := fun _ => fun
  | [d1, d2, d3, d4] => { results := [.lit (.bool false)], args := [d1, d2, d3, d4] }
  | _ => none }
def BucketPartsMatchSpecWrongFalsely : Prop := bucketPartsMatchSpecRow.holds Try.pinned (OpenSpec.ofChange bucketPartsMatchSpecWrong)

/-- 'weirgatelaw12.BucketPartsKeepTheRate': WHATEVER THE INPUT: true; the input reads as it did. -/
def bucketPartsKeepTheRateSpec : ChangeSpec := { name := "bucketPartsKeepTheRate", fn := fun _ => fun
  | [d1, d2, d3, d4] => { results := [.lit (.bool true)], args := [d1, d2, d3, d4] }
  | _ => none }
def bucketPartsKeepTheRateRow : OpenClaim := { program := "ytpalglggjndmlaa", sum := "e2eee82019a2349ffbf61c8e58d3856d579e7c38fd7ad58b524925b32d89b9cd", func := "weirgate/weirgatelaw12.BucketPartsKeepTheRate", spec := "bucketPartsKeepTheRate", apart := false }
def BucketPartsKeepTheRateSaid : Prop := bucketPartsKeepTheRateRow.holds Try.pinned (OpenSpec.ofChange bucketPartsKeepTheRateSpec)

/-- ITS FALSE NEIGHBOUR: 'it returns false'. Refute it at one input. -/
def bucketPartsKeepTheRateWrong : ChangeSpec := { name := "bucketPartsKeepTheRate", fn := fun _ => fun
  | [d1, d2, d3, d4] => { results := [.lit (.bool false)], args := [d1, d2, d3, d4] }
  | _ => none }
def BucketPartsKeepTheRateWrongFalsely : Prop := bucketPartsKeepTheRateRow.holds Try.pinned (OpenSpec.ofChange bucketPartsKeepTheRateWrong)

/- THE SECOND FORM. 'bulk': how many values and letters a reading holds, each counted each time it is reached (what is shared counts as often as it is met; a slice's spare places count too). A statement '..UptoSaid' is the law's where the arguments, and the package variables that the reading takes, are together of bulk at most 1048576: NARROWER than '..Said'. Prove '..Said' where nothing that the law and all that it calls make is longer than what came in: it says more and counts as full. Else prove '..UptoSaid'. A law counts once. -/
mutual
def uptoBulk {H : Type} : DataW H → Nat
  | .lit (.string bytes) => bytes.length + 1
  | .lit _ => 1
  | .nil => 1
  | .ptr d => uptoBulk d + 1
  | .slice elems spare => uptoBulkAll elems + uptoBulkAll spare + 1
  | .agg parts => uptoBulkAll parts + 1
  | .iface _ d => uptoBulk d + 1
  | .map entries => uptoBulkEntries entries + 1
  | .held _ => 1
def uptoBulkAll {H : Type} : List (DataW H) → Nat
  | [] => 0
  | d :: r => uptoBulk d + uptoBulkAll r
def uptoBulkEntries {H : Type} : List (Lit × DataW H) → Nat
  | [] => 0
  | x :: r => uptoBulkEntry x + uptoBulkEntries r
def uptoBulkEntry {H : Type} : Lit × DataW H → Nat
  | (.string bytes, d) => bytes.length + uptoBulk d + 1
  | (_, d) => uptoBulk d + 1
 end
def uptoSmall : (H : Type) → List (DataW H) → Bool := fun _ ds => decide (uptoBulkAll ds ≤ 1048576)
def OpenSpec.upto (s : _root_.Go.ChangeSpec) : _root_.Go.OpenSpec := { _root_.Go.OpenSpec.ofChange s with cond := some uptoSmall }

/-- 'weirgatelaw12.BucketMatchesSpec', WHERE WHAT IT READS IS OF BULK AT MOST 1048576: true; the input reads as it did. -/
def bucketMatchesSpecUptoRow : OpenClaim := { program := "ytpalglggjndmlaa", sum := "e2eee82019a2349ffbf61c8e58d3856d579e7c38fd7ad58b524925b32d89b9cd", func := "weirgate/weirgatelaw12.BucketMatchesSpec", spec := "bucketMatchesSpec", apart := false, narrowed := true }
def BucketMatchesSpecUptoSaid : Prop := bucketMatchesSpecUptoRow.holds Try.pinned (OpenSpec.upto bucketMatchesSpecSpec)

/-- 'weirgatelaw12.BucketKeepsItsRate', WHERE WHAT IT READS IS OF BULK AT MOST 1048576: true; the input reads as it did. -/
def bucketKeepsItsRateUptoRow : OpenClaim := { program := "ytpalglggjndmlaa", sum := "e2eee82019a2349ffbf61c8e58d3856d579e7c38fd7ad58b524925b32d89b9cd", func := "weirgate/weirgatelaw12.BucketKeepsItsRate", spec := "bucketKeepsItsRate", apart := false, narrowed := true }
def BucketKeepsItsRateUptoSaid : Prop := bucketKeepsItsRateUptoRow.holds Try.pinned (OpenSpec.upto bucketKeepsItsRateSpec)

/-- 'weirgatelaw12.BucketWaitsExactly', WHERE WHAT IT READS IS OF BULK AT MOST 1048576: true; the input reads as it did. -/
def bucketWaitsExactlyUptoRow : OpenClaim := { program := "ytpalglggjndmlaa", sum := "e2eee82019a2349ffbf61c8e58d3856d579e7c38fd7ad58b524925b32d89b9cd", func := "weirgate/weirgatelaw12.BucketWaitsExactly", spec := "bucketWaitsExactly", apart := false, narrowed := true }
def BucketWaitsExactlyUptoSaid : Prop := bucketWaitsExactlyUptoRow.holds Try.pinned (OpenSpec.upto bucketWaitsExactlySpec)

/-- 'weirgatelaw12.BucketRefillsInSteps', WHERE WHAT IT READS IS OF BULK AT MOST 1048576: true; the input reads as it did. -/
def bucketRefillsInStepsUptoRow : OpenClaim := { program := "ytpalglggjndmlaa", sum := "e2eee82019a2349ffbf61c8e58d3856d579e7c38fd7ad58b524925b32d89b9cd", func := "weirgate/weirgatelaw12.BucketRefillsInSteps", spec := "bucketRefillsInSteps", apart := false, narrowed := true }
def BucketRefillsInStepsUptoSaid : Prop := bucketRefillsInStepsUptoRow.holds Try.pinned (OpenSpec.upto bucketRefillsInStepsSpec)

/-- 'weirgatelaw12.BucketPartsMatchSpec', WHERE WHAT IT READS IS OF BULK AT MOST 1048576: true; the input reads as it did. -/
def bucketPartsMatchSpecUptoRow : OpenClaim := { program := "ytpalglggjndmlaa", sum := "e2eee82019a2349ffbf61c8e58d3856d579e7c38fd7ad58b524925b32d89b9cd", func := "weirgate/weirgatelaw12.BucketPartsMatchSpec", spec := "bucketPartsMatchSpec", apart := false, narrowed := true }
def BucketPartsMatchSpecUptoSaid : Prop := bucketPartsMatchSpecUptoRow.holds Try.pinned (OpenSpec.upto bucketPartsMatchSpecSpec)

/-- 'weirgatelaw12.BucketPartsKeepTheRate', WHERE WHAT IT READS IS OF BULK AT MOST 1048576: true; the input reads as it did. -/
def bucketPartsKeepTheRateUptoRow : OpenClaim := { program := "ytpalglggjndmlaa", sum := "e2eee82019a2349ffbf61c8e58d3856d579e7c38fd7ad58b524925b32d89b9cd", func := "weirgate/weirgatelaw12.BucketPartsKeepTheRate", spec := "bucketPartsKeepTheRate", apart := false, narrowed := true }
def BucketPartsKeepTheRateUptoSaid : Prop := bucketPartsKeepTheRateUptoRow.holds Try.pinned (OpenSpec.upto bucketPartsKeepTheRateSpec)

end Rows
end Go.Proofs.Ytpalglggjndmlaa
