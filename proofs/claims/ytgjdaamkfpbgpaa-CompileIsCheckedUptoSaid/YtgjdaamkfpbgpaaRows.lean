/-
  NARROWER THAN 'FOR EVERY INPUT', by the rows' own cells (each row's printed sentence says how): CompileMakesAsSpecified: loops · CompileIsChecked: loops.
  DERIVED. THE GIVEN ROWS OF THIS SEAT. 3 by the template 'for every input the law returns true; each argument reads behind the call as it read before'; 0 by the template 'total and deterministic' (their statements: YtgjdaamkfpbgpaaTotals.lean).
  GIVEN WITH THE SEED: the statements are not yours to turn. If you find one false, say at which input.
  Laid BY PROGRAM, IN A SANDBOX (cutbox-rows.mjs): the forced cells as the released guide's own fill.sh prints them over the translation 3391e74ce9140672… (all of the seat's roots in one cut). By AI agents, Wed Nov 11 2026. No macro, syntax, notation, axiom, sorry.
-/
import Derived.Test.YtgjdaamkfpbgpaaChecked
import GoSem.Claim
import GoSem.ClaimJoined
import GoSem.ClaimMapViews
import Derived.JoinedTies
import Derived.KernelRfl
namespace Go.Proofs.Ytgjdaamkfpbgpaa
/- THE CELL 'sum', in the pinned program and in every row, IS THE sha256 OF THE DUMP (.gsa) THAT YtgjdaamkfpbgpaaProg.lean LOADS. Nothing in Lean hashes anything: it is a label: what it is worth is what the hold of that sum in a sandbox is worth. -/
noncomputable def Try.pinned : Pinned := { name := "ytgjdaamkfpbgpaa", sum := "3391e74ce91406726837b8dc9cfd8c60aa44dc35e757f15e5f4c761676de8cea", checked := Try.checked }
namespace Rows
def none {H : Type} : Left H := { results := [], args := [] }

/-- 'weirgatelaw28.CompileMakesAsSpecified': WHATEVER THE INPUT: true; the input reads as it did. -/
def compileMakesAsSpecifiedSpec : ChangeSpec := { name := "compileMakesAsSpecified", fn := fun _ => fun
  | [d] => { results := [.lit (.bool true)], args := [d] }
  | _ => none }
def compileMakesAsSpecifiedRow : OpenClaim := { program := "ytgjdaamkfpbgpaa", sum := "3391e74ce91406726837b8dc9cfd8c60aa44dc35e757f15e5f4c761676de8cea", func := "weirgate/weirgatelaw28.CompileMakesAsSpecified", spec := "compileMakesAsSpecified", unfollowed := true, recurses := true, loops := true, apart := false }
def CompileMakesAsSpecifiedSaid : Prop := compileMakesAsSpecifiedRow.holds Try.pinned (OpenSpec.ofChange compileMakesAsSpecifiedSpec)

/-- ITS FALSE NEIGHBOUR: 'it returns false'. Refute it at one input. -/
def compileMakesAsSpecifiedWrong : ChangeSpec := { name := "compileMakesAsSpecified", fn := fun _ => fun
  | [d] => { results := [.lit (.bool false)], args := [d] }
  | _ => none }
def CompileMakesAsSpecifiedWrongFalsely : Prop := compileMakesAsSpecifiedRow.holds Try.pinned (OpenSpec.ofChange compileMakesAsSpecifiedWrong)

/-- 'weirgatelaw28.CompileIsChecked': WHATEVER THE INPUT: true; the input reads as it did. -/
def compileIsCheckedSpec : ChangeSpec := { name := "compileIsChecked", fn := fun _ => fun
  | [d] => { results := [.lit (.bool true)], args := [d] }
  | _ => none }
def compileIsCheckedRow : OpenClaim := { program := "ytgjdaamkfpbgpaa", sum := "3391e74ce91406726837b8dc9cfd8c60aa44dc35e757f15e5f4c761676de8cea", func := "weirgate/weirgatelaw28.CompileIsChecked", spec := "compileIsChecked", unfollowed := true, recurses := true, loops := true, apart := false }
def CompileIsCheckedSaid : Prop := compileIsCheckedRow.holds Try.pinned (OpenSpec.ofChange compileIsCheckedSpec)

/-- ITS FALSE NEIGHBOUR: 'it returns false'. Refute it at one input. -/
def compileIsCheckedWrong : ChangeSpec := { name := "compileIsChecked", fn := fun _ => fun
  | [d] => { results := [.lit (.bool false)], args := [d] }
  | _ => none }
def CompileIsCheckedWrongFalsely : Prop := compileIsCheckedRow.holds Try.pinned (OpenSpec.ofChange compileIsCheckedWrong)

/-- 'weirgatelaw28.CompileCodes': WHATEVER THE INPUT: true; the input reads as it did. -/
def compileCodesSpec : ChangeSpec := { name := "compileCodes", fn := fun _ => fun
  | [d1, d2] => { results := [.lit (.bool true)], args := [d1, d2] }
  | _ => none }
def compileCodesRow : OpenClaim := { program := "ytgjdaamkfpbgpaa", sum := "3391e74ce91406726837b8dc9cfd8c60aa44dc35e757f15e5f4c761676de8cea", func := "weirgate/weirgatelaw28.CompileCodes", spec := "compileCodes", unfollowed := true, recurses := true, apart := false }
def CompileCodesSaid : Prop := compileCodesRow.holds Try.pinned (OpenSpec.ofChange compileCodesSpec)

/-- ITS FALSE NEIGHBOUR: 'it returns false'. Refute it at one input. -/
def compileCodesWrong : ChangeSpec := { name := "compileCodes", fn := fun _ => fun
  | [d1, d2] => { results := [.lit (.bool false)], args := [d1, d2] }
  | _ => none }
def CompileCodesWrongFalsely : Prop := compileCodesRow.holds Try.pinned (OpenSpec.ofChange compileCodesWrong)

/- THE SECOND FORM. 'bulk': how many values and letters a reading holds, each counted each time it is reached (what is shared counts as often as it is met; a slice's spare places count too). A statement '..UptoSaid' is the law's where the arguments, and the package variables that the reading takes, are together of bulk at most 1048576: NARROWER than '..Said'. Prove '..Said' where nothing that the law and all that it calls make is longer than what came in: it says more and counts as full. Else prove '..UptoSaid'. A law counts once. -/
mutual
def uptoBulk {H : Type} : DataW H → Nat
  | .lit (.string bytes) => bytes.length + 1
  | .lit _ => 1
  | .nil => 1
  | .ptr d => uptoBulk d + 1
  | .slice elems spare => uptoBulkAll elems + uptoBulkAll spare + 1
  | .agg parts => uptoBulkAll parts + 1
  | .iface _ d => uptoBulk d + 1
  | .map entries => uptoBulkEntries entries + 1
  | .held _ => 1
def uptoBulkAll {H : Type} : List (DataW H) → Nat
  | [] => 0
  | d :: r => uptoBulk d + uptoBulkAll r
def uptoBulkEntries {H : Type} : List (Lit × DataW H) → Nat
  | [] => 0
  | x :: r => uptoBulkEntry x + uptoBulkEntries r
def uptoBulkEntry {H : Type} : Lit × DataW H → Nat
  | (.string bytes, d) => bytes.length + uptoBulk d + 1
  | (_, d) => uptoBulk d + 1
 end
def uptoSmall : (H : Type) → List (DataW H) → Bool := fun _ ds => decide (uptoBulkAll ds ≤ 1048576)
def OpenSpec.upto (s : _root_.Go.ChangeSpec) : _root_.Go.OpenSpec := { _root_.Go.OpenSpec.ofChange s with cond := some uptoSmall }

/-- 'weirgatelaw28.CompileMakesAsSpecified', WHERE WHAT IT READS IS OF BULK AT MOST 1048576: true; the input reads as it did. -/
def compileMakesAsSpecifiedUptoRow : OpenClaim := { program := "ytgjdaamkfpbgpaa", sum := "3391e74ce91406726837b8dc9cfd8c60aa44dc35e757f15e5f4c761676de8cea", func := "weirgate/weirgatelaw28.CompileMakesAsSpecified", spec := "compileMakesAsSpecified", unfollowed := true, recurses := true, loops := true, apart := false, narrowed := true }
def CompileMakesAsSpecifiedUptoSaid : Prop := compileMakesAsSpecifiedUptoRow.holds Try.pinned (OpenSpec.upto compileMakesAsSpecifiedSpec)

/-- 'weirgatelaw28.CompileIsChecked', WHERE WHAT IT READS IS OF BULK AT MOST 1048576: true; the input reads as it did. -/
def compileIsCheckedUptoRow : OpenClaim := { program := "ytgjdaamkfpbgpaa", sum := "3391e74ce91406726837b8dc9cfd8c60aa44dc35e757f15e5f4c761676de8cea", func := "weirgate/weirgatelaw28.CompileIsChecked", spec := "compileIsChecked", unfollowed := true, recurses := true, loops := true, apart := false, narrowed := true }
def CompileIsCheckedUptoSaid : Prop := compileIsCheckedUptoRow.holds Try.pinned (OpenSpec.upto compileIsCheckedSpec)

/-- 'weirgatelaw28.CompileCodes', WHERE WHAT IT READS IS OF BULK AT MOST 1048576: true; the input reads as it did. -/
def compileCodesUptoRow : OpenClaim := { program := "ytgjdaamkfpbgpaa", sum := "3391e74ce91406726837b8dc9cfd8c60aa44dc35e757f15e5f4c761676de8cea", func := "weirgate/weirgatelaw28.CompileCodes", spec := "compileCodes", unfollowed := true, recurses := true, apart := false, narrowed := true }
def CompileCodesUptoSaid : Prop := compileCodesUptoRow.holds Try.pinned (OpenSpec.upto compileCodesSpec)

end Rows
end Go.Proofs.Ytgjdaamkfpbgpaa
