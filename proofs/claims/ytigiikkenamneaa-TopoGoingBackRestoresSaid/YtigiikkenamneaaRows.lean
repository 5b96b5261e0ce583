/-
  No cell of these rows narrows 'for every input' (looked for: loops, veiled, ifaces, maps, wideKeys, modest, calm, conditions, laid).
  DERIVED. THE GIVEN ROWS OF THIS SEAT. 4 by the template 'for every input the law returns true; each argument reads behind the call as it read before'; 0 by the template 'total and deterministic' (their statements: YtigiikkenamneaaTotals.lean).
  GIVEN WITH THE SEED: the statements are not yours to turn. If you find one false, say at which input.
  Laid BY PROGRAM, IN A SANDBOX (cutbox-rows.mjs): the forced cells as the released guide's own fill.sh prints them over the translation 857e2189cf64a6b5… (all of the seat's roots in one cut). By AI agents, Wed Nov 11 2026. No macro, syntax, notation, axiom, sorry.
-/
import Derived.Test.YtigiikkenamneaaChecked
import GoSem.Claim
import GoSem.ClaimJoined
import GoSem.ClaimMapViews
import Derived.JoinedTies
import Derived.KernelRfl
namespace Go.Proofs.Ytigiikkenamneaa
/- THE CELL 'sum', in the pinned program and in every row, IS THE sha256 OF THE DUMP (.gsa) THAT YtigiikkenamneaaProg.lean LOADS. Nothing in Lean hashes anything: it is a label: what it is worth is what the hold of that sum in a sandbox is worth. -/
noncomputable def Try.pinned : Pinned := { name := "ytigiikkenamneaa", sum := "857e2189cf64a6b5db815e5910e3f25a00ad4d3f3a221a62dfa78cf4e1be613e", checked := Try.checked }
namespace Rows
def none {H : Type} : Left H := { results := [], args := [] }

/-- 'weirgatelaw42.TopoRoutesAsSpecified': WHATEVER THE INPUT: true; the input reads as it did. -/
def topoRoutesAsSpecifiedSpec : ChangeSpec := { name := "topoRoutesAsSpecified", fn := fun _ => fun
  | [d1, d2, d3, d4, d5] => { results := [.lit (.bool true)], args := [d1, d2, d3, d4, d5] }
  | _ => none }
def topoRoutesAsSpecifiedRow : OpenClaim := { program := "ytigiikkenamneaa", sum := "857e2189cf64a6b5db815e5910e3f25a00ad4d3f3a221a62dfa78cf4e1be613e", func := "weirgate/weirgatelaw42.TopoRoutesAsSpecified", spec := "topoRoutesAsSpecified", unfollowed := true, recurses := true, apart := false }
def TopoRoutesAsSpecifiedSaid : Prop := topoRoutesAsSpecifiedRow.holds Try.pinned (OpenSpec.ofChange topoRoutesAsSpecifiedSpec)

/-- ITS FALSE NEIGHBOUR: 'it returns false'. Refute it at one input. -/
def topoRoutesAsSpecifiedWrong : ChangeSpec := { name := "topoRoutesAsSpecified", fn := fun _ => fun
  | [d1, d2, d3, d4, d5] => { results := [.lit (.bool false)], args := [d1, d2, d3, d4, d5] }
  | _ => none }
def TopoRoutesAsSpecifiedWrongFalsely : Prop := topoRoutesAsSpecifiedRow.holds Try.pinned (OpenSpec.ofChange topoRoutesAsSpecifiedWrong)

/-- 'weirgatelaw42.TopoEntriesAreUp': WHATEVER THE INPUT: true; the input reads as it did. -/
def topoEntriesAreUpSpec : ChangeSpec := { name := "topoEntriesAreUp", fn := fun _ => fun
  | [d1, d2, d3] => { results := [.lit (.bool true)], args := [d1, d2, d3] }
  | _ => none }
def topoEntriesAreUpRow : OpenClaim := { program := "ytigiikkenamneaa", sum := "857e2189cf64a6b5db815e5910e3f25a00ad4d3f3a221a62dfa78cf4e1be613e", func := "weirgate/weirgatelaw42.TopoEntriesAreUp", spec := "topoEntriesAreUp", unfollowed := true, recurses := true, apart := false }
def TopoEntriesAreUpSaid : Prop := topoEntriesAreUpRow.holds Try.pinned (OpenSpec.ofChange topoEntriesAreUpSpec)

/-- ITS FALSE NEIGHBOUR: 'it returns false'. Refute it at one input. -/
def topoEntriesAreUpWrong : ChangeSpec := { name := "topoEntriesAreUp", fn := fun _ => fun
  | [d1, d2, d3] => { results := [.lit (.bool false)], args := [d1, d2, d3] }
  | _ => none }
def TopoEntriesAreUpWrongFalsely : Prop := topoEntriesAreUpRow.holds Try.pinned (OpenSpec.ofChange topoEntriesAreUpWrong)

/-- 'weirgatelaw42.TopoRolloutsKeepNear': WHATEVER THE INPUT: true; the input reads as it did. -/
def topoRolloutsKeepNearSpec : ChangeSpec := { name := "topoRolloutsKeepNear", fn := fun _ => fun
  | [d1, d2] => { results := [.lit (.bool true)], args := [d1, d2] }
  | _ => none }
def topoRolloutsKeepNearRow : OpenClaim := { program := "ytigiikkenamneaa", sum := "857e2189cf64a6b5db815e5910e3f25a00ad4d3f3a221a62dfa78cf4e1be613e", func := "weirgate/weirgatelaw42.TopoRolloutsKeepNear", spec := "topoRolloutsKeepNear", unfollowed := true, recurses := true, apart := false }
def TopoRolloutsKeepNearSaid : Prop := topoRolloutsKeepNearRow.holds Try.pinned (OpenSpec.ofChange topoRolloutsKeepNearSpec)

/-- ITS FALSE NEIGHBOUR: 'it returns false'. Refute it at one input. -/
def topoRolloutsKeepNearWrong : ChangeSpec := { name := "topoRolloutsKeepNear", fn := fun _ => fun
  | [d1, d2] => { results := [.lit (.bool false)], args := [d1, d2] }
  | _ => none }
def TopoRolloutsKeepNearWrongFalsely : Prop := topoRolloutsKeepNearRow.holds Try.pinned (OpenSpec.ofChange topoRolloutsKeepNearWrong)

/-- 'weirgatelaw42.TopoGoingBackRestores': WHATEVER THE INPUT: true; the input reads as it did. -/
def topoGoingBackRestoresSpec : ChangeSpec := { name := "topoGoingBackRestores", fn := fun _ => fun
  | [d1, d2, d3] => { results := [.lit (.bool true)], args := [d1, d2, d3] }
  | _ => none }
def topoGoingBackRestoresRow : OpenClaim := { program := "ytigiikkenamneaa", sum := "857e2189cf64a6b5db815e5910e3f25a00ad4d3f3a221a62dfa78cf4e1be613e", func := "weirgate/weirgatelaw42.TopoGoingBackRestores", spec := "topoGoingBackRestores", unfollowed := true, recurses := true, apart := false }
def TopoGoingBackRestoresSaid : Prop := topoGoingBackRestoresRow.holds Try.pinned (OpenSpec.ofChange topoGoingBackRestoresSpec)

/-- ITS FALSE NEIGHBOUR: 'it returns false'. Refute it at one input. -/
def topoGoingBackRestoresWrong : ChangeSpec := { name := "topoGoingBackRestores", fn := fun _ => fun
  | [d1, d2, d3] => { results := [.lit (.bool false)], args := [d1, d2, d3] }
  | _ => none }
def TopoGoingBackRestoresWrongFalsely : Prop := topoGoingBackRestoresRow.holds Try.pinned (OpenSpec.ofChange topoGoingBackRestoresWrong)

/- THE SECOND FORM. 'bulk': how many values and letters a reading holds, each counted each time it is reached (what is shared counts as often as it is met; a slice's spare places count too). A statement '..UptoSaid' is the law's where the arguments, and the package variables that the reading takes, are together of bulk at most 1048576: NARROWER than '..Said'. Prove '..Said' where nothing that the law and all that it calls make is longer than what came in: it says more and counts as full. Else prove '..UptoSaid'. A law counts once. -/
mutual
def uptoBulk {H : Type} : DataW H → Nat
  | .lit (.string bytes) => bytes.length + 1
  | .lit _ => 1
  | .nil => 1
  | .ptr d => uptoBulk d + 1
  | .slice elems spare => uptoBulkAll elems + uptoBulkAll spare + 1
  | .agg parts => uptoBulkAll parts + 1
  | .iface _ d => uptoBulk d + 1
  | .map entries => uptoBulkEntries entries + 1
  | .held _ => 1
def uptoBulkAll {H : Type} : List (DataW H) → Nat
  | [] => 0
  | d :: r => uptoBulk d + uptoBulkAll r
def uptoBulkEntries {H : Type} : List (Lit × DataW H) → Nat
  | [] => 0
  | x :: r => uptoBulkEntry x + uptoBulkEntries r
def uptoBulkEntry {H : Type} : Lit × DataW H → Nat
  | (.string bytes, d) => bytes.length + uptoBulk d + 1
  | (_, d) => uptoBulk d + 1
 end
def uptoSmall : (H : Type) → List (DataW H) → Bool := fun _ ds => decide (uptoBulkAll ds ≤ 1048576)
def OpenSpec.upto (s : _root_.Go.ChangeSpec) : _root_.Go.OpenSpec := { _root_.Go.OpenSpec.ofChange s with cond := some uptoSmall }

/-- 'weirgatelaw42.TopoRoutesAsSpecified', WHERE WHAT IT READS IS OF BULK AT MOST 1048576: true; the input reads as it did. -/
def topoRoutesAsSpecifiedUptoRow : OpenClaim := { program := "ytigiikkenamneaa", sum := "857e2189cf64a6b5db815e5910e3f25a00ad4d3f3a221a62dfa78cf4e1be613e", func := "weirgate/weirgatelaw42.TopoRoutesAsSpecified", spec := "topoRoutesAsSpecified", unfollowed := true, recurses := true, apart := false, narrowed := true }
def TopoRoutesAsSpecifiedUptoSaid : Prop := topoRoutesAsSpecifiedUptoRow.holds Try.pinned (OpenSpec.upto topoRoutesAsSpecifiedSpec)

/-- 'weirgatelaw42.TopoEntriesAreUp', WHERE WHAT IT READS IS OF BULK AT MOST 1048576: true; the input reads as it did. -/
def topoEntriesAreUpUptoRow : OpenClaim := { program := "ytigiikkenamneaa", sum := "857e2189cf64a6b5db815e5910e3f25a00ad4d3f3a221a62dfa78cf4e1be613e", func := "weirgate/weirgatelaw42.TopoEntriesAreUp", spec := "topoEntriesAreUp", unfollowed := true, recurses := true, apart := false, narrowed := true }
def TopoEntriesAreUpUptoSaid : Prop := topoEntriesAreUpUptoRow.holds Try.pinned (OpenSpec.upto topoEntriesAreUpSpec)

/-- 'weirgatelaw42.TopoRolloutsKeepNear', WHERE WHAT IT READS IS OF BULK AT MOST 1048576: true; the input reads as it did. -/
def topoRolloutsKeepNearUptoRow : OpenClaim := { program := "ytigiikkenamneaa", sum := "857e2189cf64a6b5db815e5910e3f25a00ad4d3f3a221a62dfa78cf4e1be613e", func := "weirgate/weirgatelaw42.TopoRolloutsKeepNear", spec := "topoRolloutsKeepNear", unfollowed := true, recurses := true, apart := false, narrowed := true }
def TopoRolloutsKeepNearUptoSaid : Prop := topoRolloutsKeepNearUptoRow.holds Try.pinned (OpenSpec.upto topoRolloutsKeepNearSpec)

/-- 'weirgatelaw42.TopoGoingBackRestores', WHERE WHAT IT READS IS OF BULK AT MOST 1048576: true; the input reads as it did. -/
def topoGoingBackRestoresUptoRow : OpenClaim := { program := "ytigiikkenamneaa", sum := "857e2189cf64a6b5db815e5910e3f25a00ad4d3f3a221a62dfa78cf4e1be613e", func := "weirgate/weirgatelaw42.TopoGoingBackRestores", spec := "topoGoingBackRestores", unfollowed := true, recurses := true, apart := false, narrowed := true }
def TopoGoingBackRestoresUptoSaid : Prop := topoGoingBackRestoresUptoRow.holds Try.pinned (OpenSpec.upto topoGoingBackRestoresSpec)

end Rows
end Go.Proofs.Ytigiikkenamneaa
