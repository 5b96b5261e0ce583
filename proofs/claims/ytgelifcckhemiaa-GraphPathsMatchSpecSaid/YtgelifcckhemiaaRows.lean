/-
  No cell of these rows narrows 'for every input' (looked for: loops, veiled, ifaces, maps, wideKeys, modest, calm, conditions, laid).
  DERIVED. THE GIVEN ROWS OF THIS SEAT. 6 by the template 'for every input the law returns true; each argument reads behind the call as it read before'; 0 by the template 'total and deterministic' (their statements: YtgelifcckhemiaaTotals.lean).
  GIVEN WITH THE SEED: the statements are not yours to turn. If you find one false, say at which input.
  Laid BY PROGRAM, IN A SANDBOX (cutbox-rows.mjs): the forced cells as the released guide's own fill.sh prints them over the translation 4c1215591e099fa5… (all of the seat's roots in one cut). By AI agents, Wed Nov 11 2026. No macro, syntax, notation, axiom, sorry.
-/
import Derived.Test.YtgelifcckhemiaaChecked
import GoSem.Claim
import GoSem.ClaimJoined
import GoSem.ClaimMapViews
import Derived.JoinedTies
import Derived.KernelRfl
namespace Go.Proofs.Ytgelifcckhemiaa
/- THE CELL 'sum', in the pinned program and in every row, IS THE sha256 OF THE DUMP (.gsa) THAT YtgelifcckhemiaaProg.lean LOADS. Nothing in Lean hashes anything: it is a label: what it is worth is what the hold of that sum in a sandbox is worth. -/
noncomputable def Try.pinned : Pinned := { name := "ytgelifcckhemiaa", sum := "4c1215591e099fa5ed694c47bbfc38fc915d0b2f0205ad2619256b267f54bcf3", checked := Try.checked }
namespace Rows
def none {H : Type} : Left H := { results := [], args := [] }

/-- 'weirgatelaw09.GraphWalksAsSpecified': WHATEVER THE INPUT: true; the input reads as it did. -/
def graphWalksAsSpecifiedSpec : ChangeSpec := { name := "graphWalksAsSpecified", fn := fun _ => fun
  | [d1, d2] => { results := [.lit (.bool true)], args := [d1, d2] }
  | _ => none }
def graphWalksAsSpecifiedRow : OpenClaim := { program := "ytgelifcckhemiaa", sum := "4c1215591e099fa5ed694c47bbfc38fc915d0b2f0205ad2619256b267f54bcf3", func := "weirgate/weirgatelaw09.GraphWalksAsSpecified", spec := "graphWalksAsSpecified", unfollowed := true, recurses := true, apart := false }
def GraphWalksAsSpecifiedSaid : Prop := graphWalksAsSpecifiedRow.holds Try.pinned (OpenSpec.ofChange graphWalksAsSpecifiedSpec)

/-- ITS FALSE NEIGHBOUR: 'it returns false'. Refute it at one input. -/
def graphWalksAsSpecifiedWrong : ChangeSpec := { name := "graphWalksAsSpecified", fn := fun _ => fun
  | [d1, d2] => { results := [.lit (.bool false)], args := [d1, d2] }
  | _ => none }
def GraphWalksAsSpecifiedWrongFalsely : Prop := graphWalksAsSpecifiedRow.holds Try.pinned (OpenSpec.ofChange graphWalksAsSpecifiedWrong)

/-- 'weirgatelaw09.GraphPathsMatchSpec': WHATEVER THE INPUT: true; the input reads as it did. -/
def graphPathsMatchSpecSpec : ChangeSpec := { name := "graphPathsMatchSpec", fn := fun _ => fun
  | [d1, d2, d3] => { results := [.lit (.bool true)], args := [d1, d2, d3] }
  | _ => none }
def graphPathsMatchSpecRow : OpenClaim := { program := "ytgelifcckhemiaa", sum := "4c1215591e099fa5ed694c47bbfc38fc915d0b2f0205ad2619256b267f54bcf3", func := "weirgate/weirgatelaw09.GraphPathsMatchSpec", spec := "graphPathsMatchSpec", unfollowed := true, recurses := true, apart := false }
def GraphPathsMatchSpecSaid : Prop := graphPathsMatchSpecRow.holds Try.pinned (OpenSpec.ofChange graphPathsMatchSpecSpec)

/-- ITS FALSE NEIGHBOUR: 'it returns false'. Refute it at one input. -/
def graphPathsMatchSpecWrong : ChangeSpec := { name := "graphPathsMatchSpec", fn := fun _ => fun
  | [d1, d2, d3] => { results := [.lit (.bool false)], args := [d1, d2, d3] }
  | _ => none }
def GraphPathsMatchSpecWrongFalsely : Prop := graphPathsMatchSpecRow.holds Try.pinned (OpenSpec.ofChange graphPathsMatchSpecWrong)

/-- 'weirgatelaw09.GraphTreesMatchSpec': WHATEVER THE INPUT: true; the input reads as it did. -/
def graphTreesMatchSpecSpec : ChangeSpec := { name := "graphTreesMatchSpec", fn := fun _ => fun
  | [d1, d2] => { results := [.lit (.bool true)], args := [d1, d2] }
  | _ => none }
def graphTreesMatchSpecRow : OpenClaim := { program := "ytgelifcckhemiaa", sum := "4c1215591e099fa5ed694c47bbfc38fc915d0b2f0205ad2619256b267f54bcf3", func := "weirgate/weirgatelaw09.GraphTreesMatchSpec", spec := "graphTreesMatchSpec", unfollowed := true, recurses := true, apart := false }
def GraphTreesMatchSpecSaid : Prop := graphTreesMatchSpecRow.holds Try.pinned (OpenSpec.ofChange graphTreesMatchSpecSpec)

/-- ITS FALSE NEIGHBOUR: 'it returns false'. Refute it at one input. -/
def graphTreesMatchSpecWrong : ChangeSpec := { name := "graphTreesMatchSpec", fn := fun _ => fun
  | [d1, d2] => { results := [.lit (.bool false)], args := [d1, d2] }
  | _ => none }
def GraphTreesMatchSpecWrongFalsely : Prop := graphTreesMatchSpecRow.holds Try.pinned (OpenSpec.ofChange graphTreesMatchSpecWrong)

/-- 'weirgatelaw09.GraphOrdersForward': WHATEVER THE INPUT: true; the input reads as it did. -/
def graphOrdersForwardSpec : ChangeSpec := { name := "graphOrdersForward", fn := fun _ => fun
  | [d] => { results := [.lit (.bool true)], args := [d] }
  | _ => none }
def graphOrdersForwardRow : OpenClaim := { program := "ytgelifcckhemiaa", sum := "4c1215591e099fa5ed694c47bbfc38fc915d0b2f0205ad2619256b267f54bcf3", func := "weirgate/weirgatelaw09.GraphOrdersForward", spec := "graphOrdersForward", unfollowed := true, recurses := true, apart := false }
def GraphOrdersForwardSaid : Prop := graphOrdersForwardRow.holds Try.pinned (OpenSpec.ofChange graphOrdersForwardSpec)

/-- ITS FALSE NEIGHBOUR: 'it returns false'. Refute it at one input. -/
def graphOrdersForwardWrong : ChangeSpec := { name := "graphOrdersForward", fn := fun _ => fun
  | [d] => { results := [.lit (.bool false)], args := [d] }
  | _ => none }
def GraphOrdersForwardWrongFalsely : Prop := graphOrdersForwardRow.holds Try.pinned (OpenSpec.ofChange graphOrdersForwardWrong)

/-- 'weirgatelaw09.GraphPartsAreMutual': WHATEVER THE INPUT: true; the input reads as it did. -/
def graphPartsAreMutualSpec : ChangeSpec := { name := "graphPartsAreMutual", fn := fun _ => fun
  | [d] => { results := [.lit (.bool true)], args := [d] }
  | _ => none }
def graphPartsAreMutualRow : OpenClaim := { program := "ytgelifcckhemiaa", sum := "4c1215591e099fa5ed694c47bbfc38fc915d0b2f0205ad2619256b267f54bcf3", func := "weirgate/weirgatelaw09.GraphPartsAreMutual", spec := "graphPartsAreMutual", unfollowed := true, recurses := true, apart := false }
def GraphPartsAreMutualSaid : Prop := graphPartsAreMutualRow.holds Try.pinned (OpenSpec.ofChange graphPartsAreMutualSpec)

/-- ITS FALSE NEIGHBOUR: 'it returns false'. Refute it at one input. -/
def graphPartsAreMutualWrong : ChangeSpec := { name := "graphPartsAreMutual", fn := fun _ => fun
  | [d] => { results := [.lit (.bool false)], args := [d] }
  | _ => none }
def GraphPartsAreMutualWrongFalsely : Prop := graphPartsAreMutualRow.holds Try.pinned (OpenSpec.ofChange graphPartsAreMutualWrong)

/-- 'weirgatelaw09.GraphTreesNest': WHATEVER THE INPUT: true; the input reads as it did. -/
def graphTreesNestSpec : ChangeSpec := { name := "graphTreesNest", fn := fun _ => fun
  | [d] => { results := [.lit (.bool true)], args := [d] }
  | _ => none }
def graphTreesNestRow : OpenClaim := { program := "ytgelifcckhemiaa", sum := "4c1215591e099fa5ed694c47bbfc38fc915d0b2f0205ad2619256b267f54bcf3", func := "weirgate/weirgatelaw09.GraphTreesNest", spec := "graphTreesNest", unfollowed := true, recurses := true, apart := false }
def GraphTreesNestSaid : Prop := graphTreesNestRow.holds Try.pinned (OpenSpec.ofChange graphTreesNestSpec)

/-- ITS FALSE NEIGHBOUR: 'it returns false'. Refute it at one input. -/
def graphTreesNestWrong : ChangeSpec := { name := "graphTreesNest", fn := fun _ => fun
  | [d] => { results := [.lit (.bool false)], args := [d] }
  | _ => none }
def GraphTreesNestWrongFalsely : Prop := graphTreesNestRow.holds Try.pinned (OpenSpec.ofChange graphTreesNestWrong)

/- THE SECOND FORM. 'bulk': how many values and letters a reading holds, each counted each time it is reached (what is shared counts as often as it is met; a slice's spare places count too). A statement '..UptoSaid' is the law's where the arguments, and the package variables that the reading takes, are together of bulk at most 1048576: NARROWER than '..Said'. Prove '..Said' where nothing that the law and all that it calls make is longer than what came in: it says more and counts as full. Else prove '..UptoSaid'. A law counts once. -/
mutual
def uptoBulk {H : Type} : DataW H → Nat
  | .lit (.string bytes) => bytes.length + 1
  | .lit _ => 1
  | .nil => 1
  | .ptr d => uptoBulk d + 1
  | .slice elems spare => uptoBulkAll elems + uptoBulkAll spare + 1
  | .agg parts => uptoBulkAll parts + 1
  | .iface _ d => uptoBulk d + 1
  | .map entries => uptoBulkEntries entries + 1
  | .held _ => 1
def uptoBulkAll {H : Type} : List (DataW H) → Nat
  | [] => 0
  | d :: r => uptoBulk d + uptoBulkAll r
def uptoBulkEntries {H : Type} : List (Lit × DataW H) → Nat
  | [] => 0
  | x :: r => uptoBulkEntry x + uptoBulkEntries r
def uptoBulkEntry {H : Type} : Lit × DataW H → Nat
  | (.string bytes, d) => bytes.length + uptoBulk d + 1
  | (_, d) => uptoBulk d + 1
 end
def uptoSmall : (H : Type) → List (DataW H) → Bool := fun _ ds => decide (uptoBulkAll ds ≤ 1048576)
def OpenSpec.upto (s : _root_.Go.ChangeSpec) : _root_.Go.OpenSpec := { _root_.Go.OpenSpec.ofChange s with cond := some uptoSmall }

/-- 'weirgatelaw09.GraphWalksAsSpecified', WHERE WHAT IT READS IS OF BULK AT MOST 1048576: true; the input reads as it did. -/
def graphWalksAsSpecifiedUptoRow : OpenClaim := { program := "ytgelifcckhemiaa", sum := "4c1215591e099fa5ed694c47bbfc38fc915d0b2f0205ad2619256b267f54bcf3", func := "weirgate/weirgatelaw09.GraphWalksAsSpecified", spec := "graphWalksAsSpecified", unfollowed := true, recurses := true, apart := false, narrowed := true }
def GraphWalksAsSpecifiedUptoSaid : Prop := graphWalksAsSpecifiedUptoRow.holds Try.pinned (OpenSpec.upto graphWalksAsSpecifiedSpec)

/-- 'weirgatelaw09.GraphPathsMatchSpec', WHERE WHAT IT READS IS OF BULK AT MOST 1048576: true; the input reads as it did. -/
def graphPathsMatchSpecUptoRow : OpenClaim := { program := "ytgelifcckhemiaa", sum := "4c1215591e099fa5ed694c47bbfc38fc915d0b2f0205ad2619256b267f54bcf3", func := "weirgate/weirgatelaw09.GraphPathsMatchSpec", spec := "graphPathsMatchSpec", unfollowed := true, recurses := true, apart := false, narrowed := true }
def GraphPathsMatchSpecUptoSaid : Prop := graphPathsMatchSpecUptoRow.holds Try.pinned (OpenSpec.upto graphPathsMatchSpecSpec)

/-- 'weirgatelaw09.GraphTreesMatchSpec', WHERE WHAT IT READS IS OF BULK AT MOST 1048576: true; the input reads as it did. -/
def graphTreesMatchSpecUptoRow : OpenClaim := { program := "ytgelifcckhemiaa", sum := "4c1215591e099fa5ed694c47bbfc38fc915d0b2f0205ad2619256b267f54bcf3", func := "weirgate/weirgatelaw09.GraphTreesMatchSpec", spec := "graphTreesMatchSpec", unfollowed := true, recurses := true, apart := false, narrowed := true }
def GraphTreesMatchSpecUptoSaid : Prop := graphTreesMatchSpecUptoRow.holds Try.pinned (OpenSpec.upto graphTreesMatchSpecSpec)

/-- 'weirgatelaw09.GraphOrdersForward', WHERE WHAT IT READS IS OF BULK AT MOST 1048576: true; the input reads as it did. -/
def graphOrdersForwardUptoRow : OpenClaim := { program := "ytgelifcckhemiaa", sum := "4c1215591e099fa5ed694c47bbfc38fc915d0b2f0205ad2619256b267f54bcf3", func := "weirgate/weirgatelaw09.GraphOrdersForward", spec := "graphOrdersForward", unfollowed := true, recurses := true, apart := false, narrowed := true }
def GraphOrdersForwardUptoSaid : Prop := graphOrdersForwardUptoRow.holds Try.pinned (OpenSpec.upto graphOrdersForwardSpec)

/-- 'weirgatelaw09.GraphPartsAreMutual', WHERE WHAT IT READS IS OF BULK AT MOST 1048576: true; the input reads as it did. -/
def graphPartsAreMutualUptoRow : OpenClaim := { program := "ytgelifcckhemiaa", sum := "4c1215591e099fa5ed694c47bbfc38fc915d0b2f0205ad2619256b267f54bcf3", func := "weirgate/weirgatelaw09.GraphPartsAreMutual", spec := "graphPartsAreMutual", unfollowed := true, recurses := true, apart := false, narrowed := true }
def GraphPartsAreMutualUptoSaid : Prop := graphPartsAreMutualUptoRow.holds Try.pinned (OpenSpec.upto graphPartsAreMutualSpec)

/-- 'weirgatelaw09.GraphTreesNest', WHERE WHAT IT READS IS OF BULK AT MOST 1048576: true; the input reads as it did. -/
def graphTreesNestUptoRow : OpenClaim := { program := "ytgelifcckhemiaa", sum := "4c1215591e099fa5ed694c47bbfc38fc915d0b2f0205ad2619256b267f54bcf3", func := "weirgate/weirgatelaw09.GraphTreesNest", spec := "graphTreesNest", unfollowed := true, recurses := true, apart := false, narrowed := true }
def GraphTreesNestUptoSaid : Prop := graphTreesNestUptoRow.holds Try.pinned (OpenSpec.upto graphTreesNestSpec)

end Rows
end Go.Proofs.Ytgelifcckhemiaa
