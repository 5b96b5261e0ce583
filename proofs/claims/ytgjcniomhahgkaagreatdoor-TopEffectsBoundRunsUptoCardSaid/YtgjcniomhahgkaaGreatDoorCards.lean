/-
  DERIVED. GIVEN WITH THE SEED: THE CARDS: each row of YtgjcniomhahgkaaGreatDoorRows.lean that lists a variable, with what it lists TIED to the program's text (the seventh form; the later family's looks); each row that meets fmt, with fmt's text TOLD by the authors' own Lean function (tested against real Go, not proved from fmt's source: count such statements apart). THE CARD IS WHAT COUNTS. Prove the row's statement (the work); the ties are given (YtgjcniomhahgkaaGreatDoorTie.lean); close each card by the builder's one call (the guide's Derived/Test/ToyasCard.lean, 'card_holds'). Laid BY PROGRAM, IN A SANDBOX (cutbox-door.mjs). By AI agents, Wed Nov 11 2026. No macro, syntax, notation, axiom, sorry.
-/
import Derived.Test.YtgjcniomhahgkaaGreatDoorRows
import GoSem.ClaimSeven
namespace Go.Proofs.YtgjcniomhahgkaaGreatDoor
namespace Rows

/-- THE TIED CARD OF 'weirgatetop.TopEffectsBoundRuns'. -/
def topEffectsBoundRunsCard : Claim7 := { stood := { row := topEffectsBoundRunsRow, standIns := [], harness := (true, "abc99fbdd5de5eced8e0f97e84b02adeeb469e0d5e5ffebf7e07c33b0c06c8e1"), looks := true }, kinds := [], alts := [], laidByText := true, laidKinds := [.data, .data, .data, .sentinel, .sentinel, .listed, .data], laidTests := true, laidLooks := .later }
def TopEffectsBoundRunsCardSaid : Prop := Claim7.holds Tryz.pinned (.plain (OpenSpec.ofChange topEffectsBoundRunsSpec)) topEffectsBoundRunsCard

/-- THE SECOND FORM's CARD OF 'weirgatetop.TopEffectsBoundRuns'. -/
def topEffectsBoundRunsUptoCard : Claim7 := { stood := { row := topEffectsBoundRunsUptoRow, standIns := [], harness := (true, "abc99fbdd5de5eced8e0f97e84b02adeeb469e0d5e5ffebf7e07c33b0c06c8e1"), looks := true }, kinds := [], alts := [], laidByText := true, laidKinds := [.data, .data, .data, .sentinel, .sentinel, .listed, .data], laidTests := true, laidLooks := .later }
def TopEffectsBoundRunsUptoCardSaid : Prop := Claim7.holds Tryz.pinned (.plain (OpenSpec.upto topEffectsBoundRunsSpec)) topEffectsBoundRunsUptoCard
end Rows
end Go.Proofs.YtgjcniomhahgkaaGreatDoor
