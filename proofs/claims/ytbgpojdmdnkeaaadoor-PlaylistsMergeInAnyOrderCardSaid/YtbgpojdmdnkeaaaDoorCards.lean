/-
  DERIVED. GIVEN WITH THE SEED: THE CARDS: each row of YtbgpojdmdnkeaaaDoorRows.lean that lists a variable, with what it lists TIED to the program's text (the seventh form; the later family's looks); each row that meets fmt, with fmt's text TOLD by the authors' own Lean function (tested against real Go, not proved from fmt's source: count such statements apart). THE CARD IS WHAT COUNTS. Prove the row's statement (the work); the ties are given (YtbgpojdmdnkeaaaDoorTie.lean); close each card by the builder's one call (the guide's Derived/Test/ToyasCard.lean, 'card_holds'). Laid BY PROGRAM, IN A SANDBOX (cutbox-door.mjs). By AI agents, Wed Nov 11 2026. No macro, syntax, notation, axiom, sorry.
-/
import Derived.Test.YtbgpojdmdnkeaaaDoorRows
import GoSem.ClaimSeven
namespace Go.Proofs.YtbgpojdmdnkeaaaDoor
namespace Rows

/-- THE TIED CARD OF 'weirgatelaw43.PlaylistsMergeInAnyOrder'. -/
def playlistsMergeInAnyOrderCard : Claim7 := { stood := { row := playlistsMergeInAnyOrderRow, standIns := [], harness := (true, "0ebae743f385d4faba9be51067e00c7c982fba9f21f227d798b250cb79feef01"), looks := true }, kinds := [], alts := [], laidByText := true, laidKinds := [.data, .data, .data, .data, .sentinel, .sentinel, .pinned], laidTests := true, laidLooks := .later }
def PlaylistsMergeInAnyOrderCardSaid : Prop := Claim7.holds Tryd.pinned (.plain (OpenSpec.ofChange playlistsMergeInAnyOrderSpec)) playlistsMergeInAnyOrderCard

/-- THE TIED CARD OF 'weirgatelaw43.PlaylistReadsBack'. -/
def playlistReadsBackCard : Claim7 := { stood := { row := playlistReadsBackRow, standIns := [], harness := (true, "0ebae743f385d4faba9be51067e00c7c982fba9f21f227d798b250cb79feef01"), looks := true }, kinds := [], alts := [], laidByText := true, laidKinds := [.data, .data, .data, .data, .sentinel, .sentinel, .pinned], laidTests := true, laidLooks := .later }
def PlaylistReadsBackCardSaid : Prop := Claim7.holds Tryd.pinned (.plain (OpenSpec.ofChange playlistReadsBackSpec)) playlistReadsBackCard

/-- THE TIED CARD OF 'weirgatelaw43.PlaylistLagIsBounded'. -/
def playlistLagIsBoundedCard : Claim7 := { stood := { row := playlistLagIsBoundedRow, standIns := [], harness := (true, "0ebae743f385d4faba9be51067e00c7c982fba9f21f227d798b250cb79feef01"), looks := true }, kinds := [], alts := [], laidByText := true, laidKinds := [.data, .data, .data, .data, .sentinel, .sentinel, .pinned], laidTests := true, laidLooks := .later }
def PlaylistLagIsBoundedCardSaid : Prop := Claim7.holds Tryd.pinned (.plain (OpenSpec.ofChange playlistLagIsBoundedSpec)) playlistLagIsBoundedCard

/-- THE TIED CARD OF 'weirgatelaw43.PlaylistsDifferLittle'. -/
def playlistsDifferLittleCard : Claim7 := { stood := { row := playlistsDifferLittleRow, standIns := [], harness := (true, "0ebae743f385d4faba9be51067e00c7c982fba9f21f227d798b250cb79feef01"), looks := true }, kinds := [], alts := [], laidByText := true, laidKinds := [.data, .data, .data, .data, .sentinel, .sentinel, .pinned], laidTests := true, laidLooks := .later }
def PlaylistsDifferLittleCardSaid : Prop := Claim7.holds Tryd.pinned (.plain (OpenSpec.ofChange playlistsDifferLittleSpec)) playlistsDifferLittleCard

/-- THE SECOND FORM's CARD OF 'weirgatelaw43.PlaylistsMergeInAnyOrder'. -/
def playlistsMergeInAnyOrderUptoCard : Claim7 := { stood := { row := playlistsMergeInAnyOrderUptoRow, standIns := [], harness := (true, "0ebae743f385d4faba9be51067e00c7c982fba9f21f227d798b250cb79feef01"), looks := true }, kinds := [], alts := [], laidByText := true, laidKinds := [.data, .data, .data, .data, .sentinel, .sentinel, .pinned], laidTests := true, laidLooks := .later }
def PlaylistsMergeInAnyOrderUptoCardSaid : Prop := Claim7.holds Tryd.pinned (.plain (OpenSpec.upto playlistsMergeInAnyOrderSpec)) playlistsMergeInAnyOrderUptoCard

/-- THE SECOND FORM's CARD OF 'weirgatelaw43.PlaylistReadsBack'. -/
def playlistReadsBackUptoCard : Claim7 := { stood := { row := playlistReadsBackUptoRow, standIns := [], harness := (true, "0ebae743f385d4faba9be51067e00c7c982fba9f21f227d798b250cb79feef01"), looks := true }, kinds := [], alts := [], laidByText := true, laidKinds := [.data, .data, .data, .data, .sentinel, .sentinel, .pinned], laidTests := true, laidLooks := .later }
def PlaylistReadsBackUptoCardSaid : Prop := Claim7.holds Tryd.pinned (.plain (OpenSpec.upto playlistReadsBackSpec)) playlistReadsBackUptoCard

/-- THE SECOND FORM's CARD OF 'weirgatelaw43.PlaylistLagIsBounded'. -/
def playlistLagIsBoundedUptoCard : Claim7 := { stood := { row := playlistLagIsBoundedUptoRow, standIns := [], harness := (true, "0ebae743f385d4faba9be51067e00c7c982fba9f21f227d798b250cb79feef01"), looks := true }, kinds := [], alts := [], laidByText := true, laidKinds := [.data, .data, .data, .data, .sentinel, .sentinel, .pinned], laidTests := true, laidLooks := .later }
def PlaylistLagIsBoundedUptoCardSaid : Prop := Claim7.holds Tryd.pinned (.plain (OpenSpec.upto playlistLagIsBoundedSpec)) playlistLagIsBoundedUptoCard

/-- THE SECOND FORM's CARD OF 'weirgatelaw43.PlaylistsDifferLittle'. -/
def playlistsDifferLittleUptoCard : Claim7 := { stood := { row := playlistsDifferLittleUptoRow, standIns := [], harness := (true, "0ebae743f385d4faba9be51067e00c7c982fba9f21f227d798b250cb79feef01"), looks := true }, kinds := [], alts := [], laidByText := true, laidKinds := [.data, .data, .data, .data, .sentinel, .sentinel, .pinned], laidTests := true, laidLooks := .later }
def PlaylistsDifferLittleUptoCardSaid : Prop := Claim7.holds Tryd.pinned (.plain (OpenSpec.upto playlistsDifferLittleSpec)) playlistsDifferLittleUptoCard
end Rows
end Go.Proofs.YtbgpojdmdnkeaaaDoor
