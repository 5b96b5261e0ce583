/-
  DERIVED. GIVEN WITH THE SEED: THE CARDS: each row of YtcmaoifiiigggaaGreatDoorRows.lean that lists a variable, with what it lists TIED to the program's text (the seventh form; the later family's looks); each row that meets fmt, with fmt's text TOLD by the authors' own Lean function (tested against real Go, not proved from fmt's source: count such statements apart). THE CARD IS WHAT COUNTS. Prove the row's statement (the work); the ties are given (YtcmaoifiiigggaaGreatDoorTie.lean); close each card by the builder's one call (the guide's Derived/Test/ToyasCard.lean, 'card_holds'). Laid BY PROGRAM, IN A SANDBOX (cutbox-door.mjs). By AI agents, Wed Nov 11 2026. No macro, syntax, notation, axiom, sorry.
-/
import Derived.Test.YtcmaoifiiigggaaGreatDoorRows
import GoSem.ClaimSeven
namespace Go.Proofs.YtcmaoifiiigggaaGreatDoor
namespace Rows

/-- THE TIED CARD OF 'weirgatelaw19.ParserMatchesSpec'. -/
def parserMatchesSpecCard : Claim7 := { stood := { row := parserMatchesSpecRow, standIns := [], harness := (true, "18c17e6138464a61559e5add151a2f223752f7cc6370dfa5eeee15c5b4e1720b"), looks := true }, kinds := [], alts := [], laidByText := true, laidKinds := [.listed, .data], laidTests := true, laidLooks := .later }
def ParserMatchesSpecCardSaid : Prop := Claim7.holds Tryz.pinned (.plain (OpenSpec.ofChange parserMatchesSpecSpec)) parserMatchesSpecCard

/-- THE TIED CARD OF 'weirgatelaw19.ParserFindsTheToken'. -/
def parserFindsTheTokenCard : Claim7 := { stood := { row := parserFindsTheTokenRow, standIns := [], harness := (true, "18c17e6138464a61559e5add151a2f223752f7cc6370dfa5eeee15c5b4e1720b"), looks := true }, kinds := [], alts := [], laidByText := true, laidKinds := [.listed, .data], laidTests := true, laidLooks := .later }
def ParserFindsTheTokenCardSaid : Prop := Claim7.holds Tryz.pinned (.plain (OpenSpec.ofChange parserFindsTheTokenSpec)) parserFindsTheTokenCard

/-- THE TIED CARD OF 'weirgatelaw19.ParserReadsExpressions'. -/
def parserReadsExpressionsCard : Claim7 := { stood := { row := parserReadsExpressionsRow, standIns := [], harness := (true, "18c17e6138464a61559e5add151a2f223752f7cc6370dfa5eeee15c5b4e1720b"), looks := true }, kinds := [], alts := [], laidByText := true, laidKinds := [.listed, .data], laidTests := true, laidLooks := .later }
def ParserReadsExpressionsCardSaid : Prop := Claim7.holds Tryz.pinned (.plain (OpenSpec.ofChange parserReadsExpressionsSpec)) parserReadsExpressionsCard

/-- THE TIED CARD OF 'weirgatelaw19.ParserHasPrecedences'. -/
def parserHasPrecedencesCard : Claim7 := { stood := { row := parserHasPrecedencesRow, standIns := [], harness := (true, "18c17e6138464a61559e5add151a2f223752f7cc6370dfa5eeee15c5b4e1720b"), looks := true }, kinds := [], alts := [], laidByText := true, laidKinds := [.listed, .data], laidTests := true, laidLooks := .later }
def ParserHasPrecedencesCardSaid : Prop := Claim7.holds Tryz.pinned (.plain (OpenSpec.ofChange parserHasPrecedencesSpec)) parserHasPrecedencesCard

/-- THE TIED CARD OF 'weirgatelaw19.ParserIgnoresSpaces'. -/
def parserIgnoresSpacesCard : Claim7 := { stood := { row := parserIgnoresSpacesRow, standIns := [], harness := (true, "18c17e6138464a61559e5add151a2f223752f7cc6370dfa5eeee15c5b4e1720b"), looks := true }, kinds := [], alts := [], laidByText := true, laidKinds := [.listed, .data], laidTests := true, laidLooks := .later }
def ParserIgnoresSpacesCardSaid : Prop := Claim7.holds Tryz.pinned (.plain (OpenSpec.ofChange parserIgnoresSpacesSpec)) parserIgnoresSpacesCard

/-- THE TIED CARD OF 'weirgatelaw19.ParserPrintsAsSpecified'. -/
def parserPrintsAsSpecifiedCard : Claim7 := { stood := { row := parserPrintsAsSpecifiedRow, standIns := [], harness := (true, "18c17e6138464a61559e5add151a2f223752f7cc6370dfa5eeee15c5b4e1720b"), looks := true }, kinds := [], alts := [], laidByText := true, laidKinds := [.listed, .data], laidTests := true, laidLooks := .later }
def ParserPrintsAsSpecifiedCardSaid : Prop := Claim7.holds Tryz.pinned (.plain (OpenSpec.ofChange parserPrintsAsSpecifiedSpec)) parserPrintsAsSpecifiedCard

/-- THE TIED CARD OF 'weirgatelaw19.ParserPrintsBack'. -/
def parserPrintsBackCard : Claim7 := { stood := { row := parserPrintsBackRow, standIns := [], harness := (true, "18c17e6138464a61559e5add151a2f223752f7cc6370dfa5eeee15c5b4e1720b"), looks := true }, kinds := [], alts := [], laidByText := true, laidKinds := [.listed, .data], laidTests := true, laidLooks := .later }
def ParserPrintsBackCardSaid : Prop := Claim7.holds Tryz.pinned (.plain (OpenSpec.ofChange parserPrintsBackSpec)) parserPrintsBackCard

/-- THE TIED CARD OF 'weirgatelaw19.ParserParsesBack'. -/
def parserParsesBackCard : Claim7 := { stood := { row := parserParsesBackRow, standIns := [], harness := (true, "18c17e6138464a61559e5add151a2f223752f7cc6370dfa5eeee15c5b4e1720b"), looks := true }, kinds := [], alts := [], laidByText := true, laidKinds := [.listed, .data], laidTests := true, laidLooks := .later }
def ParserParsesBackCardSaid : Prop := Claim7.holds Tryz.pinned (.plain (OpenSpec.ofChange parserParsesBackSpec)) parserParsesBackCard

/-- THE SECOND FORM's CARD OF 'weirgatelaw19.ParserMatchesSpec'. -/
def parserMatchesSpecUptoCard : Claim7 := { stood := { row := parserMatchesSpecUptoRow, standIns := [], harness := (true, "18c17e6138464a61559e5add151a2f223752f7cc6370dfa5eeee15c5b4e1720b"), looks := true }, kinds := [], alts := [], laidByText := true, laidKinds := [.listed, .data], laidTests := true, laidLooks := .later }
def ParserMatchesSpecUptoCardSaid : Prop := Claim7.holds Tryz.pinned (.plain (OpenSpec.upto parserMatchesSpecSpec)) parserMatchesSpecUptoCard

/-- THE SECOND FORM's CARD OF 'weirgatelaw19.ParserFindsTheToken'. -/
def parserFindsTheTokenUptoCard : Claim7 := { stood := { row := parserFindsTheTokenUptoRow, standIns := [], harness := (true, "18c17e6138464a61559e5add151a2f223752f7cc6370dfa5eeee15c5b4e1720b"), looks := true }, kinds := [], alts := [], laidByText := true, laidKinds := [.listed, .data], laidTests := true, laidLooks := .later }
def ParserFindsTheTokenUptoCardSaid : Prop := Claim7.holds Tryz.pinned (.plain (OpenSpec.upto parserFindsTheTokenSpec)) parserFindsTheTokenUptoCard

/-- THE SECOND FORM's CARD OF 'weirgatelaw19.ParserReadsExpressions'. -/
def parserReadsExpressionsUptoCard : Claim7 := { stood := { row := parserReadsExpressionsUptoRow, standIns := [], harness := (true, "18c17e6138464a61559e5add151a2f223752f7cc6370dfa5eeee15c5b4e1720b"), looks := true }, kinds := [], alts := [], laidByText := true, laidKinds := [.listed, .data], laidTests := true, laidLooks := .later }
def ParserReadsExpressionsUptoCardSaid : Prop := Claim7.holds Tryz.pinned (.plain (OpenSpec.upto parserReadsExpressionsSpec)) parserReadsExpressionsUptoCard

/-- THE SECOND FORM's CARD OF 'weirgatelaw19.ParserHasPrecedences'. -/
def parserHasPrecedencesUptoCard : Claim7 := { stood := { row := parserHasPrecedencesUptoRow, standIns := [], harness := (true, "18c17e6138464a61559e5add151a2f223752f7cc6370dfa5eeee15c5b4e1720b"), looks := true }, kinds := [], alts := [], laidByText := true, laidKinds := [.listed, .data], laidTests := true, laidLooks := .later }
def ParserHasPrecedencesUptoCardSaid : Prop := Claim7.holds Tryz.pinned (.plain (OpenSpec.upto parserHasPrecedencesSpec)) parserHasPrecedencesUptoCard

/-- THE SECOND FORM's CARD OF 'weirgatelaw19.ParserIgnoresSpaces'. -/
def parserIgnoresSpacesUptoCard : Claim7 := { stood := { row := parserIgnoresSpacesUptoRow, standIns := [], harness := (true, "18c17e6138464a61559e5add151a2f223752f7cc6370dfa5eeee15c5b4e1720b"), looks := true }, kinds := [], alts := [], laidByText := true, laidKinds := [.listed, .data], laidTests := true, laidLooks := .later }
def ParserIgnoresSpacesUptoCardSaid : Prop := Claim7.holds Tryz.pinned (.plain (OpenSpec.upto parserIgnoresSpacesSpec)) parserIgnoresSpacesUptoCard

/-- THE SECOND FORM's CARD OF 'weirgatelaw19.ParserPrintsAsSpecified'. -/
def parserPrintsAsSpecifiedUptoCard : Claim7 := { stood := { row := parserPrintsAsSpecifiedUptoRow, standIns := [], harness := (true, "18c17e6138464a61559e5add151a2f223752f7cc6370dfa5eeee15c5b4e1720b"), looks := true }, kinds := [], alts := [], laidByText := true, laidKinds := [.listed, .data], laidTests := true, laidLooks := .later }
def ParserPrintsAsSpecifiedUptoCardSaid : Prop := Claim7.holds Tryz.pinned (.plain (OpenSpec.upto parserPrintsAsSpecifiedSpec)) parserPrintsAsSpecifiedUptoCard

/-- THE SECOND FORM's CARD OF 'weirgatelaw19.ParserPrintsBack'. -/
def parserPrintsBackUptoCard : Claim7 := { stood := { row := parserPrintsBackUptoRow, standIns := [], harness := (true, "18c17e6138464a61559e5add151a2f223752f7cc6370dfa5eeee15c5b4e1720b"), looks := true }, kinds := [], alts := [], laidByText := true, laidKinds := [.listed, .data], laidTests := true, laidLooks := .later }
def ParserPrintsBackUptoCardSaid : Prop := Claim7.holds Tryz.pinned (.plain (OpenSpec.upto parserPrintsBackSpec)) parserPrintsBackUptoCard

/-- THE SECOND FORM's CARD OF 'weirgatelaw19.ParserParsesBack'. -/
def parserParsesBackUptoCard : Claim7 := { stood := { row := parserParsesBackUptoRow, standIns := [], harness := (true, "18c17e6138464a61559e5add151a2f223752f7cc6370dfa5eeee15c5b4e1720b"), looks := true }, kinds := [], alts := [], laidByText := true, laidKinds := [.listed, .data], laidTests := true, laidLooks := .later }
def ParserParsesBackUptoCardSaid : Prop := Claim7.holds Tryz.pinned (.plain (OpenSpec.upto parserParsesBackSpec)) parserParsesBackUptoCard
end Rows
end Go.Proofs.YtcmaoifiiigggaaGreatDoor
