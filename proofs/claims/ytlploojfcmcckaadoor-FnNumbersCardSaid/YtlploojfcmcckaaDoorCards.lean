/-
  DERIVED. GIVEN WITH THE SEED: THE CARDS: each row of YtlploojfcmcckaaDoorRows.lean that lists a variable, with what it lists TIED to the program's text (the seventh form; the later family's looks); each row that meets fmt, with fmt's text TOLD by the authors' own Lean function (tested against real Go, not proved from fmt's source: count such statements apart). THE CARD IS WHAT COUNTS. Prove the row's statement (the work); the ties are given (YtlploojfcmcckaaDoorTie.lean); close each card by the builder's one call (the guide's Derived/Test/ToyasCard.lean, 'card_holds'). Laid BY PROGRAM, IN A SANDBOX (cutbox-door.mjs). By AI agents, Wed Nov 11 2026. No macro, syntax, notation, axiom, sorry.
-/
import Derived.Test.YtlploojfcmcckaaDoorRows
import GoSem.ClaimSeven
namespace Go.Proofs.YtlploojfcmcckaaDoor
namespace Rows

/-- THE TIED CARD OF 'laws.FnExactDec'. -/
def fnExactDecCard : Claim7 := { stood := { row := fnExactDecRow, standIns := [], harness := (true, "eae700dba6eb25ff44227253ee88bac2030633ad18d71fc3e96aa24f7cb32594"), looks := true }, kinds := [], alts := [], laidByText := true, laidKinds := [.data, .data, .data], laidTests := true, laidLooks := .later }
def FnExactDecCardSaid : Prop := Claim7.holds Tryd.pinned (.plain (OpenSpec.ofChange fnExactDecSpec)) fnExactDecCard

/-- THE TIED CARD OF 'laws.FnExactListing'. -/
def fnExactListingCard : Claim7 := { stood := { row := fnExactListingRow, standIns := [], harness := (true, "eae700dba6eb25ff44227253ee88bac2030633ad18d71fc3e96aa24f7cb32594"), looks := true }, kinds := [], alts := [], laidByText := true, laidKinds := [.data, .data, .data], laidTests := true, laidLooks := .later }
def FnExactListingCardSaid : Prop := Claim7.holds Tryd.pinned (.plain (OpenSpec.ofChange fnExactListingSpec)) fnExactListingCard

/-- THE TIED CARD OF 'laws.FnExactReadDec'. -/
def fnExactReadDecCard : Claim7 := { stood := { row := fnExactReadDecRow, standIns := [], harness := (true, "eae700dba6eb25ff44227253ee88bac2030633ad18d71fc3e96aa24f7cb32594"), looks := true }, kinds := [], alts := [], laidByText := true, laidKinds := [.data, .data, .data, .sentinel, .sentinel], laidTests := true, laidLooks := .later }
def FnExactReadDecCardSaid : Prop := Claim7.holds Tryd.pinned (.plain (OpenSpec.ofChange fnExactReadDecSpec)) fnExactReadDecCard

/-- THE TIED CARD OF 'laws.FnNumbers'. -/
def fnNumbersCard : Claim7 := { stood := { row := fnNumbersRow, standIns := [], harness := (true, "eae700dba6eb25ff44227253ee88bac2030633ad18d71fc3e96aa24f7cb32594"), looks := true }, kinds := [], alts := [], laidByText := true, laidKinds := [.data, .data, .data, .sentinel, .sentinel], laidTests := true, laidLooks := .later }
def FnNumbersCardSaid : Prop := Claim7.holds Tryd.pinned (.plain (OpenSpec.ofChange fnNumbersSpec)) fnNumbersCard

/-- THE TIED CARD OF 'laws.FnExactAsm'. -/
def fnExactAsmCard : Claim7 := { stood := { row := fnExactAsmRow, standIns := [], harness := (true, "eae700dba6eb25ff44227253ee88bac2030633ad18d71fc3e96aa24f7cb32594"), looks := true }, kinds := [], alts := [], laidByText := true, laidKinds := [.data, .data, .data, .data, .sentinel, .sentinel, .pinned], laidTests := true, laidLooks := .later }
def FnExactAsmCardSaid : Prop := Claim7.holds Tryd.pinned (.plain (OpenSpec.ofChange fnExactAsmSpec)) fnExactAsmCard

/-- THE SECOND FORM's CARD OF 'laws.FnExactDec'. -/
def fnExactDecUptoCard : Claim7 := { stood := { row := fnExactDecUptoRow, standIns := [], harness := (true, "eae700dba6eb25ff44227253ee88bac2030633ad18d71fc3e96aa24f7cb32594"), looks := true }, kinds := [], alts := [], laidByText := true, laidKinds := [.data, .data, .data], laidTests := true, laidLooks := .later }
def FnExactDecUptoCardSaid : Prop := Claim7.holds Tryd.pinned (.plain (OpenSpec.upto fnExactDecSpec)) fnExactDecUptoCard

/-- THE SECOND FORM's CARD OF 'laws.FnExactListing'. -/
def fnExactListingUptoCard : Claim7 := { stood := { row := fnExactListingUptoRow, standIns := [], harness := (true, "eae700dba6eb25ff44227253ee88bac2030633ad18d71fc3e96aa24f7cb32594"), looks := true }, kinds := [], alts := [], laidByText := true, laidKinds := [.data, .data, .data], laidTests := true, laidLooks := .later }
def FnExactListingUptoCardSaid : Prop := Claim7.holds Tryd.pinned (.plain (OpenSpec.upto fnExactListingSpec)) fnExactListingUptoCard

/-- THE SECOND FORM's CARD OF 'laws.FnExactReadDec'. -/
def fnExactReadDecUptoCard : Claim7 := { stood := { row := fnExactReadDecUptoRow, standIns := [], harness := (true, "eae700dba6eb25ff44227253ee88bac2030633ad18d71fc3e96aa24f7cb32594"), looks := true }, kinds := [], alts := [], laidByText := true, laidKinds := [.data, .data, .data, .sentinel, .sentinel], laidTests := true, laidLooks := .later }
def FnExactReadDecUptoCardSaid : Prop := Claim7.holds Tryd.pinned (.plain (OpenSpec.upto fnExactReadDecSpec)) fnExactReadDecUptoCard

/-- THE SECOND FORM's CARD OF 'laws.FnNumbers'. -/
def fnNumbersUptoCard : Claim7 := { stood := { row := fnNumbersUptoRow, standIns := [], harness := (true, "eae700dba6eb25ff44227253ee88bac2030633ad18d71fc3e96aa24f7cb32594"), looks := true }, kinds := [], alts := [], laidByText := true, laidKinds := [.data, .data, .data, .sentinel, .sentinel], laidTests := true, laidLooks := .later }
def FnNumbersUptoCardSaid : Prop := Claim7.holds Tryd.pinned (.plain (OpenSpec.upto fnNumbersSpec)) fnNumbersUptoCard

/-- THE SECOND FORM's CARD OF 'laws.FnExactAsm'. -/
def fnExactAsmUptoCard : Claim7 := { stood := { row := fnExactAsmUptoRow, standIns := [], harness := (true, "eae700dba6eb25ff44227253ee88bac2030633ad18d71fc3e96aa24f7cb32594"), looks := true }, kinds := [], alts := [], laidByText := true, laidKinds := [.data, .data, .data, .data, .sentinel, .sentinel, .pinned], laidTests := true, laidLooks := .later }
def FnExactAsmUptoCardSaid : Prop := Claim7.holds Tryd.pinned (.plain (OpenSpec.upto fnExactAsmSpec)) fnExactAsmUptoCard
end Rows
end Go.Proofs.YtlploojfcmcckaaDoor
