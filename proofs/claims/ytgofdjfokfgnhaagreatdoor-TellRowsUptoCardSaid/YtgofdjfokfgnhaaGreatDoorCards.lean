/-
  DERIVED. GIVEN WITH THE SEED: THE CARDS: each row of YtgofdjfokfgnhaaGreatDoorRows.lean that lists a variable, with what it lists TIED to the program's text (the seventh form; the later family's looks); each row that meets fmt, with fmt's text TOLD by the authors' own Lean function (tested against real Go, not proved from fmt's source: count such statements apart). THE CARD IS WHAT COUNTS. Prove the row's statement (the work); the ties are given (YtgofdjfokfgnhaaGreatDoorTie.lean); close each card by the builder's one call (the guide's Derived/Test/ToyasCard.lean, 'card_holds'). Laid BY PROGRAM, IN A SANDBOX (cutbox-door.mjs). By AI agents, Wed Nov 11 2026. No macro, syntax, notation, axiom, sorry.
-/
import Derived.Test.YtgofdjfokfgnhaaGreatDoorRows
import GoSem.ClaimSeven
namespace Go.Proofs.YtgofdjfokfgnhaaGreatDoor
namespace Rows

/-- THE TIED CARD OF 'tenementlaw19.TellLines'. -/
def tellLinesCard : Claim7 := { stood := { row := tellLinesRow, standIns := [], harness := (true, "4f8b3cb0cacdfe50837baf033c85b205fbe2388d03e0123181116a9e22ef61ea"), looks := true }, kinds := [], alts := [], laidByText := true, laidKinds := [.data, .data, .data], laidTests := true, laidLooks := .later }
def TellLinesCardSaid : Prop := Claim7.holds Tryz.pinned (.plain (OpenSpec.ofChange tellLinesSpec)) tellLinesCard

/-- THE TIED CARD OF 'tenementlaw19.TellErrors'. -/
def tellErrorsCard : Claim7 := { stood := { row := tellErrorsRow, standIns := [], harness := (true, "4f8b3cb0cacdfe50837baf033c85b205fbe2388d03e0123181116a9e22ef61ea"), looks := true }, kinds := [], alts := [], laidByText := true, laidKinds := [.data, .data, .data], laidTests := true, laidLooks := .later }
def TellErrorsCardSaid : Prop := Claim7.holds Tryz.pinned (.plain (OpenSpec.ofChange tellErrorsSpec)) tellErrorsCard

/-- THE TIED CARD OF 'tenementlaw19.TellRows'. -/
def tellRowsCard : Claim7 := { stood := { row := tellRowsRow, standIns := [], harness := (true, "4f8b3cb0cacdfe50837baf033c85b205fbe2388d03e0123181116a9e22ef61ea"), looks := true }, kinds := [], alts := [], laidByText := true, laidKinds := [.data, .data, .data], laidTests := true, laidLooks := .later }
def TellRowsCardSaid : Prop := Claim7.holds Tryz.pinned (.plain (OpenSpec.ofChange tellRowsSpec)) tellRowsCard

/-- THE TIED CARD OF 'tenementlaw19.TellRuns'. -/
def tellRunsCard : Claim7 := { stood := { row := tellRunsRow, standIns := [], harness := (true, "4f8b3cb0cacdfe50837baf033c85b205fbe2388d03e0123181116a9e22ef61ea"), looks := true }, kinds := [], alts := [], laidByText := true, laidKinds := [.data, .data, .data], laidTests := true, laidLooks := .later }
def TellRunsCardSaid : Prop := Claim7.holds Tryz.pinned (.plain (OpenSpec.ofChange tellRunsSpec)) tellRunsCard

/-- THE TIED CARD OF 'tenementlaw19.TellEnds'. -/
def tellEndsCard : Claim7 := { stood := { row := tellEndsRow, standIns := [], harness := (true, "4f8b3cb0cacdfe50837baf033c85b205fbe2388d03e0123181116a9e22ef61ea"), looks := true }, kinds := [], alts := [], laidByText := true, laidKinds := [.data, .data, .data], laidTests := true, laidLooks := .later }
def TellEndsCardSaid : Prop := Claim7.holds Tryz.pinned (.plain (OpenSpec.ofChange tellEndsSpec)) tellEndsCard

/-- THE TIED CARD OF 'tenementtop.WholeBytes'. -/
def wholeBytesCard : Claim7 := { stood := { row := wholeBytesRow, standIns := [], harness := (true, "4f8b3cb0cacdfe50837baf033c85b205fbe2388d03e0123181116a9e22ef61ea"), looks := true }, kinds := [], alts := [], laidByText := true, laidKinds := [.data, .data, .data], laidTests := true, laidLooks := .later }
def WholeBytesCardSaid : Prop := Claim7.holds Tryz.pinned (.plain (OpenSpec.ofChange wholeBytesSpec)) wholeBytesCard

/-- THE SECOND FORM's CARD OF 'tenementlaw19.TellLines'. -/
def tellLinesUptoCard : Claim7 := { stood := { row := tellLinesUptoRow, standIns := [], harness := (true, "4f8b3cb0cacdfe50837baf033c85b205fbe2388d03e0123181116a9e22ef61ea"), looks := true }, kinds := [], alts := [], laidByText := true, laidKinds := [.data, .data, .data], laidTests := true, laidLooks := .later }
def TellLinesUptoCardSaid : Prop := Claim7.holds Tryz.pinned (.plain (OpenSpec.upto tellLinesSpec)) tellLinesUptoCard

/-- THE SECOND FORM's CARD OF 'tenementlaw19.TellErrors'. -/
def tellErrorsUptoCard : Claim7 := { stood := { row := tellErrorsUptoRow, standIns := [], harness := (true, "4f8b3cb0cacdfe50837baf033c85b205fbe2388d03e0123181116a9e22ef61ea"), looks := true }, kinds := [], alts := [], laidByText := true, laidKinds := [.data, .data, .data], laidTests := true, laidLooks := .later }
def TellErrorsUptoCardSaid : Prop := Claim7.holds Tryz.pinned (.plain (OpenSpec.upto tellErrorsSpec)) tellErrorsUptoCard

/-- THE SECOND FORM's CARD OF 'tenementlaw19.TellRows'. -/
def tellRowsUptoCard : Claim7 := { stood := { row := tellRowsUptoRow, standIns := [], harness := (true, "4f8b3cb0cacdfe50837baf033c85b205fbe2388d03e0123181116a9e22ef61ea"), looks := true }, kinds := [], alts := [], laidByText := true, laidKinds := [.data, .data, .data], laidTests := true, laidLooks := .later }
def TellRowsUptoCardSaid : Prop := Claim7.holds Tryz.pinned (.plain (OpenSpec.upto tellRowsSpec)) tellRowsUptoCard

/-- THE SECOND FORM's CARD OF 'tenementlaw19.TellRuns'. -/
def tellRunsUptoCard : Claim7 := { stood := { row := tellRunsUptoRow, standIns := [], harness := (true, "4f8b3cb0cacdfe50837baf033c85b205fbe2388d03e0123181116a9e22ef61ea"), looks := true }, kinds := [], alts := [], laidByText := true, laidKinds := [.data, .data, .data], laidTests := true, laidLooks := .later }
def TellRunsUptoCardSaid : Prop := Claim7.holds Tryz.pinned (.plain (OpenSpec.upto tellRunsSpec)) tellRunsUptoCard

/-- THE SECOND FORM's CARD OF 'tenementlaw19.TellEnds'. -/
def tellEndsUptoCard : Claim7 := { stood := { row := tellEndsUptoRow, standIns := [], harness := (true, "4f8b3cb0cacdfe50837baf033c85b205fbe2388d03e0123181116a9e22ef61ea"), looks := true }, kinds := [], alts := [], laidByText := true, laidKinds := [.data, .data, .data], laidTests := true, laidLooks := .later }
def TellEndsUptoCardSaid : Prop := Claim7.holds Tryz.pinned (.plain (OpenSpec.upto tellEndsSpec)) tellEndsUptoCard

/-- THE SECOND FORM's CARD OF 'tenementtop.WholeBytes'. -/
def wholeBytesUptoCard : Claim7 := { stood := { row := wholeBytesUptoRow, standIns := [], harness := (true, "4f8b3cb0cacdfe50837baf033c85b205fbe2388d03e0123181116a9e22ef61ea"), looks := true }, kinds := [], alts := [], laidByText := true, laidKinds := [.data, .data, .data], laidTests := true, laidLooks := .later }
def WholeBytesUptoCardSaid : Prop := Claim7.holds Tryz.pinned (.plain (OpenSpec.upto wholeBytesSpec)) wholeBytesUptoCard
end Rows
end Go.Proofs.YtgofdjfokfgnhaaGreatDoor
