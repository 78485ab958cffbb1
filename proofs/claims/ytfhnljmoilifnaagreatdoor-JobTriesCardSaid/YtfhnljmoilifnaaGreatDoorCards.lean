/-
  DERIVED. GIVEN WITH THE SEED: THE CARDS: each row of YtfhnljmoilifnaaGreatDoorRows.lean that lists a variable, with what it lists TIED to the program's text (the seventh form; the later family's looks); each row that meets fmt, with fmt's text TOLD by the authors' own Lean function (tested against real Go, not proved from fmt's source: count such statements apart). THE CARD IS WHAT COUNTS. Prove the row's statement (the work); the ties are given (YtfhnljmoilifnaaGreatDoorTie.lean); close each card by the builder's one call (the guide's Derived/Test/ToyasCard.lean, 'card_holds'). Laid BY PROGRAM, IN A SANDBOX (cutbox-door.mjs). By AI agents, Wed Nov 11 2026. No macro, syntax, notation, axiom, sorry.
-/
import Derived.Test.YtfhnljmoilifnaaGreatDoorRows
import GoSem.ClaimSeven
namespace Go.Proofs.YtfhnljmoilifnaaGreatDoor
namespace Rows

/-- THE TIED CARD OF 'marlinspikelaw10.CmdParses'. -/
def cmdParsesCard : Claim7 := { stood := { row := cmdParsesRow, standIns := [], harness := (true, "ddb7f26e6b4d76af0ef616e59238bcb1db71aa8267074c5ec8bdfacf227fb205"), looks := true }, kinds := [], alts := [], laidByText := true, laidKinds := [.data, .data, .data, .data, .sentinel, .sentinel, .pinned], laidTests := true, laidLooks := .later }
def CmdParsesCardSaid : Prop := Claim7.holds Tryz.pinned (.plain (OpenSpec.ofChange cmdParsesSpec)) cmdParsesCard

/-- THE TIED CARD OF 'marlinspikelaw10.CmdFormats'. -/
def cmdFormatsCard : Claim7 := { stood := { row := cmdFormatsRow, standIns := [], harness := (true, "ddb7f26e6b4d76af0ef616e59238bcb1db71aa8267074c5ec8bdfacf227fb205"), looks := true }, kinds := [], alts := [], laidByText := true, laidKinds := [.data, .data, .data, .data, .sentinel, .sentinel, .pinned], laidTests := true, laidLooks := .later }
def CmdFormatsCardSaid : Prop := Claim7.holds Tryz.pinned (.plain (OpenSpec.ofChange cmdFormatsSpec)) cmdFormatsCard

/-- THE TIED CARD OF 'marlinspikelaw10.CmdBack'. -/
def cmdBackCard : Claim7 := { stood := { row := cmdBackRow, standIns := [], harness := (true, "ddb7f26e6b4d76af0ef616e59238bcb1db71aa8267074c5ec8bdfacf227fb205"), looks := true }, kinds := [], alts := [], laidByText := true, laidKinds := [.data, .data, .data, .data, .sentinel, .sentinel, .pinned], laidTests := true, laidLooks := .later }
def CmdBackCardSaid : Prop := Claim7.holds Tryz.pinned (.plain (OpenSpec.ofChange cmdBackSpec)) cmdBackCard

/-- THE TIED CARD OF 'marlinspikelaw10.CmdMay'. -/
def cmdMayCard : Claim7 := { stood := { row := cmdMayRow, standIns := [], harness := (true, "ddb7f26e6b4d76af0ef616e59238bcb1db71aa8267074c5ec8bdfacf227fb205"), looks := true }, kinds := [], alts := [], laidByText := true, laidKinds := [.data, .data, .data, .data, .sentinel, .sentinel, .pinned], laidTests := true, laidLooks := .later }
def CmdMayCardSaid : Prop := Claim7.holds Tryz.pinned (.plain (OpenSpec.ofChange cmdMaySpec)) cmdMayCard

/-- THE TIED CARD OF 'marlinspikelaw10.CmdOrder'. -/
def cmdOrderCard : Claim7 := { stood := { row := cmdOrderRow, standIns := [], harness := (true, "ddb7f26e6b4d76af0ef616e59238bcb1db71aa8267074c5ec8bdfacf227fb205"), looks := true }, kinds := [], alts := [], laidByText := true, laidKinds := [.data, .data, .data, .data, .sentinel, .sentinel, .pinned], laidTests := true, laidLooks := .later }
def CmdOrderCardSaid : Prop := Claim7.holds Tryz.pinned (.plain (OpenSpec.ofChange cmdOrderSpec)) cmdOrderCard

/-- THE TIED CARD OF 'marlinspikelaw10.CmdBlanks'. -/
def cmdBlanksCard : Claim7 := { stood := { row := cmdBlanksRow, standIns := [], harness := (true, "ddb7f26e6b4d76af0ef616e59238bcb1db71aa8267074c5ec8bdfacf227fb205"), looks := true }, kinds := [], alts := [], laidByText := true, laidKinds := [.data, .data, .data, .data, .sentinel, .sentinel, .pinned], laidTests := true, laidLooks := .later }
def CmdBlanksCardSaid : Prop := Claim7.holds Tryz.pinned (.plain (OpenSpec.ofChange cmdBlanksSpec)) cmdBlanksCard

/-- THE TIED CARD OF 'marlinspikelaw13.JobTries'. -/
def jobTriesCard : Claim7 := { stood := { row := jobTriesRow, standIns := [], harness := (true, "ddb7f26e6b4d76af0ef616e59238bcb1db71aa8267074c5ec8bdfacf227fb205"), looks := true }, kinds := [], alts := [], laidByText := true, laidKinds := [.data, .data, .data, .data, .sentinel, .sentinel, .pinned], laidTests := true, laidLooks := .later }
def JobTriesCardSaid : Prop := Claim7.holds Tryz.pinned (.plain (OpenSpec.ofChange jobTriesSpec)) jobTriesCard

/-- THE TIED CARD OF 'marlinspikelaw13.JobEnds'. -/
def jobEndsCard : Claim7 := { stood := { row := jobEndsRow, standIns := [], harness := (true, "ddb7f26e6b4d76af0ef616e59238bcb1db71aa8267074c5ec8bdfacf227fb205"), looks := true }, kinds := [], alts := [], laidByText := true, laidKinds := [.data, .data, .data, .data, .sentinel, .sentinel, .pinned], laidTests := true, laidLooks := .later }
def JobEndsCardSaid : Prop := Claim7.holds Tryz.pinned (.plain (OpenSpec.ofChange jobEndsSpec)) jobEndsCard

/-- THE TIED CARD OF 'marlinspikelaw13.JobApart'. -/
def jobApartCard : Claim7 := { stood := { row := jobApartRow, standIns := [], harness := (true, "ddb7f26e6b4d76af0ef616e59238bcb1db71aa8267074c5ec8bdfacf227fb205"), looks := true }, kinds := [], alts := [], laidByText := true, laidKinds := [.data, .data, .data, .data, .sentinel, .sentinel, .pinned], laidTests := true, laidLooks := .later }
def JobApartCardSaid : Prop := Claim7.holds Tryz.pinned (.plain (OpenSpec.ofChange jobApartSpec)) jobApartCard

/-- THE TIED CARD OF 'marlinspikelaw13.JobRefused'. -/
def jobRefusedCard : Claim7 := { stood := { row := jobRefusedRow, standIns := [], harness := (true, "ddb7f26e6b4d76af0ef616e59238bcb1db71aa8267074c5ec8bdfacf227fb205"), looks := true }, kinds := [], alts := [], laidByText := true, laidKinds := [.data, .data, .data, .data, .sentinel, .sentinel, .pinned], laidTests := true, laidLooks := .later }
def JobRefusedCardSaid : Prop := Claim7.holds Tryz.pinned (.plain (OpenSpec.ofChange jobRefusedSpec)) jobRefusedCard

/-- THE TIED CARD OF 'marlinspikelaw13.JobPlays'. -/
def jobPlaysCard : Claim7 := { stood := { row := jobPlaysRow, standIns := [], harness := (true, "ddb7f26e6b4d76af0ef616e59238bcb1db71aa8267074c5ec8bdfacf227fb205"), looks := true }, kinds := [], alts := [], laidByText := true, laidKinds := [.data, .data, .data, .data, .sentinel, .sentinel, .pinned], laidTests := true, laidLooks := .later }
def JobPlaysCardSaid : Prop := Claim7.holds Tryz.pinned (.plain (OpenSpec.ofChange jobPlaysSpec)) jobPlaysCard

/-- THE SECOND FORM's CARD OF 'marlinspikelaw10.CmdParses'. -/
def cmdParsesUptoCard : Claim7 := { stood := { row := cmdParsesUptoRow, standIns := [], harness := (true, "ddb7f26e6b4d76af0ef616e59238bcb1db71aa8267074c5ec8bdfacf227fb205"), looks := true }, kinds := [], alts := [], laidByText := true, laidKinds := [.data, .data, .data, .data, .sentinel, .sentinel, .pinned], laidTests := true, laidLooks := .later }
def CmdParsesUptoCardSaid : Prop := Claim7.holds Tryz.pinned (.plain (OpenSpec.upto cmdParsesSpec)) cmdParsesUptoCard

/-- THE SECOND FORM's CARD OF 'marlinspikelaw10.CmdFormats'. -/
def cmdFormatsUptoCard : Claim7 := { stood := { row := cmdFormatsUptoRow, standIns := [], harness := (true, "ddb7f26e6b4d76af0ef616e59238bcb1db71aa8267074c5ec8bdfacf227fb205"), looks := true }, kinds := [], alts := [], laidByText := true, laidKinds := [.data, .data, .data, .data, .sentinel, .sentinel, .pinned], laidTests := true, laidLooks := .later }
def CmdFormatsUptoCardSaid : Prop := Claim7.holds Tryz.pinned (.plain (OpenSpec.upto cmdFormatsSpec)) cmdFormatsUptoCard

/-- THE SECOND FORM's CARD OF 'marlinspikelaw10.CmdBack'. -/
def cmdBackUptoCard : Claim7 := { stood := { row := cmdBackUptoRow, standIns := [], harness := (true, "ddb7f26e6b4d76af0ef616e59238bcb1db71aa8267074c5ec8bdfacf227fb205"), looks := true }, kinds := [], alts := [], laidByText := true, laidKinds := [.data, .data, .data, .data, .sentinel, .sentinel, .pinned], laidTests := true, laidLooks := .later }
def CmdBackUptoCardSaid : Prop := Claim7.holds Tryz.pinned (.plain (OpenSpec.upto cmdBackSpec)) cmdBackUptoCard

/-- THE SECOND FORM's CARD OF 'marlinspikelaw10.CmdMay'. -/
def cmdMayUptoCard : Claim7 := { stood := { row := cmdMayUptoRow, standIns := [], harness := (true, "ddb7f26e6b4d76af0ef616e59238bcb1db71aa8267074c5ec8bdfacf227fb205"), looks := true }, kinds := [], alts := [], laidByText := true, laidKinds := [.data, .data, .data, .data, .sentinel, .sentinel, .pinned], laidTests := true, laidLooks := .later }
def CmdMayUptoCardSaid : Prop := Claim7.holds Tryz.pinned (.plain (OpenSpec.upto cmdMaySpec)) cmdMayUptoCard

/-- THE SECOND FORM's CARD OF 'marlinspikelaw10.CmdOrder'. -/
def cmdOrderUptoCard : Claim7 := { stood := { row := cmdOrderUptoRow, standIns := [], harness := (true, "ddb7f26e6b4d76af0ef616e59238bcb1db71aa8267074c5ec8bdfacf227fb205"), looks := true }, kinds := [], alts := [], laidByText := true, laidKinds := [.data, .data, .data, .data, .sentinel, .sentinel, .pinned], laidTests := true, laidLooks := .later }
def CmdOrderUptoCardSaid : Prop := Claim7.holds Tryz.pinned (.plain (OpenSpec.upto cmdOrderSpec)) cmdOrderUptoCard

/-- THE SECOND FORM's CARD OF 'marlinspikelaw10.CmdBlanks'. -/
def cmdBlanksUptoCard : Claim7 := { stood := { row := cmdBlanksUptoRow, standIns := [], harness := (true, "ddb7f26e6b4d76af0ef616e59238bcb1db71aa8267074c5ec8bdfacf227fb205"), looks := true }, kinds := [], alts := [], laidByText := true, laidKinds := [.data, .data, .data, .data, .sentinel, .sentinel, .pinned], laidTests := true, laidLooks := .later }
def CmdBlanksUptoCardSaid : Prop := Claim7.holds Tryz.pinned (.plain (OpenSpec.upto cmdBlanksSpec)) cmdBlanksUptoCard

/-- THE SECOND FORM's CARD OF 'marlinspikelaw13.JobTries'. -/
def jobTriesUptoCard : Claim7 := { stood := { row := jobTriesUptoRow, standIns := [], harness := (true, "ddb7f26e6b4d76af0ef616e59238bcb1db71aa8267074c5ec8bdfacf227fb205"), looks := true }, kinds := [], alts := [], laidByText := true, laidKinds := [.data, .data, .data, .data, .sentinel, .sentinel, .pinned], laidTests := true, laidLooks := .later }
def JobTriesUptoCardSaid : Prop := Claim7.holds Tryz.pinned (.plain (OpenSpec.upto jobTriesSpec)) jobTriesUptoCard

/-- THE SECOND FORM's CARD OF 'marlinspikelaw13.JobEnds'. -/
def jobEndsUptoCard : Claim7 := { stood := { row := jobEndsUptoRow, standIns := [], harness := (true, "ddb7f26e6b4d76af0ef616e59238bcb1db71aa8267074c5ec8bdfacf227fb205"), looks := true }, kinds := [], alts := [], laidByText := true, laidKinds := [.data, .data, .data, .data, .sentinel, .sentinel, .pinned], laidTests := true, laidLooks := .later }
def JobEndsUptoCardSaid : Prop := Claim7.holds Tryz.pinned (.plain (OpenSpec.upto jobEndsSpec)) jobEndsUptoCard

/-- THE SECOND FORM's CARD OF 'marlinspikelaw13.JobApart'. -/
def jobApartUptoCard : Claim7 := { stood := { row := jobApartUptoRow, standIns := [], harness := (true, "ddb7f26e6b4d76af0ef616e59238bcb1db71aa8267074c5ec8bdfacf227fb205"), looks := true }, kinds := [], alts := [], laidByText := true, laidKinds := [.data, .data, .data, .data, .sentinel, .sentinel, .pinned], laidTests := true, laidLooks := .later }
def JobApartUptoCardSaid : Prop := Claim7.holds Tryz.pinned (.plain (OpenSpec.upto jobApartSpec)) jobApartUptoCard

/-- THE SECOND FORM's CARD OF 'marlinspikelaw13.JobRefused'. -/
def jobRefusedUptoCard : Claim7 := { stood := { row := jobRefusedUptoRow, standIns := [], harness := (true, "ddb7f26e6b4d76af0ef616e59238bcb1db71aa8267074c5ec8bdfacf227fb205"), looks := true }, kinds := [], alts := [], laidByText := true, laidKinds := [.data, .data, .data, .data, .sentinel, .sentinel, .pinned], laidTests := true, laidLooks := .later }
def JobRefusedUptoCardSaid : Prop := Claim7.holds Tryz.pinned (.plain (OpenSpec.upto jobRefusedSpec)) jobRefusedUptoCard

/-- THE SECOND FORM's CARD OF 'marlinspikelaw13.JobPlays'. -/
def jobPlaysUptoCard : Claim7 := { stood := { row := jobPlaysUptoRow, standIns := [], harness := (true, "ddb7f26e6b4d76af0ef616e59238bcb1db71aa8267074c5ec8bdfacf227fb205"), looks := true }, kinds := [], alts := [], laidByText := true, laidKinds := [.data, .data, .data, .data, .sentinel, .sentinel, .pinned], laidTests := true, laidLooks := .later }
def JobPlaysUptoCardSaid : Prop := Claim7.holds Tryz.pinned (.plain (OpenSpec.upto jobPlaysSpec)) jobPlaysUptoCard
end Rows
end Go.Proofs.YtfhnljmoilifnaaGreatDoor
