/-
  DERIVED. GIVEN WITH THE SEED: THE CARDS: each row of YtoammgpfbdcphaaDoorRows.lean that lists a variable, with what it lists TIED to the program's text (the seventh form; the later family's looks); each row that meets fmt, with fmt's text TOLD by the authors' own Lean function (tested against real Go, not proved from fmt's source: count such statements apart). THE CARD IS WHAT COUNTS. Prove the row's statement (the work); the ties are given (YtoammgpfbdcphaaDoorTie.lean); close each card by the builder's one call (the guide's Derived/Test/ToyasCard.lean, 'card_holds'). Laid BY PROGRAM, IN A SANDBOX (cutbox-door.mjs). By AI agents, Wed Nov 11 2026. No macro, syntax, notation, axiom, sorry.
-/
import Derived.Test.YtoammgpfbdcphaaDoorRows
import GoSem.ClaimSeven
namespace Go.Proofs.YtoammgpfbdcphaaDoor
namespace Rows

/-- THE TIED CARD OF 'marlinspikelaw05.HostBack'. -/
def hostBackCard : Claim7 := { stood := { row := hostBackRow, standIns := [], harness := (true, "cf2e67cbc797378abe419fbdc246f5542ee6bacbb7c0ffc2570acb5796d25431"), looks := true }, kinds := [], alts := [], laidByText := true, laidKinds := [.data, .data, .data, .sentinel, .sentinel], laidTests := true, laidLooks := .later }
def HostBackCardSaid : Prop := Claim7.holds Tryd.pinned (.plain (OpenSpec.ofChange hostBackSpec)) hostBackCard

/-- THE TIED CARD OF 'marlinspikelaw05.HostAgain'. -/
def hostAgainCard : Claim7 := { stood := { row := hostAgainRow, standIns := [], harness := (true, "cf2e67cbc797378abe419fbdc246f5542ee6bacbb7c0ffc2570acb5796d25431"), looks := true }, kinds := [], alts := [], laidByText := true, laidKinds := [.data, .data, .data, .sentinel, .sentinel], laidTests := true, laidLooks := .later }
def HostAgainCardSaid : Prop := Claim7.holds Tryd.pinned (.plain (OpenSpec.ofChange hostAgainSpec)) hostAgainCard

/-- THE TIED CARD OF 'marlinspikelaw05.HostSpan'. -/
def hostSpanCard : Claim7 := { stood := { row := hostSpanRow, standIns := [], harness := (true, "cf2e67cbc797378abe419fbdc246f5542ee6bacbb7c0ffc2570acb5796d25431"), looks := true }, kinds := [], alts := [], laidByText := true, laidKinds := [.data, .data, .data, .sentinel, .sentinel], laidTests := true, laidLooks := .later }
def HostSpanCardSaid : Prop := Claim7.holds Tryd.pinned (.plain (OpenSpec.ofChange hostSpanSpec)) hostSpanCard

/-- THE TIED CARD OF 'marlinspikelaw05.HostNumbers'. -/
def hostNumbersCard : Claim7 := { stood := { row := hostNumbersRow, standIns := [], harness := (true, "cf2e67cbc797378abe419fbdc246f5542ee6bacbb7c0ffc2570acb5796d25431"), looks := true }, kinds := [], alts := [], laidByText := true, laidKinds := [.data, .data, .data, .sentinel, .sentinel], laidTests := true, laidLooks := .later }
def HostNumbersCardSaid : Prop := Claim7.holds Tryd.pinned (.plain (OpenSpec.ofChange hostNumbersSpec)) hostNumbersCard

/-- THE TIED CARD OF 'marlinspikelaw05.HostSorts'. -/
def hostSortsCard : Claim7 := { stood := { row := hostSortsRow, standIns := [], harness := (true, "cf2e67cbc797378abe419fbdc246f5542ee6bacbb7c0ffc2570acb5796d25431"), looks := true }, kinds := [], alts := [], laidByText := true, laidKinds := [.data, .data, .data, .sentinel, .sentinel], laidTests := true, laidLooks := .later }
def HostSortsCardSaid : Prop := Claim7.holds Tryd.pinned (.plain (OpenSpec.ofChange hostSortsSpec)) hostSortsCard

/-- THE SECOND FORM's CARD OF 'marlinspikelaw05.HostBack'. -/
def hostBackUptoCard : Claim7 := { stood := { row := hostBackUptoRow, standIns := [], harness := (true, "cf2e67cbc797378abe419fbdc246f5542ee6bacbb7c0ffc2570acb5796d25431"), looks := true }, kinds := [], alts := [], laidByText := true, laidKinds := [.data, .data, .data, .sentinel, .sentinel], laidTests := true, laidLooks := .later }
def HostBackUptoCardSaid : Prop := Claim7.holds Tryd.pinned (.plain (OpenSpec.upto hostBackSpec)) hostBackUptoCard

/-- THE SECOND FORM's CARD OF 'marlinspikelaw05.HostAgain'. -/
def hostAgainUptoCard : Claim7 := { stood := { row := hostAgainUptoRow, standIns := [], harness := (true, "cf2e67cbc797378abe419fbdc246f5542ee6bacbb7c0ffc2570acb5796d25431"), looks := true }, kinds := [], alts := [], laidByText := true, laidKinds := [.data, .data, .data, .sentinel, .sentinel], laidTests := true, laidLooks := .later }
def HostAgainUptoCardSaid : Prop := Claim7.holds Tryd.pinned (.plain (OpenSpec.upto hostAgainSpec)) hostAgainUptoCard

/-- THE SECOND FORM's CARD OF 'marlinspikelaw05.HostSpan'. -/
def hostSpanUptoCard : Claim7 := { stood := { row := hostSpanUptoRow, standIns := [], harness := (true, "cf2e67cbc797378abe419fbdc246f5542ee6bacbb7c0ffc2570acb5796d25431"), looks := true }, kinds := [], alts := [], laidByText := true, laidKinds := [.data, .data, .data, .sentinel, .sentinel], laidTests := true, laidLooks := .later }
def HostSpanUptoCardSaid : Prop := Claim7.holds Tryd.pinned (.plain (OpenSpec.upto hostSpanSpec)) hostSpanUptoCard

/-- THE SECOND FORM's CARD OF 'marlinspikelaw05.HostNumbers'. -/
def hostNumbersUptoCard : Claim7 := { stood := { row := hostNumbersUptoRow, standIns := [], harness := (true, "cf2e67cbc797378abe419fbdc246f5542ee6bacbb7c0ffc2570acb5796d25431"), looks := true }, kinds := [], alts := [], laidByText := true, laidKinds := [.data, .data, .data, .sentinel, .sentinel], laidTests := true, laidLooks := .later }
def HostNumbersUptoCardSaid : Prop := Claim7.holds Tryd.pinned (.plain (OpenSpec.upto hostNumbersSpec)) hostNumbersUptoCard

/-- THE SECOND FORM's CARD OF 'marlinspikelaw05.HostSorts'. -/
def hostSortsUptoCard : Claim7 := { stood := { row := hostSortsUptoRow, standIns := [], harness := (true, "cf2e67cbc797378abe419fbdc246f5542ee6bacbb7c0ffc2570acb5796d25431"), looks := true }, kinds := [], alts := [], laidByText := true, laidKinds := [.data, .data, .data, .sentinel, .sentinel], laidTests := true, laidLooks := .later }
def HostSortsUptoCardSaid : Prop := Claim7.holds Tryd.pinned (.plain (OpenSpec.upto hostSortsSpec)) hostSortsUptoCard
end Rows
end Go.Proofs.YtoammgpfbdcphaaDoor
