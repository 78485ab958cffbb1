/-
  DERIVED. GIVEN WITH THE SEED: THE CARDS: each row of YtknbnnpggdegmaaDoorRows.lean that lists a variable, with what it lists TIED to the program's text (the seventh form; the later family's looks); each row that meets fmt, with fmt's text TOLD by the authors' own Lean function (tested against real Go, not proved from fmt's source: count such statements apart). THE CARD IS WHAT COUNTS. Prove the row's statement (the work); the ties are given (YtknbnnpggdegmaaDoorTie.lean); close each card by the builder's one call (the guide's Derived/Test/ToyasCard.lean, 'card_holds'). Laid BY PROGRAM, IN A SANDBOX (cutbox-door.mjs). By AI agents, Wed Nov 11 2026. No macro, syntax, notation, axiom, sorry.
-/
import Derived.Test.YtknbnnpggdegmaaDoorRows
import GoSem.ClaimSeven
namespace Go.Proofs.YtknbnnpggdegmaaDoor
namespace Rows

/-- THE TIED CARD OF 'marlinspikelaw07.DepAsks'. -/
def depAsksCard : Claim7 := { stood := { row := depAsksRow, standIns := [], harness := (true, "05f1e3fddb4be69a4540ec9046ab72154e16b1724ae23ce1d11e421d518b6400"), looks := true }, kinds := [], alts := [], laidByText := true, laidKinds := [.data, .data, .data, .sentinel, .sentinel], laidTests := true, laidLooks := .later }
def DepAsksCardSaid : Prop := Claim7.holds Tryd.pinned (.plain (OpenSpec.ofChange depAsksSpec)) depAsksCard

/-- THE TIED CARD OF 'marlinspikelaw07.DepBack'. -/
def depBackCard : Claim7 := { stood := { row := depBackRow, standIns := [], harness := (true, "05f1e3fddb4be69a4540ec9046ab72154e16b1724ae23ce1d11e421d518b6400"), looks := true }, kinds := [], alts := [], laidByText := true, laidKinds := [.data, .data, .data, .sentinel, .sentinel], laidTests := true, laidLooks := .later }
def DepBackCardSaid : Prop := Claim7.holds Tryd.pinned (.plain (OpenSpec.ofChange depBackSpec)) depBackCard

/-- THE TIED CARD OF 'marlinspikelaw07.DepStays'. -/
def depStaysCard : Claim7 := { stood := { row := depStaysRow, standIns := [], harness := (true, "05f1e3fddb4be69a4540ec9046ab72154e16b1724ae23ce1d11e421d518b6400"), looks := true }, kinds := [], alts := [], laidByText := true, laidKinds := [.data, .data, .data, .sentinel, .sentinel], laidTests := true, laidLooks := .later }
def DepStaysCardSaid : Prop := Claim7.holds Tryd.pinned (.plain (OpenSpec.ofChange depStaysSpec)) depStaysCard

/-- THE TIED CARD OF 'marlinspikelaw07.DepOrder'. -/
def depOrderCard : Claim7 := { stood := { row := depOrderRow, standIns := [], harness := (true, "05f1e3fddb4be69a4540ec9046ab72154e16b1724ae23ce1d11e421d518b6400"), looks := true }, kinds := [], alts := [], laidByText := true, laidKinds := [.data, .data, .data, .sentinel, .sentinel], laidTests := true, laidLooks := .later }
def DepOrderCardSaid : Prop := Claim7.holds Tryd.pinned (.plain (OpenSpec.ofChange depOrderSpec)) depOrderCard

/-- THE TIED CARD OF 'marlinspikelaw07.DepAlone'. -/
def depAloneCard : Claim7 := { stood := { row := depAloneRow, standIns := [], harness := (true, "05f1e3fddb4be69a4540ec9046ab72154e16b1724ae23ce1d11e421d518b6400"), looks := true }, kinds := [], alts := [], laidByText := true, laidKinds := [.data, .data, .data, .sentinel, .sentinel], laidTests := true, laidLooks := .later }
def DepAloneCardSaid : Prop := Claim7.holds Tryd.pinned (.plain (OpenSpec.ofChange depAloneSpec)) depAloneCard

/-- THE TIED CARD OF 'marlinspikelaw07.DepTells'. -/
def depTellsCard : Claim7 := { stood := { row := depTellsRow, standIns := [], harness := (true, "05f1e3fddb4be69a4540ec9046ab72154e16b1724ae23ce1d11e421d518b6400"), looks := true }, kinds := [], alts := [], laidByText := true, laidKinds := [.data, .data, .data, .sentinel, .sentinel], laidTests := true, laidLooks := .later }
def DepTellsCardSaid : Prop := Claim7.holds Tryd.pinned (.plain (OpenSpec.ofChange depTellsSpec)) depTellsCard

/-- THE TIED CARD OF 'marlinspikelaw07.DepLoops'. -/
def depLoopsCard : Claim7 := { stood := { row := depLoopsRow, standIns := [], harness := (true, "05f1e3fddb4be69a4540ec9046ab72154e16b1724ae23ce1d11e421d518b6400"), looks := true }, kinds := [], alts := [], laidByText := true, laidKinds := [.data, .data, .data, .sentinel, .sentinel], laidTests := true, laidLooks := .later }
def DepLoopsCardSaid : Prop := Claim7.holds Tryd.pinned (.plain (OpenSpec.ofChange depLoopsSpec)) depLoopsCard

/-- THE SECOND FORM's CARD OF 'marlinspikelaw07.DepAsks'. -/
def depAsksUptoCard : Claim7 := { stood := { row := depAsksUptoRow, standIns := [], harness := (true, "05f1e3fddb4be69a4540ec9046ab72154e16b1724ae23ce1d11e421d518b6400"), looks := true }, kinds := [], alts := [], laidByText := true, laidKinds := [.data, .data, .data, .sentinel, .sentinel], laidTests := true, laidLooks := .later }
def DepAsksUptoCardSaid : Prop := Claim7.holds Tryd.pinned (.plain (OpenSpec.upto depAsksSpec)) depAsksUptoCard

/-- THE SECOND FORM's CARD OF 'marlinspikelaw07.DepBack'. -/
def depBackUptoCard : Claim7 := { stood := { row := depBackUptoRow, standIns := [], harness := (true, "05f1e3fddb4be69a4540ec9046ab72154e16b1724ae23ce1d11e421d518b6400"), looks := true }, kinds := [], alts := [], laidByText := true, laidKinds := [.data, .data, .data, .sentinel, .sentinel], laidTests := true, laidLooks := .later }
def DepBackUptoCardSaid : Prop := Claim7.holds Tryd.pinned (.plain (OpenSpec.upto depBackSpec)) depBackUptoCard

/-- THE SECOND FORM's CARD OF 'marlinspikelaw07.DepStays'. -/
def depStaysUptoCard : Claim7 := { stood := { row := depStaysUptoRow, standIns := [], harness := (true, "05f1e3fddb4be69a4540ec9046ab72154e16b1724ae23ce1d11e421d518b6400"), looks := true }, kinds := [], alts := [], laidByText := true, laidKinds := [.data, .data, .data, .sentinel, .sentinel], laidTests := true, laidLooks := .later }
def DepStaysUptoCardSaid : Prop := Claim7.holds Tryd.pinned (.plain (OpenSpec.upto depStaysSpec)) depStaysUptoCard

/-- THE SECOND FORM's CARD OF 'marlinspikelaw07.DepOrder'. -/
def depOrderUptoCard : Claim7 := { stood := { row := depOrderUptoRow, standIns := [], harness := (true, "05f1e3fddb4be69a4540ec9046ab72154e16b1724ae23ce1d11e421d518b6400"), looks := true }, kinds := [], alts := [], laidByText := true, laidKinds := [.data, .data, .data, .sentinel, .sentinel], laidTests := true, laidLooks := .later }
def DepOrderUptoCardSaid : Prop := Claim7.holds Tryd.pinned (.plain (OpenSpec.upto depOrderSpec)) depOrderUptoCard

/-- THE SECOND FORM's CARD OF 'marlinspikelaw07.DepAlone'. -/
def depAloneUptoCard : Claim7 := { stood := { row := depAloneUptoRow, standIns := [], harness := (true, "05f1e3fddb4be69a4540ec9046ab72154e16b1724ae23ce1d11e421d518b6400"), looks := true }, kinds := [], alts := [], laidByText := true, laidKinds := [.data, .data, .data, .sentinel, .sentinel], laidTests := true, laidLooks := .later }
def DepAloneUptoCardSaid : Prop := Claim7.holds Tryd.pinned (.plain (OpenSpec.upto depAloneSpec)) depAloneUptoCard

/-- THE SECOND FORM's CARD OF 'marlinspikelaw07.DepTells'. -/
def depTellsUptoCard : Claim7 := { stood := { row := depTellsUptoRow, standIns := [], harness := (true, "05f1e3fddb4be69a4540ec9046ab72154e16b1724ae23ce1d11e421d518b6400"), looks := true }, kinds := [], alts := [], laidByText := true, laidKinds := [.data, .data, .data, .sentinel, .sentinel], laidTests := true, laidLooks := .later }
def DepTellsUptoCardSaid : Prop := Claim7.holds Tryd.pinned (.plain (OpenSpec.upto depTellsSpec)) depTellsUptoCard

/-- THE SECOND FORM's CARD OF 'marlinspikelaw07.DepLoops'. -/
def depLoopsUptoCard : Claim7 := { stood := { row := depLoopsUptoRow, standIns := [], harness := (true, "05f1e3fddb4be69a4540ec9046ab72154e16b1724ae23ce1d11e421d518b6400"), looks := true }, kinds := [], alts := [], laidByText := true, laidKinds := [.data, .data, .data, .sentinel, .sentinel], laidTests := true, laidLooks := .later }
def DepLoopsUptoCardSaid : Prop := Claim7.holds Tryd.pinned (.plain (OpenSpec.upto depLoopsSpec)) depLoopsUptoCard
end Rows
end Go.Proofs.YtknbnnpggdegmaaDoor
