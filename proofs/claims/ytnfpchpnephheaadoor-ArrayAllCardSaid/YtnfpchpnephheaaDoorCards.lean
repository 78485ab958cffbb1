/-
  DERIVED. GIVEN WITH THE SEED: THE CARDS: each row of YtnfpchpnephheaaDoorRows.lean that lists a variable, with what it lists TIED to the program's text (the seventh form; the later family's looks); each row that meets fmt, with fmt's text TOLD by the authors' own Lean function (tested against real Go, not proved from fmt's source: count such statements apart). THE CARD IS WHAT COUNTS. Prove the row's statement (the work); the ties are given (YtnfpchpnephheaaDoorTie.lean); close each card by the builder's one call (the guide's Derived/Test/ToyasCard.lean, 'card_holds'). Laid BY PROGRAM, IN A SANDBOX (cutbox-door.mjs). By AI agents, Wed Nov 11 2026. No macro, syntax, notation, axiom, sorry.
-/
import Derived.Test.YtnfpchpnephheaaDoorRows
import GoSem.ClaimSeven
namespace Go.Proofs.YtnfpchpnephheaaDoor
namespace Rows

/-- THE TIED CARD OF 'marlinspikelaw08.ArrayFormats'. -/
def arrayFormatsCard : Claim7 := { stood := { row := arrayFormatsRow, standIns := [], harness := (true, "523446869812e40590fd35f3f0e123962823cafa8a6bcac21da12e579a3de2d4"), looks := true }, kinds := [], alts := [], laidByText := true, laidKinds := [.data, .data, .data, .data, .sentinel, .sentinel, .pinned], laidTests := true, laidLooks := .later }
def ArrayFormatsCardSaid : Prop := Claim7.holds Tryd.pinned (.plain (OpenSpec.ofChange arrayFormatsSpec)) arrayFormatsCard

/-- THE TIED CARD OF 'marlinspikelaw08.ArrayBack'. -/
def arrayBackCard : Claim7 := { stood := { row := arrayBackRow, standIns := [], harness := (true, "523446869812e40590fd35f3f0e123962823cafa8a6bcac21da12e579a3de2d4"), looks := true }, kinds := [], alts := [], laidByText := true, laidKinds := [.data, .data, .data, .data, .sentinel, .sentinel, .pinned], laidTests := true, laidLooks := .later }
def ArrayBackCardSaid : Prop := Claim7.holds Tryd.pinned (.plain (OpenSpec.ofChange arrayBackSpec)) arrayBackCard

/-- THE TIED CARD OF 'marlinspikelaw08.ArrayAgain'. -/
def arrayAgainCard : Claim7 := { stood := { row := arrayAgainRow, standIns := [], harness := (true, "523446869812e40590fd35f3f0e123962823cafa8a6bcac21da12e579a3de2d4"), looks := true }, kinds := [], alts := [], laidByText := true, laidKinds := [.data, .data, .data, .data, .sentinel, .sentinel, .pinned], laidTests := true, laidLooks := .later }
def ArrayAgainCardSaid : Prop := Claim7.holds Tryd.pinned (.plain (OpenSpec.ofChange arrayAgainSpec)) arrayAgainCard

/-- THE TIED CARD OF 'marlinspikelaw08.ArraySteps'. -/
def arrayStepsCard : Claim7 := { stood := { row := arrayStepsRow, standIns := [], harness := (true, "523446869812e40590fd35f3f0e123962823cafa8a6bcac21da12e579a3de2d4"), looks := true }, kinds := [], alts := [], laidByText := true, laidKinds := [.data, .data, .data, .data, .sentinel, .sentinel, .pinned], laidTests := true, laidLooks := .later }
def ArrayStepsCardSaid : Prop := Claim7.holds Tryd.pinned (.plain (OpenSpec.ofChange arrayStepsSpec)) arrayStepsCard

/-- THE TIED CARD OF 'marlinspikelaw08.ArrayAll'. -/
def arrayAllCard : Claim7 := { stood := { row := arrayAllRow, standIns := [], harness := (true, "523446869812e40590fd35f3f0e123962823cafa8a6bcac21da12e579a3de2d4"), looks := true }, kinds := [], alts := [], laidByText := true, laidKinds := [.data, .data, .data, .data, .sentinel, .sentinel, .pinned], laidTests := true, laidLooks := .later }
def ArrayAllCardSaid : Prop := Claim7.holds Tryd.pinned (.plain (OpenSpec.ofChange arrayAllSpec)) arrayAllCard

/-- THE SECOND FORM's CARD OF 'marlinspikelaw08.ArrayFormats'. -/
def arrayFormatsUptoCard : Claim7 := { stood := { row := arrayFormatsUptoRow, standIns := [], harness := (true, "523446869812e40590fd35f3f0e123962823cafa8a6bcac21da12e579a3de2d4"), looks := true }, kinds := [], alts := [], laidByText := true, laidKinds := [.data, .data, .data, .data, .sentinel, .sentinel, .pinned], laidTests := true, laidLooks := .later }
def ArrayFormatsUptoCardSaid : Prop := Claim7.holds Tryd.pinned (.plain (OpenSpec.upto arrayFormatsSpec)) arrayFormatsUptoCard

/-- THE SECOND FORM's CARD OF 'marlinspikelaw08.ArrayBack'. -/
def arrayBackUptoCard : Claim7 := { stood := { row := arrayBackUptoRow, standIns := [], harness := (true, "523446869812e40590fd35f3f0e123962823cafa8a6bcac21da12e579a3de2d4"), looks := true }, kinds := [], alts := [], laidByText := true, laidKinds := [.data, .data, .data, .data, .sentinel, .sentinel, .pinned], laidTests := true, laidLooks := .later }
def ArrayBackUptoCardSaid : Prop := Claim7.holds Tryd.pinned (.plain (OpenSpec.upto arrayBackSpec)) arrayBackUptoCard

/-- THE SECOND FORM's CARD OF 'marlinspikelaw08.ArrayAgain'. -/
def arrayAgainUptoCard : Claim7 := { stood := { row := arrayAgainUptoRow, standIns := [], harness := (true, "523446869812e40590fd35f3f0e123962823cafa8a6bcac21da12e579a3de2d4"), looks := true }, kinds := [], alts := [], laidByText := true, laidKinds := [.data, .data, .data, .data, .sentinel, .sentinel, .pinned], laidTests := true, laidLooks := .later }
def ArrayAgainUptoCardSaid : Prop := Claim7.holds Tryd.pinned (.plain (OpenSpec.upto arrayAgainSpec)) arrayAgainUptoCard

/-- THE SECOND FORM's CARD OF 'marlinspikelaw08.ArraySteps'. -/
def arrayStepsUptoCard : Claim7 := { stood := { row := arrayStepsUptoRow, standIns := [], harness := (true, "523446869812e40590fd35f3f0e123962823cafa8a6bcac21da12e579a3de2d4"), looks := true }, kinds := [], alts := [], laidByText := true, laidKinds := [.data, .data, .data, .data, .sentinel, .sentinel, .pinned], laidTests := true, laidLooks := .later }
def ArrayStepsUptoCardSaid : Prop := Claim7.holds Tryd.pinned (.plain (OpenSpec.upto arrayStepsSpec)) arrayStepsUptoCard

/-- THE SECOND FORM's CARD OF 'marlinspikelaw08.ArrayAll'. -/
def arrayAllUptoCard : Claim7 := { stood := { row := arrayAllUptoRow, standIns := [], harness := (true, "523446869812e40590fd35f3f0e123962823cafa8a6bcac21da12e579a3de2d4"), looks := true }, kinds := [], alts := [], laidByText := true, laidKinds := [.data, .data, .data, .data, .sentinel, .sentinel, .pinned], laidTests := true, laidLooks := .later }
def ArrayAllUptoCardSaid : Prop := Claim7.holds Tryd.pinned (.plain (OpenSpec.upto arrayAllSpec)) arrayAllUptoCard
end Rows
end Go.Proofs.YtnfpchpnephheaaDoor
