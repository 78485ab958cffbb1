/-
  DERIVED. GIVEN WITH THE SEED: THE CARDS: each row of YtcpikafmclfcfaaDoorRows.lean that lists a variable, with what it lists TIED to the program's text (the seventh form; the later family's looks); each row that meets fmt, with fmt's text TOLD by the authors' own Lean function (tested against real Go, not proved from fmt's source: count such statements apart). THE CARD IS WHAT COUNTS. Prove the row's statement (the work); the ties are given (YtcpikafmclfcfaaDoorTie.lean); close each card by the builder's one call (the guide's Derived/Test/ToyasCard.lean, 'card_holds'). Laid BY PROGRAM, IN A SANDBOX (cutbox-door.mjs). By AI agents, Wed Nov 11 2026. No macro, syntax, notation, axiom, sorry.
-/
import Derived.Test.YtcpikafmclfcfaaDoorRows
import GoSem.ClaimSeven
namespace Go.Proofs.YtcpikafmclfcfaaDoor
namespace Rows

/-- THE TIED CARD OF 'marlinspikelaw06.VecTexts'. -/
def vecTextsCard : Claim7 := { stood := { row := vecTextsRow, standIns := [], harness := (true, "7fca13d00dc16d9b68050cb6a70f5f25f607743ce6ac3a3de2cd8d69cd8cfeb4"), looks := true }, kinds := [], alts := [], laidByText := true, laidKinds := [.data, .data, .data, .data, .sentinel, .sentinel, .pinned], laidTests := true, laidLooks := .later }
def VecTextsCardSaid : Prop := Claim7.holds Tryd.pinned (.plain (OpenSpec.ofChange vecTextsSpec)) vecTextsCard

/-- THE TIED CARD OF 'marlinspikelaw06.VecBack'. -/
def vecBackCard : Claim7 := { stood := { row := vecBackRow, standIns := [], harness := (true, "7fca13d00dc16d9b68050cb6a70f5f25f607743ce6ac3a3de2cd8d69cd8cfeb4"), looks := true }, kinds := [], alts := [], laidByText := true, laidKinds := [.data, .data, .data, .data, .sentinel, .sentinel, .pinned], laidTests := true, laidLooks := .later }
def VecBackCardSaid : Prop := Claim7.holds Tryd.pinned (.plain (OpenSpec.ofChange vecBackSpec)) vecBackCard

/-- THE TIED CARD OF 'marlinspikelaw06.VecTells'. -/
def vecTellsCard : Claim7 := { stood := { row := vecTellsRow, standIns := [], harness := (true, "7fca13d00dc16d9b68050cb6a70f5f25f607743ce6ac3a3de2cd8d69cd8cfeb4"), looks := true }, kinds := [], alts := [], laidByText := true, laidKinds := [.data, .data, .data, .data, .sentinel, .sentinel, .pinned], laidTests := true, laidLooks := .later }
def VecTellsCardSaid : Prop := Claim7.holds Tryd.pinned (.plain (OpenSpec.ofChange vecTellsSpec)) vecTellsCard

/-- THE TIED CARD OF 'marlinspikelaw06.VecAdds'. -/
def vecAddsCard : Claim7 := { stood := { row := vecAddsRow, standIns := [], harness := (true, "7fca13d00dc16d9b68050cb6a70f5f25f607743ce6ac3a3de2cd8d69cd8cfeb4"), looks := true }, kinds := [], alts := [], laidByText := true, laidKinds := [.data, .data, .data, .data, .sentinel, .sentinel, .pinned], laidTests := true, laidLooks := .later }
def VecAddsCardSaid : Prop := Claim7.holds Tryd.pinned (.plain (OpenSpec.ofChange vecAddsSpec)) vecAddsCard

/-- THE TIED CARD OF 'marlinspikelaw06.VecInto'. -/
def vecIntoCard : Claim7 := { stood := { row := vecIntoRow, standIns := [], harness := (true, "7fca13d00dc16d9b68050cb6a70f5f25f607743ce6ac3a3de2cd8d69cd8cfeb4"), looks := true }, kinds := [], alts := [], laidByText := true, laidKinds := [.data, .data, .data, .data, .sentinel, .sentinel, .pinned], laidTests := true, laidLooks := .later }
def VecIntoCardSaid : Prop := Claim7.holds Tryd.pinned (.plain (OpenSpec.ofChange vecIntoSpec)) vecIntoCard

/-- THE TIED CARD OF 'marlinspikelaw06.VecSums'. -/
def vecSumsCard : Claim7 := { stood := { row := vecSumsRow, standIns := [], harness := (true, "7fca13d00dc16d9b68050cb6a70f5f25f607743ce6ac3a3de2cd8d69cd8cfeb4"), looks := true }, kinds := [], alts := [], laidByText := true, laidKinds := [.data, .data, .data, .data, .sentinel, .sentinel, .pinned], laidTests := true, laidLooks := .later }
def VecSumsCardSaid : Prop := Claim7.holds Tryd.pinned (.plain (OpenSpec.ofChange vecSumsSpec)) vecSumsCard

/-- THE TIED CARD OF 'marlinspikelaw06.VecCounts'. -/
def vecCountsCard : Claim7 := { stood := { row := vecCountsRow, standIns := [], harness := (true, "7fca13d00dc16d9b68050cb6a70f5f25f607743ce6ac3a3de2cd8d69cd8cfeb4"), looks := true }, kinds := [], alts := [], laidByText := true, laidKinds := [.data, .data, .data, .data, .sentinel, .sentinel, .pinned], laidTests := true, laidLooks := .later }
def VecCountsCardSaid : Prop := Claim7.holds Tryd.pinned (.plain (OpenSpec.ofChange vecCountsSpec)) vecCountsCard

/-- THE SECOND FORM's CARD OF 'marlinspikelaw06.VecTexts'. -/
def vecTextsUptoCard : Claim7 := { stood := { row := vecTextsUptoRow, standIns := [], harness := (true, "7fca13d00dc16d9b68050cb6a70f5f25f607743ce6ac3a3de2cd8d69cd8cfeb4"), looks := true }, kinds := [], alts := [], laidByText := true, laidKinds := [.data, .data, .data, .data, .sentinel, .sentinel, .pinned], laidTests := true, laidLooks := .later }
def VecTextsUptoCardSaid : Prop := Claim7.holds Tryd.pinned (.plain (OpenSpec.upto vecTextsSpec)) vecTextsUptoCard

/-- THE SECOND FORM's CARD OF 'marlinspikelaw06.VecBack'. -/
def vecBackUptoCard : Claim7 := { stood := { row := vecBackUptoRow, standIns := [], harness := (true, "7fca13d00dc16d9b68050cb6a70f5f25f607743ce6ac3a3de2cd8d69cd8cfeb4"), looks := true }, kinds := [], alts := [], laidByText := true, laidKinds := [.data, .data, .data, .data, .sentinel, .sentinel, .pinned], laidTests := true, laidLooks := .later }
def VecBackUptoCardSaid : Prop := Claim7.holds Tryd.pinned (.plain (OpenSpec.upto vecBackSpec)) vecBackUptoCard

/-- THE SECOND FORM's CARD OF 'marlinspikelaw06.VecTells'. -/
def vecTellsUptoCard : Claim7 := { stood := { row := vecTellsUptoRow, standIns := [], harness := (true, "7fca13d00dc16d9b68050cb6a70f5f25f607743ce6ac3a3de2cd8d69cd8cfeb4"), looks := true }, kinds := [], alts := [], laidByText := true, laidKinds := [.data, .data, .data, .data, .sentinel, .sentinel, .pinned], laidTests := true, laidLooks := .later }
def VecTellsUptoCardSaid : Prop := Claim7.holds Tryd.pinned (.plain (OpenSpec.upto vecTellsSpec)) vecTellsUptoCard

/-- THE SECOND FORM's CARD OF 'marlinspikelaw06.VecAdds'. -/
def vecAddsUptoCard : Claim7 := { stood := { row := vecAddsUptoRow, standIns := [], harness := (true, "7fca13d00dc16d9b68050cb6a70f5f25f607743ce6ac3a3de2cd8d69cd8cfeb4"), looks := true }, kinds := [], alts := [], laidByText := true, laidKinds := [.data, .data, .data, .data, .sentinel, .sentinel, .pinned], laidTests := true, laidLooks := .later }
def VecAddsUptoCardSaid : Prop := Claim7.holds Tryd.pinned (.plain (OpenSpec.upto vecAddsSpec)) vecAddsUptoCard

/-- THE SECOND FORM's CARD OF 'marlinspikelaw06.VecInto'. -/
def vecIntoUptoCard : Claim7 := { stood := { row := vecIntoUptoRow, standIns := [], harness := (true, "7fca13d00dc16d9b68050cb6a70f5f25f607743ce6ac3a3de2cd8d69cd8cfeb4"), looks := true }, kinds := [], alts := [], laidByText := true, laidKinds := [.data, .data, .data, .data, .sentinel, .sentinel, .pinned], laidTests := true, laidLooks := .later }
def VecIntoUptoCardSaid : Prop := Claim7.holds Tryd.pinned (.plain (OpenSpec.upto vecIntoSpec)) vecIntoUptoCard

/-- THE SECOND FORM's CARD OF 'marlinspikelaw06.VecSums'. -/
def vecSumsUptoCard : Claim7 := { stood := { row := vecSumsUptoRow, standIns := [], harness := (true, "7fca13d00dc16d9b68050cb6a70f5f25f607743ce6ac3a3de2cd8d69cd8cfeb4"), looks := true }, kinds := [], alts := [], laidByText := true, laidKinds := [.data, .data, .data, .data, .sentinel, .sentinel, .pinned], laidTests := true, laidLooks := .later }
def VecSumsUptoCardSaid : Prop := Claim7.holds Tryd.pinned (.plain (OpenSpec.upto vecSumsSpec)) vecSumsUptoCard

/-- THE SECOND FORM's CARD OF 'marlinspikelaw06.VecCounts'. -/
def vecCountsUptoCard : Claim7 := { stood := { row := vecCountsUptoRow, standIns := [], harness := (true, "7fca13d00dc16d9b68050cb6a70f5f25f607743ce6ac3a3de2cd8d69cd8cfeb4"), looks := true }, kinds := [], alts := [], laidByText := true, laidKinds := [.data, .data, .data, .data, .sentinel, .sentinel, .pinned], laidTests := true, laidLooks := .later }
def VecCountsUptoCardSaid : Prop := Claim7.holds Tryd.pinned (.plain (OpenSpec.upto vecCountsSpec)) vecCountsUptoCard
end Rows
end Go.Proofs.YtcpikafmclfcfaaDoor
