/-
  DERIVED. GIVEN WITH THE SEED: THE CARDS: each row of YtplfiioggbafhaaDoorRows.lean that lists a variable, with what it lists TIED to the program's text (the seventh form; the later family's looks); each row that meets fmt, with fmt's text TOLD by the authors' own Lean function (tested against real Go, not proved from fmt's source: count such statements apart). THE CARD IS WHAT COUNTS. Prove the row's statement (the work); the ties are given (YtplfiioggbafhaaDoorTie.lean); close each card by the builder's one call (the guide's Derived/Test/ToyasCard.lean, 'card_holds'). Laid BY PROGRAM, IN A SANDBOX (cutbox-door.mjs). By AI agents, Wed Nov 11 2026. No macro, syntax, notation, axiom, sorry.
-/
import Derived.Test.YtplfiioggbafhaaDoorRows
import GoSem.ClaimSeven
namespace Go.Proofs.YtplfiioggbafhaaDoor
namespace Rows

/-- THE TIED CARD OF 'ebbtidelaw01.SatAdds'. -/
def satAddsCard : Claim7 := { stood := { row := satAddsRow, standIns := [], harness := (true, "884d30859c1aea8e84dc32f9331008444f2223ae30c33d2cc552200941d36292"), looks := true }, kinds := [], alts := [], laidByText := true, laidKinds := [.data, .data, .data, .data, .sentinel, .sentinel, .pinned], laidTests := true, laidLooks := .later }
def SatAddsCardSaid : Prop := Claim7.holds Tryd.pinned (.plain (OpenSpec.ofChange satAddsSpec)) satAddsCard

/-- THE TIED CARD OF 'ebbtidelaw01.SatTotals'. -/
def satTotalsCard : Claim7 := { stood := { row := satTotalsRow, standIns := [], harness := (true, "884d30859c1aea8e84dc32f9331008444f2223ae30c33d2cc552200941d36292"), looks := true }, kinds := [], alts := [], laidByText := true, laidKinds := [.data, .data, .data, .data, .sentinel, .sentinel, .pinned], laidTests := true, laidLooks := .later }
def SatTotalsCardSaid : Prop := Claim7.holds Tryd.pinned (.plain (OpenSpec.ofChange satTotalsSpec)) satTotalsCard

/-- THE TIED CARD OF 'ebbtidelaw01.SatTexts'. -/
def satTextsCard : Claim7 := { stood := { row := satTextsRow, standIns := [], harness := (true, "884d30859c1aea8e84dc32f9331008444f2223ae30c33d2cc552200941d36292"), looks := true }, kinds := [], alts := [], laidByText := true, laidKinds := [.data, .data, .data, .data, .sentinel, .sentinel, .pinned], laidTests := true, laidLooks := .later }
def SatTextsCardSaid : Prop := Claim7.holds Tryd.pinned (.plain (OpenSpec.ofChange satTextsSpec)) satTextsCard

/-- THE TIED CARD OF 'ebbtidelaw01.SatStays'. -/
def satStaysCard : Claim7 := { stood := { row := satStaysRow, standIns := [], harness := (true, "884d30859c1aea8e84dc32f9331008444f2223ae30c33d2cc552200941d36292"), looks := true }, kinds := [], alts := [], laidByText := true, laidKinds := [.data, .data, .data, .data, .sentinel, .sentinel, .pinned], laidTests := true, laidLooks := .later }
def SatStaysCardSaid : Prop := Claim7.holds Tryd.pinned (.plain (OpenSpec.ofChange satStaysSpec)) satStaysCard

/-- THE TIED CARD OF 'ebbtidelaw01.SatBack'. -/
def satBackCard : Claim7 := { stood := { row := satBackRow, standIns := [], harness := (true, "884d30859c1aea8e84dc32f9331008444f2223ae30c33d2cc552200941d36292"), looks := true }, kinds := [], alts := [], laidByText := true, laidKinds := [.data, .data, .data, .data, .sentinel, .sentinel, .pinned], laidTests := true, laidLooks := .later }
def SatBackCardSaid : Prop := Claim7.holds Tryd.pinned (.plain (OpenSpec.ofChange satBackSpec)) satBackCard

/-- THE SECOND FORM's CARD OF 'ebbtidelaw01.SatAdds'. -/
def satAddsUptoCard : Claim7 := { stood := { row := satAddsUptoRow, standIns := [], harness := (true, "884d30859c1aea8e84dc32f9331008444f2223ae30c33d2cc552200941d36292"), looks := true }, kinds := [], alts := [], laidByText := true, laidKinds := [.data, .data, .data, .data, .sentinel, .sentinel, .pinned], laidTests := true, laidLooks := .later }
def SatAddsUptoCardSaid : Prop := Claim7.holds Tryd.pinned (.plain (OpenSpec.upto satAddsSpec)) satAddsUptoCard

/-- THE SECOND FORM's CARD OF 'ebbtidelaw01.SatTotals'. -/
def satTotalsUptoCard : Claim7 := { stood := { row := satTotalsUptoRow, standIns := [], harness := (true, "884d30859c1aea8e84dc32f9331008444f2223ae30c33d2cc552200941d36292"), looks := true }, kinds := [], alts := [], laidByText := true, laidKinds := [.data, .data, .data, .data, .sentinel, .sentinel, .pinned], laidTests := true, laidLooks := .later }
def SatTotalsUptoCardSaid : Prop := Claim7.holds Tryd.pinned (.plain (OpenSpec.upto satTotalsSpec)) satTotalsUptoCard

/-- THE SECOND FORM's CARD OF 'ebbtidelaw01.SatTexts'. -/
def satTextsUptoCard : Claim7 := { stood := { row := satTextsUptoRow, standIns := [], harness := (true, "884d30859c1aea8e84dc32f9331008444f2223ae30c33d2cc552200941d36292"), looks := true }, kinds := [], alts := [], laidByText := true, laidKinds := [.data, .data, .data, .data, .sentinel, .sentinel, .pinned], laidTests := true, laidLooks := .later }
def SatTextsUptoCardSaid : Prop := Claim7.holds Tryd.pinned (.plain (OpenSpec.upto satTextsSpec)) satTextsUptoCard

/-- THE SECOND FORM's CARD OF 'ebbtidelaw01.SatStays'. -/
def satStaysUptoCard : Claim7 := { stood := { row := satStaysUptoRow, standIns := [], harness := (true, "884d30859c1aea8e84dc32f9331008444f2223ae30c33d2cc552200941d36292"), looks := true }, kinds := [], alts := [], laidByText := true, laidKinds := [.data, .data, .data, .data, .sentinel, .sentinel, .pinned], laidTests := true, laidLooks := .later }
def SatStaysUptoCardSaid : Prop := Claim7.holds Tryd.pinned (.plain (OpenSpec.upto satStaysSpec)) satStaysUptoCard

/-- THE SECOND FORM's CARD OF 'ebbtidelaw01.SatBack'. -/
def satBackUptoCard : Claim7 := { stood := { row := satBackUptoRow, standIns := [], harness := (true, "884d30859c1aea8e84dc32f9331008444f2223ae30c33d2cc552200941d36292"), looks := true }, kinds := [], alts := [], laidByText := true, laidKinds := [.data, .data, .data, .data, .sentinel, .sentinel, .pinned], laidTests := true, laidLooks := .later }
def SatBackUptoCardSaid : Prop := Claim7.holds Tryd.pinned (.plain (OpenSpec.upto satBackSpec)) satBackUptoCard
end Rows
end Go.Proofs.YtplfiioggbafhaaDoor
