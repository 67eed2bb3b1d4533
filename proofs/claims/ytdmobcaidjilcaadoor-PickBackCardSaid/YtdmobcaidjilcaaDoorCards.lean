/-
  DERIVED. GIVEN WITH THE SEED: THE CARDS: each row of YtdmobcaidjilcaaDoorRows.lean that lists a variable, with what it lists TIED to the program's text (the seventh form; the later family's looks); each row that meets fmt, with fmt's text TOLD by the authors' own Lean function (tested against real Go, not proved from fmt's source: count such statements apart). THE CARD IS WHAT COUNTS. Prove the row's statement (the work); the ties are given (YtdmobcaidjilcaaDoorTie.lean); close each card by the builder's one call (the guide's Derived/Test/ToyasCard.lean, 'card_holds'). Laid BY PROGRAM, IN A SANDBOX (cutbox-door.mjs). By AI agents, Wed Nov 11 2026. No macro, syntax, notation, axiom, sorry.
-/
import Derived.Test.YtdmobcaidjilcaaDoorRows
import GoSem.ClaimSeven
namespace Go.Proofs.YtdmobcaidjilcaaDoor
namespace Rows

/-- THE TIED CARD OF 'ebbtidelaw05.PickTells'. -/
def pickTellsCard : Claim7 := { stood := { row := pickTellsRow, standIns := [], harness := (true, "d63e5722fff42de1125ea6c9d5afa8a7e4249ab4b5a216ebc2a3e16d734184f4"), looks := false }, kinds := [], alts := [], laidByText := true, laidKinds := [.data, .pinned], laidTests := true, laidLooks := .later }
def PickTellsCardSaid : Prop := Claim7.holds Tryd.pinned (.plain (OpenSpec.ofChange pickTellsSpec)) pickTellsCard

/-- THE TIED CARD OF 'ebbtidelaw05.PickFits'. -/
def pickFitsCard : Claim7 := { stood := { row := pickFitsRow, standIns := [], harness := (true, "d63e5722fff42de1125ea6c9d5afa8a7e4249ab4b5a216ebc2a3e16d734184f4"), looks := false }, kinds := [], alts := [], laidByText := true, laidKinds := [.data, .pinned], laidTests := true, laidLooks := .later }
def PickFitsCardSaid : Prop := Claim7.holds Tryd.pinned (.plain (OpenSpec.ofChange pickFitsSpec)) pickFitsCard

/-- THE TIED CARD OF 'ebbtidelaw05.PickParses'. -/
def pickParsesCard : Claim7 := { stood := { row := pickParsesRow, standIns := [], harness := (true, "d63e5722fff42de1125ea6c9d5afa8a7e4249ab4b5a216ebc2a3e16d734184f4"), looks := false }, kinds := [], alts := [], laidByText := true, laidKinds := [.data, .pinned], laidTests := true, laidLooks := .later }
def PickParsesCardSaid : Prop := Claim7.holds Tryd.pinned (.plain (OpenSpec.ofChange pickParsesSpec)) pickParsesCard

/-- THE TIED CARD OF 'ebbtidelaw05.PickBack'. -/
def pickBackCard : Claim7 := { stood := { row := pickBackRow, standIns := [], harness := (true, "d63e5722fff42de1125ea6c9d5afa8a7e4249ab4b5a216ebc2a3e16d734184f4"), looks := false }, kinds := [], alts := [], laidByText := true, laidKinds := [.data, .pinned], laidTests := true, laidLooks := .later }
def PickBackCardSaid : Prop := Claim7.holds Tryd.pinned (.plain (OpenSpec.ofChange pickBackSpec)) pickBackCard

/-- THE TIED CARD OF 'ebbtidelaw05.PickOther'. -/
def pickOtherCard : Claim7 := { stood := { row := pickOtherRow, standIns := [], harness := (true, "d63e5722fff42de1125ea6c9d5afa8a7e4249ab4b5a216ebc2a3e16d734184f4"), looks := false }, kinds := [], alts := [], laidByText := true, laidKinds := [.data, .pinned], laidTests := true, laidLooks := .later }
def PickOtherCardSaid : Prop := Claim7.holds Tryd.pinned (.plain (OpenSpec.ofChange pickOtherSpec)) pickOtherCard

/-- THE SECOND FORM's CARD OF 'ebbtidelaw05.PickTells'. -/
def pickTellsUptoCard : Claim7 := { stood := { row := pickTellsUptoRow, standIns := [], harness := (true, "d63e5722fff42de1125ea6c9d5afa8a7e4249ab4b5a216ebc2a3e16d734184f4"), looks := false }, kinds := [], alts := [], laidByText := true, laidKinds := [.data, .pinned], laidTests := true, laidLooks := .later }
def PickTellsUptoCardSaid : Prop := Claim7.holds Tryd.pinned (.plain (OpenSpec.upto pickTellsSpec)) pickTellsUptoCard

/-- THE SECOND FORM's CARD OF 'ebbtidelaw05.PickFits'. -/
def pickFitsUptoCard : Claim7 := { stood := { row := pickFitsUptoRow, standIns := [], harness := (true, "d63e5722fff42de1125ea6c9d5afa8a7e4249ab4b5a216ebc2a3e16d734184f4"), looks := false }, kinds := [], alts := [], laidByText := true, laidKinds := [.data, .pinned], laidTests := true, laidLooks := .later }
def PickFitsUptoCardSaid : Prop := Claim7.holds Tryd.pinned (.plain (OpenSpec.upto pickFitsSpec)) pickFitsUptoCard

/-- THE SECOND FORM's CARD OF 'ebbtidelaw05.PickParses'. -/
def pickParsesUptoCard : Claim7 := { stood := { row := pickParsesUptoRow, standIns := [], harness := (true, "d63e5722fff42de1125ea6c9d5afa8a7e4249ab4b5a216ebc2a3e16d734184f4"), looks := false }, kinds := [], alts := [], laidByText := true, laidKinds := [.data, .pinned], laidTests := true, laidLooks := .later }
def PickParsesUptoCardSaid : Prop := Claim7.holds Tryd.pinned (.plain (OpenSpec.upto pickParsesSpec)) pickParsesUptoCard

/-- THE SECOND FORM's CARD OF 'ebbtidelaw05.PickBack'. -/
def pickBackUptoCard : Claim7 := { stood := { row := pickBackUptoRow, standIns := [], harness := (true, "d63e5722fff42de1125ea6c9d5afa8a7e4249ab4b5a216ebc2a3e16d734184f4"), looks := false }, kinds := [], alts := [], laidByText := true, laidKinds := [.data, .pinned], laidTests := true, laidLooks := .later }
def PickBackUptoCardSaid : Prop := Claim7.holds Tryd.pinned (.plain (OpenSpec.upto pickBackSpec)) pickBackUptoCard

/-- THE SECOND FORM's CARD OF 'ebbtidelaw05.PickOther'. -/
def pickOtherUptoCard : Claim7 := { stood := { row := pickOtherUptoRow, standIns := [], harness := (true, "d63e5722fff42de1125ea6c9d5afa8a7e4249ab4b5a216ebc2a3e16d734184f4"), looks := false }, kinds := [], alts := [], laidByText := true, laidKinds := [.data, .pinned], laidTests := true, laidLooks := .later }
def PickOtherUptoCardSaid : Prop := Claim7.holds Tryd.pinned (.plain (OpenSpec.upto pickOtherSpec)) pickOtherUptoCard
end Rows
end Go.Proofs.YtdmobcaidjilcaaDoor
