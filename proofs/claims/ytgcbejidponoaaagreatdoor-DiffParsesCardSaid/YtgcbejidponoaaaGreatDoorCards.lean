/-
  DERIVED. GIVEN WITH THE SEED: THE CARDS: each row of YtgcbejidponoaaaGreatDoorRows.lean that lists a variable, with what it lists TIED to the program's text (the seventh form; the later family's looks); each row that meets fmt, with fmt's text TOLD by the authors' own Lean function (tested against real Go, not proved from fmt's source: count such statements apart). THE CARD IS WHAT COUNTS. Prove the row's statement (the work); the ties are given (YtgcbejidponoaaaGreatDoorTie.lean); close each card by the builder's one call (the guide's Derived/Test/ToyasCard.lean, 'card_holds'). Laid BY PROGRAM, IN A SANDBOX (cutbox-door.mjs). By AI agents, Wed Nov 11 2026. No macro, syntax, notation, axiom, sorry.
-/
import Derived.Test.YtgcbejidponoaaaGreatDoorRows
import GoSem.ClaimSeven
namespace Go.Proofs.YtgcbejidponoaaaGreatDoor
namespace Rows

/-- THE TIED CARD OF 'ebbtidelaw09.DiffOf'. -/
def diffOfCard : Claim7 := { stood := { row := diffOfRow, standIns := [], harness := (true, "b3ed823faae23c7b25262e9696744dd576c9c9143fe2cb2f5f26fa47a480f61b"), looks := true }, kinds := [], alts := [], laidByText := true, laidKinds := [.data, .data, .data, .data, .sentinel, .sentinel, .pinned], laidTests := true, laidLooks := .later }
def DiffOfCardSaid : Prop := Claim7.holds Tryz.pinned (.plain (OpenSpec.ofChange diffOfSpec)) diffOfCard

/-- THE TIED CARD OF 'ebbtidelaw09.DiffApplies'. -/
def diffAppliesCard : Claim7 := { stood := { row := diffAppliesRow, standIns := [], harness := (true, "b3ed823faae23c7b25262e9696744dd576c9c9143fe2cb2f5f26fa47a480f61b"), looks := true }, kinds := [], alts := [], laidByText := true, laidKinds := [.data, .data, .data, .data, .sentinel, .sentinel, .pinned], laidTests := true, laidLooks := .later }
def DiffAppliesCardSaid : Prop := Claim7.holds Tryz.pinned (.plain (OpenSpec.ofChange diffAppliesSpec)) diffAppliesCard

/-- THE TIED CARD OF 'ebbtidelaw09.DiffParses'. -/
def diffParsesCard : Claim7 := { stood := { row := diffParsesRow, standIns := [], harness := (true, "b3ed823faae23c7b25262e9696744dd576c9c9143fe2cb2f5f26fa47a480f61b"), looks := true }, kinds := [], alts := [], laidByText := true, laidKinds := [.data, .data, .data, .data, .sentinel, .sentinel, .pinned], laidTests := true, laidLooks := .later }
def DiffParsesCardSaid : Prop := Claim7.holds Tryz.pinned (.plain (OpenSpec.ofChange diffParsesSpec)) diffParsesCard

/-- THE TIED CARD OF 'ebbtidelaw09.DiffBack'. -/
def diffBackCard : Claim7 := { stood := { row := diffBackRow, standIns := [], harness := (true, "b3ed823faae23c7b25262e9696744dd576c9c9143fe2cb2f5f26fa47a480f61b"), looks := true }, kinds := [], alts := [], laidByText := true, laidKinds := [.data, .data, .data, .data, .sentinel, .sentinel, .pinned], laidTests := true, laidLooks := .later }
def DiffBackCardSaid : Prop := Claim7.holds Tryz.pinned (.plain (OpenSpec.ofChange diffBackSpec)) diffBackCard

/-- THE TIED CARD OF 'ebbtidelaw09.DiffOn'. -/
def diffOnCard : Claim7 := { stood := { row := diffOnRow, standIns := [], harness := (true, "b3ed823faae23c7b25262e9696744dd576c9c9143fe2cb2f5f26fa47a480f61b"), looks := true }, kinds := [], alts := [], laidByText := true, laidKinds := [.data, .data, .data, .data, .sentinel, .sentinel, .pinned], laidTests := true, laidLooks := .later }
def DiffOnCardSaid : Prop := Claim7.holds Tryz.pinned (.plain (OpenSpec.ofChange diffOnSpec)) diffOnCard

/-- THE SECOND FORM's CARD OF 'ebbtidelaw09.DiffOf'. -/
def diffOfUptoCard : Claim7 := { stood := { row := diffOfUptoRow, standIns := [], harness := (true, "b3ed823faae23c7b25262e9696744dd576c9c9143fe2cb2f5f26fa47a480f61b"), looks := true }, kinds := [], alts := [], laidByText := true, laidKinds := [.data, .data, .data, .data, .sentinel, .sentinel, .pinned], laidTests := true, laidLooks := .later }
def DiffOfUptoCardSaid : Prop := Claim7.holds Tryz.pinned (.plain (OpenSpec.upto diffOfSpec)) diffOfUptoCard

/-- THE SECOND FORM's CARD OF 'ebbtidelaw09.DiffApplies'. -/
def diffAppliesUptoCard : Claim7 := { stood := { row := diffAppliesUptoRow, standIns := [], harness := (true, "b3ed823faae23c7b25262e9696744dd576c9c9143fe2cb2f5f26fa47a480f61b"), looks := true }, kinds := [], alts := [], laidByText := true, laidKinds := [.data, .data, .data, .data, .sentinel, .sentinel, .pinned], laidTests := true, laidLooks := .later }
def DiffAppliesUptoCardSaid : Prop := Claim7.holds Tryz.pinned (.plain (OpenSpec.upto diffAppliesSpec)) diffAppliesUptoCard

/-- THE SECOND FORM's CARD OF 'ebbtidelaw09.DiffParses'. -/
def diffParsesUptoCard : Claim7 := { stood := { row := diffParsesUptoRow, standIns := [], harness := (true, "b3ed823faae23c7b25262e9696744dd576c9c9143fe2cb2f5f26fa47a480f61b"), looks := true }, kinds := [], alts := [], laidByText := true, laidKinds := [.data, .data, .data, .data, .sentinel, .sentinel, .pinned], laidTests := true, laidLooks := .later }
def DiffParsesUptoCardSaid : Prop := Claim7.holds Tryz.pinned (.plain (OpenSpec.upto diffParsesSpec)) diffParsesUptoCard

/-- THE SECOND FORM's CARD OF 'ebbtidelaw09.DiffBack'. -/
def diffBackUptoCard : Claim7 := { stood := { row := diffBackUptoRow, standIns := [], harness := (true, "b3ed823faae23c7b25262e9696744dd576c9c9143fe2cb2f5f26fa47a480f61b"), looks := true }, kinds := [], alts := [], laidByText := true, laidKinds := [.data, .data, .data, .data, .sentinel, .sentinel, .pinned], laidTests := true, laidLooks := .later }
def DiffBackUptoCardSaid : Prop := Claim7.holds Tryz.pinned (.plain (OpenSpec.upto diffBackSpec)) diffBackUptoCard

/-- THE SECOND FORM's CARD OF 'ebbtidelaw09.DiffOn'. -/
def diffOnUptoCard : Claim7 := { stood := { row := diffOnUptoRow, standIns := [], harness := (true, "b3ed823faae23c7b25262e9696744dd576c9c9143fe2cb2f5f26fa47a480f61b"), looks := true }, kinds := [], alts := [], laidByText := true, laidKinds := [.data, .data, .data, .data, .sentinel, .sentinel, .pinned], laidTests := true, laidLooks := .later }
def DiffOnUptoCardSaid : Prop := Claim7.holds Tryz.pinned (.plain (OpenSpec.upto diffOnSpec)) diffOnUptoCard
end Rows
end Go.Proofs.YtgcbejidponoaaaGreatDoor
