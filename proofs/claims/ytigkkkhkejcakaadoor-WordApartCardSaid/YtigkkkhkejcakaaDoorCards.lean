/-
  DERIVED. GIVEN WITH THE SEED: THE CARDS: each row of YtigkkkhkejcakaaDoorRows.lean that lists a variable, with what it lists TIED to the program's text (the seventh form; the later family's looks); each row that meets fmt, with fmt's text TOLD by the authors' own Lean function (tested against real Go, not proved from fmt's source: count such statements apart). THE CARD IS WHAT COUNTS. Prove the row's statement (the work); the ties are given (YtigkkkhkejcakaaDoorTie.lean); close each card by the builder's one call (the guide's Derived/Test/ToyasCard.lean, 'card_holds'). Laid BY PROGRAM, IN A SANDBOX (cutbox-door.mjs). By AI agents, Wed Nov 11 2026. No macro, syntax, notation, axiom, sorry.
-/
import Derived.Test.YtigkkkhkejcakaaDoorRows
import GoSem.ClaimSeven
namespace Go.Proofs.YtigkkkhkejcakaaDoor
namespace Rows

/-- THE TIED CARD OF 'ebbtidelaw02.WordKinds'. -/
def wordKindsCard : Claim7 := { stood := { row := wordKindsRow, standIns := [], harness := (true, "86aa935c604af454ad94ef1eeb1ee2c91ed0201e1a5226c5facc6dca5cf7c56e"), looks := false }, kinds := [], alts := [], laidByText := true, laidKinds := [.data, .pinned], laidTests := true, laidLooks := .later }
def WordKindsCardSaid : Prop := Claim7.holds Tryd.pinned (.plain (OpenSpec.ofChange wordKindsSpec)) wordKindsCard

/-- THE TIED CARD OF 'ebbtidelaw02.WordParts'. -/
def wordPartsCard : Claim7 := { stood := { row := wordPartsRow, standIns := [], harness := (true, "86aa935c604af454ad94ef1eeb1ee2c91ed0201e1a5226c5facc6dca5cf7c56e"), looks := false }, kinds := [], alts := [], laidByText := true, laidKinds := [.data, .pinned], laidTests := true, laidLooks := .later }
def WordPartsCardSaid : Prop := Claim7.holds Tryd.pinned (.plain (OpenSpec.ofChange wordPartsSpec)) wordPartsCard

/-- THE TIED CARD OF 'ebbtidelaw02.WordBack'. -/
def wordBackCard : Claim7 := { stood := { row := wordBackRow, standIns := [], harness := (true, "86aa935c604af454ad94ef1eeb1ee2c91ed0201e1a5226c5facc6dca5cf7c56e"), looks := false }, kinds := [], alts := [], laidByText := true, laidKinds := [.data, .pinned], laidTests := true, laidLooks := .later }
def WordBackCardSaid : Prop := Claim7.holds Tryd.pinned (.plain (OpenSpec.ofChange wordBackSpec)) wordBackCard

/-- THE TIED CARD OF 'ebbtidelaw02.WordApart'. -/
def wordApartCard : Claim7 := { stood := { row := wordApartRow, standIns := [], harness := (true, "86aa935c604af454ad94ef1eeb1ee2c91ed0201e1a5226c5facc6dca5cf7c56e"), looks := false }, kinds := [], alts := [], laidByText := true, laidKinds := [.data, .pinned], laidTests := true, laidLooks := .later }
def WordApartCardSaid : Prop := Claim7.holds Tryd.pinned (.plain (OpenSpec.ofChange wordApartSpec)) wordApartCard

/-- THE SECOND FORM's CARD OF 'ebbtidelaw02.WordKinds'. -/
def wordKindsUptoCard : Claim7 := { stood := { row := wordKindsUptoRow, standIns := [], harness := (true, "86aa935c604af454ad94ef1eeb1ee2c91ed0201e1a5226c5facc6dca5cf7c56e"), looks := false }, kinds := [], alts := [], laidByText := true, laidKinds := [.data, .pinned], laidTests := true, laidLooks := .later }
def WordKindsUptoCardSaid : Prop := Claim7.holds Tryd.pinned (.plain (OpenSpec.upto wordKindsSpec)) wordKindsUptoCard

/-- THE SECOND FORM's CARD OF 'ebbtidelaw02.WordParts'. -/
def wordPartsUptoCard : Claim7 := { stood := { row := wordPartsUptoRow, standIns := [], harness := (true, "86aa935c604af454ad94ef1eeb1ee2c91ed0201e1a5226c5facc6dca5cf7c56e"), looks := false }, kinds := [], alts := [], laidByText := true, laidKinds := [.data, .pinned], laidTests := true, laidLooks := .later }
def WordPartsUptoCardSaid : Prop := Claim7.holds Tryd.pinned (.plain (OpenSpec.upto wordPartsSpec)) wordPartsUptoCard

/-- THE SECOND FORM's CARD OF 'ebbtidelaw02.WordBack'. -/
def wordBackUptoCard : Claim7 := { stood := { row := wordBackUptoRow, standIns := [], harness := (true, "86aa935c604af454ad94ef1eeb1ee2c91ed0201e1a5226c5facc6dca5cf7c56e"), looks := false }, kinds := [], alts := [], laidByText := true, laidKinds := [.data, .pinned], laidTests := true, laidLooks := .later }
def WordBackUptoCardSaid : Prop := Claim7.holds Tryd.pinned (.plain (OpenSpec.upto wordBackSpec)) wordBackUptoCard

/-- THE SECOND FORM's CARD OF 'ebbtidelaw02.WordApart'. -/
def wordApartUptoCard : Claim7 := { stood := { row := wordApartUptoRow, standIns := [], harness := (true, "86aa935c604af454ad94ef1eeb1ee2c91ed0201e1a5226c5facc6dca5cf7c56e"), looks := false }, kinds := [], alts := [], laidByText := true, laidKinds := [.data, .pinned], laidTests := true, laidLooks := .later }
def WordApartUptoCardSaid : Prop := Claim7.holds Tryd.pinned (.plain (OpenSpec.upto wordApartSpec)) wordApartUptoCard
end Rows
end Go.Proofs.YtigkkkhkejcakaaDoor
