/-
  DERIVED. GIVEN WITH THE SEED: THE CARDS: each row of YtjheajgckpfieaaDoorRows.lean that lists a variable, with what it lists TIED to the program's text (the seventh form; the later family's looks); each row that meets fmt, with fmt's text TOLD by the authors' own Lean function (tested against real Go, not proved from fmt's source: count such statements apart). THE CARD IS WHAT COUNTS. Prove the row's statement (the work); the ties are given (YtjheajgckpfieaaDoorTie.lean); close each card by the builder's one call (the guide's Derived/Test/ToyasCard.lean, 'card_holds'). Laid BY PROGRAM, IN A SANDBOX (cutbox-door.mjs). By AI agents, Wed Nov 11 2026. No macro, syntax, notation, axiom, sorry.
-/
import Derived.Test.YtjheajgckpfieaaDoorRows
import GoSem.ClaimSeven
namespace Go.Proofs.YtjheajgckpfieaaDoor
namespace Rows

/-- THE TIED CARD OF 'ebbtidelaw24.SessionSettles'. -/
def sessionSettlesCard : Claim7 := { stood := { row := sessionSettlesRow, standIns := [], harness := (true, "f2bdbe672d8d28c530dd3ef45f2b34dcd4edf530b356edcdc780f00d95817bbe"), looks := false }, kinds := [], alts := [], laidByText := true, laidKinds := [.data, .data, .data], laidTests := true, laidLooks := .later }
def SessionSettlesCardSaid : Prop := Claim7.holds Tryd.pinned (.plain (OpenSpec.ofChange sessionSettlesSpec)) sessionSettlesCard

/-- THE TIED CARD OF 'ebbtidelaw24.SessionAdds'. -/
def sessionAddsCard : Claim7 := { stood := { row := sessionAddsRow, standIns := [], harness := (true, "f2bdbe672d8d28c530dd3ef45f2b34dcd4edf530b356edcdc780f00d95817bbe"), looks := false }, kinds := [], alts := [], laidByText := true, laidKinds := [.data, .data, .data], laidTests := true, laidLooks := .later }
def SessionAddsCardSaid : Prop := Claim7.holds Tryd.pinned (.plain (OpenSpec.ofChange sessionAddsSpec)) sessionAddsCard

/-- THE TIED CARD OF 'ebbtidelaw24.SessionOrder'. -/
def sessionOrderCard : Claim7 := { stood := { row := sessionOrderRow, standIns := [], harness := (true, "f2bdbe672d8d28c530dd3ef45f2b34dcd4edf530b356edcdc780f00d95817bbe"), looks := false }, kinds := [], alts := [], laidByText := true, laidKinds := [.data, .data, .data], laidTests := true, laidLooks := .later }
def SessionOrderCardSaid : Prop := Claim7.holds Tryd.pinned (.plain (OpenSpec.ofChange sessionOrderSpec)) sessionOrderCard

/-- THE TIED CARD OF 'ebbtidelaw24.SessionOn'. -/
def sessionOnCard : Claim7 := { stood := { row := sessionOnRow, standIns := [], harness := (true, "f2bdbe672d8d28c530dd3ef45f2b34dcd4edf530b356edcdc780f00d95817bbe"), looks := false }, kinds := [], alts := [], laidByText := true, laidKinds := [.data, .data, .data], laidTests := true, laidLooks := .later }
def SessionOnCardSaid : Prop := Claim7.holds Tryd.pinned (.plain (OpenSpec.ofChange sessionOnSpec)) sessionOnCard

/-- THE SECOND FORM's CARD OF 'ebbtidelaw24.SessionSettles'. -/
def sessionSettlesUptoCard : Claim7 := { stood := { row := sessionSettlesUptoRow, standIns := [], harness := (true, "f2bdbe672d8d28c530dd3ef45f2b34dcd4edf530b356edcdc780f00d95817bbe"), looks := false }, kinds := [], alts := [], laidByText := true, laidKinds := [.data, .data, .data], laidTests := true, laidLooks := .later }
def SessionSettlesUptoCardSaid : Prop := Claim7.holds Tryd.pinned (.plain (OpenSpec.upto sessionSettlesSpec)) sessionSettlesUptoCard

/-- THE SECOND FORM's CARD OF 'ebbtidelaw24.SessionAdds'. -/
def sessionAddsUptoCard : Claim7 := { stood := { row := sessionAddsUptoRow, standIns := [], harness := (true, "f2bdbe672d8d28c530dd3ef45f2b34dcd4edf530b356edcdc780f00d95817bbe"), looks := false }, kinds := [], alts := [], laidByText := true, laidKinds := [.data, .data, .data], laidTests := true, laidLooks := .later }
def SessionAddsUptoCardSaid : Prop := Claim7.holds Tryd.pinned (.plain (OpenSpec.upto sessionAddsSpec)) sessionAddsUptoCard

/-- THE SECOND FORM's CARD OF 'ebbtidelaw24.SessionOrder'. -/
def sessionOrderUptoCard : Claim7 := { stood := { row := sessionOrderUptoRow, standIns := [], harness := (true, "f2bdbe672d8d28c530dd3ef45f2b34dcd4edf530b356edcdc780f00d95817bbe"), looks := false }, kinds := [], alts := [], laidByText := true, laidKinds := [.data, .data, .data], laidTests := true, laidLooks := .later }
def SessionOrderUptoCardSaid : Prop := Claim7.holds Tryd.pinned (.plain (OpenSpec.upto sessionOrderSpec)) sessionOrderUptoCard

/-- THE SECOND FORM's CARD OF 'ebbtidelaw24.SessionOn'. -/
def sessionOnUptoCard : Claim7 := { stood := { row := sessionOnUptoRow, standIns := [], harness := (true, "f2bdbe672d8d28c530dd3ef45f2b34dcd4edf530b356edcdc780f00d95817bbe"), looks := false }, kinds := [], alts := [], laidByText := true, laidKinds := [.data, .data, .data], laidTests := true, laidLooks := .later }
def SessionOnUptoCardSaid : Prop := Claim7.holds Tryd.pinned (.plain (OpenSpec.upto sessionOnSpec)) sessionOnUptoCard
end Rows
end Go.Proofs.YtjheajgckpfieaaDoor
