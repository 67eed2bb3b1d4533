/-
  No cell of these rows narrows 'for every input' (looked for: loops, veiled, ifaces, maps, wideKeys, modest, calm, conditions, laid).
  DERIVED. THE GIVEN ROWS OF THIS SEAT. 4 by the template 'for every input the law returns true; each argument reads behind the call as it read before'; 0 by the template 'total and deterministic' (their statements: YtimphnniplbgeaaTotals.lean).
  GIVEN WITH THE SEED: the statements are not yours to turn. If you find one false, say at which input.
  Laid BY PROGRAM, IN A SANDBOX (cutbox-rows.mjs): the forced cells as the released guide's own fill.sh prints them over the translation 995e33626babc7f3… (all of the seat's roots in one cut). By AI agents, Wed Nov 11 2026. No macro, syntax, notation, axiom, sorry.
-/
import Derived.Test.YtimphnniplbgeaaChecked
import GoSem.Claim
import GoSem.ClaimJoined
import GoSem.ClaimMapViews
import Derived.JoinedTies
import Derived.KernelRfl
namespace Go.Proofs.Ytimphnniplbgeaa
/- THE CELL 'sum', in the pinned program and in every row, IS THE sha256 OF THE DUMP (.gsa) THAT YtimphnniplbgeaaProg.lean LOADS. Nothing in Lean hashes anything: it is a label: what it is worth is what the hold of that sum in a sandbox is worth. -/
noncomputable def Try.pinned : Pinned := { name := "ytimphnniplbgeaa", sum := "995e33626babc7f3561fba1206eafbfb7bdbb6311f34653b2031f64eafbfe538", checked := Try.checked }
namespace Rows
def none {H : Type} : Left H := { results := [], args := [] }

/-- 'ebbtidelaw13.WinTells': WHATEVER THE INPUT: true; the input reads as it did. -/
def winTellsSpec : ChangeSpec := { name := "winTells", fn := fun _ => fun
  | [d1, d2, d3] => { results := [.lit (.bool true)], args := [d1, d2, d3] }
  | _ => none }
def winTellsRow : OpenClaim := { program := "ytimphnniplbgeaa", sum := "995e33626babc7f3561fba1206eafbfb7bdbb6311f34653b2031f64eafbfe538", func := "ebbtide/ebbtidelaw13.WinTells", spec := "winTells", apart := false }
def WinTellsSaid : Prop := winTellsRow.holds Try.pinned (OpenSpec.ofChange winTellsSpec)

/-- ITS FALSE NEIGHBOUR: 'it returns false'. Refute it at one input. -/
def winTellsWrong : ChangeSpec := { name := "winTells", fn := fun _ => fun
  | [d1, d2, d3] => { results := [.lit (.bool false)], args := [d1, d2, d3] }
  | _ => none }
def WinTellsWrongFalsely : Prop := winTellsRow.holds Try.pinned (OpenSpec.ofChange winTellsWrong)

/-- 'ebbtidelaw13.WinTimes': WHATEVER THE INPUT: true; the input reads as it did. -/
def winTimesSpec : ChangeSpec := { name := "winTimes", fn := fun _ => fun
  | [d1, d2, d3] => { results := [.lit (.bool true)], args := [d1, d2, d3] }
  | _ => none }
def winTimesRow : OpenClaim := { program := "ytimphnniplbgeaa", sum := "995e33626babc7f3561fba1206eafbfb7bdbb6311f34653b2031f64eafbfe538", func := "ebbtide/ebbtidelaw13.WinTimes", spec := "winTimes", apart := false }
def WinTimesSaid : Prop := winTimesRow.holds Try.pinned (OpenSpec.ofChange winTimesSpec)

/-- ITS FALSE NEIGHBOUR: 'it returns false'. Refute it at one input. -/
def winTimesWrong : ChangeSpec := { name := "winTimes", fn := fun _ => fun
  | [d1, d2, d3] => { results := [.lit (.bool false)], args := [d1, d2, d3] }
  | _ => none }
def WinTimesWrongFalsely : Prop := winTimesRow.holds Try.pinned (OpenSpec.ofChange winTimesWrong)

/-- 'ebbtidelaw13.WinOne': WHATEVER THE INPUT: true; the input reads as it did. -/
def winOneSpec : ChangeSpec := { name := "winOne", fn := fun _ => fun
  | [d1, d2, d3] => { results := [.lit (.bool true)], args := [d1, d2, d3] }
  | _ => none }
def winOneRow : OpenClaim := { program := "ytimphnniplbgeaa", sum := "995e33626babc7f3561fba1206eafbfb7bdbb6311f34653b2031f64eafbfe538", func := "ebbtide/ebbtidelaw13.WinOne", spec := "winOne", apart := false }
def WinOneSaid : Prop := winOneRow.holds Try.pinned (OpenSpec.ofChange winOneSpec)

/-- ITS FALSE NEIGHBOUR: 'it returns false'. Refute it at one input. -/
def winOneWrong : ChangeSpec := { name := "winOne", fn := fun _ => fun
  | [d1, d2, d3] => { results := [.lit (.bool false)], args := [d1, d2, d3] }
  | _ => none }
def WinOneWrongFalsely : Prop := winOneRow.holds Try.pinned (OpenSpec.ofChange winOneWrong)

/-- 'ebbtidelaw13.WinStays': WHATEVER THE INPUT: true; the input reads as it did. -/
def winStaysSpec : ChangeSpec := { name := "winStays", fn := fun _ => fun
  | [d1, d2, d3] => { results := [.lit (.bool true)], args := [d1, d2, d3] }
  | _ => none }
def winStaysRow : OpenClaim := { program := "ytimphnniplbgeaa", sum := "995e33626babc7f3561fba1206eafbfb7bdbb6311f34653b2031f64eafbfe538", func := "ebbtide/ebbtidelaw13.WinStays", spec := "winStays", apart := false }
def WinStaysSaid : Prop := winStaysRow.holds Try.pinned (OpenSpec.ofChange winStaysSpec)

/-- ITS FALSE NEIGHBOUR: 'it returns false'. Refute it at one input. -/
def winStaysWrong : ChangeSpec := { name := "winStays", fn := fun _ => fun
  | [d1, d2, d3] => { results := [.lit (.bool false)], args := [d1, d2, d3] }
  | _ => none }
def WinStaysWrongFalsely : Prop := winStaysRow.holds Try.pinned (OpenSpec.ofChange winStaysWrong)

/- THE SECOND FORM. 'bulk': how many values and letters a reading holds, each counted each time it is reached (what is shared counts as often as it is met; a slice's spare places count too). A statement '..UptoSaid' is the law's where the arguments, and the package variables that the reading takes, are together of bulk at most 1048576: NARROWER than '..Said'. Prove '..Said' where nothing that the law and all that it calls make is longer than what came in: it says more and counts as full. Else prove '..UptoSaid'. A law counts once. -/
mutual
def uptoBulk {H : Type} : DataW H → Nat
  | .lit (.string bytes) => bytes.length + 1
  | .lit _ => 1
  | .nil => 1
  | .ptr d => uptoBulk d + 1
  | .slice elems spare => uptoBulkAll elems + uptoBulkAll spare + 1
  | .agg parts => uptoBulkAll parts + 1
  | .iface _ d => uptoBulk d + 1
  | .map entries => uptoBulkEntries entries + 1
  | .held _ => 1
def uptoBulkAll {H : Type} : List (DataW H) → Nat
  | [] => 0
  | d :: r => uptoBulk d + uptoBulkAll r
def uptoBulkEntries {H : Type} : List (Lit × DataW H) → Nat
  | [] => 0
  | x :: r => uptoBulkEntry x + uptoBulkEntries r
def uptoBulkEntry {H : Type} : Lit × DataW H → Nat
  | (.string bytes, d) => bytes.length + uptoBulk d + 1
  | (_, d) => uptoBulk d + 1
 end
def uptoSmall : (H : Type) → List (DataW H) → Bool := fun _ ds => decide (uptoBulkAll ds ≤ 1048576)
def OpenSpec.upto (s : _root_.Go.ChangeSpec) : _root_.Go.OpenSpec := { _root_.Go.OpenSpec.ofChange s with cond := some uptoSmall }

/-- 'ebbtidelaw13.WinTells', WHERE WHAT IT READS IS OF BULK AT MOST 1048576: true; the input reads as it did. -/
def winTellsUptoRow : OpenClaim := { program := "ytimphnniplbgeaa", sum := "995e33626babc7f3561fba1206eafbfb7bdbb6311f34653b2031f64eafbfe538", func := "ebbtide/ebbtidelaw13.WinTells", spec := "winTells", apart := false, narrowed := true }
def WinTellsUptoSaid : Prop := winTellsUptoRow.holds Try.pinned (OpenSpec.upto winTellsSpec)

/-- 'ebbtidelaw13.WinTimes', WHERE WHAT IT READS IS OF BULK AT MOST 1048576: true; the input reads as it did. -/
def winTimesUptoRow : OpenClaim := { program := "ytimphnniplbgeaa", sum := "995e33626babc7f3561fba1206eafbfb7bdbb6311f34653b2031f64eafbfe538", func := "ebbtide/ebbtidelaw13.WinTimes", spec := "winTimes", apart := false, narrowed := true }
def WinTimesUptoSaid : Prop := winTimesUptoRow.holds Try.pinned (OpenSpec.upto winTimesSpec)

/-- 'ebbtidelaw13.WinOne', WHERE WHAT IT READS IS OF BULK AT MOST 1048576: true; the input reads as it did. -/
def winOneUptoRow : OpenClaim := { program := "ytimphnniplbgeaa", sum := "995e33626babc7f3561fba1206eafbfb7bdbb6311f34653b2031f64eafbfe538", func := "ebbtide/ebbtidelaw13.WinOne", spec := "winOne", apart := false, narrowed := true }
def WinOneUptoSaid : Prop := winOneUptoRow.holds Try.pinned (OpenSpec.upto winOneSpec)

/-- 'ebbtidelaw13.WinStays', WHERE WHAT IT READS IS OF BULK AT MOST 1048576: true; the input reads as it did. -/
def winStaysUptoRow : OpenClaim := { program := "ytimphnniplbgeaa", sum := "995e33626babc7f3561fba1206eafbfb7bdbb6311f34653b2031f64eafbfe538", func := "ebbtide/ebbtidelaw13.WinStays", spec := "winStays", apart := false, narrowed := true }
def WinStaysUptoSaid : Prop := winStaysUptoRow.holds Try.pinned (OpenSpec.upto winStaysSpec)

end Rows
end Go.Proofs.Ytimphnniplbgeaa
