/-
  No cell of these rows narrows 'for every input' (looked for: loops, veiled, ifaces, maps, wideKeys, modest, calm, conditions, laid).
  DERIVED. THE GIVEN ROWS OF THIS SEAT. 4 by the template 'for every input the law returns true; each argument reads behind the call as it read before'; 0 by the template 'total and deterministic' (their statements: YtklhjponikgkkaaTotals.lean).
  GIVEN WITH THE SEED: the statements are not yours to turn. If you find one false, say at which input.
  Laid BY PROGRAM, IN A SANDBOX (cutbox-rows.mjs): the forced cells as the released guide's own fill.sh prints them over the translation 4521cfcd92af90d5… (all of the seat's roots in one cut). By AI agents, Wed Nov 11 2026. No macro, syntax, notation, axiom, sorry.
-/
import Derived.Test.YtklhjponikgkkaaChecked
import GoSem.Claim
import GoSem.ClaimJoined
import GoSem.ClaimMapViews
import Derived.JoinedTies
import Derived.KernelRfl
namespace Go.Proofs.Ytklhjponikgkkaa
/- THE CELL 'sum', in the pinned program and in every row, IS THE sha256 OF THE DUMP (.gsa) THAT YtklhjponikgkkaaProg.lean LOADS. Nothing in Lean hashes anything: it is a label: what it is worth is what the hold of that sum in a sandbox is worth. -/
noncomputable def Try.pinned : Pinned := { name := "ytklhjponikgkkaa", sum := "4521cfcd92af90d56a5981887f9fe66ed5e33e39d681eacf4be7001a68f97b41", checked := Try.checked }
namespace Rows
def none {H : Type} : Left H := { results := [], args := [] }

/-- 'ebbtidelaw17.EmitNext': WHATEVER THE INPUT: true; the input reads as it did. -/
def emitNextSpec : ChangeSpec := { name := "emitNext", fn := fun _ => fun
  | [d1, d2, d3] => { results := [.lit (.bool true)], args := [d1, d2, d3] }
  | _ => none }
def emitNextRow : OpenClaim := { program := "ytklhjponikgkkaa", sum := "4521cfcd92af90d56a5981887f9fe66ed5e33e39d681eacf4be7001a68f97b41", func := "ebbtide/ebbtidelaw17.EmitNext", spec := "emitNext", inPlace := ["internal/bytealg.abigen_runtime_cmpstring"], unfollowed := true, recurses := true, apart := false }
def EmitNextSaid : Prop := emitNextRow.holds Try.pinned (OpenSpec.ofChange emitNextSpec)

/-- ITS FALSE NEIGHBOUR: 'it returns false'. Refute it at one input. -/
def emitNextWrong : ChangeSpec := { name := "emitNext", fn := fun _ => fun
  | [d1, d2, d3] => { results := [.lit (.bool false)], args := [d1, d2, d3] }
  | _ => none }
def EmitNextWrongFalsely : Prop := emitNextRow.holds Try.pinned (OpenSpec.ofChange emitNextWrong)

/-- 'ebbtidelaw17.EmitTakes': WHATEVER THE INPUT: true; the input reads as it did. -/
def emitTakesSpec : ChangeSpec := { name := "emitTakes", fn := fun _ => fun
  | [d1, d2, d3] => { results := [.lit (.bool true)], args := [d1, d2, d3] }
  | _ => none }
def emitTakesRow : OpenClaim := { program := "ytklhjponikgkkaa", sum := "4521cfcd92af90d56a5981887f9fe66ed5e33e39d681eacf4be7001a68f97b41", func := "ebbtide/ebbtidelaw17.EmitTakes", spec := "emitTakes", inPlace := ["internal/bytealg.abigen_runtime_cmpstring"], unfollowed := true, recurses := true, apart := false }
def EmitTakesSaid : Prop := emitTakesRow.holds Try.pinned (OpenSpec.ofChange emitTakesSpec)

/-- ITS FALSE NEIGHBOUR: 'it returns false'. Refute it at one input. -/
def emitTakesWrong : ChangeSpec := { name := "emitTakes", fn := fun _ => fun
  | [d1, d2, d3] => { results := [.lit (.bool false)], args := [d1, d2, d3] }
  | _ => none }
def EmitTakesWrongFalsely : Prop := emitTakesRow.holds Try.pinned (OpenSpec.ofChange emitTakesWrong)

/-- 'ebbtidelaw17.EmitOnce': WHATEVER THE INPUT: true; the input reads as it did. -/
def emitOnceSpec : ChangeSpec := { name := "emitOnce", fn := fun _ => fun
  | [d1, d2, d3] => { results := [.lit (.bool true)], args := [d1, d2, d3] }
  | _ => none }
def emitOnceRow : OpenClaim := { program := "ytklhjponikgkkaa", sum := "4521cfcd92af90d56a5981887f9fe66ed5e33e39d681eacf4be7001a68f97b41", func := "ebbtide/ebbtidelaw17.EmitOnce", spec := "emitOnce", inPlace := ["internal/bytealg.abigen_runtime_cmpstring"], unfollowed := true, recurses := true, apart := false }
def EmitOnceSaid : Prop := emitOnceRow.holds Try.pinned (OpenSpec.ofChange emitOnceSpec)

/-- ITS FALSE NEIGHBOUR: 'it returns false'. Refute it at one input. -/
def emitOnceWrong : ChangeSpec := { name := "emitOnce", fn := fun _ => fun
  | [d1, d2, d3] => { results := [.lit (.bool false)], args := [d1, d2, d3] }
  | _ => none }
def EmitOnceWrongFalsely : Prop := emitOnceRow.holds Try.pinned (OpenSpec.ofChange emitOnceWrong)

/-- 'ebbtidelaw17.EmitReads': WHATEVER THE INPUT: true; the input reads as it did. -/
def emitReadsSpec : ChangeSpec := { name := "emitReads", fn := fun _ => fun
  | [d1, d2, d3] => { results := [.lit (.bool true)], args := [d1, d2, d3] }
  | _ => none }
def emitReadsRow : OpenClaim := { program := "ytklhjponikgkkaa", sum := "4521cfcd92af90d56a5981887f9fe66ed5e33e39d681eacf4be7001a68f97b41", func := "ebbtide/ebbtidelaw17.EmitReads", spec := "emitReads", inPlace := ["internal/bytealg.abigen_runtime_cmpstring"], unfollowed := true, recurses := true, apart := false }
def EmitReadsSaid : Prop := emitReadsRow.holds Try.pinned (OpenSpec.ofChange emitReadsSpec)

/-- ITS FALSE NEIGHBOUR: 'it returns false'. Refute it at one input. -/
def emitReadsWrong : ChangeSpec := { name := "emitReads", fn := fun _ => fun
  | [d1, d2, d3] => { results := [.lit (.bool false)], args := [d1, d2, d3] }
  | _ => none }
def EmitReadsWrongFalsely : Prop := emitReadsRow.holds Try.pinned (OpenSpec.ofChange emitReadsWrong)

/- THE SECOND FORM. 'bulk': how many values and letters a reading holds, each counted each time it is reached (what is shared counts as often as it is met; a slice's spare places count too). A statement '..UptoSaid' is the law's where the arguments, and the package variables that the reading takes, are together of bulk at most 1048576: NARROWER than '..Said'. Prove '..Said' where nothing that the law and all that it calls make is longer than what came in: it says more and counts as full. Else prove '..UptoSaid'. A law counts once. -/
mutual
def uptoBulk {H : Type} : DataW H → Nat
  | .lit (.string bytes) => bytes.length + 1
  | .lit _ => 1
  | .nil => 1
  | .ptr d => uptoBulk d + 1
  | .slice elems spare => uptoBulkAll elems + uptoBulkAll spare + 1
  | .agg parts => uptoBulkAll parts + 1
  | .iface _ d => uptoBulk d + 1
  | .map entries => uptoBulkEntries entries + 1
  | .held _ => 1
def uptoBulkAll {H : Type} : List (DataW H) → Nat
  | [] => 0
  | d :: r => uptoBulk d + uptoBulkAll r
def uptoBulkEntries {H : Type} : List (Lit × DataW H) → Nat
  | [] => 0
  | x :: r => uptoBulkEntry x + uptoBulkEntries r
def uptoBulkEntry {H : Type} : Lit × DataW H → Nat
  | (.string bytes, d) => bytes.length + uptoBulk d + 1
  | (_, d) => uptoBulk d + 1
 end
def uptoSmall : (H : Type) → List (DataW H) → Bool := fun _ ds => decide (uptoBulkAll ds ≤ 1048576)
def OpenSpec.upto (s : _root_.Go.ChangeSpec) : _root_.Go.OpenSpec := { _root_.Go.OpenSpec.ofChange s with cond := some uptoSmall }

/-- 'ebbtidelaw17.EmitNext', WHERE WHAT IT READS IS OF BULK AT MOST 1048576: true; the input reads as it did. -/
def emitNextUptoRow : OpenClaim := { program := "ytklhjponikgkkaa", sum := "4521cfcd92af90d56a5981887f9fe66ed5e33e39d681eacf4be7001a68f97b41", func := "ebbtide/ebbtidelaw17.EmitNext", spec := "emitNext", inPlace := ["internal/bytealg.abigen_runtime_cmpstring"], unfollowed := true, recurses := true, apart := false, narrowed := true }
def EmitNextUptoSaid : Prop := emitNextUptoRow.holds Try.pinned (OpenSpec.upto emitNextSpec)

/-- 'ebbtidelaw17.EmitTakes', WHERE WHAT IT READS IS OF BULK AT MOST 1048576: true; the input reads as it did. -/
def emitTakesUptoRow : OpenClaim := { program := "ytklhjponikgkkaa", sum := "4521cfcd92af90d56a5981887f9fe66ed5e33e39d681eacf4be7001a68f97b41", func := "ebbtide/ebbtidelaw17.EmitTakes", spec := "emitTakes", inPlace := ["internal/bytealg.abigen_runtime_cmpstring"], unfollowed := true, recurses := true, apart := false, narrowed := true }
def EmitTakesUptoSaid : Prop := emitTakesUptoRow.holds Try.pinned (OpenSpec.upto emitTakesSpec)

/-- 'ebbtidelaw17.EmitOnce', WHERE WHAT IT READS IS OF BULK AT MOST 1048576: true; the input reads as it did. -/
def emitOnceUptoRow : OpenClaim := { program := "ytklhjponikgkkaa", sum := "4521cfcd92af90d56a5981887f9fe66ed5e33e39d681eacf4be7001a68f97b41", func := "ebbtide/ebbtidelaw17.EmitOnce", spec := "emitOnce", inPlace := ["internal/bytealg.abigen_runtime_cmpstring"], unfollowed := true, recurses := true, apart := false, narrowed := true }
def EmitOnceUptoSaid : Prop := emitOnceUptoRow.holds Try.pinned (OpenSpec.upto emitOnceSpec)

/-- 'ebbtidelaw17.EmitReads', WHERE WHAT IT READS IS OF BULK AT MOST 1048576: true; the input reads as it did. -/
def emitReadsUptoRow : OpenClaim := { program := "ytklhjponikgkkaa", sum := "4521cfcd92af90d56a5981887f9fe66ed5e33e39d681eacf4be7001a68f97b41", func := "ebbtide/ebbtidelaw17.EmitReads", spec := "emitReads", inPlace := ["internal/bytealg.abigen_runtime_cmpstring"], unfollowed := true, recurses := true, apart := false, narrowed := true }
def EmitReadsUptoSaid : Prop := emitReadsUptoRow.holds Try.pinned (OpenSpec.upto emitReadsSpec)

end Rows
end Go.Proofs.Ytklhjponikgkkaa
