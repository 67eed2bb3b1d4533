/-
  No cell of these rows narrows 'for every input' (looked for: loops, veiled, ifaces, maps, wideKeys, modest, calm, conditions, laid).
  DERIVED. THE GIVEN ROWS OF THIS SEAT. 5 by the template 'for every input the law returns true; each argument reads behind the call as it read before'; 0 by the template 'total and deterministic' (their statements: YtofaindjbhmopaaTotals.lean).
  GIVEN WITH THE SEED: the statements are not yours to turn. If you find one false, say at which input.
  Laid BY PROGRAM, IN A SANDBOX (cutbox-rows.mjs): the forced cells as the released guide's own fill.sh prints them over the translation 5902db5ecdb8182c… (all of the seat's roots in one cut). By AI agents, Wed Nov 11 2026. No macro, syntax, notation, axiom, sorry.
-/
import Derived.Test.YtofaindjbhmopaaChecked
import GoSem.Claim
import GoSem.ClaimJoined
import GoSem.ClaimMapViews
import Derived.JoinedTies
import Derived.KernelRfl
namespace Go.Proofs.Ytofaindjbhmopaa
/- THE CELL 'sum', in the pinned program and in every row, IS THE sha256 OF THE DUMP (.gsa) THAT YtofaindjbhmopaaProg.lean LOADS. Nothing in Lean hashes anything: it is a label: what it is worth is what the hold of that sum in a sandbox is worth. -/
noncomputable def Try.pinned : Pinned := { name := "ytofaindjbhmopaa", sum := "5902db5ecdb8182c4cce44fb28063aa1e3ff6a21cd119542779c87afcb067593", checked := Try.checked }
namespace Rows
def none {H : Type} : Left H := { results := [], args := [] }

/-- 'ebbtidelaw11.ShardApplies': WHATEVER THE INPUT: true; the input reads as it did. -/
def shardAppliesSpec : ChangeSpec := { name := "shardApplies", fn := fun _ => fun
  | [d1, d2] => { results := [.lit (.bool true)], args := [d1, d2] }
  | _ => none }
def shardAppliesRow : OpenClaim := { program := "ytofaindjbhmopaa", sum := "5902db5ecdb8182c4cce44fb28063aa1e3ff6a21cd119542779c87afcb067593", func := "ebbtide/ebbtidelaw11.ShardApplies", spec := "shardApplies", inPlace := ["internal/bytealg.abigen_runtime_cmpstring", "slices.overlaps[ebbtide/api.Entry]"], unfollowed := true, recurses := true, apart := false }
def ShardAppliesSaid : Prop := shardAppliesRow.holds Try.pinned (OpenSpec.ofChange shardAppliesSpec)

/-- ITS FALSE NEIGHBOUR: 'it returns false'. Refute it at one input. -/
def shardAppliesWrong : ChangeSpec := { name := "shardApplies", fn := fun _ => fun
  | [d1, d2] => { results := [.lit (.bool false)], args := [d1, d2] }
  | _ => none }
def ShardAppliesWrongFalsely : Prop := shardAppliesRow.holds Try.pinned (OpenSpec.ofChange shardAppliesWrong)

/-- 'ebbtidelaw11.ShardReads': WHATEVER THE INPUT: true; the input reads as it did. -/
def shardReadsSpec : ChangeSpec := { name := "shardReads", fn := fun _ => fun
  | [d1, d2, d3] => { results := [.lit (.bool true)], args := [d1, d2, d3] }
  | _ => none }
def shardReadsRow : OpenClaim := { program := "ytofaindjbhmopaa", sum := "5902db5ecdb8182c4cce44fb28063aa1e3ff6a21cd119542779c87afcb067593", func := "ebbtide/ebbtidelaw11.ShardReads", spec := "shardReads", inPlace := ["internal/bytealg.abigen_runtime_cmpstring", "slices.overlaps[ebbtide/api.Entry]"], unfollowed := true, recurses := true, apart := false }
def ShardReadsSaid : Prop := shardReadsRow.holds Try.pinned (OpenSpec.ofChange shardReadsSpec)

/-- ITS FALSE NEIGHBOUR: 'it returns false'. Refute it at one input. -/
def shardReadsWrong : ChangeSpec := { name := "shardReads", fn := fun _ => fun
  | [d1, d2, d3] => { results := [.lit (.bool false)], args := [d1, d2, d3] }
  | _ => none }
def ShardReadsWrongFalsely : Prop := shardReadsRow.holds Try.pinned (OpenSpec.ofChange shardReadsWrong)

/-- 'ebbtidelaw11.ShardPrunes': WHATEVER THE INPUT: true; the input reads as it did. -/
def shardPrunesSpec : ChangeSpec := { name := "shardPrunes", fn := fun _ => fun
  | [d1, d2, d3] => { results := [.lit (.bool true)], args := [d1, d2, d3] }
  | _ => none }
def shardPrunesRow : OpenClaim := { program := "ytofaindjbhmopaa", sum := "5902db5ecdb8182c4cce44fb28063aa1e3ff6a21cd119542779c87afcb067593", func := "ebbtide/ebbtidelaw11.ShardPrunes", spec := "shardPrunes", inPlace := ["internal/bytealg.abigen_runtime_cmpstring", "slices.overlaps[ebbtide/api.Entry]"], unfollowed := true, recurses := true, apart := false }
def ShardPrunesSaid : Prop := shardPrunesRow.holds Try.pinned (OpenSpec.ofChange shardPrunesSpec)

/-- ITS FALSE NEIGHBOUR: 'it returns false'. Refute it at one input. -/
def shardPrunesWrong : ChangeSpec := { name := "shardPrunes", fn := fun _ => fun
  | [d1, d2, d3] => { results := [.lit (.bool false)], args := [d1, d2, d3] }
  | _ => none }
def ShardPrunesWrongFalsely : Prop := shardPrunesRow.holds Try.pinned (OpenSpec.ofChange shardPrunesWrong)

/-- 'ebbtidelaw11.ShardStays': WHATEVER THE INPUT: true; the input reads as it did. -/
def shardStaysSpec : ChangeSpec := { name := "shardStays", fn := fun _ => fun
  | [d1, d2, d3] => { results := [.lit (.bool true)], args := [d1, d2, d3] }
  | _ => none }
def shardStaysRow : OpenClaim := { program := "ytofaindjbhmopaa", sum := "5902db5ecdb8182c4cce44fb28063aa1e3ff6a21cd119542779c87afcb067593", func := "ebbtide/ebbtidelaw11.ShardStays", spec := "shardStays", inPlace := ["internal/bytealg.abigen_runtime_cmpstring", "slices.overlaps[ebbtide/api.Entry]"], unfollowed := true, recurses := true, apart := false }
def ShardStaysSaid : Prop := shardStaysRow.holds Try.pinned (OpenSpec.ofChange shardStaysSpec)

/-- ITS FALSE NEIGHBOUR: 'it returns false'. Refute it at one input. -/
def shardStaysWrong : ChangeSpec := { name := "shardStays", fn := fun _ => fun
  | [d1, d2, d3] => { results := [.lit (.bool false)], args := [d1, d2, d3] }
  | _ => none }
def ShardStaysWrongFalsely : Prop := shardStaysRow.holds Try.pinned (OpenSpec.ofChange shardStaysWrong)

/-- 'ebbtidelaw11.ShardWrites': WHATEVER THE INPUT: true; the input reads as it did. -/
def shardWritesSpec : ChangeSpec := { name := "shardWrites", fn := fun _ => fun
  | [d1, d2, d3] => { results := [.lit (.bool true)], args := [d1, d2, d3] }
  | _ => none }
def shardWritesRow : OpenClaim := { program := "ytofaindjbhmopaa", sum := "5902db5ecdb8182c4cce44fb28063aa1e3ff6a21cd119542779c87afcb067593", func := "ebbtide/ebbtidelaw11.ShardWrites", spec := "shardWrites", inPlace := ["internal/bytealg.abigen_runtime_cmpstring", "slices.overlaps[ebbtide/api.Entry]"], unfollowed := true, recurses := true, apart := false }
def ShardWritesSaid : Prop := shardWritesRow.holds Try.pinned (OpenSpec.ofChange shardWritesSpec)

/-- ITS FALSE NEIGHBOUR: 'it returns false'. Refute it at one input. -/
def shardWritesWrong : ChangeSpec := { name := "shardWrites", fn := fun _ => fun
  | [d1, d2, d3] => { results := [.lit (.bool false)], args := [d1, d2, d3] }
  | _ => none }
def ShardWritesWrongFalsely : Prop := shardWritesRow.holds Try.pinned (OpenSpec.ofChange shardWritesWrong)

/- THE SECOND FORM. 'bulk': how many values and letters a reading holds, each counted each time it is reached (what is shared counts as often as it is met; a slice's spare places count too). A statement '..UptoSaid' is the law's where the arguments, and the package variables that the reading takes, are together of bulk at most 1048576: NARROWER than '..Said'. Prove '..Said' where nothing that the law and all that it calls make is longer than what came in: it says more and counts as full. Else prove '..UptoSaid'. A law counts once. -/
mutual
def uptoBulk {H : Type} : DataW H → Nat
  | .lit (.string bytes) => bytes.length + 1
  | .lit _ => 1
  | .nil => 1
  | .ptr d => uptoBulk d + 1
  | .slice elems spare => uptoBulkAll elems + uptoBulkAll spare + 1
  | .agg parts => uptoBulkAll parts + 1
  | .iface _ d => uptoBulk d + 1
  | .map entries => uptoBulkEntries entries + 1
  | .held _ => 1
def uptoBulkAll {H : Type} : List (DataW H) → Nat
  | [] => 0
  | d :: r => uptoBulk d + uptoBulkAll r
def uptoBulkEntries {H : Type} : List (Lit × DataW H) → Nat
  | [] => 0
  | x :: r => uptoBulkEntry x + uptoBulkEntries r
def uptoBulkEntry {H : Type} : Lit × DataW H → Nat
  | (.string bytes, d) => bytes.length + uptoBulk d + 1
  | (_, d) => uptoBulk d + 1
 end
def uptoSmall : (H : Type) → List (DataW H) → Bool := fun _ ds => decide (uptoBulkAll ds ≤ 1048576)
def OpenSpec.upto (s : _root_.Go.ChangeSpec) : _root_.Go.OpenSpec := { _root_.Go.OpenSpec.ofChange s with cond := some uptoSmall }

/-- 'ebbtidelaw11.ShardApplies', WHERE WHAT IT READS IS OF BULK AT MOST 1048576: true; the input reads as it did. -/
def shardAppliesUptoRow : OpenClaim := { program := "ytofaindjbhmopaa", sum := "5902db5ecdb8182c4cce44fb28063aa1e3ff6a21cd119542779c87afcb067593", func := "ebbtide/ebbtidelaw11.ShardApplies", spec := "shardApplies", inPlace := ["internal/bytealg.abigen_runtime_cmpstring", "slices.overlaps[ebbtide/api.Entry]"], unfollowed := true, recurses := true, apart := false, narrowed := true }
def ShardAppliesUptoSaid : Prop := shardAppliesUptoRow.holds Try.pinned (OpenSpec.upto shardAppliesSpec)

/-- 'ebbtidelaw11.ShardReads', WHERE WHAT IT READS IS OF BULK AT MOST 1048576: true; the input reads as it did. -/
def shardReadsUptoRow : OpenClaim := { program := "ytofaindjbhmopaa", sum := "5902db5ecdb8182c4cce44fb28063aa1e3ff6a21cd119542779c87afcb067593", func := "ebbtide/ebbtidelaw11.ShardReads", spec := "shardReads", inPlace := ["internal/bytealg.abigen_runtime_cmpstring", "slices.overlaps[ebbtide/api.Entry]"], unfollowed := true, recurses := true, apart := false, narrowed := true }
def ShardReadsUptoSaid : Prop := shardReadsUptoRow.holds Try.pinned (OpenSpec.upto shardReadsSpec)

/-- 'ebbtidelaw11.ShardPrunes', WHERE WHAT IT READS IS OF BULK AT MOST 1048576: true; the input reads as it did. -/
def shardPrunesUptoRow : OpenClaim := { program := "ytofaindjbhmopaa", sum := "5902db5ecdb8182c4cce44fb28063aa1e3ff6a21cd119542779c87afcb067593", func := "ebbtide/ebbtidelaw11.ShardPrunes", spec := "shardPrunes", inPlace := ["internal/bytealg.abigen_runtime_cmpstring", "slices.overlaps[ebbtide/api.Entry]"], unfollowed := true, recurses := true, apart := false, narrowed := true }
def ShardPrunesUptoSaid : Prop := shardPrunesUptoRow.holds Try.pinned (OpenSpec.upto shardPrunesSpec)

/-- 'ebbtidelaw11.ShardStays', WHERE WHAT IT READS IS OF BULK AT MOST 1048576: true; the input reads as it did. -/
def shardStaysUptoRow : OpenClaim := { program := "ytofaindjbhmopaa", sum := "5902db5ecdb8182c4cce44fb28063aa1e3ff6a21cd119542779c87afcb067593", func := "ebbtide/ebbtidelaw11.ShardStays", spec := "shardStays", inPlace := ["internal/bytealg.abigen_runtime_cmpstring", "slices.overlaps[ebbtide/api.Entry]"], unfollowed := true, recurses := true, apart := false, narrowed := true }
def ShardStaysUptoSaid : Prop := shardStaysUptoRow.holds Try.pinned (OpenSpec.upto shardStaysSpec)

/-- 'ebbtidelaw11.ShardWrites', WHERE WHAT IT READS IS OF BULK AT MOST 1048576: true; the input reads as it did. -/
def shardWritesUptoRow : OpenClaim := { program := "ytofaindjbhmopaa", sum := "5902db5ecdb8182c4cce44fb28063aa1e3ff6a21cd119542779c87afcb067593", func := "ebbtide/ebbtidelaw11.ShardWrites", spec := "shardWrites", inPlace := ["internal/bytealg.abigen_runtime_cmpstring", "slices.overlaps[ebbtide/api.Entry]"], unfollowed := true, recurses := true, apart := false, narrowed := true }
def ShardWritesUptoSaid : Prop := shardWritesUptoRow.holds Try.pinned (OpenSpec.upto shardWritesSpec)

end Rows
end Go.Proofs.Ytofaindjbhmopaa
