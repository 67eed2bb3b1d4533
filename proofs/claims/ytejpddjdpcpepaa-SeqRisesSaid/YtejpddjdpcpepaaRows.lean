/-
  No cell of these rows narrows 'for every input' (looked for: loops, veiled, ifaces, maps, wideKeys, modest, calm, conditions, laid).
  DERIVED. THE GIVEN ROWS OF THIS SEAT. 4 by the template 'for every input the law returns true; each argument reads behind the call as it read before'; 0 by the template 'total and deterministic' (their statements: YtejpddjdpcpepaaTotals.lean).
  GIVEN WITH THE SEED: the statements are not yours to turn. If you find one false, say at which input.
  Laid BY PROGRAM, IN A SANDBOX (cutbox-rows.mjs): the forced cells as the released guide's own fill.sh prints them over the translation 93303e648e1c58f7… (all of the seat's roots in one cut). By AI agents, Wed Nov 11 2026. No macro, syntax, notation, axiom, sorry.
-/
import Derived.Test.YtejpddjdpcpepaaChecked
import GoSem.Claim
import GoSem.ClaimJoined
import GoSem.ClaimMapViews
import Derived.JoinedTies
import Derived.KernelRfl
namespace Go.Proofs.Ytejpddjdpcpepaa
/- THE CELL 'sum', in the pinned program and in every row, IS THE sha256 OF THE DUMP (.gsa) THAT YtejpddjdpcpepaaProg.lean LOADS. Nothing in Lean hashes anything: it is a label: what it is worth is what the hold of that sum in a sandbox is worth. -/
noncomputable def Try.pinned : Pinned := { name := "ytejpddjdpcpepaa", sum := "93303e648e1c58f7b944e3aa2b63cb15b55eca4cc506e90899b537ed2800c04d", checked := Try.checked }
namespace Rows
def none {H : Type} : Left H := { results := [], args := [] }

/-- 'ebbtidelaw14.SeqPushes': WHATEVER THE INPUT: true; the input reads as it did. -/
def seqPushesSpec : ChangeSpec := { name := "seqPushes", fn := fun _ => fun
  | [d1, d2] => { results := [.lit (.bool true)], args := [d1, d2] }
  | _ => none }
def seqPushesRow : OpenClaim := { program := "ytejpddjdpcpepaa", sum := "93303e648e1c58f7b944e3aa2b63cb15b55eca4cc506e90899b537ed2800c04d", func := "ebbtide/ebbtidelaw14.SeqPushes", spec := "seqPushes", unfollowed := true, recurses := true, apart := false }
def SeqPushesSaid : Prop := seqPushesRow.holds Try.pinned (OpenSpec.ofChange seqPushesSpec)

/-- ITS FALSE NEIGHBOUR: 'it returns false'. Refute it at one input. -/
def seqPushesWrong : ChangeSpec := { name := "seqPushes", fn := fun _ => fun
  | [d1, d2] => { results := [.lit (.bool false)], args := [d1, d2] }
  | _ => none }
def SeqPushesWrongFalsely : Prop := seqPushesRow.holds Try.pinned (OpenSpec.ofChange seqPushesWrong)

/-- 'ebbtidelaw14.SeqStable': WHATEVER THE INPUT: true; the input reads as it did. -/
def seqStableSpec : ChangeSpec := { name := "seqStable", fn := fun _ => fun
  | [d1, d2, d3] => { results := [.lit (.bool true)], args := [d1, d2, d3] }
  | _ => none }
def seqStableRow : OpenClaim := { program := "ytejpddjdpcpepaa", sum := "93303e648e1c58f7b944e3aa2b63cb15b55eca4cc506e90899b537ed2800c04d", func := "ebbtide/ebbtidelaw14.SeqStable", spec := "seqStable", unfollowed := true, recurses := true, apart := false }
def SeqStableSaid : Prop := seqStableRow.holds Try.pinned (OpenSpec.ofChange seqStableSpec)

/-- ITS FALSE NEIGHBOUR: 'it returns false'. Refute it at one input. -/
def seqStableWrong : ChangeSpec := { name := "seqStable", fn := fun _ => fun
  | [d1, d2, d3] => { results := [.lit (.bool false)], args := [d1, d2, d3] }
  | _ => none }
def SeqStableWrongFalsely : Prop := seqStableRow.holds Try.pinned (OpenSpec.ofChange seqStableWrong)

/-- 'ebbtidelaw14.SeqOrder': WHATEVER THE INPUT: true; the input reads as it did. -/
def seqOrderSpec : ChangeSpec := { name := "seqOrder", fn := fun _ => fun
  | [d] => { results := [.lit (.bool true)], args := [d] }
  | _ => none }
def seqOrderRow : OpenClaim := { program := "ytejpddjdpcpepaa", sum := "93303e648e1c58f7b944e3aa2b63cb15b55eca4cc506e90899b537ed2800c04d", func := "ebbtide/ebbtidelaw14.SeqOrder", spec := "seqOrder", unfollowed := true, recurses := true, apart := false }
def SeqOrderSaid : Prop := seqOrderRow.holds Try.pinned (OpenSpec.ofChange seqOrderSpec)

/-- ITS FALSE NEIGHBOUR: 'it returns false'. Refute it at one input. -/
def seqOrderWrong : ChangeSpec := { name := "seqOrder", fn := fun _ => fun
  | [d] => { results := [.lit (.bool false)], args := [d] }
  | _ => none }
def SeqOrderWrongFalsely : Prop := seqOrderRow.holds Try.pinned (OpenSpec.ofChange seqOrderWrong)

/-- 'ebbtidelaw14.SeqRises': WHATEVER THE INPUT: true; the input reads as it did. -/
def seqRisesSpec : ChangeSpec := { name := "seqRises", fn := fun _ => fun
  | [d1, d2] => { results := [.lit (.bool true)], args := [d1, d2] }
  | _ => none }
def seqRisesRow : OpenClaim := { program := "ytejpddjdpcpepaa", sum := "93303e648e1c58f7b944e3aa2b63cb15b55eca4cc506e90899b537ed2800c04d", func := "ebbtide/ebbtidelaw14.SeqRises", spec := "seqRises", unfollowed := true, recurses := true, apart := false }
def SeqRisesSaid : Prop := seqRisesRow.holds Try.pinned (OpenSpec.ofChange seqRisesSpec)

/-- ITS FALSE NEIGHBOUR: 'it returns false'. Refute it at one input. -/
def seqRisesWrong : ChangeSpec := { name := "seqRises", fn := fun _ => fun
  | [d1, d2] => { results := [.lit (.bool false)], args := [d1, d2] }
  | _ => none }
def SeqRisesWrongFalsely : Prop := seqRisesRow.holds Try.pinned (OpenSpec.ofChange seqRisesWrong)

/- THE SECOND FORM. 'bulk': how many values and letters a reading holds, each counted each time it is reached (what is shared counts as often as it is met; a slice's spare places count too). A statement '..UptoSaid' is the law's where the arguments, and the package variables that the reading takes, are together of bulk at most 1048576: NARROWER than '..Said'. Prove '..Said' where nothing that the law and all that it calls make is longer than what came in: it says more and counts as full. Else prove '..UptoSaid'. A law counts once. -/
mutual
def uptoBulk {H : Type} : DataW H → Nat
  | .lit (.string bytes) => bytes.length + 1
  | .lit _ => 1
  | .nil => 1
  | .ptr d => uptoBulk d + 1
  | .slice elems spare => uptoBulkAll elems + uptoBulkAll spare + 1
  | .agg parts => uptoBulkAll parts + 1
  | .iface _ d => uptoBulk d + 1
  | .map entries => uptoBulkEntries entries + 1
  | .held _ => 1
def uptoBulkAll {H : Type} : List (DataW H) → Nat
  | [] => 0
  | d :: r => uptoBulk d + uptoBulkAll r
def uptoBulkEntries {H : Type} : List (Lit × DataW H) → Nat
  | [] => 0
  | x :: r => uptoBulkEntry x + uptoBulkEntries r
def uptoBulkEntry {H : Type} : Lit × DataW H → Nat
  | (.string bytes, d) => bytes.length + uptoBulk d + 1
  | (_, d) => uptoBulk d + 1
 end
def uptoSmall : (H : Type) → List (DataW H) → Bool := fun _ ds => decide (uptoBulkAll ds ≤ 1048576)
def OpenSpec.upto (s : _root_.Go.ChangeSpec) : _root_.Go.OpenSpec := { _root_.Go.OpenSpec.ofChange s with cond := some uptoSmall }

/-- 'ebbtidelaw14.SeqPushes', WHERE WHAT IT READS IS OF BULK AT MOST 1048576: true; the input reads as it did. -/
def seqPushesUptoRow : OpenClaim := { program := "ytejpddjdpcpepaa", sum := "93303e648e1c58f7b944e3aa2b63cb15b55eca4cc506e90899b537ed2800c04d", func := "ebbtide/ebbtidelaw14.SeqPushes", spec := "seqPushes", unfollowed := true, recurses := true, apart := false, narrowed := true }
def SeqPushesUptoSaid : Prop := seqPushesUptoRow.holds Try.pinned (OpenSpec.upto seqPushesSpec)

/-- 'ebbtidelaw14.SeqStable', WHERE WHAT IT READS IS OF BULK AT MOST 1048576: true; the input reads as it did. -/
def seqStableUptoRow : OpenClaim := { program := "ytejpddjdpcpepaa", sum := "93303e648e1c58f7b944e3aa2b63cb15b55eca4cc506e90899b537ed2800c04d", func := "ebbtide/ebbtidelaw14.SeqStable", spec := "seqStable", unfollowed := true, recurses := true, apart := false, narrowed := true }
def SeqStableUptoSaid : Prop := seqStableUptoRow.holds Try.pinned (OpenSpec.upto seqStableSpec)

/-- 'ebbtidelaw14.SeqOrder', WHERE WHAT IT READS IS OF BULK AT MOST 1048576: true; the input reads as it did. -/
def seqOrderUptoRow : OpenClaim := { program := "ytejpddjdpcpepaa", sum := "93303e648e1c58f7b944e3aa2b63cb15b55eca4cc506e90899b537ed2800c04d", func := "ebbtide/ebbtidelaw14.SeqOrder", spec := "seqOrder", unfollowed := true, recurses := true, apart := false, narrowed := true }
def SeqOrderUptoSaid : Prop := seqOrderUptoRow.holds Try.pinned (OpenSpec.upto seqOrderSpec)

/-- 'ebbtidelaw14.SeqRises', WHERE WHAT IT READS IS OF BULK AT MOST 1048576: true; the input reads as it did. -/
def seqRisesUptoRow : OpenClaim := { program := "ytejpddjdpcpepaa", sum := "93303e648e1c58f7b944e3aa2b63cb15b55eca4cc506e90899b537ed2800c04d", func := "ebbtide/ebbtidelaw14.SeqRises", spec := "seqRises", unfollowed := true, recurses := true, apart := false, narrowed := true }
def SeqRisesUptoSaid : Prop := seqRisesUptoRow.holds Try.pinned (OpenSpec.upto seqRisesSpec)

end Rows
end Go.Proofs.Ytejpddjdpcpepaa
