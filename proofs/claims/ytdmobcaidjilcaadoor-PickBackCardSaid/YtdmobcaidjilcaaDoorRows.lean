/-
  NARROWER THAN 'FOR EVERY INPUT', by the rows' own cells (each row's printed sentence says how): PickTells: laid · PickFits: laid · PickParses: laid · PickBack: laid · PickOther: laid.
  DERIVED. THE GIVEN ROWS OF THIS SEAT. 5 by the template 'for every input the law returns true; each argument reads behind the call as it read before'; 0 by the template 'total and deterministic' (their statements: YtdmobcaidjilcaaDoorTotals.lean).
  GIVEN WITH THE SEED: the statements are not yours to turn. If you find one false, say at which input.
  Laid BY PROGRAM, IN A SANDBOX (cutbox-rows.mjs): the forced cells as the released guide's own fill.sh prints them over the translation 708e7bbe1c4be624… (all of the seat's roots in one cut). By AI agents, Wed Nov 11 2026. No macro, syntax, notation, axiom, sorry.
-/
import Derived.Test.YtdmobcaidjilcaaDoorChecked
import GoSem.PinnedTables
import GoSem.Claim
import GoSem.ClaimJoined
import GoSem.ClaimMapViews
import Derived.JoinedTies
import Derived.KernelRfl
namespace Go.Proofs.YtdmobcaidjilcaaDoor
/- THE CELL 'sum', in the pinned program and in every row, IS THE sha256 OF THE DUMP (.gsa) THAT YtdmobcaidjilcaaDoorProg.lean LOADS. Nothing in Lean hashes anything: it is a label: what it is worth is what the hold of that sum in a sandbox is worth. -/
noncomputable def Tryd.pinned : Pinned := { name := "ytdmobcaidjilcaadoor", sum := "708e7bbe1c4be624661d7ed3f4e3e0a6ff1c533375b4e24ca19a0096e76aeeed", checked := Tryd.checked }
namespace Rows
def none {H : Type} : Left H := { results := [], args := [] }

/- WHAT THE LISTED PACKAGE-LEVEL VARIABLES READ AS WHEN THE CALL BEGINS. Each datum BY PROGRAM (the guide's laid-datum.mjs) off the statement by which the dump's own 'gosem.cut.vars' lays the variable. In a bare row this is a premise. The card (YtdmobcaidjilcaaDoorCards.lean) ties it to the program's text. -/
def laid_unicode_utf8_acceptRanges {H : Type} : DataW H := .agg [.agg [.lit (.int .u8 128), .lit (.int .u8 191)], .agg [.lit (.int .u8 160), .lit (.int .u8 191)], .agg [.lit (.int .u8 128), .lit (.int .u8 159)], .agg [.lit (.int .u8 144), .lit (.int .u8 191)], .agg [.lit (.int .u8 128), .lit (.int .u8 143)], .agg [.lit (.int .u8 0), .lit (.int .u8 0)], .agg [.lit (.int .u8 0), .lit (.int .u8 0)], .agg [.lit (.int .u8 0), .lit (.int .u8 0)], .agg [.lit (.int .u8 0), .lit (.int .u8 0)], .agg [.lit (.int .u8 0), .lit (.int .u8 0)], .agg [.lit (.int .u8 0), .lit (.int .u8 0)], .agg [.lit (.int .u8 0), .lit (.int .u8 0)], .agg [.lit (.int .u8 0), .lit (.int .u8 0)], .agg [.lit (.int .u8 0), .lit (.int .u8 0)], .agg [.lit (.int .u8 0), .lit (.int .u8 0)], .agg [.lit (.int .u8 0), .lit (.int .u8 0)]]
/-- One of Go's own tables, pinned by name: the form's constant. -/
def laid_unicode_utf8_first : DataW Unit := Go.Pinned.utf8First

/-- 'ebbtidelaw05.PickTells': WHATEVER THE INPUT: true; the input reads as it did. -/
def pickTellsSpec : ChangeSpec := { name := "pickTells", fn := fun _ => fun
  | [d1, d2] => { results := [.lit (.bool true)], args := [d1, d2] }
  | _ => none }
def pickTellsRow : OpenClaim := { program := "ytdmobcaidjilcaadoor", sum := "708e7bbe1c4be624661d7ed3f4e3e0a6ff1c533375b4e24ca19a0096e76aeeed", func := "ebbtide/ebbtidelaw05.PickTells", spec := "pickTells", inPlace := ["internal/bytealg.IndexByteString", "internal/bytealg.IndexString", "internal/abi.NoEscape", "internal/bytealg.MakeNoZero"], unfollowed := true, recurses := true, named := ["internal/bytealg.MaxLen", "unicode/utf8.first", "unicode/utf8.acceptRanges"], apart := false, laid := [("unicode/utf8.acceptRanges", laid_unicode_utf8_acceptRanges), ("unicode/utf8.first", laid_unicode_utf8_first)] }
def PickTellsSaid : Prop := pickTellsRow.holds Tryd.pinned (OpenSpec.ofChange pickTellsSpec)

/-- ITS FALSE NEIGHBOUR: 'it returns false'. Refute it at one input. -/
def pickTellsWrong : ChangeSpec := { name := "pickTells", fn := fun _ => fun
  | [d1, d2] => { results := [.lit (.bool false)], args := [d1, d2] }
  | _ => none }
def PickTellsWrongFalsely : Prop := pickTellsRow.holds Tryd.pinned (OpenSpec.ofChange pickTellsWrong)

/-- 'ebbtidelaw05.PickFits': WHATEVER THE INPUT: true; the input reads as it did. -/
def pickFitsSpec : ChangeSpec := { name := "pickFits", fn := fun _ => fun
  | [d1, d2] => { results := [.lit (.bool true)], args := [d1, d2] }
  | _ => none }
def pickFitsRow : OpenClaim := { program := "ytdmobcaidjilcaadoor", sum := "708e7bbe1c4be624661d7ed3f4e3e0a6ff1c533375b4e24ca19a0096e76aeeed", func := "ebbtide/ebbtidelaw05.PickFits", spec := "pickFits", inPlace := ["internal/bytealg.IndexByteString", "internal/bytealg.IndexString", "internal/abi.NoEscape", "internal/bytealg.MakeNoZero"], unfollowed := true, recurses := true, named := ["internal/bytealg.MaxLen", "unicode/utf8.first", "unicode/utf8.acceptRanges"], apart := false, laid := [("unicode/utf8.acceptRanges", laid_unicode_utf8_acceptRanges), ("unicode/utf8.first", laid_unicode_utf8_first)] }
def PickFitsSaid : Prop := pickFitsRow.holds Tryd.pinned (OpenSpec.ofChange pickFitsSpec)

/-- ITS FALSE NEIGHBOUR: 'it returns false'. Refute it at one input. -/
def pickFitsWrong : ChangeSpec := { name := "pickFits", fn := fun _ => fun
  | [d1, d2] => { results := [.lit (.bool false)], args := [d1, d2] }
  | _ => none }
def PickFitsWrongFalsely : Prop := pickFitsRow.holds Tryd.pinned (OpenSpec.ofChange pickFitsWrong)

/-- 'ebbtidelaw05.PickParses': WHATEVER THE INPUT: true; the input reads as it did. -/
def pickParsesSpec : ChangeSpec := { name := "pickParses", fn := fun _ => fun
  | [d] => { results := [.lit (.bool true)], args := [d] }
  | _ => none }
def pickParsesRow : OpenClaim := { program := "ytdmobcaidjilcaadoor", sum := "708e7bbe1c4be624661d7ed3f4e3e0a6ff1c533375b4e24ca19a0096e76aeeed", func := "ebbtide/ebbtidelaw05.PickParses", spec := "pickParses", inPlace := ["internal/bytealg.IndexByteString", "internal/bytealg.IndexString", "internal/abi.NoEscape", "internal/bytealg.MakeNoZero"], unfollowed := true, recurses := true, named := ["internal/bytealg.MaxLen", "unicode/utf8.first", "unicode/utf8.acceptRanges"], apart := false, laid := [("unicode/utf8.acceptRanges", laid_unicode_utf8_acceptRanges), ("unicode/utf8.first", laid_unicode_utf8_first)] }
def PickParsesSaid : Prop := pickParsesRow.holds Tryd.pinned (OpenSpec.ofChange pickParsesSpec)

/-- ITS FALSE NEIGHBOUR: 'it returns false'. Refute it at one input. -/
def pickParsesWrong : ChangeSpec := { name := "pickParses", fn := fun _ => fun
  | [d] => { results := [.lit (.bool false)], args := [d] }
  | _ => none }
def PickParsesWrongFalsely : Prop := pickParsesRow.holds Tryd.pinned (OpenSpec.ofChange pickParsesWrong)

/-- 'ebbtidelaw05.PickBack': WHATEVER THE INPUT: true; the input reads as it did. -/
def pickBackSpec : ChangeSpec := { name := "pickBack", fn := fun _ => fun
  | [d1, d2] => { results := [.lit (.bool true)], args := [d1, d2] }
  | _ => none }
def pickBackRow : OpenClaim := { program := "ytdmobcaidjilcaadoor", sum := "708e7bbe1c4be624661d7ed3f4e3e0a6ff1c533375b4e24ca19a0096e76aeeed", func := "ebbtide/ebbtidelaw05.PickBack", spec := "pickBack", inPlace := ["internal/bytealg.IndexByteString", "internal/bytealg.IndexString", "internal/abi.NoEscape", "internal/bytealg.MakeNoZero"], unfollowed := true, recurses := true, named := ["internal/bytealg.MaxLen", "unicode/utf8.first", "unicode/utf8.acceptRanges"], apart := false, laid := [("unicode/utf8.acceptRanges", laid_unicode_utf8_acceptRanges), ("unicode/utf8.first", laid_unicode_utf8_first)] }
def PickBackSaid : Prop := pickBackRow.holds Tryd.pinned (OpenSpec.ofChange pickBackSpec)

/-- ITS FALSE NEIGHBOUR: 'it returns false'. Refute it at one input. -/
def pickBackWrong : ChangeSpec := { name := "pickBack", fn := fun _ => fun
  | [d1, d2] => { results := [.lit (.bool false)], args := [d1, d2] }
  | _ => none }
def PickBackWrongFalsely : Prop := pickBackRow.holds Tryd.pinned (OpenSpec.ofChange pickBackWrong)

/-- 'ebbtidelaw05.PickOther': WHATEVER THE INPUT: true; the input reads as it did. -/
def pickOtherSpec : ChangeSpec := { name := "pickOther", fn := fun _ => fun
  | [d1, d2, d3] => { results := [.lit (.bool true)], args := [d1, d2, d3] }
  | _ => none }
def pickOtherRow : OpenClaim := { program := "ytdmobcaidjilcaadoor", sum := "708e7bbe1c4be624661d7ed3f4e3e0a6ff1c533375b4e24ca19a0096e76aeeed", func := "ebbtide/ebbtidelaw05.PickOther", spec := "pickOther", inPlace := ["internal/bytealg.IndexByteString", "internal/bytealg.IndexString", "internal/abi.NoEscape", "internal/bytealg.MakeNoZero"], unfollowed := true, recurses := true, named := ["internal/bytealg.MaxLen", "unicode/utf8.first", "unicode/utf8.acceptRanges"], apart := false, laid := [("unicode/utf8.acceptRanges", laid_unicode_utf8_acceptRanges), ("unicode/utf8.first", laid_unicode_utf8_first)] }
def PickOtherSaid : Prop := pickOtherRow.holds Tryd.pinned (OpenSpec.ofChange pickOtherSpec)

/-- ITS FALSE NEIGHBOUR: 'it returns false'. Refute it at one input. -/
def pickOtherWrong : ChangeSpec := { name := "pickOther", fn := fun _ => fun
  | [d1, d2, d3] => { results := [.lit (.bool false)], args := [d1, d2, d3] }
  | _ => none }
def PickOtherWrongFalsely : Prop := pickOtherRow.holds Tryd.pinned (OpenSpec.ofChange pickOtherWrong)

/- THE SECOND FORM. 'bulk': how many values and letters a reading holds, each counted each time it is reached (what is shared counts as often as it is met; a slice's spare places count too). A statement '..UptoSaid' is the law's where the arguments, and the package variables that the reading takes, are together of bulk at most 1048576: NARROWER than '..Said'. Prove '..Said' where nothing that the law and all that it calls make is longer than what came in: it says more and counts as full. Else prove '..UptoSaid'. A law counts once. -/
mutual
def uptoBulk {H : Type} : DataW H → Nat
  | .lit (.string bytes) => bytes.length + 1
  | .lit _ => 1
  | .nil => 1
  | .ptr d => uptoBulk d + 1
  | .slice elems spare => uptoBulkAll elems + uptoBulkAll spare + 1
  | .agg parts => uptoBulkAll parts + 1
  | .iface _ d => uptoBulk d + 1
  | .map entries => uptoBulkEntries entries + 1
  | .held _ => 1
def uptoBulkAll {H : Type} : List (DataW H) → Nat
  | [] => 0
  | d :: r => uptoBulk d + uptoBulkAll r
def uptoBulkEntries {H : Type} : List (Lit × DataW H) → Nat
  | [] => 0
  | x :: r => uptoBulkEntry x + uptoBulkEntries r
def uptoBulkEntry {H : Type} : Lit × DataW H → Nat
  | (.string bytes, d) => bytes.length + uptoBulk d + 1
  | (_, d) => uptoBulk d + 1
 end
def uptoSmall : (H : Type) → List (DataW H) → Bool := fun _ ds => decide (uptoBulkAll ds ≤ 1048576)
def OpenSpec.upto (s : _root_.Go.ChangeSpec) : _root_.Go.OpenSpec := { _root_.Go.OpenSpec.ofChange s with cond := some uptoSmall }

/-- 'ebbtidelaw05.PickTells', WHERE WHAT IT READS IS OF BULK AT MOST 1048576: true; the input reads as it did. -/
def pickTellsUptoRow : OpenClaim := { program := "ytdmobcaidjilcaadoor", sum := "708e7bbe1c4be624661d7ed3f4e3e0a6ff1c533375b4e24ca19a0096e76aeeed", func := "ebbtide/ebbtidelaw05.PickTells", spec := "pickTells", inPlace := ["internal/bytealg.IndexByteString", "internal/bytealg.IndexString", "internal/abi.NoEscape", "internal/bytealg.MakeNoZero"], unfollowed := true, recurses := true, named := ["internal/bytealg.MaxLen", "unicode/utf8.first", "unicode/utf8.acceptRanges"], apart := false, laid := [("unicode/utf8.acceptRanges", laid_unicode_utf8_acceptRanges), ("unicode/utf8.first", laid_unicode_utf8_first)], narrowed := true }
def PickTellsUptoSaid : Prop := pickTellsUptoRow.holds Tryd.pinned (OpenSpec.upto pickTellsSpec)

/-- 'ebbtidelaw05.PickFits', WHERE WHAT IT READS IS OF BULK AT MOST 1048576: true; the input reads as it did. -/
def pickFitsUptoRow : OpenClaim := { program := "ytdmobcaidjilcaadoor", sum := "708e7bbe1c4be624661d7ed3f4e3e0a6ff1c533375b4e24ca19a0096e76aeeed", func := "ebbtide/ebbtidelaw05.PickFits", spec := "pickFits", inPlace := ["internal/bytealg.IndexByteString", "internal/bytealg.IndexString", "internal/abi.NoEscape", "internal/bytealg.MakeNoZero"], unfollowed := true, recurses := true, named := ["internal/bytealg.MaxLen", "unicode/utf8.first", "unicode/utf8.acceptRanges"], apart := false, laid := [("unicode/utf8.acceptRanges", laid_unicode_utf8_acceptRanges), ("unicode/utf8.first", laid_unicode_utf8_first)], narrowed := true }
def PickFitsUptoSaid : Prop := pickFitsUptoRow.holds Tryd.pinned (OpenSpec.upto pickFitsSpec)

/-- 'ebbtidelaw05.PickParses', WHERE WHAT IT READS IS OF BULK AT MOST 1048576: true; the input reads as it did. -/
def pickParsesUptoRow : OpenClaim := { program := "ytdmobcaidjilcaadoor", sum := "708e7bbe1c4be624661d7ed3f4e3e0a6ff1c533375b4e24ca19a0096e76aeeed", func := "ebbtide/ebbtidelaw05.PickParses", spec := "pickParses", inPlace := ["internal/bytealg.IndexByteString", "internal/bytealg.IndexString", "internal/abi.NoEscape", "internal/bytealg.MakeNoZero"], unfollowed := true, recurses := true, named := ["internal/bytealg.MaxLen", "unicode/utf8.first", "unicode/utf8.acceptRanges"], apart := false, laid := [("unicode/utf8.acceptRanges", laid_unicode_utf8_acceptRanges), ("unicode/utf8.first", laid_unicode_utf8_first)], narrowed := true }
def PickParsesUptoSaid : Prop := pickParsesUptoRow.holds Tryd.pinned (OpenSpec.upto pickParsesSpec)

/-- 'ebbtidelaw05.PickBack', WHERE WHAT IT READS IS OF BULK AT MOST 1048576: true; the input reads as it did. -/
def pickBackUptoRow : OpenClaim := { program := "ytdmobcaidjilcaadoor", sum := "708e7bbe1c4be624661d7ed3f4e3e0a6ff1c533375b4e24ca19a0096e76aeeed", func := "ebbtide/ebbtidelaw05.PickBack", spec := "pickBack", inPlace := ["internal/bytealg.IndexByteString", "internal/bytealg.IndexString", "internal/abi.NoEscape", "internal/bytealg.MakeNoZero"], unfollowed := true, recurses := true, named := ["internal/bytealg.MaxLen", "unicode/utf8.first", "unicode/utf8.acceptRanges"], apart := false, laid := [("unicode/utf8.acceptRanges", laid_unicode_utf8_acceptRanges), ("unicode/utf8.first", laid_unicode_utf8_first)], narrowed := true }
def PickBackUptoSaid : Prop := pickBackUptoRow.holds Tryd.pinned (OpenSpec.upto pickBackSpec)

/-- 'ebbtidelaw05.PickOther', WHERE WHAT IT READS IS OF BULK AT MOST 1048576: true; the input reads as it did. -/
def pickOtherUptoRow : OpenClaim := { program := "ytdmobcaidjilcaadoor", sum := "708e7bbe1c4be624661d7ed3f4e3e0a6ff1c533375b4e24ca19a0096e76aeeed", func := "ebbtide/ebbtidelaw05.PickOther", spec := "pickOther", inPlace := ["internal/bytealg.IndexByteString", "internal/bytealg.IndexString", "internal/abi.NoEscape", "internal/bytealg.MakeNoZero"], unfollowed := true, recurses := true, named := ["internal/bytealg.MaxLen", "unicode/utf8.first", "unicode/utf8.acceptRanges"], apart := false, laid := [("unicode/utf8.acceptRanges", laid_unicode_utf8_acceptRanges), ("unicode/utf8.first", laid_unicode_utf8_first)], narrowed := true }
def PickOtherUptoSaid : Prop := pickOtherUptoRow.holds Tryd.pinned (OpenSpec.upto pickOtherSpec)

end Rows
end Go.Proofs.YtdmobcaidjilcaaDoor
