/- Words of the printed texts, joined. No condition of its own. -/
import Derived.Test.YteckidchnicjeaaGreatDoorM3
section
namespace Go.Proofs.YteckidchnicjeaaGreatDoor.X
open Go.RowKit Go.Proofs.YteckidchnicjeaaGreatDoorW.PrintWords Go.Proofs.YteckidchnicjeaaGreatDoorW.PrintLast Go.Proofs.YteckidchnicjeaaGreatDoorW.PrintMore
def Q58 (x : S58) : Prop := ((Lit.int .i64 x.f0).wf = true) ∧ (True)
def Q60 (x : S60) : Prop := ((Lit.int .i64 x.f0).wf = true) ∧ (x.f1.size ≤ 140737488351232) ∧ (Q58 x.f2)
def Q33 (x : S33) : Prop := ((Lit.int .i64 x.f0).wf = true) ∧ ((Lit.int .i64 x.f1).wf = true) ∧ (x.f2.length ≤ maxLen ∧ ∀ x0_ ∈ x.f2, Q60 x0_)
def Q78 (x : S78) : Prop := (Q60 x.f0) ∧ (True)
def Q36 (x : S36) : Prop := ((Lit.int .i64 x.f0).wf = true) ∧ ((Lit.int .i64 x.f1).wf = true) ∧ ((Lit.int .i64 x.f2).wf = true) ∧ (x.f3.length ≤ maxLen ∧ ∀ x0_ ∈ x.f3, Q60 x0_) ∧ (x.f4.length ≤ maxLen ∧ ∀ x0_ ∈ x.f4, Q78 x0_)
end Go.Proofs.YteckidchnicjeaaGreatDoor.X
end
