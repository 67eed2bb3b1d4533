/- Words of the printed texts, joined. No condition of its own. -/
import Derived.Test.YtkplklfmhieoaaaGreatDoorM3
section
namespace Go.Proofs.YtkplklfmhieoaaaGreatDoor.X
open Go.RowKit Go.Proofs.YtkplklfmhieoaaaGreatDoorW.PrintWords Go.Proofs.YtkplklfmhieoaaaGreatDoorW.PrintLast Go.Proofs.YtkplklfmhieoaaaGreatDoorW.PrintMore
def Q37 (x : S37) : Prop := ((Lit.int .i64 x.f0).wf = true) ∧ ((Lit.int .i64 x.f1).wf = true) ∧ (x.f2.length ≤ maxLen ∧ ∀ x0_ ∈ x.f2, (Lit.int .u8 x0_).wf = true)
end Go.Proofs.YtkplklfmhieoaaaGreatDoor.X
end
