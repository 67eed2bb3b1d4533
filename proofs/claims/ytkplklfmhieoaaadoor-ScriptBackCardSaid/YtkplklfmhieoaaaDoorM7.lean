/- Words of the printed texts, joined. No condition of its own. -/
import Derived.Test.YtkplklfmhieoaaaDoorM3
section
namespace Go.Proofs.YtkplklfmhieoaaaDoor.X
open Go.RowKit Go.Proofs.YtkplklfmhieoaaaDoorW.PrintWords Go.Proofs.YtkplklfmhieoaaaDoorW.PrintLast Go.Proofs.YtkplklfmhieoaaaDoorW.PrintMore
def Q36 (x : S36) : Prop := ((Lit.int .i64 x.f0).wf = true) ∧ ((Lit.int .i64 x.f1).wf = true) ∧ (x.f2.length ≤ maxLen ∧ ∀ x0_ ∈ x.f2, (Lit.int .u8 x0_).wf = true)
end Go.Proofs.YtkplklfmhieoaaaDoor.X
end
