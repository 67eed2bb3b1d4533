/- Words of the printed texts, joined. No condition of its own. -/
import Derived.Test.YtklhjponikgkkaaM3
section
namespace Go.Proofs.Ytklhjponikgkkaa.X
open Go.RowKit Go.Proofs.YtklhjponikgkkaaW.PrintWords Go.Proofs.YtklhjponikgkkaaW.PrintLast Go.Proofs.YtklhjponikgkkaaW.PrintMore
def Q52 (x : S52) : Prop := ((Lit.int .i64 x.f0).wf = true) ∧ (True)
def Q54 (x : S54) : Prop := ((Lit.int .i64 x.f0).wf = true) ∧ (Q52 x.f1) ∧ ((Lit.int .i64 x.f2).wf = true) ∧ ((Lit.int .i64 x.f3).wf = true)
def Q96 (x : S96) : Prop := ((Lit.int .i64 x.f0).wf = true) ∧ (Q54 x.f1)
def Q70 (x : S70) : Prop := ((Lit.int .i64 x.f0).wf = true) ∧ (x.f1.size ≤ 140737488351232) ∧ (x.f2.length ≤ maxLen ∧ ∀ x0_ ∈ x.f2, Q96 x0_)
def Q50 (x : S50) : Prop := (x.f0.length ≤ maxLen ∧ ∀ x0_ ∈ x.f0, Q70 x0_)
end Go.Proofs.Ytklhjponikgkkaa.X
end
