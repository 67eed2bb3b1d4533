/- Words of the printed texts, joined. No condition of its own. -/
import Derived.Test.YtofaindjbhmopaaM3
section
namespace Go.Proofs.Ytofaindjbhmopaa.X
open Go.RowKit Go.Proofs.YtofaindjbhmopaaW.PrintWords Go.Proofs.YtofaindjbhmopaaW.PrintLast Go.Proofs.YtofaindjbhmopaaW.PrintMore
def Q50 (x : S50) : Prop := ((Lit.int .i64 x.f0).wf = true) ∧ (True)
def Q52 (x : S52) : Prop := ((Lit.int .i64 x.f0).wf = true) ∧ (Q50 x.f1) ∧ ((Lit.int .i64 x.f2).wf = true) ∧ ((Lit.int .i64 x.f3).wf = true)
def Q82 (x : S82) : Prop := ((Lit.int .i64 x.f0).wf = true) ∧ (Q52 x.f1)
def Q59 (x : S59) : Prop := ((Lit.int .i64 x.f0).wf = true) ∧ (x.f1.size ≤ 140737488351232) ∧ (x.f2.length ≤ maxLen ∧ ∀ x0_ ∈ x.f2, Q82 x0_)
def Q24 (x : S24) : Prop := (x.f0.length ≤ maxLen ∧ ∀ x0_ ∈ x.f0, Q59 x0_)
def Q26 (x : S26) : Prop := ((Lit.int .i64 x.f0).wf = true) ∧ ((Lit.int .i64 x.f1).wf = true) ∧ (x.f2.size ≤ 140737488351232) ∧ ((Lit.int .i64 x.f3).wf = true)
end Go.Proofs.Ytofaindjbhmopaa.X
end
