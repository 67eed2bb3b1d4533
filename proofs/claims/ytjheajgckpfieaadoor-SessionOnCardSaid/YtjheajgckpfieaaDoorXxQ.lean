/- Printed by a program of this session's own: what values that are read are like. No condition of its own. -/
import Derived.Test.YtjheajgckpfieaaDoorXx0
namespace Go.Proofs.YtjheajgckpfieaaDoor.X
open Go.RowKit Go.Proofs.YtjheajgckpfieaaDoorW.PrintWords Go.Proofs.YtjheajgckpfieaaDoorW.PrintLast Go.Proofs.YtjheajgckpfieaaDoorW.PrintMore

/-- What every value of type 24 that is read is like. -/
def Q24 (x : S24) : Prop := (x.f0.length ≤ maxLen ∧ ∀ x0_ ∈ x.f0, (Lit.int .u8 x0_).wf = true) ∧ (True)
/-- What every value of type 42 that is read is like. -/
def Q42 (x : S42) : Prop := (x.f0.size ≤ 140737488351232) ∧ ((Lit.int .i64 x.f1).wf = true) ∧ ((Lit.int .i64 x.f2).wf = true) ∧ ((Lit.int .i64 x.f3).wf = true)
/-- What every value of type 27 that is read is like. -/
def Q27 (x : S27) : Prop := (Q24 x.f0) ∧ (x.f1.length ≤ maxLen ∧ ∀ x0_ ∈ x.f1, Q42 x0_)
/-- What every value of type 46 that is read is like. -/
def Q46 (x : S46) : Prop := ((Lit.int .i64 x.f0).wf = true) ∧ ((Lit.int .i64 x.f1).wf = true)
/-- What every value of type 57 that is read is like. -/
def Q57 (x : S57) : Prop := ((Lit.int .i64 x.f0).wf = true) ∧ (True)
/-- What every value of type 59 that is read is like. -/
def Q59 (x : S59) : Prop := ((Lit.int .i64 x.f0).wf = true) ∧ (x.f1.size ≤ 140737488351232) ∧ (Q57 x.f2)
/-- What every value of type 50 that is read is like. -/
def Q50 (x : S50) : Prop := ((Lit.int .i64 x.f0).wf = true) ∧ ((Lit.int .i64 x.f1).wf = true) ∧ (x.f2.length ≤ maxLen ∧ ∀ x0_ ∈ x.f2, Q59 x0_)
end Go.Proofs.YtjheajgckpfieaaDoor.X
