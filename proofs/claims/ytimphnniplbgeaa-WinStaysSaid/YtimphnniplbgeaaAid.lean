/- Small plain facts on whole numbers of the machine, used by the plain laws. No condition of its own. -/
import Derived.Test.YtimphnniplbgeaaWWords
namespace Go.Proofs.Ytimphnniplbgeaa.Aid
open Go.RowKit

theorem wf64 {a : Int} (h : (Lit.int .i64 a).wf = true) : -9223372036854775808 ≤ a ∧ a ≤ 9223372036854775807 := by
  simp only [Lit.wf, Bool.and_eq_true, decide_eq_true_eq] at h
  exact h
theorem w64 {a : Int} (h0 : -9223372036854775808 ≤ a) (h1 : a ≤ 9223372036854775807) : wrap64 a = a := by
  unfold wrap64
  omega
end Go.Proofs.Ytimphnniplbgeaa.Aid
