/- The plain law of CellFolds: what a sample makes of a cell, and what a cell tells, is alike in both. No condition of its own. -/
import Derived.Test.YtjomifbbhjnnjaaCellPlain
import Derived.Test.YtjomifbbhjnnjaaXx7
namespace Go.Proofs.Ytjomifbbhjnnjaa.Pure
open Go.RowKit Go.Proofs.Ytjomifbbhjnnjaa.X Go.Proofs.YtjomifbbhjnnjaaW.PrintWords Go.Proofs.YtjomifbbhjnnjaaW.PrintLast Go.Proofs.YtjomifbbhjnnjaaW.PrintMore Go.Proofs.Ytjomifbbhjnnjaa.Aid

theorem value_eq (a b : Int) (c : Bool) (d e n : Int) : ebbtideref06_Value.f a b c d e n = cell_Value.f a b c d e n := rfl
theorem value_some (a b : Int) (c : Bool) (d e n : Int) : ∃ r, cell_Value.f a b c d e n = some r := by
  unfold cell_Value.f sat_Of.f
  simp only [Option.bind_some]
  repeat' split
  all_goals exact ⟨_, rfl⟩
theorem CellFolds : ebbtidelaw06_CellFolds.Pure := by
  intro x v n hq hv _
  obtain ⟨q0, ⟨q1, _⟩, q2, q3⟩ := hq
  have hc : WC (x.f0, x.f1.f0, x.f1.f1, x.f2, x.f3) := ⟨inr_of q0, inr_of q1, inr_of q2, inr_of q3⟩
  obtain ⟨r, hr⟩ := value_some x.f0 x.f1.f0 x.f1.f1 x.f2 x.f3 n
  have h1 := fold_eq hc (inr_of hv) 10 (by omega)
  have h2 := ref_fold hc (inr_of hv) 10 (by omega)
  simp only at h1 h2
  refine ⟨10, ?_⟩
  simp [ebbtidelaw06_CellFolds.f, alive_eq 10 (by omega), h1, h2, value_eq, hr, cell_Empty.f]
end Go.Proofs.Ytjomifbbhjnnjaa.Pure
