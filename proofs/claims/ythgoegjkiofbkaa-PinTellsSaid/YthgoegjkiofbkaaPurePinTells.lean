/- The plain law of PinTells: whether any pins are in order, and at which stamp a reader reads. -/
import Derived.Test.YthgoegjkiofbkaaPinPlain
namespace Go.Proofs.Ythgoegjkiofbkaa.Pure
open Go.RowKit Go.Proofs.Ythgoegjkiofbkaa.X Go.Proofs.YthgoegjkiofbkaaW.PrintWords Go.Proofs.YthgoegjkiofbkaaW.PrintLast Go.Proofs.YthgoegjkiofbkaaW.PrintMore Go.Proofs.Ythgoegjkiofbkaa.Aid

theorem PinTells : ebbtidelaw15_PinTells.Pure := by
  intro l m x hl _ hm _ _
  obtain ⟨K, hK⟩ : ∃ K : Nat, 10000 ≤ K := ⟨_, Nat.le_refl _⟩
  refine ⟨K + 1, ?_⟩
  unfold ebbtidelaw15_PinTells.f
  rw [alive_eq (K + 1) (by omega), Option.bind_some, if_pos rfl]
  by_cases h1 : (l.length : Int) > 100
  · rw [if_pos h1]
    rw [ebbtidelaw15_PinTells.j0]
    rw [if_pos rfl]
  · rw [if_neg h1]
    by_cases h2 : (m.length : Int) > 100
    · rw [decide_eq_true h2]
      rw [ebbtidelaw15_PinTells.j0]
      rw [if_pos rfl]
    · rw [decide_eq_false h2]
      rw [ebbtidelaw15_PinTells.j0]
      obtain ⟨b, e1, e2, _⟩ := right_eq (l := l) (by omega) (k := K) (by omega)
      obtain ⟨e3, r, e4, _⟩ := same_eq (a := l) (b := m) (by omega) (k := K) (by omega)
      rw [if_neg (by decide), find_eq, Option.bind_some, rfind_eq (by omega) x (by omega), Option.bind_some, if_pos rfl, if_pos (by simp), e1, Option.bind_some, e2, Option.bind_some, if_pos (by simp), e3, e4, Option.bind_some, Option.bind_some]
      simp
end Go.Proofs.Ythgoegjkiofbkaa.Pure
