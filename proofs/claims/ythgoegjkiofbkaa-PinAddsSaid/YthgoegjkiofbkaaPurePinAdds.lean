/- The plain law of PinAdds: what any pins make of any others, and what is left without one. -/
import Derived.Test.YthgoegjkiofbkaaPinPlain
namespace Go.Proofs.Ythgoegjkiofbkaa.Pure
open Go.RowKit Go.Proofs.Ythgoegjkiofbkaa.X Go.Proofs.YthgoegjkiofbkaaW.PrintWords Go.Proofs.YthgoegjkiofbkaaW.PrintLast Go.Proofs.YthgoegjkiofbkaaW.PrintMore Go.Proofs.Ythgoegjkiofbkaa.Aid

theorem addR_len (l ps : List Pn) : (addR l ps).1.length ≤ l.length + ps.length := by
  unfold addR
  split
  · exact adds_len ps l
  · exact Nat.zero_le _
theorem dropR_len (x : Int) (l : List Pn) : (dropR x l).1.length ≤ l.length + l.length := by
  unfold dropR
  split
  · exact Nat.zero_le _
  · show (l.take _ ++ l.drop _).length ≤ _
    rw [List.length_append, List.length_take, List.length_drop]
    omega
theorem PinAdds : ebbtidelaw15_PinAdds.Pure := by
  intro l p x hl _ hp _ _
  obtain ⟨B, hB⟩ : ∃ B : Nat, 2500 ≤ B := ⟨2500, Nat.le_refl _⟩
  obtain ⟨K, hK⟩ : ∃ K : Nat, 1000 * B + 10000 ≤ K := ⟨_, Nat.le_refl _⟩
  refine ⟨K + 1, ?_⟩
  unfold ebbtidelaw15_PinAdds.f
  rw [alive_eq (K + 1) (by omega), Option.bind_some, if_pos rfl]
  by_cases h1 : (l.length : Int) > 100
  · rw [if_pos h1]
    rw [ebbtidelaw15_PinAdds.j0]
    rw [if_pos rfl]
  · rw [if_neg h1]
    by_cases h2 : (p.length : Int) > 100
    · rw [decide_eq_true h2]
      rw [ebbtidelaw15_PinAdds.j0]
      rw [if_pos rfl]
    · rw [decide_eq_false h2]
      rw [ebbtidelaw15_PinAdds.j0]
      have e1 : ∀ z : List Pn × Int, z.1.length ≤ 1000 → ebbtideref15_Same.f K z.1 z.1 = some true := fun z hz => same_self z.1 (by omega) (by omega)
      have h3 := addR_len l p
      have h4 := dropR_len x l
      rw [if_neg (by decide), Option.bind_some, if_pos (by simp only [List.length_nil]; omega), Option.bind_some, List.nil_append, add_eq (by omega) (by omega) (by omega), Option.bind_some, radd_eq (by omega) (by omega) hB (by omega) (by omega), Option.bind_some,
        drop_eq (by omega), Option.bind_some, rdrop_eq (by omega) x (by omega), Option.bind_some, e1 _ (by omega), Option.bind_some, if_pos rfl, if_pos rfl, e1 _ (by omega), Option.bind_some, if_pos rfl, if_pos rfl, same_self l (by omega) (by omega), Option.bind_some]
end Go.Proofs.Ythgoegjkiofbkaa.Pure
