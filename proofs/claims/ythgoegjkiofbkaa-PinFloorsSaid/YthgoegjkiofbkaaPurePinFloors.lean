/- The plain law of PinFloors: the floor of any stamps; with one more it is that one's, or as it was. -/
import Derived.Test.YthgoegjkiofbkaaPinPlain
namespace Go.Proofs.Ythgoegjkiofbkaa.Pure
open Go.RowKit Go.Proofs.Ythgoegjkiofbkaa.X Go.Proofs.YthgoegjkiofbkaaW.PrintWords Go.Proofs.YthgoegjkiofbkaaW.PrintLast Go.Proofs.YthgoegjkiofbkaaW.PrintMore Go.Proofs.Ythgoegjkiofbkaa.Aid

theorem floor_eq {l : List Pn} (hl : l.length ≤ 1000000) (s : Int) {k : Nat} (hk : l.length < k) : pin_Floor.f k s l = some (floorR s l) ∧ ebbtideref15_Floor.f k s l = some (floorR s l) := by
  have h := floor_l0 hl l.length 0 k s (by omega) hk
  rw [List.drop_zero] at h
  exact h
theorem PinFloors : ebbtidelaw15_PinFloors.Pure := by
  intro s l p _ hl _ _
  obtain ⟨K, hK⟩ : ∃ K : Nat, 10000 ≤ K := ⟨_, Nat.le_refl _⟩
  refine ⟨K, ?_⟩
  unfold ebbtidelaw15_PinFloors.f
  rw [alive_eq K (by omega), Option.bind_some, if_pos rfl]
  by_cases h1 : (l.length : Int) > 100
  · rw [if_pos h1]
  · rw [if_neg h1]
    obtain ⟨e1, e2⟩ := floor_eq (l := l) (by omega) s (k := K) (by omega)
    obtain ⟨e3, _⟩ := floor_eq (l := l ++ [(⟨p.f0, p.f1⟩ : Pn)]) (by rw [List.length_append, List.length_singleton]; omega) s (k := K) (by rw [List.length_append, List.length_singleton]; omega)
    have e4 : floorR s (l ++ [(⟨p.f0, p.f1⟩ : Pn)]) = mn (floorR s l) p.f1 := by
      unfold floorR
      rw [List.foldl_append]
      rfl
    rw [e4] at e3
    rw [e1, Option.bind_some, Option.bind_some, if_pos (by simp only [List.length_nil]; omega), Option.bind_some, List.nil_append, Option.bind_some, if_pos (by simp only [List.length_singleton]; omega), e3, Option.bind_some, e2, Option.bind_some, if_pos rfl]
    unfold mn
    by_cases h : p.f1 < floorR s l
    · rw [if_pos h, if_pos (by omega), if_neg (by omega)]
      simp
    · rw [if_neg h, if_pos (by omega), if_pos rfl]
end Go.Proofs.Ythgoegjkiofbkaa.Pure
