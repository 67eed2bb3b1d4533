/- The plain law of SessionSettles: what a session tells, and what waits still, is the document's. -/
import Derived.Test.YtjheajgckpfieaaDoorSessPlain
import Derived.Test.YtjheajgckpfieaaDoorXx15
namespace Go.Proofs.YtjheajgckpfieaaDoor.Pure
open Go.RowKit Go.Proofs.YtjheajgckpfieaaDoor.X Go.Proofs.YtjheajgckpfieaaDoorW.PrintWords Go.Proofs.YtjheajgckpfieaaDoorW.PrintLast Go.Proofs.YtjheajgckpfieaaDoorW.PrintMore Go.Proofs.YtjheajgckpfieaaDoor.Aid Go.Proofs.YtjheajgckpfieaaDoor.Bytes

theorem SessionSettles : ebbtidelaw24_SessionSettles.Pure := by
  intro x s A _ _ hA _
  obtain ⟨K, hK⟩ : ∃ K : Nat, 9000 ≤ K := ⟨_, Nat.le_refl _⟩
  refine ⟨K + 1, ?_⟩
  unfold ebbtidelaw24_SessionSettles.f
  rw [alive_eq _ (by omega), Option.bind_some, if_pos rfl]
  rcases great_eq x.f0.f0 x.f0.f1 x.f1 (k := K + 1) (by omega) with h | ⟨h, hw⟩
  · rw [h, Option.bind_some, if_pos rfl, ebbtidelaw24_SessionSettles.j0, if_pos rfl]
  · rw [h, Option.bind_some, if_neg (by decide)]
    rcases much_eq A hA.2 (k := K + 1) (by omega) with h2 | ⟨h2, hg⟩
    · rw [h2, Option.bind_some, ebbtidelaw24_SessionSettles.j0, if_pos rfl]
    · have hp := parts s (x.f1.map (told A))
      rw [List.length_map] at hp
      rw [h2, Option.bind_some, ebbtidelaw24_SessionSettles.j0, if_neg (by decide), Option.bind_some, if_pos (by rw [List.length_nil]; omega), settle_eq hg s _ _ (by omega) (by omega), Option.bind_some, rsettle_eq hg s _ _ (by omega) (by omega), Option.bind_some]
      dsimp only
      rw [same_self _ _ (by omega) (by omega), Option.bind_some, if_pos rfl, texts_self (by omega) (by omega), Option.bind_some, if_pos rfl, List.nil_append, (replies_eq (by omega) (by omega)).1, Option.bind_some, decide_eq_true rfl]
end Go.Proofs.YtjheajgckpfieaaDoor.Pure
