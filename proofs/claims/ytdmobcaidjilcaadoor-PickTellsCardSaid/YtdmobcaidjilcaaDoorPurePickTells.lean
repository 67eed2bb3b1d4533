/- The plain law of PickTells: whether matches may be, their text, and whether they are the same. -/
import Derived.Test.YtdmobcaidjilcaaDoorPickPlain
import Derived.Test.YtdmobcaidjilcaaDoorXx11
namespace Go.Proofs.YtdmobcaidjilcaaDoor.Pure
open Go.RowKit Go.Proofs.YtdmobcaidjilcaaDoor.X Go.Proofs.YtdmobcaidjilcaaDoorW.PrintWords Go.Proofs.YtdmobcaidjilcaaDoorW.PrintLast Go.Proofs.YtdmobcaidjilcaaDoorW.PrintMore Go.Proofs.YtdmobcaidjilcaaDoor.Aid Go.Proofs.YtdmobcaidjilcaaDoor.Bytes

theorem PickTells : ebbtidelaw05_PickTells.Pure := by
  intro l m _ _ _ _
  obtain ⟨K, hK⟩ : ∃ K : Nat, 3000 ≤ K := ⟨_, Nat.le_refl _⟩
  refine ⟨K + 1, ?_⟩
  unfold ebbtidelaw05_PickTells.f
  rw [alive_eq (by omega), Option.bind_some, if_pos rfl]
  rcases great_eq l (k := K + 1) (by omega) with h | ⟨h, hl, hs⟩
  · rw [h, Option.bind_some, if_pos rfl, ebbtidelaw05_PickTells.j0, if_pos rfl]
  · rw [h, Option.bind_some, if_neg (by decide)]
    rcases great_eq m (k := K + 1) (by omega) with h2 | ⟨h2, _, _⟩
    · rw [h2, Option.bind_some, ebbtidelaw05_PickTells.j0, if_pos rfl]
    · obtain ⟨r, e1, e2⟩ := same_both (a := l) (b := m) (by omega) (k := K) (by omega)
      rw [h2, Option.bind_some, ebbtidelaw05_PickTells.j0, if_neg (by decide), right_eq (sh_of hs) (by omega) (by omega), Option.bind_some, rright_eq (sh_of hs) (by omega) (by omega), Option.bind_some, if_pos (by simp), text_eq (sh_of hs) (by omega) (by omega), Option.bind_some, rtext_eq hs hl (by omega), Option.bind_some, if_pos rfl, e1, Option.bind_some, e2, Option.bind_some]
      simp
end Go.Proofs.YtdmobcaidjilcaaDoor.Pure
