/- The plain law of PickParses: any text's matches, or why not. -/
import Derived.Test.YtdmobcaidjilcaaDoorPickText
import Derived.Test.YtdmobcaidjilcaaDoorXx15
namespace Go.Proofs.YtdmobcaidjilcaaDoor.Pure
open Go.RowKit Go.Proofs.YtdmobcaidjilcaaDoor.X Go.Proofs.YtdmobcaidjilcaaDoorW.PrintWords Go.Proofs.YtdmobcaidjilcaaDoorW.PrintLast Go.Proofs.YtdmobcaidjilcaaDoorW.PrintMore Go.Proofs.YtdmobcaidjilcaaDoor.Aid Go.Proofs.YtdmobcaidjilcaaDoor.Bytes

theorem PickParses : ebbtidelaw05_PickParses.Pure := by
  intro s _
  obtain ⟨l, rfl⟩ := str_mk s
  obtain ⟨K, hK⟩ : ∃ K : Nat, 30000 ≤ K := ⟨_, Nat.le_refl _⟩
  refine ⟨K, ?_⟩
  unfold ebbtidelaw05_PickParses.f
  rw [alive_eq (by omega), Option.bind_some, if_pos rfl, mk_size]
  by_cases h : (l.length : Int) > 500
  · rw [if_pos h]
  · obtain ⟨e1, e2⟩ := parse_eq (s := l) (by omega) hK
    have := parse_len l
    rw [if_neg h, e1, Option.bind_some, e2, Option.bind_some, same_self (by omega) (by omega), Option.bind_some, if_pos rfl]
    simp
end Go.Proofs.YtdmobcaidjilcaaDoor.Pure
