/- The plain law of SatTexts: a sum's text, and what any text is read as. -/
import Derived.Test.YtplfiioggbafhaaDoorSatText
namespace Go.Proofs.YtplfiioggbafhaaDoor.Pure
open Go.RowKit Go.Proofs.YtplfiioggbafhaaDoor.X Go.Proofs.YtplfiioggbafhaaDoorW.PrintWords Go.Proofs.YtplfiioggbafhaaDoorW.PrintLast Go.Proofs.YtplfiioggbafhaaDoorW.PrintMore Go.Proofs.YtplfiioggbafhaaDoor.Aid Go.Proofs.YtplfiioggbafhaaDoor.Bytes Go.Proofs.YtplfiioggbafhaaDoor.Decs

theorem SatTexts : ebbtidelaw01_SatTexts.Pure := by
  intro x s hx _
  obtain ⟨l, rfl⟩ := str_mk s
  obtain ⟨K, hK⟩ : ∃ K : Nat, 1001 ≤ K := ⟨_, Nat.le_refl _⟩
  refine ⟨K, ?_⟩
  unfold ebbtidelaw01_SatTexts.f
  rw [alive_eq K (by omega), Option.bind_some, if_pos rfl, mk_size]
  by_cases h : (l.length : Int) > 200
  · rw [if_pos h]
  · obtain ⟨e1, e2⟩ := text_eq (qs hx) x.f1 (k := K) (by omega)
    rw [if_neg h, parse_eq (by omega), Option.bind_some, rparse_eq (by omega) hK, Option.bind_some, read_eq (by omega), Option.bind_some, rread_eq (by omega) (by omega), Option.bind_some, e1, Option.bind_some, e2, Option.bind_some, if_pos rfl, format_eq (qs hx), Option.bind_some, number_eq (qs hx) (by omega), Option.bind_some, if_pos rfl]
    simp
end Go.Proofs.YtplfiioggbafhaaDoor.Pure
