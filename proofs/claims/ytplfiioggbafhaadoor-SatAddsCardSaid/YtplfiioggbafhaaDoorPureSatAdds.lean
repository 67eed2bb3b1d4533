/- The plain law of SatAdds: any two sums, added. -/
import Derived.Test.YtplfiioggbafhaaDoorSatPlain
namespace Go.Proofs.YtplfiioggbafhaaDoor.Pure
open Go.RowKit Go.Proofs.YtplfiioggbafhaaDoor.X Go.Proofs.YtplfiioggbafhaaDoorW.PrintWords Go.Proofs.YtplfiioggbafhaaDoorW.PrintLast Go.Proofs.YtplfiioggbafhaaDoorW.PrintMore Go.Proofs.YtplfiioggbafhaaDoor.Aid

theorem SatAdds : ebbtidelaw01_SatAdds.Pure := by
  intro x y n hx hy _
  obtain ⟨K, hK⟩ : ∃ K : Nat, 100 ≤ K := ⟨_, Nat.le_refl _⟩
  refine ⟨K + 1, ?_⟩
  obtain ⟨e1, e2⟩ := tot_eq (l := [(⟨x.f0, x.f1⟩ : Sm), (⟨y.f0, y.f1⟩ : Sm)]) (by simp) (by
    intro z hz
    simp only [List.mem_cons, List.not_mem_nil, or_false] at hz
    rcases hz with rfl | rfl
    · exact qs hx
    · exact qs hy) (k := K + 1) (by simp; omega)
  unfold ebbtidelaw01_SatAdds.f
  rw [alive_eq (K + 1) (by omega), Option.bind_some, if_pos rfl, add_eq (qs hx) (qs hy), Option.bind_some, radd_eq (qs hx) (qs hy), Option.bind_some, if_pos (by simp)]
  unfold sat_Of.f
  rw [Option.bind_some, if_pos (by simp), e1, Option.bind_some, e2, Option.bind_some]
  simp
end Go.Proofs.YtplfiioggbafhaaDoor.Pure
