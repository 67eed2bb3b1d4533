/- The plain law of EmitNext: which window may be let out is alike in both. No condition of its own. -/
import Derived.Test.YtklhjponikgkkaaEmitPlain
import Derived.Test.YtklhjponikgkkaaXx12
import Derived.Test.YtklhjponikgkkaaXx15
namespace Go.Proofs.Ytklhjponikgkkaa.Pure
open Go.RowKit Go.Proofs.Ytklhjponikgkkaa.X Go.Proofs.YtklhjponikgkkaaW.PrintWords Go.Proofs.YtklhjponikgkkaaW.PrintLast Go.Proofs.YtklhjponikgkkaaW.PrintMore Go.Proofs.Ytklhjponikgkkaa.Aid

theorem alive_eq (k : Nat) (hk : 24 ≤ k) : ebbtidelaw17_alive.f k = some true :=
  at_rounds (g := fun k => ebbtidelaw17_alive.f k) ebbtidelaw17_alive.mono hk (by decide +kernel)
theorem EmitNext : ebbtidelaw17_EmitNext.Pure := by
  intro c n m _ _ _
  obtain ⟨K, hK⟩ : ∃ K : Nat, K = 5000 := ⟨_, rfl⟩
  refine ⟨K, ?_⟩
  unfold ebbtidelaw17_EmitNext.f
  rw [alive_eq K (by omega)]
  simp only [Option.bind_some, if_true]
  rcases great_eq m.f0 m.f1 m.f2 K (by omega) with hg | ⟨hg, hd, hq, hs⟩
  · rw [hg]
    rfl
  · rw [hg]
    simp only [Option.bind_some]
    rw [if_neg (by simp), next_eq hq _ _ _ _ _ _ _ hs K (by omega)]
    simp only [Option.bind_some]
    rw [rnext_eq hq (by omega) _ _ _ _ _ _ hs K (by omega)]
    simp
end Go.Proofs.Ytklhjponikgkkaa.Pure
