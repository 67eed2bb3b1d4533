/- The plain law of ChainAhead: what is put is told from its stamp on. No condition of its own. -/
import Derived.Test.YthphlphkmfgkdaaChainPlain
import Derived.Test.YthphlphkmfgkdaaXx19
namespace Go.Proofs.Ythphlphkmfgkdaa.Pure
open Go.RowKit Go.Proofs.Ythphlphkmfgkdaa.X Go.Proofs.YthphlphkmfgkdaaW.PrintWords Go.Proofs.YthphlphkmfgkdaaW.PrintLast Go.Proofs.YthphlphkmfgkdaaW.PrintMore Go.Proofs.Ythphlphkmfgkdaa.Aid

theorem ChainAhead : ebbtidelaw10_ChainAhead.Pure := by
  intro l v s _ _ _ _
  obtain ⟨K, hK⟩ : ∃ K : Nat, K = 700 := ⟨_, rfl⟩
  refine ⟨K, ?_⟩
  unfold ebbtidelaw10_ChainAhead.f
  rw [alive_eq K (by omega)]
  simp only [Option.bind_some, if_true]
  by_cases h : (l.length : Int) > 200
  · rw [if_pos h]
  · rw [if_neg h]
    have hv : (⟨v.f0, ⟨v.f1.f0, ⟨v.f1.f1.f0, v.f1.f1.f1⟩, v.f1.f2, v.f1.f3⟩⟩ : W) = v := rfl
    have hL : l.length < LM := by unfold LM; omega
    have hM : (l ++ [v]).length < LM := by rw [List.length_append, List.length_singleton]; unfold LM; omega
    rw [hv, push_eq (by rw [List.length_singleton]; unfold LM; omega) K (by rw [List.length_singleton]; omega)]
    simp only [Option.bind_some]
    unfold pushed
    by_cases c : rightFrom 0 (l ++ [v]) = true
    · rw [if_pos c]
      rw [if_pos (show (l ++ [v], (0 : Int)).2 = 0 from rfl), at_eq hM s K (by rw [List.length_append, List.length_singleton]; omega), at_eq hL s K (by omega), atf_snoc]
      simp only [Option.bind_some]
      by_cases d : s < v.f0
      · rw [if_pos d, if_neg (by omega), cell_eq]
      · rw [if_neg d, if_pos (by omega)]
        exact congrArg some (cell_eq (ce v.f1))
    · rw [if_neg c, if_neg (by simp)]
      rfl
end Go.Proofs.Ythphlphkmfgkdaa.Pure
