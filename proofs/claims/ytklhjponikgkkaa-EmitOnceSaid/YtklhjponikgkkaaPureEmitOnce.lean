/- The plain law of EmitOnce: what may be let out is closed, and waits for nothing; with a drop of it only a later one may. No condition of its own. -/
import Derived.Test.YtklhjponikgkkaaPureEmitNext
import Derived.Test.YtklhjponikgkkaaXx16
namespace Go.Proofs.Ytklhjponikgkkaa.Pure
open Go.RowKit Go.Proofs.Ytklhjponikgkkaa.X Go.Proofs.YtklhjponikgkkaaW.PrintWords Go.Proofs.YtklhjponikgkkaaW.PrintLast Go.Proofs.YtklhjponikgkkaaW.PrintMore Go.Proofs.Ytklhjponikgkkaa.Aid

theorem EmitOnce : ebbtidelaw17_EmitOnce.Pure := by
  intro c n m _ _ _
  obtain ⟨K, hK⟩ : ∃ K : Nat, K = 5000 := ⟨_, rfl⟩
  refine ⟨K, ?_⟩
  unfold ebbtidelaw17_EmitOnce.f
  rw [alive_eq K (by omega)]
  simp only [Option.bind_some, if_true]
  rcases great_eq m.f0 m.f1 m.f2 K (by omega) with hg | ⟨hg, hd, hq, hs⟩
  · rw [hg]
    rfl
  · rw [hg]
    simp only [Option.bind_some]
    rw [if_neg (by simp), next_eq hq _ _ _ _ _ _ _ hs K (by omega)]
    simp only [Option.bind_some, fin]
    obtain ⟨l, hl⟩ : ∃ l, l = mays c.f2 c.f3 n m.f0 m.f1 (ents m.f2) := ⟨_, rfl⟩
    rw [← hl]
    by_cases e : l = []
    · rw [if_neg (by simp [e]), e]
      rfl
    · rw [if_pos (by simp [e])]
      have hm := minl_mem e
      have hm2 := hm
      rw [hl, mays_mem, ← hl] at hm2
      obtain ⟨h1, h2⟩ := hm2
      unfold may at h1
      simp only [Bool.and_eq_true, Bool.not_eq_true'] at h1
      obtain ⟨a1, a2, a3⟩ := h1
      rw [rclosed_eq, a2]
      simp only [Option.bind_some, if_true]
      rw [rwaits_eq hq _ K (by omega), a3]
      simp only [Option.bind_some]
      rw [if_neg (by simp), if_pos (by simp; omega), if_pos (by simp; omega), next_eq hq _ _ _ _ _ _ _ hs K (by omega)]
      simp only [Option.bind_some, fin]
      obtain ⟨l2, hl2⟩ : ∃ l2, l2 = mays c.f2 c.f3 n (([] : List Dr) ++ m.f0 ++ [(⟨minl l, 9⟩ : Dr)]) m.f1 (ents m.f2) := ⟨_, rfl⟩
      have hsub : ∀ w ∈ l2, w ∈ l ∧ w ≠ minl l := by
        intro w hw
        rw [hl2, mays_mem] at hw
        obtain ⟨b1, b2⟩ := hw
        unfold may at b1
        simp only [List.nil_append, List.any_append, List.any_cons, List.any_nil, Bool.or_false, Bool.and_eq_true, Bool.not_eq_true', Bool.or_eq_false_iff, beq_eq_false_iff_ne] at b1
        refine ⟨?_, fun h => b1.1.2 h.symm⟩
        rw [hl, mays_mem]
        refine ⟨?_, b2⟩
        unfold may
        rw [b1.1.1, b1.2.1, b1.2.2]
        rfl
      have hfin : (if decide (l2 ≠ []) = true then some (decide (minl l2 > minl l)) else some true) = some true := by
        by_cases e2 : l2 = []
        · rw [if_neg (by simp [e2])]
        · rw [if_pos (by simp [e2])]
          obtain ⟨g1, g2⟩ := hsub _ (minl_mem e2)
          have g3 := minl_le g1
          rw [decide_eq_true (by omega : minl l2 > minl l)]
      rw [hl2] at hfin
      exact hfin
end Go.Proofs.Ytklhjponikgkkaa.Pure
