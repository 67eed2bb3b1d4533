/- The plain law of ChainTells: what versions tell is alike in both. No condition of its own. -/
import Derived.Test.YthphlphkmfgkdaaChainPlain
import Derived.Test.YthphlphkmfgkdaaXx15
import Derived.Test.YthphlphkmfgkdaaXx14
import Derived.Test.YthphlphkmfgkdaaXx13
namespace Go.Proofs.Ythphlphkmfgkdaa.Pure
open Go.RowKit Go.Proofs.Ythphlphkmfgkdaa.X Go.Proofs.YthphlphkmfgkdaaW.PrintWords Go.Proofs.YthphlphkmfgkdaaW.PrintLast Go.Proofs.YthphlphkmfgkdaaW.PrintMore Go.Proofs.Ythphlphkmfgkdaa.Aid

theorem rprune_l1 {l : List W} (hn : l.length < LM) (f n : Int) (d : Nat) : ∀ (i k : Nat) (acc : List W), i + d = l.length → d < k → acc.length ≤ i →
    ebbtideref10_Prune.l1 k l f n acc (i : Int) = some (acc ++ prn f n i (l.drop i)) := by
  have hn' := hn
  unfold LM at hn'
  induction d with
  | zero =>
    intro i k acc hi hk _
    obtain ⟨k, rfl⟩ := succ_of hk
    simp only [ebbtideref10_Prune.l1]
    rw [if_neg (by omega), List.drop_of_length_le (by omega), prn, List.append_nil]
  | succ d ih =>
    intro i k acc hi hk ha
    obtain ⟨k, rfl⟩ := succ_of hk
    have hlt : i < l.length := by omega
    have h1 := ih (i + 1) k (acc ++ [l[i]]) (by omega) (by omega) (by rw [List.length_append, List.length_singleton]; omega)
    rw [List.append_assoc, List.singleton_append] at h1
    simp only [ebbtideref10_Prune.l1]
    rw [if_pos (by omega), if_pos (by omega), rdW hlt, drop_at hlt, w64s (by omega), prn_cons, if_pos (show acc.length < 2932031007402 by omega), ih (i + 1) k acc (by omega) (by omega) (by omega)]
    by_cases c1 : (i : Int) = n
    · rw [if_pos c1, if_pos c1]
      by_cases c2 : l[i].f0 > f
      · rw [if_pos c2]
        exact h1
      · rw [if_neg c2]
        exact h1
    · rw [if_neg c1, if_neg c1]
      by_cases c2 : l[i].f0 > f
      · rw [if_pos c2, if_pos c2]
        exact h1
      · rw [if_neg c2, if_neg c2]
theorem rprune_l0 {l : List W} (hn : l.length < LM) (f : Int) (d : Nat) : ∀ (i k : Nat), i + d = l.length → d + l.length + 1 < k →
    ebbtideref10_Prune.l0 k l f (nw f 0 (-1) (l.take i)) (i : Int) = some (pruned f l) := by
  have hn' := hn
  unfold LM at hn'
  induction d with
  | zero =>
    intro i k hi hk
    obtain ⟨k, rfl⟩ := succ_of hk
    simp only [ebbtideref10_Prune.l0]
    rw [if_neg (by omega), List.take_of_length_le (by omega)]
    exact rprune_l1 hn f _ l.length 0 k [] (by omega) (by omega) (Nat.le_refl _)
  | succ d ih =>
    intro i k hi hk
    obtain ⟨k, rfl⟩ := succ_of hk
    have hlt : i < l.length := by omega
    have h1 := ih (i + 1) k (by omega) (by omega)
    rw [nw_take hlt] at h1
    simp only [ebbtideref10_Prune.l0]
    rw [if_pos (by omega), if_pos (by omega), rdW hlt, w64s (by omega)]
    by_cases c1 : l[i].f0 ≤ f
    · rw [if_pos c1] at h1 ⊢
      exact h1
    · rw [if_neg c1] at h1 ⊢
      exact h1
theorem rprune_eq {l : List W} (hn : l.length < LM) (f : Int) (k : Nat) (hk : l.length + l.length + 1 < k) : ebbtideref10_Prune.f k l f = some (pruned f l) :=
  rprune_l0 hn f l.length 0 k (by omega) hk
theorem rlast_eq (l : List W) : ebbtideref10_Last.f l = chain_Last.f l := rfl
theorem tells_j0_true (l m : List W) (s : Int) (k : Nat) (hk : 0 < k) : ebbtidelaw10_ChainTells.j0 k l m s true = some true := by
  obtain ⟨k, rfl⟩ := succ_of hk
  simp only [ebbtidelaw10_ChainTells.j0]
  rfl
theorem tells_j0 (l m : List W) (hl : l.length ≤ 200) (s : Int) (k : Nat) (hk : 500 < k) : ebbtidelaw10_ChainTells.j0 k l m s false = some true := by
  obtain ⟨k, rfl⟩ := succ_of hk
  have hL : l.length < LM := by unfold LM; omega
  obtain ⟨v, hv⟩ := last_le hL
  have hp := prn_le s (nw s 0 (-1) l) l 0
  have hP : (pruned s l).length < LM := by unfold pruned; omega
  simp only [ebbtidelaw10_ChainTells.j0, Option.bind_some, List.nil_append]
  rw [if_neg (by simp), if_pos (by simp; omega), right_eq hL k (by omega), rright_eq hL k (by omega)]
  simp only [Option.bind_some]
  rw [if_pos (by simp), at_eq hL s k (by omega), rat_eq hL s k (by omega)]
  simp only [Option.bind_some]
  rw [if_pos (cell_eq _), rlast_eq, hv]
  simp only [Option.bind_some, if_true]
  rw [prune_eq hL s k (by omega), rprune_eq hL s k (by omega)]
  simp only [Option.bind_some]
  rw [rsame_eq hP k (by unfold pruned; omega), same_self]
  simp only [Option.bind_some, if_true]
  rw [same_eq hL k (by omega), rsame_eq hL k (by omega)]
  simp only [Option.bind_some]
  rw [if_pos (by simp), rsame_eq hL k (by omega), same_self]
  rfl
theorem ChainTells : ebbtidelaw10_ChainTells.Pure := by
  intro l m s _ _ _ _ _
  obtain ⟨K, hK⟩ : ∃ K : Nat, K = 600 := ⟨_, rfl⟩
  refine ⟨K, ?_⟩
  unfold ebbtidelaw10_ChainTells.f
  rw [alive_eq K (by omega)]
  simp only [Option.bind_some, if_true]
  by_cases h : (l.length : Int) > 200
  · rw [if_pos h, tells_j0_true l m s K (by omega)]
  · rw [if_neg h]
    by_cases h2 : (m.length : Int) > 200
    · rw [decide_eq_true h2, tells_j0_true l m s K (by omega)]
    · rw [decide_eq_false h2, tells_j0 l m (by omega) s K (by omega)]
end Go.Proofs.Ythphlphkmfgkdaa.Pure
