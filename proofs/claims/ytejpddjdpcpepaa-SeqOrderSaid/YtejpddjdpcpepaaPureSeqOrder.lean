/- The plain law of SeqOrder: what is pushed is popped in that order. No condition of its own. -/
import Derived.Test.YtejpddjdpcpepaaSeqPlain
import Derived.Test.YtejpddjdpcpepaaXx11
namespace Go.Proofs.Ytejpddjdpcpepaa.Pure
open Go.RowKit Go.Proofs.Ytejpddjdpcpepaa.X Go.Proofs.YtejpddjdpcpepaaW.PrintWords Go.Proofs.YtejpddjdpcpepaaW.PrintLast Go.Proofs.YtejpddjdpcpepaaW.PrintMore Go.Proofs.Ytejpddjdpcpepaa.Aid

theorem order_l0 {l : List W} (hn : l.length ≤ 100) (d : Nat) : ∀ (i k : Nat), i + d = l.length → d < k → ebbtidelaw14_SeqOrder.l0 k l (l.drop i) (i : Int) = some true := by
  induction d with
  | zero =>
    intro i k hi hk
    obtain ⟨k, rfl⟩ := succ_of hk
    simp only [ebbtidelaw14_SeqOrder.l0]
    rw [if_neg (by omega), List.drop_of_length_le (by omega)]
    rfl
  | succ d ih =>
    intro i k hi hk
    obtain ⟨k, rfl⟩ := succ_of hk
    have hlt : i < l.length := by omega
    simp only [ebbtidelaw14_SeqOrder.l0]
    rw [if_pos (by omega), drop_at hlt, pop_cons (by rw [List.length_drop]; unfold LM; omega)]
    simp only [Option.bind_some, if_true]
    rw [if_pos (by omega), rdW hlt, if_neg (by simp)]
    rw [w64 (a := (l.length : Int) - 1) (by omega) (by omega), w64 (by omega) (by omega), if_pos (by rw [List.length_drop]; omega), w64s (by omega)]
    exact ih (i + 1) k (by omega) (by omega)
theorem SeqOrder : ebbtidelaw14_SeqOrder.Pure := by
  intro l _ _
  obtain ⟨K, hK⟩ : ∃ K : Nat, K = 400 := ⟨_, rfl⟩
  refine ⟨K, ?_⟩
  unfold ebbtidelaw14_SeqOrder.f
  rw [alive_eq K (by omega)]
  simp only [Option.bind_some, if_true]
  by_cases h : (l.length : Int) > 100
  · rw [if_pos h]
  · rw [if_neg h, push_eq (by unfold LM; simp; omega) K (by simp; omega)]
    simp only [Option.bind_some, pushed, List.nil_append]
    by_cases hr : rightFrom 0 l = true
    · rw [if_pos hr]
      simp only [if_true]
      exact order_l0 (by omega) l.length 0 K (by omega) (by omega)
    · rw [if_neg hr, if_neg (by simp), if_pos (by simp), rright_eq (by unfold LM; omega) K (by omega)]
      simp [Bool.eq_false_iff.2 hr]
end Go.Proofs.Ytejpddjdpcpepaa.Pure
