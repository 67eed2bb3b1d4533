/- The plain law of SeqPushes: what is pushed, and popped, is alike in both. No condition of its own. -/
import Derived.Test.YtejpddjdpcpepaaSeqPlain
import Derived.Test.YtejpddjdpcpepaaXx8
import Derived.Test.YtejpddjdpcpepaaXx6
import Derived.Test.YtejpddjdpcpepaaXx7
import Derived.Test.YtejpddjdpcpepaaXx7
namespace Go.Proofs.Ytejpddjdpcpepaa.Pure
open Go.RowKit Go.Proofs.Ytejpddjdpcpepaa.X Go.Proofs.YtejpddjdpcpepaaW.PrintWords Go.Proofs.YtejpddjdpcpepaaW.PrintLast Go.Proofs.YtejpddjdpcpepaaW.PrintMore Go.Proofs.Ytejpddjdpcpepaa.Aid

theorem rpush_eq {l m : List W} (hn : l.length + m.length < LM) (k : Nat) (hk : l.length + m.length + 5 < k) : ebbtideref14_Push.f k l m = some (pushed l m) := by
  have hl : (l ++ m).length < LM := by rw [List.length_append]; exact hn
  have hn' := hn
  unfold LM at hn'
  unfold ebbtideref14_Push.f pushed
  simp only [Option.bind_some, List.nil_append]
  rw [if_pos (by simp; omega)]
  rw [if_pos (by omega), rright_eq hl k (by rw [List.length_append]; omega)]
  simp only [Option.bind_some]
  by_cases h : rightFrom 0 (l ++ m) = true
  · rw [if_pos h, if_pos h]
  · rw [if_neg h, if_neg h]
theorem rpop_eq (l : List W) (hn : l.length < LM) : ebbtideref14_Pop.f l = seq_Pop.f l := by
  cases l with
  | nil => rfl
  | cons x l =>
    simp only [List.length_cons] at hn
    rw [pop_cons hn]
    unfold LM at hn
    unfold ebbtideref14_Pop.f
    have h0 : rd_T29 (x :: l) 0 = x := rfl
    rw [if_neg (by simp only [List.length_cons]; omega), if_pos (by simp only [List.length_cons]; omega)]
    simp only [Option.bind_some]
    rw [if_pos (by simp only [List.length_cons]; omega), List.drop_succ_cons, List.drop_zero, h0]
    rw [if_pos (by simp; omega)]
    rfl
theorem rsame_l0 {l m : List W} (hn : l.length < LM) (he : l.length = m.length) (d : Nat) : ∀ (i k : Nat), i + d = l.length → d < k → ebbtideref14_Same.l0 k l m (i : Int) = some (eqs (l.drop i) (m.drop i)) := by
  have hn' := hn
  unfold LM at hn'
  induction d with
  | zero =>
    intro i k hi hk
    obtain ⟨k, rfl⟩ := succ_of hk
    simp only [ebbtideref14_Same.l0]
    rw [if_neg (by omega), List.drop_of_length_le (by omega)]
    rfl
  | succ d ih =>
    intro i k hi hk
    obtain ⟨k, rfl⟩ := succ_of hk
    have hlt : i < l.length := by omega
    have hlm : i < m.length := by omega
    simp only [ebbtideref14_Same.l0]
    rw [if_pos (by omega), if_pos (by omega), if_pos (by omega), rdW hlt, rdW hlm, drop_at hlt, drop_at hlm, w64s (by omega), ih (i + 1) k (by omega) (by omega)]
    rw [eqs_cons]
    unfold neE
    by_cases h : (!(l[i].f0 == m[i].f0) || (!(l[i].f1 == m[i].f1) || (!((l[i].f2.toList) == (m[i].f2.toList)) || (!(l[i].f3 == m[i].f3))))) = true
    · rw [if_pos h, if_pos h]
    · rw [if_neg h, if_neg h]
theorem rsame_eq {l m : List W} (hn : l.length < LM) (k : Nat) (hk : l.length < k) : ebbtideref14_Same.f k l m = some (same l m) := by
  unfold ebbtideref14_Same.f same
  by_cases h : l.length = m.length
  · have h0 := rsame_l0 hn h l.length 0 k (by omega) hk
    rw [show ((0 : Nat) : Int) = 0 from rfl] at h0
    rw [if_pos (by omega), if_pos h, h0]
    rfl
  · rw [if_neg (by omega), if_neg h]
theorem pop_some (l : List W) (hn : l.length < LM) : ∃ a b c d r o, seq_Pop.f l = some (a, b, c, d, r, o) ∧ r.length ≤ l.length := by
  cases l with
  | nil => exact ⟨_, _, _, _, _, _, pop_nil, Nat.le_refl _⟩
  | cons x l => exact ⟨_, _, _, _, _, _, pop_cons hn, by simp⟩
theorem pushed_le (l m : List W) : (pushed l m).1.length ≤ l.length + m.length := by
  unfold pushed
  split
  · rw [List.length_append]
    exact Nat.le_refl _
  · exact Nat.zero_le _
theorem j0_true (l m : List W) (k : Nat) (hk : 0 < k) : ebbtidelaw14_SeqPushes.j0 k l m true = some true := by
  obtain ⟨k, rfl⟩ := succ_of hk
  simp only [ebbtidelaw14_SeqPushes.j0]
  rfl
theorem j0_false (l m : List W) (hl : l.length ≤ 100) (hm : m.length ≤ 100) (k : Nat) (hk : 300 < k) : ebbtidelaw14_SeqPushes.j0 k l m false = some true := by
  obtain ⟨k, rfl⟩ := succ_of hk
  have hL : l.length + m.length < LM := by unfold LM; omega
  have hp := pushed_le l m
  obtain ⟨a, b, c, d, r, o, hpop, hr⟩ := pop_some l (by omega)
  simp only [ebbtidelaw14_SeqPushes.j0, Option.bind_some, List.nil_append]
  rw [if_neg (by simp), if_pos (by simp; omega), push_eq hL k (by omega)]
  simp only [Option.bind_some]
  rw [rpush_eq hL k (by omega)]
  simp only [Option.bind_some]
  rw [rpop_eq l (by omega), hpop]
  simp only [Option.bind_some]
  rw [rsame_eq (by omega) k (by omega), same_self]
  simp only [Option.bind_some, if_true]
  rw [if_pos (by simp), rsame_eq (by omega) k (by omega), same_self]
  simp only [Option.bind_some, if_true]
  rw [if_pos (by simp), right_eq (by omega) k (by omega)]
  simp only [Option.bind_some]
  rw [rright_eq (by omega) k (by omega)]
  simp only [Option.bind_some]
  rw [if_pos (by simp), same_eq (by omega) k (by omega)]
  simp only [Option.bind_some]
  rw [rsame_eq (by omega) k (by omega)]
  simp only [Option.bind_some]
  rw [if_pos (by simp), rsame_eq (by omega) k (by omega), same_self]
  rfl
theorem SeqPushes : ebbtidelaw14_SeqPushes.Pure := by
  intro l m _ _ _ _
  obtain ⟨K, hK⟩ : ∃ K : Nat, K = 400 := ⟨_, rfl⟩
  refine ⟨K, ?_⟩
  unfold ebbtidelaw14_SeqPushes.f
  rw [alive_eq K (by omega)]
  simp only [Option.bind_some, if_true]
  by_cases h : (l.length : Int) > 100
  · rw [if_pos h, j0_true l m K (by omega)]
  · rw [if_neg h]
    by_cases h2 : (m.length : Int) > 100
    · rw [decide_eq_true h2, j0_true l m K (by omega)]
    · rw [decide_eq_false h2, j0_false l m (by omega) (by omega) K (by omega)]
end Go.Proofs.Ytejpddjdpcpepaa.Pure
