/- The plain law of CellOf: what samples make is alike in both. No condition of its own. -/
import Derived.Test.YtjomifbbhjnnjaaCellPlain
import Derived.Test.YtjomifbbhjnnjaaXx8
namespace Go.Proofs.Ytjomifbbhjnnjaa.Pure
open Go.RowKit Go.Proofs.Ytjomifbbhjnnjaa.X Go.Proofs.YtjomifbbhjnnjaaW.PrintWords Go.Proofs.YtjomifbbhjnnjaaW.PrintLast Go.Proofs.YtjomifbbhjnnjaaW.PrintMore Go.Proofs.Ytjomifbbhjnnjaa.Aid

theorem rof_l0 {l : List Int} (hl : ∀ x ∈ l, inr x) (hn : l.length ≤ 9223372036854775807) (d : Nat) : ∀ (i k : Nat) (c : C), i + d = l.length → d + 2 < k → WC c →
    ebbtideref06_Of.l0 k l (i : Int) c.1 c.2.1 c.2.2.1 c.2.2.2.1 c.2.2.2.2 = some ((l.drop i).foldl cfold c) := by
  induction d with
  | zero =>
    intro i k c hi hk _
    obtain ⟨k, rfl⟩ := succ_of hk
    simp only [ebbtideref06_Of.l0]
    rw [if_neg (by omega), List.drop_of_length_le (by omega)]
    rfl
  | succ d ih =>
    intro i k c hi hk hc
    obtain ⟨k, rfl⟩ := succ_of hk
    have hlt : i < l.length := by omega
    have hx : inr l[i] := hl _ (List.getElem_mem hlt)
    simp only [ebbtideref06_Of.l0]
    rw [if_pos (by omega), if_pos (by omega), rd_at hlt, ref_fold hc hx k (by omega), w64s (by omega), drop_at hlt]
    exact ih (i + 1) k _ (by omega) (by omega) (cfold_wc hc hx)
theorem rof_eq {l : List Int} (hl : ∀ x ∈ l, inr x) (hn : l.length ≤ 9223372036854775807) (k : Nat) (hk : l.length + 2 < k) : ebbtideref06_Of.f k l = some (cof l) :=
  rof_l0 hl hn l.length 0 k zc (by omega) hk zc_wc
theorem law_l0 {l : List Int} (hl : ∀ x ∈ l, inr x) (hn : l.length ≤ 1000) (d : Nat) : ∀ (i k : Nat), i + d = l.length → d + 1010 < k →
    ebbtidelaw06_CellOf.l0 k l l (i : Int) (cof l).1 (cof l).2.1 (cof l).2.2.1 (cof l).2.2.2.1 (cof l).2.2.2.2 = some true := by
  induction d with
  | zero =>
    intro i k hi hk
    obtain ⟨k, rfl⟩ := succ_of hk
    simp only [ebbtidelaw06_CellOf.l0]
    rw [if_neg (by omega), rof_eq hl (by omega) k (by omega)]
    simp
  | succ d ih =>
    intro i k hi hk
    obtain ⟨k, rfl⟩ := succ_of hk
    simp only [ebbtidelaw06_CellOf.l0]
    rw [if_pos (by omega), if_pos (by omega), if_pos (by omega), if_pos trivial, w64s (by omega)]
    exact ih (i + 1) k (by omega) (by omega)
theorem CellOf : ebbtidelaw06_CellOf.Pure := by
  intro l hq _
  have hl : ∀ x ∈ l, inr x := fun x hx => inr_of (hq.2 x hx)
  obtain ⟨K, hK⟩ : ∃ K : Nat, K = 3000 := ⟨_, rfl⟩
  refine ⟨K, ?_⟩
  unfold ebbtidelaw06_CellOf.f
  rw [alive_eq K (by omega)]
  simp only [Option.bind_some, if_true, List.nil_append]
  by_cases h : (l.length : Int) > 1000
  · rw [if_pos h]
  · rw [if_neg h, if_pos (by simp; omega), of_eq hl (by omega) K (by omega)]
    exact law_l0 hl (by omega) l.length 0 K (by omega) (by omega)
end Go.Proofs.Ytjomifbbhjnnjaa.Pure
