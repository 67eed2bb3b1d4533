/- The plain law of SatTotals: any sums, added one behind the other. -/
import Derived.Test.YtplfiioggbafhaaDoorSatPlain
namespace Go.Proofs.YtplfiioggbafhaaDoor.Pure
open Go.RowKit Go.Proofs.YtplfiioggbafhaaDoor.X Go.Proofs.YtplfiioggbafhaaDoorW.PrintWords Go.Proofs.YtplfiioggbafhaaDoorW.PrintLast Go.Proofs.YtplfiioggbafhaaDoorW.PrintMore Go.Proofs.YtplfiioggbafhaaDoor.Aid

theorem totals_l0 {l : List Sm} (hl : l.length ≤ 1000) (hq : ∀ x ∈ l, I64 x.f0) (d : Nat) : ∀ (i k : Nat), i + d = l.length → d + 2000 < k → ebbtidelaw01_SatTotals.l0 k l l (i : Int) (totS l (0, false)).1 (totS l (0, false)).2 = some true := by
  induction d with
  | zero =>
    intro i k hi hk
    obtain ⟨k, rfl⟩ := succ_of hk
    rw [ebbtidelaw01_SatTotals.l0, if_neg (by omega), (tot_eq (by omega) hq (by omega)).2, Option.bind_some]
    simp
  | succ d ih =>
    intro i k hi hk
    obtain ⟨k, rfl⟩ := succ_of hk
    rw [ebbtidelaw01_SatTotals.l0, if_pos (by omega), if_pos (by omega), if_pos (by omega), if_neg (by simp), w64s (by omega)]
    exact ih (i + 1) k (by omega) (by omega)
theorem SatTotals : ebbtidelaw01_SatTotals.Pure := by
  intro l hl _
  obtain ⟨K, hK⟩ : ∃ K : Nat, 10000 ≤ K := ⟨_, Nat.le_refl _⟩
  refine ⟨K, ?_⟩
  unfold ebbtidelaw01_SatTotals.f
  rw [alive_eq K (by omega), Option.bind_some, if_pos rfl]
  by_cases h : (l.length : Int) > 1000
  · rw [if_pos h]
  · have hq : ∀ x ∈ l, I64 x.f0 := fun x hx => qs (hl.2 x hx)
    rw [if_neg h, Option.bind_some, if_pos (by simp only [List.length_nil]; omega), Option.bind_some, List.nil_append, (tot_eq (by omega) hq (by omega)).1, Option.bind_some]
    exact totals_l0 (by omega) hq l.length 0 K (by omega) (by omega)
end Go.Proofs.YtplfiioggbafhaaDoor.Pure
