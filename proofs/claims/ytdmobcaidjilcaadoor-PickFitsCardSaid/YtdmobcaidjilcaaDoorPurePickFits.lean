/- The plain law of PickFits: whether tags fit matches. -/
import Derived.Test.YtdmobcaidjilcaaDoorPickFit
import Derived.Test.YtdmobcaidjilcaaDoorXx13
import Derived.Test.YtdmobcaidjilcaaDoorXx13
import Derived.Test.YtdmobcaidjilcaaDoorXx12
namespace Go.Proofs.YtdmobcaidjilcaaDoor.Pure
open Go.RowKit Go.Proofs.YtdmobcaidjilcaaDoor.X Go.Proofs.YtdmobcaidjilcaaDoorW.PrintWords Go.Proofs.YtdmobcaidjilcaaDoorW.PrintLast Go.Proofs.YtdmobcaidjilcaaDoorW.PrintMore Go.Proofs.YtdmobcaidjilcaaDoor.Aid Go.Proofs.YtdmobcaidjilcaaDoor.Bytes

theorem rfit_eq {l : List Tg} (x : Mt) (hl : l.length ≤ 100000) {k : Nat} (hk : l.length < k) : ebbtideref05_one.f k l x.f0 x.f1 x.f2 = some (fitS l x) := by
  unfold ebbtideref05_one.f fitS
  rw [(find_eq x.f1 hl hk).2, Option.bind_some]
  by_cases h1 : x.f0 = 1
  · rw [if_pos h1, if_pos h1]
    cases (findS l x.f1).2 <;> rfl
  · rw [if_neg h1, if_neg h1]
    by_cases h2 : x.f0 = 2
    · rw [if_pos h2, if_pos h2]
      cases (findS l x.f1).2 <;> rfl
    · rw [if_neg h2, if_neg h2]
      by_cases h3 : x.f0 = 3
      · rw [if_pos h3, if_pos h3]
        cases (findS l x.f1).2
        · rfl
        · rw [if_pos rfl, Bool.true_and]
          unfold beginB
          by_cases h : x.f2.size ≤ (findS l x.f1).1.size
          · rw [if_pos (by omega), if_pos (by omega), if_pos (by omega), Int.toNat_natCast, decide_eq_true h, Bool.true_and]
          · rw [if_neg (by omega), decide_eq_false h, Bool.false_and]
      · rw [if_neg h3, if_neg h3]
        split <;> rfl
theorem rfits_l0 {t : List Tg} {l : List Mt} (ht : t.length ≤ 1000) (hl : l.length ≤ 1000) (d : Nat) : ∀ (i k : Nat), i + d = l.length → d + 1010 < k → ebbtideref05_Fits.l0 k t l (i : Int) = some ((l.drop i).all (fitS t)) := by
  induction d with
  | zero =>
    intro i k hi hk
    obtain ⟨k, rfl⟩ := succ_of hk
    simp only [ebbtideref05_Fits.l0]
    rw [if_neg (by omega), List.drop_of_length_le (by omega), List.all_nil]
  | succ d ih =>
    intro i k hi hk
    obtain ⟨k, rfl⟩ := succ_of hk
    have hlt : i < l.length := by omega
    simp only [ebbtideref05_Fits.l0]
    rw [if_pos (by omega), if_pos (by omega), rdM hlt, rfit_eq _ (by omega) (by omega), Option.bind_some, w64s (by omega), ih (i + 1) k (by omega) (by omega), drop_at hlt, List.all_cons]
    by_cases h : fitS t l[i] = true
    · rw [if_pos h, h, Bool.true_and]
    · rw [if_neg h, Bool.eq_false_iff.mpr h, Bool.false_and]
theorem rfits_eq {t : List Tg} {l : List Mt} (ht : t.length ≤ 1000) (hl : l.length ≤ 1000) {k : Nat} (hk : 2100 ≤ k) : ebbtideref05_Fits.f k t l = some (l.all (fitS t)) := by
  have h := rfits_l0 ht hl l.length 0 k (by omega) (by omega)
  rw [List.drop_zero] at h
  exact h
theorem PickFits : ebbtidelaw05_PickFits.Pure := by
  intro t l _ _ _ _
  obtain ⟨K, hK⟩ : ∃ K : Nat, 3000 ≤ K := ⟨_, Nat.le_refl _⟩
  refine ⟨K + 1, ?_⟩
  unfold ebbtidelaw05_PickFits.f
  rw [alive_eq (by omega), Option.bind_some, if_pos rfl]
  rcases tgreat_eq t (k := K + 1) (by omega) with h | ⟨h, ht⟩
  · rw [h, Option.bind_some, if_pos rfl, ebbtidelaw05_PickFits.j0, if_pos rfl]
  · rw [h, Option.bind_some, if_neg (by decide)]
    rcases great_eq l (k := K + 1) (by omega) with h2 | ⟨h2, hl, _⟩
    · rw [h2, Option.bind_some, ebbtidelaw05_PickFits.j0, if_pos rfl]
    · rw [h2, Option.bind_some, ebbtidelaw05_PickFits.j0, if_neg (by decide), Option.bind_some, if_pos (by rw [List.length_nil]; omega), Option.bind_some, List.nil_append, fits_eq l (by omega) (by omega), Option.bind_some, rfits_eq (by omega) (by omega) (by omega), Option.bind_some, if_pos (by simp), same_self (by omega) (by omega)]
      rfl
end Go.Proofs.YtdmobcaidjilcaaDoor.Pure
