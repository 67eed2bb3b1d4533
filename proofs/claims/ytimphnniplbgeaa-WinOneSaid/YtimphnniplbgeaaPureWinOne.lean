/- The plain law of WinOne: an event's time is in its window, and in no other one. No condition of its own. -/
import Derived.Test.YtimphnniplbgeaaWinPlain
namespace Go.Proofs.Ytimphnniplbgeaa.Pure
open Go.RowKit Go.Proofs.Ytimphnniplbgeaa.X Go.Proofs.YtimphnniplbgeaaW.PrintWords Go.Proofs.YtimphnniplbgeaaW.PrintLast Go.Proofs.Ytimphnniplbgeaa.Aid

theorem div_bounds {t d : Int} (h1 : 1 ≤ d) : t / d * d ≤ t ∧ t < t / d * d + d := by
  have h := Int.mul_ediv_add_emod t d
  have h2 := Int.emod_nonneg t (show d ≠ 0 by omega)
  have h3 := Int.emod_lt_of_pos t (show 0 < d by omega)
  rw [Int.mul_comm] at h
  omega
theorem other_window {t d o : Int} (h1 : 1 ≤ d) (ho : o ≠ t / d) : t < o * d ∨ o * d + d ≤ t := by
  obtain ⟨a, b⟩ := div_bounds (t := t) h1
  rcases Int.lt_or_gt_of_ne ho with h | h
  · right
    have : (o + 1) * d ≤ t / d * d := Int.mul_le_mul_of_nonneg_right (by omega) (by omega)
    rw [Int.add_mul, Int.one_mul] at this
    omega
  · left
    have : (t / d + 1) * d ≤ o * d := Int.mul_le_mul_of_nonneg_right (by omega) (by omega)
    rw [Int.add_mul, Int.one_mul] at this
    omega
theorem one_last {t d o : Int} (h1 : 1 ≤ d) (h2 : d ≤ 1000) (k : Nat) (hk : 2 ≤ k) : ebbtidelaw13_WinOne.j0 k t d o (t / d) false = some true := by
  obtain ⟨k, rfl⟩ : ∃ m, k = m + 2 := ⟨k - 2, by omega⟩
  simp only [ebbtidelaw13_WinOne.j0]
  rw [if_neg (by simp)]
  by_cases a : o < 0
  · rw [if_pos a]
    simp [ebbtidelaw13_WinOne.j1]
  · rw [if_neg a]
    by_cases b : o > 1000000000000
    · rw [if_pos b]
      simp [ebbtidelaw13_WinOne.j1]
    · rw [if_neg b]
      simp only [ebbtidelaw13_WinOne.j1]
      by_cases c : o = t / d
      · simp [c]
      · have th : TH o d := ⟨h1, h2, by omega, by omega⟩
        rw [if_neg (by simpa using c), start_true th, end_true th]
        simp only [Option.bind_some]
        rcases other_window (t := t) h1 c with h | h
        · rw [if_pos (by omega)]
        · by_cases e : o * d > t
          · rw [if_pos e]
          · rw [if_neg e]
            simp
            omega
theorem WinOne : ebbtidelaw13_WinOne.Pure := by
  intro t d o _ _ _
  refine ⟨3, ?_⟩
  unfold ebbtidelaw13_WinOne.f
  rw [alive_eq]
  simp only [Option.bind_some, if_true]
  rcases of_cases t d with ⟨h1, h2, h3, h4⟩ | ⟨h, he⟩ | ⟨h, h2, he⟩
  · have h5 : 0 ≤ t / d := Int.ediv_nonneg h3 (by omega)
    have h6 : t / d ≤ t := Int.ediv_le_self d h3
    have th : TH (t / d) d := ⟨h1, h2, h5, by omega⟩
    obtain ⟨a, b⟩ := div_bounds (t := t) h1
    rw [of_true h1 h2 h3 h4]
    simp only [Option.bind_some, if_true]
    rw [start_true th, end_true th, w64 (a := t / d + 1) (by omega) (by omega)]
    simp only [Option.bind_some]
    rw [if_neg (by omega), if_neg (by omega)]
    by_cases e : t / d = 1000000000000
    · have nt : ¬ TH (t / d + 1) d := fun q => by have := q.2.2.2; omega
      rw [start_false nt]
      simp only [Option.bind_some]
      obtain ⟨m1, m2, m3⟩ := th_mul th
      have : decide (t / d < 1000000000000) = false := by simp; omega
      rw [this, one_last h1 h2 3 (by omega)]
      simp
    · have nt : TH (t / d + 1) d := ⟨h1, h2, by omega, by omega⟩
      rw [start_true nt]
      simp only [Option.bind_some]
      rw [if_pos (by rw [Int.add_mul, Int.one_mul]), one_last h1 h2 3 (by omega)]
  · rw [he]
    simp
  · rw [he]
    simp
end Go.Proofs.Ytimphnniplbgeaa.Pure
