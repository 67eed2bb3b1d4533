/- The plain law of WinTimes: a time's window, and a time later, are alike in both. No condition of its own. -/
import Derived.Test.YtimphnniplbgeaaWinPlain
namespace Go.Proofs.Ytimphnniplbgeaa.Pure
open Go.RowKit Go.Proofs.Ytimphnniplbgeaa.X Go.Proofs.YtimphnniplbgeaaW.PrintWords Go.Proofs.YtimphnniplbgeaaW.PrintLast Go.Proofs.Ytimphnniplbgeaa.Aid

theorem rof (t d : Int) : ebbtideref13_Of.f 1 t d = win_Of.f t d := by
  rcases of_cases t d with ⟨h1, h2, h3, h4⟩ | ⟨h, he⟩ | ⟨h, h2, he⟩
  · rw [of_true h1 h2 h3 h4]
    have hd : Int.tdiv t d = t / d := Int.tdiv_eq_ediv_of_nonneg h3
    have h5 : 0 ≤ t / d := Int.ediv_nonneg h3 (by omega)
    have h6 : t / d ≤ t := Int.ediv_le_self d h3
    unfold ebbtideref13_Of.f
    rw [if_neg (by omega)]
    simp only [ebbtideref13_Of.j0]
    rw [if_neg (by simp; omega), if_neg (by omega), if_neg (by omega), if_neg (by omega), hd, w64 (by omega) (by omega)]
  · rw [he]
    unfold ebbtideref13_Of.f
    by_cases h1 : d < 1
    · rw [if_pos h1]
      simp [ebbtideref13_Of.j0]
    · rw [if_neg h1]
      simp only [ebbtideref13_Of.j0]
      rw [if_pos (by simp; omega)]
  · rw [he]
    unfold ebbtideref13_Of.f
    rw [if_neg (by omega)]
    simp only [ebbtideref13_Of.j0]
    rw [if_neg (by simp; omega)]
    by_cases h3 : t < 0
    · rw [if_pos h3]
    · rw [if_neg h3, if_pos (by omega)]
theorem of_some (t d : Int) : ∃ a b, win_Of.f t d = some (a, b) := by
  rcases of_cases t d with ⟨h1, h2, h3, h4⟩ | ⟨h, he⟩ | ⟨h, h2, he⟩
  · exact ⟨_, _, of_true h1 h2 h3 h4⟩
  · exact ⟨_, _, he⟩
  · exact ⟨_, _, he⟩
theorem tick_some (n b : Int) : ∃ r, win_Tick.f n b = some r := by
  unfold win_Tick.f
  repeat' split
  all_goals exact ⟨_, rfl⟩
theorem rtick (n b : Int) : ebbtideref13_Tick.f n b = win_Tick.f n b := rfl
theorem WinTimes : ebbtidelaw13_WinTimes.Pure := by
  intro t d b _ _ _
  obtain ⟨r1, r2, h1⟩ := of_some t d
  obtain ⟨r3, h2⟩ := tick_some t b
  refine ⟨1, ?_⟩
  simp [ebbtidelaw13_WinTimes.f, alive_eq, rof, rtick, h1, h2]
end Go.Proofs.Ytimphnniplbgeaa.Pure
