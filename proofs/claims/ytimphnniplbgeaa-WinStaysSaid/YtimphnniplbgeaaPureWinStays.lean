/- The plain law of WinStays: what is closed stays so; a window is closed no later than the next one. No condition of its own. -/
import Derived.Test.YtimphnniplbgeaaWinPlain
namespace Go.Proofs.Ytimphnniplbgeaa.Pure
open Go.RowKit Go.Proofs.Ytimphnniplbgeaa.X Go.Proofs.YtimphnniplbgeaaW.PrintWords Go.Proofs.YtimphnniplbgeaaW.PrintLast Go.Proofs.Ytimphnniplbgeaa.Aid

theorem tick_ge {n b : Int} (h0 : -9223372036854775808 ≤ n) (h : n ≤ 4000000000000000) : ∃ r, win_Tick.f n b = some r ∧ n ≤ r := by
  unfold win_Tick.f
  by_cases a : b < 0
  · rw [if_pos a]
    exact ⟨_, rfl, Int.le_refl _⟩
  · rw [if_neg a]
    by_cases c : b ≥ 4000000000000000
    · rw [if_pos c]
      exact ⟨_, rfl, h⟩
    · rw [if_neg c, w64 (a := 4000000000000000 - b) (by omega) (by omega)]
      by_cases e : n > 4000000000000000 - b
      · rw [if_pos e]
        exact ⟨_, rfl, h⟩
      · rw [if_neg e, w64 (by omega) (by omega)]
        exact ⟨_, rfl, by omega⟩
theorem tick_any (n b : Int) : ∃ r, win_Tick.f n b = some r := by
  unfold win_Tick.f
  repeat' split
  all_goals exact ⟨_, rfl⟩
theorem WinStays : ebbtidelaw13_WinStays.Pure := by
  intro w d x hw _ hx
  obtain ⟨w1, w2⟩ := wf64 hw
  obtain ⟨x1, x2⟩ := wf64 hx.2.1
  unfold ebbtidelaw13_WinStays.f
  rw [alive_eq]
  simp only [Option.bind_some, if_true]
  by_cases th : TH w d
  · obtain ⟨m1, m2, m3⟩ := th_mul th
    rw [closed_true th]
    simp only [Option.bind_some]
    by_cases hc : 0 ≤ x.f0 ∧ x.f0 ≤ 1000 ∧ w * d + d + x.f0 ≤ x.f1
    · obtain ⟨c1, c2, c3⟩ := hc
      have last : (if w = 0 then some true else (win_Closed.f (wrap64 (w - 1)) d x.f0 x.f1).bind fun t154 => some t154) = some true := by
        by_cases z : w = 0
        · rw [if_pos z]
        · obtain ⟨d1, d2, d3, d4⟩ := th
          rw [if_neg z, w64 (a := w - 1) (by omega) (by omega)]
          have nt : TH (w - 1) d := ⟨d1, d2, by omega, by omega⟩
          rw [closed_true nt]
          have : (w - 1) * d + d = w * d := by rw [Int.sub_mul, Int.one_mul]; omega
          simp [c1, c2, this]
          omega
      rw [if_pos (by simp [c1, c2, c3])]
      by_cases top : x.f1 ≤ 4000000000000000
      · obtain ⟨r, hr, hle⟩ := tick_ge (b := x.f2) x1 top
        rw [hr]
        simp only [Option.bind_some]
        rw [if_pos top, closed_true th]
        simp only [Option.bind_some]
        rw [if_pos (by simp [c1, c2]; omega)]
        exact last
      · obtain ⟨r, hr⟩ := tick_any x.f1 x.f2
        rw [hr]
        simp only [Option.bind_some]
        rw [if_neg top]
        exact last
    · rw [if_neg (by simpa using hc)]
  · rw [closed_false th]
    simp
end Go.Proofs.Ytimphnniplbgeaa.Pure
