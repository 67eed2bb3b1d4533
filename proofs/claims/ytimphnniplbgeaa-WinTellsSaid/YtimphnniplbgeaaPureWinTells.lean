/- The plain law of WinTells: where a window begins and ends, and whether it is closed, is alike in both. No condition of its own. -/
import Derived.Test.YtimphnniplbgeaaWinPlain
namespace Go.Proofs.Ytimphnniplbgeaa.Pure
open Go.RowKit Go.Proofs.Ytimphnniplbgeaa.X Go.Proofs.YtimphnniplbgeaaW.PrintWords Go.Proofs.YtimphnniplbgeaaW.PrintLast Go.Proofs.Ytimphnniplbgeaa.Aid

theorem start_some (w d : Int) : ∃ r, win_Start.f w d = some r := by
  by_cases h : TH w d
  · exact ⟨_, start_true h⟩
  · exact ⟨_, start_false h⟩
theorem end_some (w d : Int) : ∃ r, win_End.f w d = some r := by
  by_cases h : TH w d
  · exact ⟨_, end_true h⟩
  · exact ⟨_, end_false h⟩
theorem closed_some (w d l n : Int) : ∃ r, win_Closed.f w d l n = some r := by
  by_cases h : TH w d
  · exact ⟨_, closed_true h l n⟩
  · exact ⟨_, closed_false h l n⟩
theorem WinTells : ebbtidelaw13_WinTells.Pure := by
  intro w d x _ _ _
  obtain ⟨r1, h1⟩ := start_some w d
  obtain ⟨r2, h2⟩ := end_some w d
  obtain ⟨r3, h3⟩ := closed_some w d x.f0 x.f1
  simp [ebbtidelaw13_WinTells.f, alive_eq, rstart, rend, rclosed, h1, h2, h3]
end Go.Proofs.Ytimphnniplbgeaa.Pure
