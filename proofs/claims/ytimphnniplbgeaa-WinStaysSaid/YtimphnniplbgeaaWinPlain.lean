/- What windows are, as the program's functions and the references' ones compute it: both alike. No condition of its own. -/
import Derived.Test.YtimphnniplbgeaaAid
import Derived.Test.YtimphnniplbgeaaXx
namespace Go.Proofs.Ytimphnniplbgeaa.Pure
open Go.RowKit Go.Proofs.Ytimphnniplbgeaa.X Go.Proofs.YtimphnniplbgeaaW.PrintWords Go.Proofs.YtimphnniplbgeaaW.PrintLast Go.Proofs.Ytimphnniplbgeaa.Aid

/-- There is such a window. -/
def TH (w d : Int) : Prop := 1 ≤ d ∧ d ≤ 1000 ∧ 0 ≤ w ∧ w ≤ 1000000000000
theorem th_mul {w d : Int} (h : TH w d) : 0 ≤ w * d ∧ w * d ≤ 1000000000000000 ∧ (w + 1) * d = w * d + d := by
  obtain ⟨h1, h2, h3, h4⟩ := h
  refine ⟨Int.mul_nonneg h3 (by omega), ?_, by rw [Int.add_mul, Int.one_mul]⟩
  calc w * d ≤ 1000000000000 * d := Int.mul_le_mul_of_nonneg_right h4 (by omega)
    _ ≤ 1000000000000000 := by omega
theorem among_eq (a b c : Int) : win_among.f a b c = some (decide (b ≤ a ∧ a ≤ c)) := by
  unfold win_among.f
  by_cases h : a ≥ b
  · rw [if_pos h]
    simp [show b ≤ a from h]
  · rw [if_neg h]
    simp
    omega
theorem there_true {w d : Int} (h : TH w d) : win_there.f w d = some true := by
  obtain ⟨h1, h2, h3, h4⟩ := h
  simp [win_there.f, among_eq, h1, h2, h3, h4]
theorem there_false {w d : Int} (h : ¬ TH w d) : win_there.f w d = some false := by
  unfold TH at h
  simp only [win_there.f, among_eq, Option.bind_some]
  by_cases h1 : 1 ≤ d ∧ d ≤ 1000
  · have h2 : ¬ (0 ≤ w ∧ w ≤ 1000000000000) := by omega
    simp [h1, h2]
  · simp [h1]
theorem rthere_true {w d : Int} (h : TH w d) : ebbtideref13_there.f w d = some true := by
  obtain ⟨h1, h2, h3, h4⟩ := h
  unfold ebbtideref13_there.f
  rw [if_pos h1, if_pos h2, if_pos h3]
  simp [h4]
theorem rthere_false {w d : Int} (h : ¬ TH w d) : ebbtideref13_there.f w d = some false := by
  unfold TH at h
  unfold ebbtideref13_there.f
  by_cases h1 : d ≥ 1
  · rw [if_pos h1]
    by_cases h2 : d ≤ 1000
    · rw [if_pos h2]
      by_cases h3 : w ≥ 0
      · rw [if_pos h3]
        simp
        omega
      · rw [if_neg h3]
    · rw [if_neg h2]
  · rw [if_neg h1]
theorem start_true {w d : Int} (h : TH w d) : win_Start.f w d = some (w * d) := by
  obtain ⟨h1, h2, _⟩ := th_mul h
  simp only [win_Start.f, there_true h, Option.bind_some, if_true]
  rw [w64 (by omega) (by omega)]
theorem start_false {w d : Int} (h : ¬ TH w d) : win_Start.f w d = some 0 := by
  simp [win_Start.f, there_false h]
theorem end_true {w d : Int} (h : TH w d) : win_End.f w d = some (w * d + d) := by
  obtain ⟨h1, h2, h3⟩ := th_mul h
  have h4 := h
  obtain ⟨a1, a2, a3, a4⟩ := h4
  simp only [win_End.f, there_true h, Option.bind_some, if_true]
  rw [w64 (a := w + 1) (by omega) (by omega), h3, w64 (by omega) (by omega)]
theorem end_false {w d : Int} (h : ¬ TH w d) : win_End.f w d = some 0 := by
  simp [win_End.f, there_false h]
theorem closed_true {w d : Int} (h : TH w d) (l n : Int) : win_Closed.f w d l n = some (decide (0 ≤ l ∧ l ≤ 1000 ∧ w * d + d + l ≤ n)) := by
  obtain ⟨h1, h2, h3⟩ := th_mul h
  have h4 := h
  obtain ⟨a1, a2, a3, a4⟩ := h4
  simp only [win_Closed.f, there_true h, among_eq, end_true h, Option.bind_some, if_true]
  by_cases hl : 0 ≤ l ∧ l ≤ 1000
  · obtain ⟨l1, l2⟩ := hl
    rw [w64 (by omega) (by omega)]
    simp [l1, l2]
  · have : ¬ (0 ≤ l ∧ l ≤ 1000 ∧ w * d + d + l ≤ n) := by omega
    simp [hl, this]
theorem closed_false {w d : Int} (h : ¬ TH w d) (l n : Int) : win_Closed.f w d l n = some false := by
  simp [win_Closed.f, there_false h]
theorem rstart (w d : Int) : ebbtideref13_Start.f w d = win_Start.f w d := by
  by_cases h : TH w d
  · obtain ⟨h1, h2, _⟩ := th_mul h
    rw [start_true h]
    simp only [ebbtideref13_Start.f, rthere_true h, Option.bind_some, if_true]
    rw [w64 (by omega) (by omega)]
  · rw [start_false h]
    simp [ebbtideref13_Start.f, rthere_false h]
theorem rend (w d : Int) : ebbtideref13_End.f w d = win_End.f w d := by
  by_cases h : TH w d
  · obtain ⟨h1, h2, _⟩ := th_mul h
    have h4 := h
    obtain ⟨a1, a2, a3, a4⟩ := h4
    rw [end_true h]
    simp only [ebbtideref13_End.f, rthere_true h, Option.bind_some, if_true]
    rw [w64 (a := w * d) (by omega) (by omega), w64 (by omega) (by omega)]
  · rw [end_false h]
    simp [ebbtideref13_End.f, rthere_false h]
theorem rclosed (w d l n : Int) : ebbtideref13_Closed.f w d l n = win_Closed.f w d l n := by
  by_cases h : TH w d
  · obtain ⟨h1, h2, _⟩ := th_mul h
    have h4 := h
    obtain ⟨a1, a2, a3, a4⟩ := h4
    rw [closed_true h]
    simp only [ebbtideref13_Closed.f, rthere_true h, Option.bind_some, if_true]
    rw [w64 (a := w * d) (by omega) (by omega), w64 (a := w * d + d) (by omega) (by omega)]
    by_cases l1 : 0 ≤ l
    · by_cases l2 : l ≤ 1000
      · rw [w64 (a := w * d + d + l) (by omega) (by omega)]
        simp [l1, l2]
      · simp [l1, l2]
    · simp [l1]
  · rw [closed_false h]
    simp [ebbtideref13_Closed.f, rthere_false h]
theorem alive_eq : ebbtidelaw13_alive.f = some true := by decide +kernel
/-- What an event's window is, where it is one. -/
theorem of_true {t d : Int} (h1 : 1 ≤ d) (h2 : d ≤ 1000) (h3 : 0 ≤ t) (h4 : t ≤ 1000000000000) : win_Of.f t d = some (t / d, 0) := by
  have hd : Int.tdiv t d = t / d := Int.tdiv_eq_ediv_of_nonneg h3
  have h5 : 0 ≤ t / d := Int.ediv_nonneg h3 (by omega)
  have h6 : t / d ≤ t := Int.ediv_le_self d h3
  simp only [win_Of.f, among_eq, Option.bind_some]
  rw [if_pos (by simp; omega), if_pos (by simp; omega), if_neg (by omega), hd, w64 (by omega) (by omega)]
theorem of_cases (t d : Int) : (1 ≤ d ∧ d ≤ 1000 ∧ 0 ≤ t ∧ t ≤ 1000000000000) ∨ (¬ (1 ≤ d ∧ d ≤ 1000) ∧ win_Of.f t d = some (0, 1)) ∨ ((1 ≤ d ∧ d ≤ 1000) ∧ ¬ (0 ≤ t ∧ t ≤ 1000000000000) ∧ win_Of.f t d = some (0, 3)) := by
  by_cases h : 1 ≤ d ∧ d ≤ 1000
  · by_cases h2 : 0 ≤ t ∧ t ≤ 1000000000000
    · exact .inl ⟨h.1, h.2, h2.1, h2.2⟩
    · exact .inr (.inr ⟨h, h2, by simp [win_Of.f, among_eq, h, h2]⟩)
  · exact .inr (.inl ⟨h, by simp [win_Of.f, among_eq, h]⟩)
end Go.Proofs.Ytimphnniplbgeaa.Pure
