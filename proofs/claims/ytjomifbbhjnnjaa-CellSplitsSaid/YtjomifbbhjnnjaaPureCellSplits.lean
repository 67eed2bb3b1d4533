/- The plain law of CellSplits: samples in two cells, merged, are what all make, but for a sum that ran over. No condition of its own. -/
import Derived.Test.YtjomifbbhjnnjaaCellPlain
import Derived.Test.YtjomifbbhjnnjaaXx10
namespace Go.Proofs.Ytjomifbbhjnnjaa.Pure
open Go.RowKit Go.Proofs.Ytjomifbbhjnnjaa.X Go.Proofs.YtjomifbbhjnnjaaW.PrintWords Go.Proofs.YtjomifbbhjnnjaaW.PrintLast Go.Proofs.YtjomifbbhjnnjaaW.PrintMore Go.Proofs.Ytjomifbbhjnnjaa.Aid

theorem mn_assoc (a b c : Int) : mn (mn a b) c = mn a (mn b c) := by
  unfold mn
  repeat' split
  all_goals omega
theorem mx_assoc (a b c : Int) : mx (mx a b) c = mx a (mx b c) := by
  unfold mx
  repeat' split
  all_goals omega
theorem foldl_mn (l : List Int) : ∀ a b : Int, l.foldl mn (mn a b) = mn a (l.foldl mn b) := by
  induction l with
  | nil => exact fun _ _ => rfl
  | cons x l ih => exact fun a b => by rw [List.foldl_cons, List.foldl_cons, mn_assoc, ih]
theorem foldl_mx (l : List Int) : ∀ a b : Int, l.foldl mx (mx a b) = mx a (l.foldl mx b) := by
  induction l with
  | nil => exact fun _ _ => rfl
  | cons x l ih => exact fun a b => by rw [List.foldl_cons, List.foldl_cons, mx_assoc, ih]
theorem cfold_pos {c : C} (h : 1 ≤ c.1) (v : Int) : cfold c v = (csum c.1 1, (sadd c.2.1 c.2.2.1 v false).1, (sadd c.2.1 c.2.2.1 v false).2, mn c.2.2.2.1 v, mx c.2.2.2.2 v) := by
  unfold cfold ctwo one
  simp only
  rw [if_neg (by omega), if_neg (by omega)]
theorem csum_pos {a b : Int} (h : a + b ≤ MX) : csum a b = a + b := by
  unfold csum
  rw [if_neg (by omega)]
theorem sadd_not {a b : Int} {oa ob : Bool} (h : (sadd a oa b ob).2 = false) : oa = false ∧ ob = false ∧ (sadd a oa b ob).1 = a + b := by
  unfold sadd at *
  cases oa
  · cases ob
    · simp only [Bool.false_eq_true, if_false] at *
      by_cases h1 : a + b > MX
      · rw [if_pos h1] at h
        simp at h
      · rw [if_neg h1] at h
        by_cases h2 : a + b < MI
        · rw [if_pos h2] at h
          simp at h
        · rw [if_neg h1, if_neg h2]
          exact ⟨trivial, trivial, rfl⟩
    · simp at h
  · simp at h
/-- What a fold of samples onto a cell that holds some makes. -/
theorem fold_all (l : List Int) : ∀ c : C, 1 ≤ c.1 → c.1 + l.length ≤ MX →
    (l.foldl cfold c).1 = c.1 + l.length ∧ (l.foldl cfold c).2.2.2.1 = l.foldl mn c.2.2.2.1 ∧ (l.foldl cfold c).2.2.2.2 = l.foldl mx c.2.2.2.2 ∧
      ((l.foldl cfold c).2.2.1 = false → c.2.2.1 = false ∧ (l.foldl cfold c).2.1 = c.2.1 + l.sum) := by
  induction l with
  | nil => exact fun c _ _ => ⟨by simp, rfl, rfl, fun h => ⟨h, by simp⟩⟩
  | cons x l ih =>
    intro c hc hl
    simp only [List.length_cons] at hl
    have hs : csum c.1 1 = c.1 + 1 := csum_pos (by omega)
    obtain ⟨i1, i2, i3, i4⟩ := ih (cfold c x) (by rw [cfold_pos hc]; simp only [hs]; omega) (by rw [cfold_pos hc]; simp only [hs]; omega)
    simp only [List.foldl_cons]
    refine ⟨?_, ?_, ?_, ?_⟩
    · rw [i1, cfold_pos hc]
      simp only [hs, List.length_cons]
      omega
    · rw [i2, cfold_pos hc]
    · rw [i3, cfold_pos hc]
    · intro h
      obtain ⟨j1, j2⟩ := i4 h
      rw [cfold_pos hc] at j1
      obtain ⟨s1, _, s3⟩ := sadd_not j1
      refine ⟨s1, ?_⟩
      rw [j2, cfold_pos hc]
      simp only [s3, List.sum_cons]
      omega
theorem cof_cons (v : Int) (l : List Int) : cof (v :: l) = l.foldl cfold (one v) := by
  unfold cof
  rw [List.foldl_cons]
  rfl
theorem cof_all (v : Int) (l : List Int) (h : 1 + (l.length : Int) ≤ MX) :
    (cof (v :: l)).1 = 1 + l.length ∧ (cof (v :: l)).2.2.2.1 = l.foldl mn v ∧ (cof (v :: l)).2.2.2.2 = l.foldl mx v ∧ ((cof (v :: l)).2.2.1 = false → (cof (v :: l)).2.1 = v + l.sum) := by
  rw [cof_cons]
  obtain ⟨h1, h2, h3, h4⟩ := fold_all l (one v) (by unfold one; omega) h
  exact ⟨h1, h2, h3, fun hq => (h4 hq).2⟩
theorem two_nil_left (c : C) (h : c.1 < 1 → c = zc) : ctwo zc c = c := by
  unfold ctwo
  by_cases h1 : c.1 < 1
  · rw [if_pos h1, h h1]
  · rw [if_neg h1, if_pos (by unfold zc; omega)]
theorem two_nil_right (c : C) : ctwo c zc = c := by
  unfold ctwo
  rw [if_pos (by unfold zc; omega)]
theorem cof_zc (l : List Int) (hl : l.length ≤ 1000) : (cof l).1 < 1 → cof l = zc := by
  cases l with
  | nil => exact fun _ => rfl
  | cons v l =>
    intro h
    simp only [List.length_cons] at hl
    have := (cof_all v l (by unfold MX; omega)).1
    omega
theorem splits (p q : List Int) (hn : p.length + q.length ≤ 1000) :
    (cof (p ++ q)).1 = (ctwo (cof p) (cof q)).1 ∧ (cof (p ++ q)).2.2.2.1 = (ctwo (cof p) (cof q)).2.2.2.1 ∧ (cof (p ++ q)).2.2.2.2 = (ctwo (cof p) (cof q)).2.2.2.2 ∧ (cof (p ++ q)).1 = (p.length : Int) + q.length ∧
      ((cof (p ++ q)).2.2.1 = false → (ctwo (cof p) (cof q)).2.2.1 = false → (cof (p ++ q)).2.1 = (ctwo (cof p) (cof q)).2.1) := by
  have hlen : ∀ l : List Int, l.length ≤ 1000 → (cof l).1 = l.length := by
    intro l hl
    cases l with
    | nil => rfl
    | cons v l =>
      simp only [List.length_cons] at hl ⊢
      have := (cof_all v l (by unfold MX; omega)).1
      omega
  have ha := hlen (p ++ q) (by rw [List.length_append]; exact hn)
  rw [List.length_append] at ha
  cases p with
  | nil =>
    have hz : cof ([] : List Int) = zc := rfl
    rw [hz, two_nil_left _ (cof_zc q (by simp at hn; omega))]
    simp only [List.nil_append, List.length_nil] at *
    exact ⟨by trivial, by trivial, by trivial, by omega, fun _ _ => by trivial⟩
  | cons a p =>
    cases q with
    | nil =>
      have hz : cof ([] : List Int) = zc := rfl
      rw [hz, two_nil_right]
      simp only [List.append_nil, List.length_nil] at *
      exact ⟨by trivial, by trivial, by trivial, by omega, fun _ _ => by trivial⟩
    | cons b q =>
      simp only [List.length_cons] at hn
      obtain ⟨x1, x2, x3, x4⟩ := cof_all a p (by unfold MX; omega)
      obtain ⟨y1, y2, y3, y4⟩ := cof_all b q (by unfold MX; omega)
      obtain ⟨z1, z2, z3, z4⟩ := cof_all a (p ++ b :: q) (by simp only [List.length_append, List.length_cons]; unfold MX; omega)
      have ht : ctwo (cof (a :: p)) (cof (b :: q)) = (csum (cof (a :: p)).1 (cof (b :: q)).1, (sadd (cof (a :: p)).2.1 (cof (a :: p)).2.2.1 (cof (b :: q)).2.1 (cof (b :: q)).2.2.1).1, (sadd (cof (a :: p)).2.1 (cof (a :: p)).2.2.1 (cof (b :: q)).2.1 (cof (b :: q)).2.2.1).2, mn (cof (a :: p)).2.2.2.1 (cof (b :: q)).2.2.2.1, mx (cof (a :: p)).2.2.2.2 (cof (b :: q)).2.2.2.2) := by
        unfold ctwo
        rw [if_neg (by omega), if_neg (by omega)]
      have hap : a :: p ++ b :: q = a :: (p ++ b :: q) := rfl
      rw [hap] at ha ⊢
      rw [ht]
      have hc : csum (cof (a :: p)).1 (cof (b :: q)).1 = (cof (a :: p)).1 + (cof (b :: q)).1 := csum_pos (by unfold MX; omega)
      refine ⟨?_, ?_, ?_, ?_, ?_⟩
      · rw [hc, z1, x1, y1, List.length_append, List.length_cons]
        omega
      · simp only [z2, x2, y2, List.foldl_append, List.foldl_cons]
        exact foldl_mn q _ _
      · simp only [z3, x3, y3, List.foldl_append, List.foldl_cons]
        exact foldl_mx q _ _
      · simp only [List.length_cons] at ha ⊢
        exact ha.trans (by omega)
      · intro h1 h2
        simp only at h2 ⊢
        obtain ⟨s1, s2, s3⟩ := sadd_not h2
        rw [z4 h1, s3, x4 s1, y4 s2]
        simp only [List.sum_append, List.sum_cons]
        omega
theorem CellSplits : ebbtidelaw06_CellSplits.Pure := by
  intro l a hq _ ha
  have hl : ∀ x ∈ l, inr x := fun x hx => inr_of (hq.2 x hx)
  have hA : 0 ≤ a ∧ a ≤ 65535 := by
    simp only [Lit.wf, Bool.and_eq_true, decide_eq_true_eq] at ha
    exact ha
  obtain ⟨K, hK⟩ : ∃ K : Nat, K = 3000 := ⟨_, rfl⟩
  refine ⟨K, ?_⟩
  unfold ebbtidelaw06_CellSplits.f
  rw [alive_eq K (by omega)]
  simp only [Option.bind_some, if_true]
  by_cases h : (l.length : Int) > 1000
  · rw [if_pos h]
  · rw [if_neg h, w64 (a := (l.length : Int) + 1) (by omega) (by omega), w64 (a := a) (by omega) (by omega), if_neg (by omega)]
    obtain ⟨k, hk, hkl⟩ : ∃ k : Nat, Int.tmod a ((l.length : Int) + 1) = (k : Int) ∧ k ≤ l.length := by
      have h0 := Int.emod_nonneg a (show (l.length : Int) + 1 ≠ 0 by omega)
      have h1 := Int.emod_lt_of_pos a (show (0 : Int) < (l.length : Int) + 1 by omega)
      rw [← Int.tmod_eq_emod_of_nonneg hA.1] at h0 h1
      exact ⟨(Int.tmod a ((l.length : Int) + 1)).toNat, by omega, by omega⟩
    rw [hk]
    have hT : ∀ x ∈ l.take k, inr x := fun x hx => hl x (List.mem_of_mem_take hx)
    have hD : ∀ x ∈ l.drop k, inr x := fun x hx => hl x (List.mem_of_mem_drop hx)
    have lT : (l.take k).length ≤ 1000 := by rw [List.length_take]; omega
    have lD : (l.drop k).length ≤ 1000 := by rw [List.length_drop]; omega
    rw [of_eq hl (by omega) K (by omega)]
    simp only [Option.bind_some]
    rw [if_pos (by omega), if_pos (by omega)]
    simp only [Int.toNat_natCast]
    rw [of_eq hT (by omega) K (by omega)]
    simp only [Option.bind_some]
    rw [of_eq hD (by omega) K (by omega)]
    simp only [Option.bind_some]
    rw [merge_eq (l := [_, _]) (by
      intro x hx
      simp only [List.mem_cons, List.not_mem_nil, or_false] at hx
      rcases hx with rfl | rfl
      · exact cof_wc hT
      · exact cof_wc hD) (by simp) K (by simp; omega)]
    simp only [Option.bind_some]
    have hm : cmerge (List.map ce [(⟨(cof (l.take k)).1, ⟨(cof (l.take k)).2.1, (cof (l.take k)).2.2.1⟩, (cof (l.take k)).2.2.2.1, (cof (l.take k)).2.2.2.2⟩ : S25), ⟨(cof (l.drop k)).1, ⟨(cof (l.drop k)).2.1, (cof (l.drop k)).2.2.1⟩, (cof (l.drop k)).2.2.2.1, (cof (l.drop k)).2.2.2.2⟩]) = ctwo (cof (l.take k)) (cof (l.drop k)) := by
      show ctwo (ctwo zc (cof (l.take k))) (cof (l.drop k)) = _
      rw [two_nil_left _ (cof_zc _ lT)]
    rw [hm]
    obtain ⟨e1, e2, e3, e4, e5⟩ := splits (l.take k) (l.drop k) (by rw [List.length_take, List.length_drop]; omega)
    rw [List.take_append_drop] at e1 e2 e3 e4 e5
    rw [if_pos e1, if_pos e2, if_pos e3, if_pos (by rw [e4, List.length_take, List.length_drop]; omega)]
    by_cases c : ((cof l).2.1 == (ctwo (cof (l.take k)) (cof (l.drop k))).2.1 && ((cof l).2.2.1 == (ctwo (cof (l.take k)) (cof (l.drop k))).2.2.1)) = true
    · rw [if_pos c]
    · rw [if_neg c]
      by_cases o1 : (cof l).2.2.1 = true
      · rw [if_pos o1]
      · rw [if_neg o1]
        by_cases o2 : (ctwo (cof (l.take k)) (cof (l.drop k))).2.2.1 = true
        · rw [o2]
        · exfalso
          apply c
          have o1' := Bool.eq_false_iff.2 o1
          have o2' := Bool.eq_false_iff.2 o2
          rw [e5 o1' o2', o1', o2']
          simp
end Go.Proofs.Ytjomifbbhjnnjaa.Pure
