/- The plain law of CellMerges: what cells, merged, make is alike in both. No condition of its own. -/
import Derived.Test.YtjomifbbhjnnjaaCellPlain
import Derived.Test.YtjomifbbhjnnjaaXx9
namespace Go.Proofs.Ytjomifbbhjnnjaa.Pure
open Go.RowKit Go.Proofs.Ytjomifbbhjnnjaa.X Go.Proofs.YtjomifbbhjnnjaaW.PrintWords Go.Proofs.YtjomifbbhjnnjaaW.PrintLast Go.Proofs.YtjomifbbhjnnjaaW.PrintMore Go.Proofs.Ytjomifbbhjnnjaa.Aid

theorem ref_two {a b : C} (ha : WC a) (hb : WC b) (k : Nat) (hk : 1 < k) :
    ebbtideref06_Two.f k a.1 a.2.1 a.2.2.1 a.2.2.2.1 a.2.2.2.2 b.1 b.2.1 b.2.2.1 b.2.2.2.1 b.2.2.2.2 = some (ctwo a b) := by
  obtain ⟨a1, a2, a3, a4, a5⟩ := a
  obtain ⟨b1, b2, b3, b4, b5⟩ := b
  obtain ⟨wa1, wa2, _, _⟩ := ha
  obtain ⟨wb1, wb2, _, _⟩ := hb
  obtain ⟨k, rfl⟩ := succ_of hk
  have hs := ref_add wa2 wb2 a3 b3 k (by omega)
  simp only at wa1 wa2 wb1 wb2 hs ⊢
  unfold ebbtideref06_Two.f ctwo
  simp only
  by_cases h1 : b1 < 1
  · rw [if_pos h1, if_pos h1]
  · rw [if_neg h1, if_neg h1]
    by_cases h2 : a1 < 1
    · rw [if_pos h2, if_pos h2]
    · rw [if_neg h2, if_neg h2]
      have hj : ∀ n : Int, ebbtideref06_Two.j0 (k + 1) n a2 a3 a4 a5 b1 b2 b3 b4 b5 = some (n, (sadd a2 a3 b2 b3).1, (sadd a2 a3 b2 b3).2, mn a4 b4, mx a5 b5) := by
        intro n
        simp only [ebbtideref06_Two.j0, hs, Option.bind_some]
        unfold mn mx
        by_cases e1 : b4 < a4
        · rw [if_pos e1, if_pos e1]
          by_cases e2 : b5 > a5
          · rw [if_pos e2, if_pos (show a5 < b5 from e2)]
          · rw [if_neg e2, if_neg (show ¬ a5 < b5 from e2)]
        · rw [if_neg e1, if_neg e1]
          by_cases e2 : b5 > a5
          · rw [if_pos e2, if_pos (show a5 < b5 from e2)]
          · rw [if_neg e2, if_neg (show ¬ a5 < b5 from e2)]
      rw [hj, hj]
      unfold csum
      unfold inr MX MI at *
      rw [w64 (a := 9223372036854775807 - b1) (by omega) (by omega)]
      by_cases h3 : a1 + b1 > 9223372036854775807
      · rw [if_pos (by omega), if_pos h3]
      · rw [if_neg (by omega), if_neg h3, w64 (by omega) (by omega)]
theorem rmerge_l0 {l : List S25} (hl : ∀ x ∈ l, WC (ce x)) (hn : l.length ≤ 9223372036854775807) (d : Nat) : ∀ (i k : Nat) (c : C), i + d = l.length → d + 2 < k → WC c →
    ebbtideref06_Merge.l0 k l (i : Int) c.1 c.2.1 c.2.2.1 c.2.2.2.1 c.2.2.2.2 = some (((l.drop i).map ce).foldl ctwo c) := by
  induction d with
  | zero =>
    intro i k c hi hk _
    obtain ⟨k, rfl⟩ := succ_of hk
    simp only [ebbtideref06_Merge.l0]
    rw [if_neg (by omega), List.drop_of_length_le (by omega)]
    rfl
  | succ d ih =>
    intro i k c hi hk hc
    obtain ⟨k, rfl⟩ := succ_of hk
    have hlt : i < l.length := by omega
    have hx : WC (ce l[i]) := hl _ (List.getElem_mem hlt)
    have h2 := ref_two hc hx k (by omega)
    simp only [ce] at h2
    simp only [ebbtideref06_Merge.l0]
    rw [if_pos (by omega), if_pos (by omega), rdT_at hlt, h2, w64s (by omega), drop_at hlt]
    exact ih (i + 1) k _ (by omega) (by omega) (ctwo_wc hc hx)
theorem rmerge_eq {l : List S25} (hl : ∀ x ∈ l, WC (ce x)) (hn : l.length ≤ 9223372036854775807) (k : Nat) (hk : l.length + 2 < k) : ebbtideref06_Merge.f k l = some (cmerge (l.map ce)) :=
  rmerge_l0 hl hn l.length 0 k zc (by omega) hk zc_wc
theorem mlaw_l0 {l : List S25} (hl : ∀ x ∈ l, WC (ce x)) (hn : l.length ≤ 1000) (c : C) (hc : c = cmerge (l.map ce)) (d : Nat) : ∀ (i k : Nat), i + d = l.length → d + 1010 < k →
    ebbtidelaw06_CellMerges.l0 k l l (i : Int) c.1 c.2.1 c.2.2.1 c.2.2.2.1 c.2.2.2.2 = some true := by
  induction d with
  | zero =>
    intro i k hi hk
    obtain ⟨k, rfl⟩ := succ_of hk
    simp only [ebbtidelaw06_CellMerges.l0]
    rw [if_neg (by omega), rmerge_eq hl (by omega) k (by omega), ← hc]
    simp
  | succ d ih =>
    intro i k hi hk
    obtain ⟨k, rfl⟩ := succ_of hk
    simp only [ebbtidelaw06_CellMerges.l0]
    rw [if_pos (by omega), if_pos (by omega), if_pos (by omega), if_neg (by simp), w64s (by omega)]
    exact ih (i + 1) k (by omega) (by omega)
theorem CellMerges : ebbtidelaw06_CellMerges.Pure := by
  intro l hq _
  have hl : ∀ x ∈ l, WC (ce x) := fun x hx => by
    obtain ⟨q0, ⟨q1, _⟩, q2, q3⟩ := hq.2 x hx
    exact ⟨inr_of q0, inr_of q1, inr_of q2, inr_of q3⟩
  obtain ⟨K, hK⟩ : ∃ K : Nat, K = 3000 := ⟨_, rfl⟩
  refine ⟨K, ?_⟩
  unfold ebbtidelaw06_CellMerges.f
  rw [alive_eq K (by omega)]
  simp only [Option.bind_some, if_true, List.nil_append]
  by_cases h : (l.length : Int) > 1000
  · rw [if_pos h]
  · rw [if_neg h, if_pos (by simp; omega), merge_eq hl (by omega) K (by omega)]
    exact mlaw_l0 hl (by omega) _ rfl l.length 0 K (by omega) (by omega)
end Go.Proofs.Ytjomifbbhjnnjaa.Pure
