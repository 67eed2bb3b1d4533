/- The plain law of SeqStable: the stable stamp of queues, and what waits in them, is alike in both. No condition of its own. -/
import Derived.Test.YtejpddjdpcpepaaSeqPlain
import Derived.Test.YtejpddjdpcpepaaXx10
import Derived.Test.YtejpddjdpcpepaaXx3
import Derived.Test.YtejpddjdpcpepaaXx3
import Derived.Test.YtejpddjdpcpepaaXx4
namespace Go.Proofs.Ytejpddjdpcpepaa.Pure
open Go.RowKit Go.Proofs.Ytejpddjdpcpepaa.X Go.Proofs.YtejpddjdpcpepaaW.PrintWords Go.Proofs.YtejpddjdpcpepaaW.PrintLast Go.Proofs.YtejpddjdpcpepaaW.PrintMore Go.Proofs.Ytejpddjdpcpepaa.Aid

/-- No more than is looked at. -/
def small (ll : List (List W)) : Prop := ll.length ≤ 20 ∧ ∀ q ∈ ll, q.length ≤ 100
theorem small_flat : ∀ {ll : List (List W)}, (∀ q ∈ ll, q.length ≤ 100) → ll.flatten.length ≤ 100 * ll.length
  | [], _ => by simp
  | q :: ll, h => by
    have h1 := small_flat (ll := ll) (fun x hx => h x (List.mem_cons_of_mem _ hx))
    have h2 := h q List.mem_cons_self
    simp only [List.flatten_cons, List.length_append, List.length_cons]
    omega
theorem great_l0 {ll : List (List W)} (hn : ll.length ≤ 20) (d : Nat) : ∀ (i k : Nat), i + d = ll.length → d < k → ebbtideref14_Great.l0 k ll (i : Int) = some true ∨ (ebbtideref14_Great.l0 k ll (i : Int) = some false ∧ ∀ q ∈ ll.drop i, q.length ≤ 100) := by
  induction d with
  | zero =>
    intro i k hi hk
    obtain ⟨k, rfl⟩ := succ_of hk
    simp only [ebbtideref14_Great.l0]
    rw [if_neg (by omega), List.drop_of_length_le (by omega)]
    exact .inr ⟨rfl, fun q hq => by simp at hq⟩
  | succ d ih =>
    intro i k hi hk
    obtain ⟨k, rfl⟩ := succ_of hk
    have hlt : i < ll.length := by omega
    simp only [ebbtideref14_Great.l0]
    rw [if_pos (by omega), if_pos (by omega), rdWW hlt, w64s (by omega), drop_at hlt]
    by_cases h : (ll[i].length : Int) > 100
    · rw [if_pos h]
      exact .inl rfl
    · rw [if_neg h]
      rcases ih (i + 1) k (by omega) (by omega) with h1 | ⟨h1, h2⟩
      · exact .inl h1
      · refine .inr ⟨h1, fun q hq => ?_⟩
        rcases List.mem_cons.1 hq with rfl | hq
        · omega
        · exact h2 q hq
theorem great_eq (ll : List (List W)) (k : Nat) (hk : 30 < k) : ebbtideref14_Great.f k ll = some true ∨ (ebbtideref14_Great.f k ll = some false ∧ small ll) := by
  unfold ebbtideref14_Great.f
  by_cases h : (ll.length : Int) > 20
  · rw [if_pos h]
    exact .inl rfl
  · rw [if_neg h]
    rcases great_l0 (ll := ll) (by omega) ll.length 0 k (by omega) (by omega) with h1 | ⟨h1, h2⟩
    · exact .inl h1
    · exact .inr ⟨h1, by omega, h2⟩
theorem small_cat {ll : List (List W)} (h : small ll) : ll.flatten.length < LM ∧ ll.length < LM := by
  have := small_flat h.2
  have := h.1
  unfold LM
  omega
def waits (a : Int) (l : List W) : Bool := l.any fun x => x.f1 == a
theorem waits_eq {ll : List (List W)} (hs : small ll) (a : Int) (k : Nat) (hk : 50 < k) : seq_Waits.f k a ll = some (waits a ll.flatten) := by
  have := hs.1
  obtain ⟨h1, h2⟩ := small_cat hs
  unfold seq_Waits.f waits
  rw [cat_eq h1 h2 k (by omega)]
  rfl
theorem pending_eq {ll : List (List W)} (hs : small ll) (k : Nat) (hk : 50 < k) : seq_Pending.f k ll = some (ll.flatten.length : Int) := by
  have := hs.1
  obtain ⟨h1, h2⟩ := small_cat hs
  unfold seq_Pending.f
  rw [cat_eq h1 h2 k (by omega)]
  rfl
theorem rpending_l0 {ll : List (List W)} (hs : small ll) (d : Nat) : ∀ (i k : Nat), i + d = ll.length → d < k → ebbtideref14_Pending.l0 k ll ((ll.take i).flatten.length : Int) (i : Int) = some (ll.flatten.length : Int) := by
  have hn := hs.1
  have hf := small_flat hs.2
  induction d with
  | zero =>
    intro i k hi hk
    obtain ⟨k, rfl⟩ := succ_of hk
    simp only [ebbtideref14_Pending.l0]
    rw [if_neg (by omega), List.take_of_length_le (by omega)]
  | succ d ih =>
    intro i k hi hk
    obtain ⟨k, rfl⟩ := succ_of hk
    have hlt : i < ll.length := by omega
    have h1 := flat_take hlt
    have h2 := flat_le ll (i + 1)
    have h3 := ih (i + 1) k (by omega) (by omega)
    rw [h1, List.length_append] at h2 h3
    simp only [ebbtideref14_Pending.l0]
    rw [if_pos (by omega), if_pos (by omega), rdWW hlt, w64s (by omega), w64 (by omega) (by omega)]
    rw [← h3]
    congr 1
theorem rpending_eq {ll : List (List W)} (hs : small ll) (k : Nat) (hk : 50 < k) : ebbtideref14_Pending.f k ll = some (ll.flatten.length : Int) := by
  have := rpending_l0 hs ll.length 0 k (by omega) (by have := hs.1; omega)
  exact this
theorem rwaits_l1 {ll : List (List W)} (hs : small ll) (a : Int) (i : Nat) (hlt : i < ll.length) (r : Bool) (k1 : Nat) (hr : ∀ k, k1 ≤ k → ebbtideref14_Waits.l0 k a ll ((i + 1 : Nat) : Int) = some r) (d : Nat) :
    ∀ (j k : Nat), j + d = ll[i].length → d + k1 < k → ebbtideref14_Waits.l1 k a ll (i : Int) (j : Int) = some (waits a (ll[i].drop j) || r) := by
  have hn := hs.1
  have hq := hs.2 _ (List.getElem_mem hlt)
  induction d with
  | zero =>
    intro j k hj hk
    obtain ⟨k, rfl⟩ := succ_of hk
    simp only [ebbtideref14_Waits.l1]
    rw [if_pos (by omega), if_pos (by omega), rdWW hlt, if_neg (by omega), w64s (by omega), hr k (by omega), List.drop_of_length_le (by omega)]
    rfl
  | succ d ih =>
    intro j k hj hk
    obtain ⟨k, rfl⟩ := succ_of hk
    have hj2 : j < ll[i].length := by omega
    simp only [ebbtideref14_Waits.l1]
    rw [if_pos (by omega), if_pos (by omega), rdWW hlt, if_pos (by omega), if_pos (by omega), rdW hj2, w64s (by omega), drop_at hj2]
    have hw : waits a (ll[i][j] :: ll[i].drop (j + 1)) = (ll[i][j].f1 == a || waits a (ll[i].drop (j + 1))) := rfl
    rw [hw]
    by_cases h : ll[i][j].f1 = a
    · rw [if_pos h, beq_iff_eq.2 h]
      rfl
    · rw [if_neg h, ih (j + 1) k (by omega) (by omega), beq_eq_false_iff_ne.2 h]
      rfl
theorem rwaits_l0 {ll : List (List W)} (hs : small ll) (a : Int) (d : Nat) : ∀ (i k : Nat), i + d = ll.length → d * 110 < k → ebbtideref14_Waits.l0 k a ll (i : Int) = some (waits a (ll.drop i).flatten) := by
  have hn := hs.1
  induction d with
  | zero =>
    intro i k hi hk
    obtain ⟨k, rfl⟩ := succ_of hk
    simp only [ebbtideref14_Waits.l0]
    rw [if_neg (by omega), List.drop_of_length_le (by omega)]
    rfl
  | succ d ih =>
    intro i k hi hk
    obtain ⟨k, rfl⟩ := succ_of hk
    have hlt : i < ll.length := by omega
    have hq := hs.2 _ (List.getElem_mem hlt)
    simp only [ebbtideref14_Waits.l0]
    rw [if_pos (by omega)]
    have := rwaits_l1 hs a i hlt _ (d * 110 + 1) (fun k hk => ih (i + 1) k (by omega) (by omega)) ll[i].length 0 k (by omega) (by omega)
    rw [show ((0 : Nat) : Int) = 0 from rfl] at this
    rw [this, drop_at hlt, List.flatten_cons, List.drop_zero]
    unfold waits
    rw [List.any_append]
theorem rwaits_eq {ll : List (List W)} (hs : small ll) (a : Int) (k : Nat) (hk : 2300 < k) : ebbtideref14_Waits.f k a ll = some (waits a ll.flatten) :=
  rwaits_l0 hs a ll.length 0 k (by omega) (by have := hs.1; omega)
/-- The least of some numbers. -/
def minl : List Int → Int
  | [] => 0
  | x :: l => l.foldl mn x
theorem minl_snoc (l : List Int) (v : Int) : minl (l ++ [v]) = if l = [] then v else mn (minl l) v := by
  cases l with
  | nil => rfl
  | cons x l =>
    rw [if_neg (by simp)]
    simp [minl, List.foldl_append]
theorem min_l0 {l : List Int} (hn : l.length < LM) (d : Nat) : ∀ (i k : Nat) (m : Int), i + d = l.length → d < k → slices_Min_int64_int64.l0 k l m (i : Int) = some ((l.drop i).foldl mn m) := by
  unfold LM at hn
  induction d with
  | zero =>
    intro i k m hi hk
    obtain ⟨k, rfl⟩ := succ_of hk
    simp only [slices_Min_int64_int64.l0]
    rw [if_neg (by omega), List.drop_of_length_le (by omega)]
    rfl
  | succ d ih =>
    intro i k m hi hk
    obtain ⟨k, rfl⟩ := succ_of hk
    have hlt : i < l.length := by omega
    simp only [slices_Min_int64_int64.l0]
    rw [if_pos (by omega), if_pos (by omega), rd_at hlt, w64s (by omega), drop_at hlt, ih (i + 1) k _ (by omega) (by omega)]
    rfl
theorem min_eq {l : List Int} (h : l ≠ []) (hn : l.length < LM) (k : Nat) (hk : l.length < k) : slices_Min_int64_int64.f k l = some (minl l) := by
  cases l with
  | nil => exact absurd rfl h
  | cons x l =>
    unfold slices_Min_int64_int64.f
    rw [if_neg (by simp only [List.length_cons]; omega), if_pos (by simp only [List.length_cons]; omega)]
    have := min_l0 hn l.length 1 k (rd (x :: l) 0) (by simp only [List.length_cons]; omega) (by simp at hk; omega)
    exact this
/-- The first stamps. -/
def firsts (ll : List (List W)) : List Int := ll.filterMap fun q => q.head?.map (·.f0)
theorem firsts_take {ll : List (List W)} {i : Nat} (h : i < ll.length) : firsts (ll.take (i + 1)) = firsts (ll.take i) ++ (match ll[i] with | [] => [] | x :: _ => [x.f0]) := by
  unfold firsts
  rw [take_at h, List.filterMap_append]
  congr 1
  cases hq : ll[i] with
  | nil => simp
  | cons x q => simp
theorem firsts_le (ll : List (List W)) : (firsts ll).length ≤ ll.length := List.length_filterMap_le _ _
theorem stable_l0 {ll : List (List W)} (hn : ll.length ≤ 20) (last : Int) (d : Nat) : ∀ (i k : Nat), i + d = ll.length → d + 30 < k → seq_Stable.l0 k last (firsts (ll.take i)) ll (ll.length : Int) (i : Int) = some (if firsts ll = [] then last else wrap64 (minl (firsts ll) - 1)) := by
  induction d with
  | zero =>
    intro i k hi hk
    obtain ⟨k, rfl⟩ := succ_of hk
    have hl := firsts_le ll
    simp only [seq_Stable.l0]
    rw [if_neg (by omega), List.take_of_length_le (by omega)]
    by_cases h : firsts ll = []
    · rw [if_pos (by rw [h]; rfl), if_pos h]
    · have hp : (firsts ll).length ≠ 0 := fun e => h (List.eq_nil_of_length_eq_zero e)
      rw [if_neg (by omega), if_neg h, min_eq h (by unfold LM; omega) k (by omega)]
      rfl
  | succ d ih =>
    intro i k hi hk
    obtain ⟨k, rfl⟩ := succ_of hk
    have hlt : i < ll.length := by omega
    have h1 := firsts_take hlt
    have h2 := firsts_le (ll.take i)
    rw [List.length_take] at h2
    have h3 := ih (i + 1) k (by omega) (by omega)
    rw [h1] at h3
    simp only [seq_Stable.l0]
    rw [if_pos (by omega), if_pos (by omega), if_pos (by omega), rdWW hlt, w64s (by omega)]
    cases hq : ll[i] with
    | nil =>
      rw [hq, List.append_nil] at h3
      rw [if_neg (by simp)]
      exact h3
    | cons x q =>
      rw [hq] at h3
      rw [if_pos (by simp only [List.length_cons]; omega), if_pos (by simp only [List.length_cons]; omega), if_pos (by omega)]
      exact h3
theorem stable_eq {ll : List (List W)} (hs : small ll) (last : Int) (k : Nat) (hk : 60 < k) : seq_Stable.f k last ll = some (if firsts ll = [] then last else wrap64 (minl (firsts ll) - 1)) :=
  stable_l0 hs.1 last ll.length 0 k (by omega) (by have := hs.1; omega)
theorem rstable_l0 {ll : List (List W)} (hn : ll.length ≤ 20) (last : Int) (d : Nat) : ∀ (i k : Nat), i + d = ll.length → d < k →
    ebbtideref14_Stable.l0 k last ll (minl (firsts (ll.take i))) (decide (firsts (ll.take i) ≠ [])) (i : Int) = some (if firsts ll = [] then last else wrap64 (minl (firsts ll) - 1)) := by
  induction d with
  | zero =>
    intro i k hi hk
    obtain ⟨k, rfl⟩ := succ_of hk
    simp only [ebbtideref14_Stable.l0]
    rw [if_neg (by omega), List.take_of_length_le (by omega)]
    by_cases h : firsts ll = []
    · rw [if_neg (by simp [h]), if_pos h]
    · rw [if_pos (by simp [h]), if_neg h]
  | succ d ih =>
    intro i k hi hk
    obtain ⟨k, rfl⟩ := succ_of hk
    have hlt : i < ll.length := by omega
    have h1 := firsts_take hlt
    have h3 := ih (i + 1) k (by omega) (by omega)
    rw [h1] at h3
    simp only [ebbtideref14_Stable.l0]
    rw [if_pos (by omega), if_pos (by omega), rdWW hlt, w64s (by omega)]
    cases hq : ll[i] with
    | nil =>
      rw [hq, List.append_nil] at h3
      rw [if_neg (by simp)]
      exact h3
    | cons x q =>
      rw [hq] at h3
      simp only [minl_snoc] at h3
      have h0 : rd_T29 (x :: q) 0 = x := rfl
      rw [if_pos (by simp only [List.length_cons]; omega), if_pos (show (0 : Int) < ((x :: q).length : Int) by simp only [List.length_cons]; omega), h0]
      by_cases e : firsts (ll.take i) = []
      · rw [if_pos e] at h3
        rw [if_neg (by simp [e])]
        simpa using h3
      · rw [if_neg e] at h3
        rw [if_pos (by simp [e])]
        unfold mn at h3
        by_cases e2 : x.f0 < minl (firsts (ll.take i))
        · rw [if_pos e2] at h3
          rw [if_pos e2]
          simpa using h3
        · rw [if_neg e2] at h3
          rw [if_neg e2]
          simpa [e] using h3
theorem rstable_eq {ll : List (List W)} (hs : small ll) (last : Int) (k : Nat) (hk : 60 < k) : ebbtideref14_Stable.f k last ll = some (if firsts ll = [] then last else wrap64 (minl (firsts ll) - 1)) :=
  rstable_l0 hs.1 last ll.length 0 k (by omega) (by have := hs.1; omega)
theorem begins_l0 {ll : List (List W)} (hn : ll.length ≤ 20) (d : Nat) : ∀ (i k : Nat), i + d = ll.length → d < k → ∃ b, ebbtideref14_Begins.l0 k ll (i : Int) = some b := by
  induction d with
  | zero =>
    intro i k hi hk
    obtain ⟨k, rfl⟩ := succ_of hk
    simp only [ebbtideref14_Begins.l0]
    rw [if_neg (by omega)]
    exact ⟨_, rfl⟩
  | succ d ih =>
    intro i k hi hk
    obtain ⟨k, rfl⟩ := succ_of hk
    have hlt : i < ll.length := by omega
    obtain ⟨b, hb⟩ := ih (i + 1) k (by omega) (by omega)
    simp only [ebbtideref14_Begins.l0]
    rw [if_pos (by omega), if_pos (by omega), rdWW hlt, w64s (by omega), hb]
    by_cases h : (ll[i].length : Int) > 0
    · rw [if_pos h, if_pos (by omega)]
      split
      · exact ⟨_, rfl⟩
      · exact ⟨_, rfl⟩
    · rw [if_neg h]
      exact ⟨_, rfl⟩
theorem SeqStable : ebbtidelaw14_SeqStable.Pure := by
  intro last ll a _ _ _ _
  obtain ⟨K, hK⟩ : ∃ K : Nat, K = 3000 := ⟨_, rfl⟩
  refine ⟨K, ?_⟩
  unfold ebbtidelaw14_SeqStable.f
  rw [alive_eq K (by omega)]
  simp only [Option.bind_some, if_true]
  rcases great_eq ll K (by omega) with hg | ⟨hg, hs⟩
  · rw [hg]
    rfl
  · rw [hg]
    simp only [Option.bind_some]
    rw [if_neg (by simp), waits_eq hs a K (by omega)]
    simp only [Option.bind_some]
    rw [rwaits_eq hs a K (by omega)]
    simp only [Option.bind_some]
    rw [if_neg (by simp), pending_eq hs K (by omega)]
    simp only [Option.bind_some]
    rw [rpending_eq hs K (by omega)]
    simp only [Option.bind_some, bne_self_eq_false]
    obtain ⟨k, hk⟩ : ∃ k, K = k + 1 := ⟨K - 1, by omega⟩
    subst hk
    simp only [ebbtidelaw14_SeqStable.j0]
    rw [if_neg (by simp)]
    obtain ⟨b, hb⟩ := begins_l0 (ll := ll) hs.1 ll.length 0 k (by omega) (by have := hs.1; omega)
    have hb' : ebbtideref14_Begins.f k ll = some b := hb
    rw [hb']
    simp only [Option.bind_some]
    cases b with
    | false => rw [if_neg (by simp)]
    | true =>
      rw [if_pos rfl, stable_eq hs last k (by omega)]
      simp only [Option.bind_some]
      rw [rstable_eq hs last k (by omega)]
      simp
end Go.Proofs.Ytejpddjdpcpepaa.Pure
