/- The plain law of SeqRises: the least stamp is popped next, and the stable stamp rises up to the last one. No condition of its own. -/
import Derived.Test.YtejpddjdpcpepaaPureSeqStable
import Derived.Test.YtejpddjdpcpepaaXx12
namespace Go.Proofs.Ytejpddjdpcpepaa.Pure
open Go.RowKit Go.Proofs.Ytejpddjdpcpepaa.X Go.Proofs.YtejpddjdpcpepaaW.PrintWords Go.Proofs.YtejpddjdpcpepaaW.PrintLast Go.Proofs.YtejpddjdpcpepaaW.PrintMore Go.Proofs.Ytejpddjdpcpepaa.Aid

theorem right_all {r : List W} : ∀ (c : Int), rightFrom c r = true → ∀ y ∈ r, c < y.f0 ∧ y.f0 ≤ 1000000000000000 := by
  induction r with
  | nil => exact fun c _ y hy => absurd hy (by simp)
  | cons x r ih =>
    intro c h y hy
    rw [right_cons] at h
    by_cases h1 : x.f0 ≤ c
    · rw [if_pos h1] at h; exact absurd h (by simp)
    · rw [if_neg h1] at h
      by_cases h2 : x.f0 > 1000000000000000
      · rw [if_pos h2] at h; exact absurd h (by simp)
      · rw [if_neg h2] at h
        rcases List.mem_cons.mp hy with e | e
        · rw [e]; omega
        · have := ih x.f0 h y e; omega
theorem right_tail {x : W} {r : List W} (h : rightFrom 0 (x :: r) = true) : rightFrom 0 r = true ∧ ∀ y ∈ r, x.f0 < y.f0 := by
  rw [right_cons] at h
  by_cases h1 : x.f0 ≤ 0
  · rw [if_pos h1] at h; exact absurd h (by simp)
  · rw [if_neg h1] at h
    by_cases h2 : x.f0 > 1000000000000000
    · rw [if_pos h2] at h; exact absurd h (by simp)
    · rw [if_neg h2] at h
      refine ⟨?_, fun y hy => (right_all _ h y hy).1⟩
      cases r with
      | nil => rfl
      | cons y r =>
        rw [right_cons] at h ⊢
        by_cases h3 : y.f0 ≤ x.f0
        · rw [if_pos h3] at h; exact absurd h (by simp)
        · rw [if_neg h3] at h
          rw [if_neg (by omega)]
          exact h
theorem right_last {r : List W} : ∀ (c : Int) (hr : r ≠ []), rightFrom c r = true → ∀ y ∈ r, y.f0 ≤ (r.getLast hr).f0 := by
  induction r with
  | nil => exact fun c hr => absurd rfl hr
  | cons x r ih =>
    intro c hr h y hy
    rw [right_cons] at h
    by_cases h1 : x.f0 ≤ c
    · rw [if_pos h1] at h; exact absurd h (by simp)
    · rw [if_neg h1] at h
      by_cases h2 : x.f0 > 1000000000000000
      · rw [if_pos h2] at h; exact absurd h (by simp)
      · rw [if_neg h2] at h
        by_cases e : r = []
        · subst e
          rw [List.mem_singleton.mp hy]
          exact Int.le_refl _
        · rw [List.getLast_cons e]
          rcases List.mem_cons.mp hy with e2 | e2
          · rw [e2]
            have := (right_all _ h _ (List.getLast_mem e)).1
            omega
          · exact ih x.f0 e h y e2
/-- Queues in order, of stamps up to one. -/
def good (last : Int) (q : List W) : Prop := rightFrom 0 q = true ∧ ∀ x ∈ q, x.f0 ≤ last
def goods (last : Int) (ll : List (List W)) : Prop := small ll ∧ ∀ q ∈ ll, good last q
theorem fold_mn (l : List Int) : ∀ m : Int, l.foldl mn m ≤ m ∧ (∀ z ∈ l, l.foldl mn m ≤ z) ∧ (l.foldl mn m = m ∨ l.foldl mn m ∈ l) := by
  induction l with
  | nil => exact fun m => ⟨Int.le_refl _, fun z hz => absurd hz (by simp), .inl rfl⟩
  | cons x l ih =>
    intro m
    obtain ⟨h1, h2, h3⟩ := ih (mn m x)
    have hm : mn m x ≤ m ∧ mn m x ≤ x ∧ (mn m x = m ∨ mn m x = x) := by
      unfold mn
      split
      · exact ⟨by omega, Int.le_refl _, .inr rfl⟩
      · exact ⟨Int.le_refl _, by omega, .inl rfl⟩
    rw [List.foldl_cons]
    refine ⟨by omega, fun z hz => ?_, ?_⟩
    · rcases List.mem_cons.mp hz with e | e
      · rw [e]; omega
      · exact h2 z e
    · rcases h3 with e | e
      · rcases hm.2.2 with e2 | e2
        · exact .inl (by rw [e, e2])
        · exact .inr (by rw [e, e2]; exact List.mem_cons_self)
      · exact .inr (List.mem_cons_of_mem _ e)
theorem minl_le {l : List Int} {z : Int} (h : z ∈ l) : minl l ≤ z := by
  cases l with
  | nil => exact absurd h (by simp)
  | cons x l =>
    obtain ⟨h1, h2, _⟩ := fold_mn l x
    rcases List.mem_cons.mp h with e | e
    · rw [e]; exact h1
    · exact h2 z e
theorem minl_mem {l : List Int} (h : l ≠ []) : minl l ∈ l := by
  cases l with
  | nil => exact absurd rfl h
  | cons x l =>
    obtain ⟨_, _, h3⟩ := fold_mn l x
    rcases h3 with e | e
    · have : minl (x :: l) = x := e
      rw [this]
      exact List.mem_cons_self
    · exact List.mem_cons_of_mem _ e
theorem mem_firsts {ll : List (List W)} {z : Int} : z ∈ firsts ll ↔ ∃ x q, x :: q ∈ ll ∧ x.f0 = z := by
  unfold firsts
  rw [List.mem_filterMap]
  constructor
  · rintro ⟨q, hq, h⟩
    cases q with
    | nil => simp at h
    | cons x q =>
      simp at h
      exact ⟨x, q, hq, h⟩
  · rintro ⟨x, q, hq, h⟩
    exact ⟨x :: q, hq, by simp [h]⟩
/-- The stable stamp. -/
def ST (last : Int) (ll : List (List W)) : Int := if firsts ll = [] then last else wrap64 (minl (firsts ll) - 1)
theorem first_bound {last : Int} {ll : List (List W)} (hg : goods last ll) {z : Int} (h : z ∈ firsts ll) : 1 ≤ z ∧ z ≤ 1000000000000000 ∧ z ≤ last := by
  obtain ⟨x, q, hq, e⟩ := mem_firsts.mp h
  have h1 := right_all 0 (hg.2 _ hq).1 x List.mem_cons_self
  have h2 := (hg.2 _ hq).2 x List.mem_cons_self
  omega
theorem ST_some {last : Int} {ll : List (List W)} (hg : goods last ll) (h : firsts ll ≠ []) : ST last ll = minl (firsts ll) - 1 := by
  have := first_bound hg (minl_mem h)
  unfold ST
  rw [if_neg h, w64 (by omega) (by omega)]
theorem set_parts {ll : List (List W)} {j : Nat} (hj : j < ll.length) (q : List W) : ll.set j q = ll.take j ++ q :: ll.drop (j + 1) := by
  rw [List.set_eq_take_append_cons_drop, if_pos hj]
theorem set_flat {ll : List (List W)} {j : Nat} (hj : j < ll.length) {x : W} {q : List W} (e : ll[j] = x :: q) : (ll.set j q).flatten.length + 1 = ll.flatten.length := by
  have h1 : ll.flatten.length = (ll.take j).flatten.length + ((x :: q).length + (ll.drop (j + 1)).flatten.length) := by
    conv => lhs; rw [← List.take_append_drop j ll, drop_at hj, e]
    rw [List.flatten_append, List.flatten_cons, List.length_append, List.length_append]
  rw [set_parts hj, List.flatten_append, List.flatten_cons, List.length_append, List.length_append, h1, List.length_cons]
  omega
theorem set_goods {last : Int} {ll : List (List W)} (hg : goods last ll) {j : Nat} (hj : j < ll.length) {x : W} {q : List W} (e : ll[j] = x :: q) : goods last (ll.set j q) := by
  have hm : x :: q ∈ ll := by rw [← e]; exact List.getElem_mem hj
  have hx := hg.2 _ hm
  have hl := hg.1.2 _ hm
  rw [List.length_cons] at hl
  refine ⟨⟨by rw [List.length_set]; exact hg.1.1, fun r hr => ?_⟩, fun r hr => ?_⟩
  · rcases List.mem_or_eq_of_mem_set hr with h | h
    · exact hg.1.2 r h
    · rw [h]; omega
  · rcases List.mem_or_eq_of_mem_set hr with h | h
    · exact hg.2 r h
    · rw [h]
      exact ⟨(right_tail hx.1).1, fun y hy => hx.2 y (List.mem_cons_of_mem _ hy)⟩
theorem set_rises {last : Int} {ll : List (List W)} (hg : goods last ll) {j : Nat} (hj : j < ll.length) {x : W} {q : List W} (e : ll[j] = x :: q) (hx : x.f0 = minl (firsts ll)) : ST last ll ≤ ST last (ll.set j q) := by
  have hm : x :: q ∈ ll := by rw [← e]; exact List.getElem_mem hj
  have hf : x.f0 ∈ firsts ll := mem_firsts.mpr ⟨x, q, hm, rfl⟩
  have hne : firsts ll ≠ [] := fun h => by rw [h] at hf; exact absurd hf (by simp)
  have hb := first_bound hg hf
  rw [ST_some hg hne, ← hx]
  by_cases h : firsts (ll.set j q) = []
  · unfold ST
    rw [if_pos h]
    omega
  · rw [ST_some (set_goods hg hj e) h]
    obtain ⟨y, r, hr, hy⟩ := mem_firsts.mp (minl_mem h)
    have : x.f0 ≤ y.f0 := by
      rcases List.mem_or_eq_of_mem_set hr with h2 | h2
      · rw [hx]
        exact minl_le (mem_firsts.mpr ⟨y, r, h2, rfl⟩)
      · have := (right_tail (hg.2 _ hm).1).2 y (by rw [← h2]; exact List.mem_cons_self)
        omega
    omega
theorem empty_firsts {ll : List (List W)} (h : ll.flatten.length = 0) : firsts ll = [] := by
  have h0 : ll.flatten = [] := List.eq_nil_of_length_eq_zero h
  apply List.eq_nil_iff_forall_not_mem.mpr
  intro z hz
  obtain ⟨x, q, hq, _⟩ := mem_firsts.mp hz
  have : x ∈ ll.flatten := List.mem_flatten.mpr ⟨_, hq, List.mem_cons_self⟩
  rw [h0] at this
  exact absurd this (by simp)
theorem some_firsts {ll : List (List W)} (h : ll.flatten.length ≠ 0) : firsts ll ≠ [] := by
  intro hf
  apply h
  rw [List.length_eq_zero_iff, List.eq_nil_iff_forall_not_mem]
  intro x hx
  obtain ⟨q, hq, hxq⟩ := List.mem_flatten.mp hx
  cases q with
  | nil => exact absurd hxq (by simp)
  | cons y q =>
    have : y.f0 ∈ firsts ll := mem_firsts.mpr ⟨y, q, hq, rfl⟩
    rw [hf] at this
    exact absurd this (by simp)
/-- The place of the least first stamp among the queues ahead. -/
def bestAt (ll : List (List W)) (i : Nat) (b : Int) : Prop :=
  (b = -1 ∧ firsts (ll.take i) = []) ∨ ∃ j, ∃ h : j < ll.length, ∃ x q, b = (j : Int) ∧ ll[j] = x :: q ∧ firsts (ll.take i) ≠ [] ∧ x.f0 = minl (firsts (ll.take i))
theorem rises_l2 {last : Int} {ll : List (List W)} (hn : ll.length ≤ 20) (hf : firsts ll ≠ []) (was n : Int) (K0 : Nat)
    (H : ∀ (j : Nat) (hj : j < ll.length) (x : W) (q : List W), ll[j] = x :: q → x.f0 = minl (firsts ll) → ∀ k, K0 ≤ k → ebbtidelaw14_SeqRises.j3 k last ll was n (j : Int) (x.f0 != wrap64 (was + 1)) = some true)
    (d : Nat) : ∀ (i k : Nat) (b : Int), i + d = ll.length → d + K0 < k → bestAt ll i b → ebbtidelaw14_SeqRises.l2 k last ll was n b (i : Int) = some true := by
  induction d with
  | zero =>
    intro i k b hi hk hb
    obtain ⟨k, rfl⟩ := succ_of hk
    have hall : ll.take i = ll := List.take_of_length_le (by omega)
    unfold bestAt at hb
    rw [hall] at hb
    rcases hb with ⟨_, h⟩ | ⟨j, hj, x, q, e, h1, _, h2⟩
    · exact absurd h hf
    · subst e
      simp only [ebbtidelaw14_SeqRises.l2]
      rw [if_neg (by omega), if_neg (by omega), if_pos (by omega), if_pos (by omega), rdWW hj, h1, if_pos (by simp only [List.length_cons]; omega)]
      exact H j hj x q h1 h2 k (by omega)
  | succ d ih =>
    intro i k b hi hk hb
    obtain ⟨k, rfl⟩ := succ_of hk
    have hlt : i < ll.length := by omega
    have hft := firsts_take hlt
    simp only [ebbtidelaw14_SeqRises.l2]
    rw [if_pos (by omega), if_pos (by omega), rdWW hlt, w64s (by omega)]
    cases hq : ll[i] with
    | nil =>
      rw [hq, List.append_nil] at hft
      rw [if_neg (by simp)]
      exact ih (i + 1) k b (by omega) (by omega) (by unfold bestAt at hb ⊢; rw [hft]; exact hb)
    | cons y r =>
      rw [hq] at hft
      simp only at hft
      have h0 : rd_T29 (y :: r) 0 = y := rfl
      have hne : firsts (ll.take (i + 1)) ≠ [] := by rw [hft]; simp
      have hmin : minl (firsts (ll.take (i + 1))) = if firsts (ll.take i) = [] then y.f0 else mn (minl (firsts (ll.take i))) y.f0 := by rw [hft, minl_snoc]
      rw [if_pos (by simp only [List.length_cons]; omega)]
      rcases hb with ⟨e, h⟩ | ⟨j, hj, x, q, e, h1, h2, h3⟩
      · rw [e, if_pos (by omega)]
        rw [if_pos h] at hmin
        exact ih (i + 1) k (i : Int) (by omega) (by omega) (.inr ⟨i, hlt, y, r, rfl, hq, hne, hmin.symm⟩)
      · subst e
        have h0x : rd_T29 (x :: q) 0 = x := rfl
        rw [if_neg h2] at hmin
        rw [if_neg (by omega), if_pos (by simp only [List.length_cons]; omega), if_pos (by omega), if_pos (by omega), rdWW hj, h1, if_pos (by simp only [List.length_cons]; omega), h0, h0x]
        unfold mn at hmin
        by_cases c : y.f0 < x.f0
        · rw [if_pos c]
          rw [if_pos (by omega)] at hmin
          exact ih (i + 1) k (i : Int) (by omega) (by omega) (.inr ⟨i, hlt, y, r, rfl, hq, hne, hmin.symm⟩)
        · rw [if_neg c]
          rw [if_neg (by omega)] at hmin
          exact ih (i + 1) k (j : Int) (by omega) (by omega) (.inr ⟨j, hj, x, q, rfl, h1, hne, by rw [hmin]; exact h3⟩)
theorem rises_l1 {last : Int} (n : Nat) : ∀ (ll : List (List W)), goods last ll → ll.flatten.length = n → ∀ k, n * 40 + 200 < k → ebbtidelaw14_SeqRises.l1 k last ll (ST last ll) (n : Int) = some true := by
  induction n with
  | zero =>
    intro ll _ hl k hk
    obtain ⟨k, rfl⟩ := succ_of hk
    simp only [ebbtidelaw14_SeqRises.l1]
    rw [if_neg (by omega), ST, if_pos (empty_firsts hl), beq_self_eq_true]
  | succ n ih =>
    intro ll hg hl k hk
    obtain ⟨k, rfl⟩ := succ_of hk
    have hf := some_firsts (ll := ll) (by omega)
    have hn := hg.1.1
    have hfl := small_flat hg.1.2
    simp only [ebbtidelaw14_SeqRises.l1]
    rw [if_pos (by omega)]
    refine rises_l2 hn hf _ _ (n * 40 + 206) ?_ ll.length 0 k (-1) (by omega) (by omega) (.inl ⟨rfl, rfl⟩)
    intro j hj x q e hx k hk
    have hm : x :: q ∈ ll := by rw [← e]; exact List.getElem_mem hj
    have hb := first_bound hg (mem_firsts.mpr ⟨x, q, hm, rfl⟩)
    have hlen := hg.1.2 _ hm
    rw [List.length_cons] at hlen
    have hs := set_flat hj e
    have hg2 := set_goods hg hj e
    obtain ⟨k, rfl⟩ := succ_of (show n * 40 + 205 < k by omega)
    have hw : wrap64 (ST last ll + 1) = x.f0 := by
      rw [ST_some hg hf, ← hx, show x.f0 - 1 + 1 = x.f0 by omega, w64 (by omega) (by omega)]
    simp only [ebbtidelaw14_SeqRises.j3]
    rw [hw, if_neg (by simp), if_pos (by omega), if_pos (by omega), rdWW hj, e, pop_cons (by unfold LM; omega)]
    simp only [Option.bind_some, if_true]
    have hlq : wrap64 (((x :: q).length : Int) - 1) = (q.length : Int) := by
      rw [List.length_cons, w64 (by omega) (by omega)]
      omega
    rw [hlq, bne_self_eq_false]
    obtain ⟨k, rfl⟩ := succ_of (show n * 40 + 204 < k by omega)
    simp only [ebbtidelaw14_SeqRises.j4]
    rw [if_neg (by simp), if_pos (by omega), if_pos (by omega), Int.toNat_natCast]
    simp only [Option.bind_some]
    rw [stable_eq hg2.1 last k (by omega)]
    simp only [Option.bind_some]
    have hr := set_rises hg hj e hx
    have hi := ih (ll.set j q) hg2 (by omega) k (by omega)
    unfold ST at hi hr
    unfold ST
    rw [if_neg (by omega), show wrap64 (((n + 1 : Nat) : Int) - 1) = (n : Int) by rw [w64 (by omega) (by omega)]; omega]
    exact hi
theorem rises_l0 {last : Int} {ll : List (List W)} (hs : small ll) (d : Nat) : ∀ (i k : Nat), i + d = ll.length → d + 90000 < k → (∀ q ∈ ll.take i, good last q) → ebbtidelaw14_SeqRises.l0 k last ll (i : Int) = some true := by
  have hn := hs.1
  have hfl := small_flat hs.2
  induction d with
  | zero =>
    intro i k hi hk hg
    obtain ⟨k, rfl⟩ := succ_of hk
    rw [List.take_of_length_le (by omega)] at hg
    simp only [ebbtidelaw14_SeqRises.l0, Option.bind_some, List.nil_append]
    rw [if_neg (by omega), if_pos (by simp; omega), stable_eq hs last k (by omega)]
    simp only [Option.bind_some]
    rw [rpending_eq hs k (by omega)]
    simp only [Option.bind_some]
    exact rises_l1 ll.flatten.length ll ⟨hs, hg⟩ rfl k (by omega)
  | succ d ih =>
    intro i k hi hk hg
    obtain ⟨k, rfl⟩ := succ_of hk
    have hlt : i < ll.length := by omega
    have hq := hs.2 _ (List.getElem_mem hlt)
    have hstep : good last ll[i] → ebbtidelaw14_SeqRises.l0 k last ll ((i + 1 : Nat) : Int) = some true := fun h => ih (i + 1) k (by omega) (by omega) (fun q hq => by
      rw [take_at hlt] at hq
      rcases List.mem_append.mp hq with h2 | h2
      · exact hg q h2
      · rw [List.mem_singleton.mp h2]; exact h)
    simp only [ebbtidelaw14_SeqRises.l0]
    rw [if_pos (by omega), if_pos (by omega), rdWW hlt, rright_eq (by unfold LM; omega) k (by omega), w64s (by omega)]
    simp only [Option.bind_some]
    by_cases c : rightFrom 0 ll[i] = true
    · rw [if_pos c]
      by_cases c2 : (ll[i].length : Int) > 0
      · have hl1 : ll[i].length - 1 < ll[i].length := by omega
        have hi1 : ((ll[i].length : Int) - 1) = ((ll[i].length - 1 : Nat) : Int) := by omega
        have hne : ll[i] ≠ [] := fun h => by rw [h] at c2; simp at c2
        rw [if_pos c2, w64p (by omega), hi1, if_pos (by omega), if_pos (by omega), rdW hl1]
        by_cases c3 : (ll[i][ll[i].length - 1]).f0 > last
        · rw [if_pos c3]
        · rw [if_neg c3]
          refine hstep ⟨c, fun y hy => ?_⟩
          have := right_last 0 hne c y hy
          rw [List.getLast_eq_getElem] at this
          omega
      · rw [if_neg c2]
        have he : ll[i] = [] := List.eq_nil_of_length_eq_zero (by omega)
        exact hstep ⟨c, fun y hy => by rw [he] at hy; exact absurd hy (by simp)⟩
    · rw [if_neg c]
theorem SeqRises : ebbtidelaw14_SeqRises.Pure := by
  intro last ll _ _ _
  obtain ⟨K, hK⟩ : ∃ K : Nat, K = 100000 := ⟨_, rfl⟩
  refine ⟨K, ?_⟩
  unfold ebbtidelaw14_SeqRises.f
  rw [alive_eq K (by omega)]
  simp only [Option.bind_some, if_true]
  rcases great_eq ll K (by omega) with hg | ⟨hg, hs⟩
  · rw [hg]
    rfl
  · rw [hg]
    simp only [Option.bind_some]
    rw [if_neg (by simp)]
    exact rises_l0 hs ll.length 0 K (by omega) (by have := hs.1; omega) (fun q hq => by simp at hq)
end Go.Proofs.Ytejpddjdpcpepaa.Pure
