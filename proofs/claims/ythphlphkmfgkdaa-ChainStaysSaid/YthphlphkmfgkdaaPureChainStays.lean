/- The plain law of ChainStays: what is left of versions in order begins with the last one of the floor at most. No condition of its own. -/
import Derived.Test.YthphlphkmfgkdaaChainPlain
import Derived.Test.YthphlphkmfgkdaaXx18
namespace Go.Proofs.Ythphlphkmfgkdaa.Pure
open Go.RowKit Go.Proofs.Ythphlphkmfgkdaa.X Go.Proofs.YthphlphkmfgkdaaW.PrintWords Go.Proofs.YthphlphkmfgkdaaW.PrintLast Go.Proofs.YthphlphkmfgkdaaW.PrintMore Go.Proofs.Ythphlphkmfgkdaa.Aid

theorem right_app {r : List W} : ∀ (a : List W) (c : Int), 0 ≤ c → rightFrom c (a ++ r) = true → ∃ c', 0 ≤ c' ∧ rightFrom c' r = true := by
  intro a
  induction a with
  | nil => exact fun c h0 h => ⟨c, h0, h⟩
  | cons x a ih =>
    intro c h0 h
    rw [List.cons_append, right_cons] at h
    by_cases h1 : x.f0 ≤ c
    · rw [if_pos h1] at h; exact absurd h (by simp)
    · rw [if_neg h1] at h
      by_cases h2 : x.f0 > 1000000000000000
      · rw [if_pos h2] at h; exact absurd h (by simp)
      · rw [if_neg h2] at h
        exact ih x.f0 (by omega) h
theorem right_low {r : List W} {c : Int} (h0 : 0 ≤ c) (h : rightFrom c r = true) : rightFrom 0 r = true := by
  cases r with
  | nil => rfl
  | cons x r =>
    rw [right_cons] at h ⊢
    by_cases h1 : x.f0 ≤ c
    · rw [if_pos h1] at h; exact absurd h (by simp)
    · rw [if_neg h1] at h
      rw [if_neg (by omega)]
      exact h
/-- Versions in order, behind one, are of greater stamps. -/
theorem right_gt {r : List W} : ∀ (c : Int), rightFrom c r = true → ∀ y ∈ r, c < y.f0 := by
  induction r with
  | nil => exact fun c _ y hy => absurd hy (by simp)
  | cons x r ih =>
    intro c h y hy
    rw [right_cons] at h
    by_cases h1 : x.f0 ≤ c
    · rw [if_pos h1] at h; exact absurd h (by simp)
    · rw [if_neg h1] at h
      by_cases h2 : x.f0 > 1000000000000000
      · rw [if_pos h2] at h; exact absurd h (by simp)
      · rw [if_neg h2] at h
        rcases List.mem_cons.mp hy with e | e
        · rw [e]; omega
        · have := ih x.f0 h y e; omega
theorem parts (f : Int) (l : List W) : (∀ x ∈ l, x.f0 > f) ∨ ∃ a x b, l = a ++ x :: b ∧ x.f0 ≤ f ∧ ∀ y ∈ b, y.f0 > f := by
  induction l with
  | nil => exact Or.inl (fun x h => absurd h (by simp))
  | cons y l ih =>
    rcases ih with h | ⟨a, x, b, e, h1, h2⟩
    · by_cases hy : y.f0 ≤ f
      · exact Or.inr ⟨[], y, l, rfl, hy, h⟩
      · refine Or.inl (fun z hz => ?_)
        rcases List.mem_cons.mp hz with e | e
        · rw [e]; omega
        · exact h z e
    · exact Or.inr ⟨y :: a, x, b, by rw [e, List.cons_append], h1, h2⟩
theorem small {a b : List W} {x : W} {f : Int} (hx : x.f0 ≤ f) : ∀ c : Int, rightFrom c (a ++ x :: b) = true → ∀ y ∈ a, y.f0 ≤ f := by
  induction a with
  | nil => exact fun c _ y hy => absurd hy (by simp)
  | cons z a ih =>
    intro c h y hy
    rw [List.cons_append, right_cons] at h
    by_cases h1 : z.f0 ≤ c
    · rw [if_pos h1] at h; exact absurd h (by simp)
    · rw [if_neg h1] at h
      by_cases h2 : z.f0 > 1000000000000000
      · rw [if_pos h2] at h; exact absurd h (by simp)
      · rw [if_neg h2] at h
        rcases List.mem_cons.mp hy with e | e
        · have := right_gt z.f0 h x (by simp)
          rw [e]; omega
        · exact ih z.f0 h y e
theorem prn_small {f n : Int} {r : List W} : ∀ (a : List W) (i : Nat), (∀ y ∈ a, y.f0 ≤ f) → n ≥ (i + a.length : Nat) → prn f n i (a ++ r) = prn f n (i + a.length) r := by
  intro a
  induction a with
  | nil => intro i _ _; rfl
  | cons x a ih =>
    intro i h hn
    have hx := h x List.mem_cons_self
    rw [List.length_cons] at hn
    rw [List.cons_append, prn_cons, if_neg (by omega), if_neg (by omega), ih (i + 1) (fun y hy => h y (List.mem_cons_of_mem _ hy)) (by omega), List.length_cons]
    congr 1
    omega
theorem prn_big {f n : Int} : ∀ (b : List W) (i : Nat), (∀ y ∈ b, y.f0 > f) → prn f n i b = b := by
  intro b
  induction b with
  | nil => intro i _; rfl
  | cons x b ih =>
    intro i h
    have hx := h x List.mem_cons_self
    rw [prn_cons, ih (i + 1) (fun y hy => h y (List.mem_cons_of_mem _ hy)), if_pos hx]
    split <;> rfl
theorem pruned_big {f : Int} {l : List W} (h : ∀ x ∈ l, x.f0 > f) : pruned f l = l := prn_big l 0 h
theorem pruned_one {f : Int} {a b : List W} {x : W} (ha : ∀ y ∈ a, y.f0 ≤ f) (hx : x.f0 ≤ f) (hb : ∀ y ∈ b, y.f0 > f) : pruned f (a ++ x :: b) = x :: b := by
  unfold pruned
  have h1 : nw f 0 (-1) (a ++ x :: b) = (a.length : Int) := by
    rw [nw_app, nw_cons, nw_big f b hb, if_pos hx, Nat.zero_add]
  rw [h1, prn_small a 0 ha (by omega), prn_cons, if_pos (by omega), prn_big b _ hb]
theorem atf_drop {s : Int} {a b : List W} {x : W} (hx : x.f0 ≤ s) : atf s zc (a ++ x :: b) = atf s zc (x :: b) := by
  rw [atf_app, atf_cons, atf_cons, if_pos hx, if_pos hx]
/-- How many are of a stamp at most. -/
def cnt (f : Int) : List W → Nat
  | [] => 0
  | x :: l => if x.f0 ≤ f then cnt f l + 1 else cnt f l
theorem cnt_cons (f : Int) (x : W) (l : List W) : cnt f (x :: l) = if x.f0 ≤ f then cnt f l + 1 else cnt f l := rfl
theorem cnt_big {f : Int} {b : List W} (h : ∀ y ∈ b, y.f0 > f) : cnt f b = 0 := by
  induction b with
  | nil => rfl
  | cons x b ih =>
    have hx := h x List.mem_cons_self
    rw [cnt_cons, if_neg (by omega), ih (fun y hy => h y (List.mem_cons_of_mem _ hy))]
theorem stays_end {l p : List W} {f s : Int} (hl : l.length ≤ 200) (hp : p.length ≤ l.length) (n : Nat) (hn : n ≤ 1) (hr : rightFrom 0 p = true) (ha : f ≤ s → atf s zc p = atf s zc l) (hq : pruned f p = p) (k : Nat) (hk : 300 < k) :
    ebbtidelaw10_ChainStays.l0 k l f s p (n : Int) (p.length : Int) = some true := by
  obtain ⟨k, rfl⟩ := succ_of hk
  have hL : l.length < LM := by unfold LM; omega
  have hP : p.length < LM := by unfold LM; omega
  simp only [ebbtidelaw10_ChainStays.l0]
  rw [if_neg (by omega), if_pos (by omega), if_pos (by omega), rright_eq hP k (by omega)]
  simp only [Option.bind_some]
  rw [if_pos hr, prune_eq hP f k (by omega), hq]
  simp only [Option.bind_some]
  rw [rsame_eq hP k (by omega), same_self]
  simp only [Option.bind_some]
  by_cases c : s < f
  · rw [if_pos c]
  · rw [if_neg c, at_eq hP s k (by omega), at_eq hL s k (by omega)]
    simp only [Option.bind_some]
    rw [ha (by omega), if_pos (cell_eq _)]
theorem stays_l0 {l p : List W} {f s : Int} (hl : l.length ≤ 200) (hp : p.length ≤ l.length) (hn : cnt f p ≤ 1) (hr : rightFrom 0 p = true) (ha : f ≤ s → atf s zc p = atf s zc l) (hq : pruned f p = p) (d : Nat) : ∀ (i k n : Nat), i + d = p.length → d + 300 < k → n + cnt f (p.drop i) = cnt f p →
    ebbtidelaw10_ChainStays.l0 k l f s p (n : Int) (i : Int) = some true := by
  induction d with
  | zero =>
    intro i k n hi hk hc
    have e : i = p.length := by omega
    rw [e]
    exact stays_end hl hp n (by omega) hr ha hq k (by omega)
  | succ d ih =>
    intro i k n hi hk hc
    obtain ⟨k, rfl⟩ := succ_of hk
    have hlt : i < p.length := by omega
    rw [drop_at hlt, cnt_cons] at hc
    simp only [ebbtidelaw10_ChainStays.l0]
    rw [if_pos (by omega), if_pos (by omega), rdW hlt, w64s (i := i) (by omega)]
    by_cases c : p[i].f0 ≤ f
    · rw [if_pos c] at hc ⊢
      rw [w64s (i := n) (by omega)]
      exact ih (i + 1) k (n + 1) (by omega) (by omega) (by omega)
    · rw [if_neg c] at hc ⊢
      exact ih (i + 1) k n (by omega) (by omega) hc
theorem stays_j0_true (l : List W) (f s : Int) (k : Nat) (hk : 0 < k) : ebbtidelaw10_ChainStays.j0 k l f s true = some true := by
  obtain ⟨k, rfl⟩ := succ_of hk
  simp only [ebbtidelaw10_ChainStays.j0]
  rfl
theorem stays_j0 (l : List W) (hl : l.length ≤ 200) (f s : Int) (hr : rightFrom 0 l = true) (k : Nat) (hk : 600 < k) : ebbtidelaw10_ChainStays.j0 k l f s false = some true := by
  obtain ⟨k, rfl⟩ := succ_of hk
  have hL : l.length < LM := by unfold LM; omega
  simp only [ebbtidelaw10_ChainStays.j0]
  rw [if_neg (by simp), prune_eq hL f k (by omega)]
  simp only [Option.bind_some]
  rcases parts f l with h | ⟨a, x, b, e, hx, hb⟩
  · rw [pruned_big h]
    exact stays_l0 hl (Nat.le_refl _) (by rw [cnt_big h]; omega) hr (fun _ => rfl) (pruned_big h) l.length 0 k 0 (by omega) (by omega) (by rw [List.drop_zero, Nat.zero_add])
  · have ha : ∀ y ∈ a, y.f0 ≤ f := small hx 0 (by rw [← e]; exact hr)
    have h1 : pruned f l = x :: b := by rw [e, pruned_one ha hx hb]
    have h2 : pruned f (x :: b) = x :: b := pruned_one (a := []) (fun y hy => absurd hy (by simp)) hx hb
    have h3 : rightFrom 0 (x :: b) = true := by
      rw [e] at hr
      obtain ⟨c, hc, h⟩ := right_app a 0 (Int.le_refl _) hr
      exact right_low hc h
    have hlen : l.length = a.length + (x :: b).length := by rw [e, List.length_append]
    rw [h1]
    exact stays_l0 hl (by omega) (by rw [cnt_cons, cnt_big hb, if_pos hx]; omega) h3 (fun hs => by rw [e, atf_drop (by omega)]) h2 (x :: b).length 0 k 0 (by omega) (by omega) (by rw [List.drop_zero, Nat.zero_add])
theorem ChainStays : ebbtidelaw10_ChainStays.Pure := by
  intro l f s _ _ _ _
  obtain ⟨K, hK⟩ : ∃ K : Nat, K = 700 := ⟨_, rfl⟩
  refine ⟨K, ?_⟩
  unfold ebbtidelaw10_ChainStays.f
  rw [alive_eq K (by omega)]
  simp only [Option.bind_some, if_true]
  by_cases h : (l.length : Int) > 200
  · rw [if_pos h, stays_j0_true l f s K (by omega)]
  · rw [if_neg h, rright_eq (by unfold LM; omega) K (by omega)]
    simp only [Option.bind_some]
    by_cases h2 : rightFrom 0 l = true
    · rw [h2, Bool.not_true, stays_j0 l (by omega) f s h2 K (by omega)]
    · rw [Bool.eq_false_iff.mpr h2, Bool.not_false, stays_j0_true l f s K (by omega)]
end Go.Proofs.Ythphlphkmfgkdaa.Pure
