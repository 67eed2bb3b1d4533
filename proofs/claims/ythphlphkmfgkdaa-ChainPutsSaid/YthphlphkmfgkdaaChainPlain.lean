/- What versions are, in plain Lean: in order, joined, told at a stamp, pruned, alike; and that the program's functions and the references' compute just that. Conditions: all together are short enough for the machine. -/
import Derived.Test.YthphlphkmfgkdaaCellFold
import Derived.Test.YthphlphkmfgkdaaXx5
import Derived.Test.YthphlphkmfgkdaaXx3
import Derived.Test.YthphlphkmfgkdaaXx3
import Derived.Test.YthphlphkmfgkdaaXx5
import Derived.Test.YthphlphkmfgkdaaXx4
import Derived.Test.YthphlphkmfgkdaaXx4
import Derived.Test.YthphlphkmfgkdaaXx3
import Derived.Test.YthphlphkmfgkdaaXx12
import Derived.Test.YthphlphkmfgkdaaXx13
import Derived.Test.YthphlphkmfgkdaaXx13
import Derived.Test.YthphlphkmfgkdaaXx13
namespace Go.Proofs.Ythphlphkmfgkdaa.Pure
open Go.RowKit Go.Proofs.Ythphlphkmfgkdaa.X Go.Proofs.YthphlphkmfgkdaaW.PrintWords Go.Proofs.YthphlphkmfgkdaaW.PrintLast Go.Proofs.YthphlphkmfgkdaaW.PrintMore Go.Proofs.Ythphlphkmfgkdaa.Aid

abbrev W := S40
theorem rdW {l : List W} {i : Nat} (h : i < l.length) : rd_T40 l (i : Int) = l[i] := getD_at h _
theorem rdWW {l : List (List W)} {i : Nat} (h : i < l.length) : rd_L5 l (i : Int) = l[i] := getD_at h _
theorem flat_take {α : Type} {ll : List (List α)} {i : Nat} (h : i < ll.length) : (ll.take (i + 1)).flatten = (ll.take i).flatten ++ ll[i] := by
  rw [take_at h, List.flatten_append]
  simp
theorem flat_le {α : Type} (ll : List (List α)) (i : Nat) : (ll.take i).flatten.length ≤ ll.flatten.length := by
  conv => rhs; rw [← List.take_append_drop i ll, List.flatten_append]
  rw [List.length_append]
  exact Nat.le_add_right _ _
def LM : Nat := 2932031007402
theorem cat_l1 {ll : List (List W)} (hb : ll.flatten.length < LM) (hn : ll.length < LM) (d : Nat) : ∀ (i k : Nat) (acc : List W), i + d = ll.length → d < k → acc = (ll.take i).flatten →
    api_Version_26.l1 k acc ll (ll.length : Int) (i : Int) = some ll.flatten := by
  unfold LM at hb hn
  induction d with
  | zero =>
    intro i k acc hi hk ha
    obtain ⟨k, rfl⟩ := succ_of hk
    simp only [api_Version_26.l1]
    rw [if_neg (by omega), ha, List.take_of_length_le (by omega)]
  | succ d ih =>
    intro i k acc hi hk ha
    obtain ⟨k, rfl⟩ := succ_of hk
    have hlt : i < ll.length := by omega
    have h1 := flat_take hlt
    have h2 := flat_le ll (i + 1)
    rw [h1, List.length_append] at h2
    simp only [api_Version_26.l1]
    rw [if_pos (by omega), if_pos (by omega), if_pos (by omega), rdWW hlt, if_pos (by rw [ha]; omega), w64s (by omega)]
    exact ih (i + 1) k _ (by omega) (by omega) (by rw [ha, h1])
theorem cat_l0 {ll : List (List W)} (hb : ll.flatten.length < LM) (hn : ll.length < LM) (d : Nat) : ∀ (i k : Nat) (s : Int), i + d = ll.length → d + ll.length + 1 < k → s = ((ll.take i).flatten.length : Int) →
    api_Version_26.l0 k ll s ll (ll.length : Int) (i : Int) = some ll.flatten := by
  have hb' := hb
  have hn' := hn
  unfold LM at hb' hn'
  induction d with
  | zero =>
    intro i k s hi hk hs
    obtain ⟨k, rfl⟩ := succ_of hk
    have h2 := flat_le ll i
    simp only [api_Version_26.l0, api_Version_29.f]
    rw [if_neg (by omega), if_pos (by omega), if_pos (by omega)]
    exact cat_l1 hb hn ll.length 0 k [] (by omega) (by omega) (by simp)
  | succ d ih =>
    intro i k s hi hk hs
    obtain ⟨k, rfl⟩ := succ_of hk
    have hlt : i < ll.length := by omega
    have h1 := flat_take hlt
    have h2 := flat_le ll (i + 1)
    rw [h1, List.length_append] at h2
    simp only [api_Version_26.l0]
    have hw : wrap64 (s + (ll[i].length : Int)) = s + (ll[i].length : Int) := w64 (by omega) (by omega)
    rw [if_pos (by omega), if_pos (by omega), if_pos (by omega), rdWW hlt, hw, if_neg (by omega), w64s (by omega)]
    exact ih (i + 1) k _ (by omega) (by omega) (by rw [h1, List.length_append, hs]; omega)
theorem cat_eq {ll : List (List W)} (hb : ll.flatten.length < LM) (hn : ll.length < LM) (k : Nat) (hk : ll.length + ll.length + 1 < k) : api_Version_26.f k ll = some ll.flatten :=
  cat_l0 hb hn ll.length 0 k 0 (by omega) hk (by simp)
/-- In order, behind a stamp. -/
def rightFrom (last : Int) : List W → Bool
  | [] => true
  | x :: l => if x.f0 ≤ last then false else if x.f0 > 1000000000000000 then false else rightFrom x.f0 l
theorem right_cons (last : Int) (x : W) (l : List W) : rightFrom last (x :: l) = if x.f0 ≤ last then false else if x.f0 > 1000000000000000 then false else rightFrom x.f0 l := rfl
theorem right_l0 {l : List W} (hn : l.length < LM) (d : Nat) : ∀ (i k : Nat) (last : Int), i + d = l.length → d < k → chain_Right.l0 k last l (l.length : Int) (i : Int) = some (rightFrom last (l.drop i)) := by
  have hn' := hn
  unfold LM at hn'
  induction d with
  | zero =>
    intro i k last hi hk
    obtain ⟨k, rfl⟩ := succ_of hk
    simp only [chain_Right.l0]
    rw [if_neg (by omega), List.drop_of_length_le (by omega)]
    rfl
  | succ d ih =>
    intro i k last hi hk
    obtain ⟨k, rfl⟩ := succ_of hk
    have hlt : i < l.length := by omega
    simp only [chain_Right.l0]
    rw [if_pos (by omega), if_pos (by omega), if_pos (by omega), rdW hlt, drop_at hlt, w64s (by omega), ih (i + 1) k _ (by omega) (by omega)]
    rw [right_cons]
    by_cases h1 : l[i].f0 ≤ last
    · rw [if_pos h1, if_pos h1]
    · rw [if_neg h1, if_neg h1]
      by_cases h2 : l[i].f0 > 1000000000000000
      · rw [if_pos h2, if_pos h2]
      · rw [if_neg h2, if_neg h2]
theorem right_eq {l : List W} (hn : l.length < LM) (k : Nat) (hk : l.length < k) : chain_Right.f k l = some (rightFrom 0 l) := right_l0 hn l.length 0 k 0 (by omega) hk
theorem rright_l0 {l : List W} (hn : l.length < LM) (d : Nat) : ∀ (i k : Nat) (last : Int), i + d = l.length → d < k → (i = 0 → last = 0) → (∀ h : 0 < i ∧ i - 1 < l.length, last = (l[i - 1]'h.2).f0 ∧ 1 ≤ last) →
    ebbtideref10_Right.l0 k l (i : Int) = some (rightFrom last (l.drop i)) := by
  have hn' := hn
  unfold LM at hn'
  induction d with
  | zero =>
    intro i k last hi hk _ _
    obtain ⟨k, rfl⟩ := succ_of hk
    simp only [ebbtideref10_Right.l0]
    rw [if_neg (by omega), List.drop_of_length_le (by omega)]
    rfl
  | succ d ih =>
    intro i k last hi hk h0 h1
    obtain ⟨k, rfl⟩ := succ_of hk
    have hlt : i < l.length := by omega
    have hl0 : 0 ≤ last := by
      by_cases e : i = 0
      · rw [h0 e]
        exact Int.le_refl _
      · have := (h1 ⟨by omega, by omega⟩).2
        omega
    simp only [ebbtideref10_Right.l0]
    rw [if_pos (by omega), if_pos (by omega), rdW hlt, drop_at hlt, w64s (by omega)]
    rw [right_cons]
    by_cases c1 : l[i].f0 < 1
    · rw [if_pos c1, if_pos (by omega)]
    · rw [if_neg c1]
      by_cases c2 : l[i].f0 > 1000000000000000
      · rw [if_pos c2]
        by_cases c3 : l[i].f0 ≤ last
        · rw [if_pos c3]
        · rw [if_neg c3, if_pos c2]
      · rw [if_neg c2]
        have hs := ih (i + 1) k l[i].f0 (by omega) (by omega) (by omega) (fun _ => ⟨rfl, by omega⟩)
        by_cases e : i = 0
        · subst e
          rw [if_neg (by omega), hs, if_neg (by have := h0 rfl; omega), if_neg c2]
        · obtain ⟨e1, e2⟩ := h1 ⟨by omega, by omega⟩
          have hp : i - 1 < l.length := by omega
          have hc : ((i : Int) - 1) = ((i - 1 : Nat) : Int) := by omega
          rw [if_pos (by omega), w64p (by omega), hc, if_pos (by omega), if_pos (by omega), rdW hp, ← e1]
          by_cases c3 : l[i].f0 ≤ last
          · rw [if_pos (show last ≥ l[i].f0 from c3), if_pos c3]
          · rw [if_neg (show ¬ last ≥ l[i].f0 from c3), if_neg c3, if_neg c2, hs]
theorem rright_eq {l : List W} (hn : l.length < LM) (k : Nat) (hk : l.length < k) : ebbtideref10_Right.f k l = some (rightFrom 0 l) :=
  rright_l0 hn l.length 0 k 0 (by omega) hk (fun _ => rfl) (fun h => absurd h.1 (by omega))
/-- Pushed: all, if that is in order. -/
def pushed (l m : List W) : List W × Int := if rightFrom 0 (l ++ m) = true then (l ++ m, 0) else ([], 9)
theorem push_eq {l m : List W} (hn : l.length + m.length < LM) (k : Nat) (hk : l.length + m.length + 5 < k) : chain_Put.f k l m = some (pushed l m) := by
  have hf : [l, m].flatten = l ++ m := by simp
  have hl : (l ++ m).length < LM := by rw [List.length_append]; exact hn
  have hc := cat_eq (ll := [l, m]) (by rw [hf]; exact hl) (by unfold LM; simp) k (by simp; omega)
  unfold chain_Put.f pushed
  rw [hc, hf]
  simp only [Option.bind_some]
  rw [right_eq hl k (by rw [List.length_append]; omega)]
  simp only [Option.bind_some]
  by_cases h : rightFrom 0 (l ++ m) = true
  · rw [if_pos h, if_pos h]
  · rw [if_neg h, if_neg h]
/-- Two elements, alike or not, as the machine asks. -/
def neE (x y : W) : Bool := (!(x.f0 == y.f0) || ((!(x.f1.f0 == y.f1.f0) || ((!(x.f1.f1.f0 == y.f1.f1.f0) || (!(x.f1.f1.f1 == y.f1.f1.f1))) || (!(x.f1.f2 == y.f1.f2) || (!(x.f1.f3 == y.f1.f3)))))))
theorem neE_self (x : W) : neE x x = false := by simp [neE]
def eqs : List W → List W → Bool
  | x :: l, y :: m => if neE x y = true then false else eqs l m
  | _, _ => true
theorem eqs_cons (x y : W) (l m : List W) : eqs (x :: l) (y :: m) = if neE x y = true then false else eqs l m := rfl
def same (l m : List W) : Bool := if l.length = m.length then eqs l m else false
theorem eqs_self (l : List W) : eqs l l = true := by
  induction l with
  | nil => rfl
  | cons x l ih => rw [eqs_cons, neE_self, if_neg (by simp), ih]
theorem same_self (l : List W) : same l l = true := by rw [same, if_pos rfl, eqs_self]
theorem same_l0 {l m : List W} (hn : l.length < LM) (he : l.length = m.length) (d : Nat) : ∀ (i k : Nat), i + d = l.length → d < k → api_Version_25.l0 k l m (l.length : Int) (i : Int) = some (eqs (l.drop i) (m.drop i)) := by
  have hn' := hn
  unfold LM at hn'
  induction d with
  | zero =>
    intro i k hi hk
    obtain ⟨k, rfl⟩ := succ_of hk
    simp only [api_Version_25.l0]
    rw [if_neg (by omega), List.drop_of_length_le (by omega)]
    rfl
  | succ d ih =>
    intro i k hi hk
    obtain ⟨k, rfl⟩ := succ_of hk
    have hlt : i < l.length := by omega
    have hlm : i < m.length := by omega
    simp only [api_Version_25.l0]
    rw [if_pos (by omega), if_pos (by omega), if_pos (by omega), if_pos (by omega), rdW hlt, rdW hlm, drop_at hlt, drop_at hlm, w64s (by omega), ih (i + 1) k (by omega) (by omega)]
    rw [eqs_cons]
    unfold neE
    by_cases h : (!(l[i].f0 == m[i].f0) || ((!(l[i].f1.f0 == m[i].f1.f0) || ((!(l[i].f1.f1.f0 == m[i].f1.f1.f0) || (!(l[i].f1.f1.f1 == m[i].f1.f1.f1))) || (!(l[i].f1.f2 == m[i].f1.f2) || (!(l[i].f1.f3 == m[i].f1.f3))))))) = true
    · rw [if_pos h, if_pos h]
    · rw [if_neg h, if_neg h]
theorem same_eq {l m : List W} (hn : l.length < LM) (k : Nat) (hk : l.length < k) : chain_Same.f k l m = some (same l m) := by
  unfold chain_Same.f api_Version_25.f same
  by_cases h : l.length = m.length
  · have h0 := same_l0 hn h l.length 0 k (by omega) hk
    rw [show ((0 : Nat) : Int) = 0 from rfl] at h0
    rw [if_pos (by omega), if_pos h, h0]
    rfl
  · rw [if_neg (by omega), if_neg h]
    rfl
theorem rsame_l0 {l m : List W} (hn : l.length < LM) (he : l.length = m.length) (d : Nat) : ∀ (i k : Nat), i + d = l.length → d < k → ebbtideref10_Same.l0 k l m (i : Int) = some (eqs (l.drop i) (m.drop i)) := by
  have hn' := hn
  unfold LM at hn'
  induction d with
  | zero =>
    intro i k hi hk
    obtain ⟨k, rfl⟩ := succ_of hk
    simp only [ebbtideref10_Same.l0]
    rw [if_neg (by omega), List.drop_of_length_le (by omega)]
    rfl
  | succ d ih =>
    intro i k hi hk
    obtain ⟨k, rfl⟩ := succ_of hk
    have hlt : i < l.length := by omega
    have hlm : i < m.length := by omega
    simp only [ebbtideref10_Same.l0]
    rw [if_pos (by omega), if_pos (by omega), if_pos (by omega), rdW hlt, rdW hlm, drop_at hlt, drop_at hlm, w64s (by omega), ih (i + 1) k (by omega) (by omega)]
    rw [eqs_cons]
    unfold neE
    by_cases h : (!(l[i].f0 == m[i].f0) || ((!(l[i].f1.f0 == m[i].f1.f0) || ((!(l[i].f1.f1.f0 == m[i].f1.f1.f0) || (!(l[i].f1.f1.f1 == m[i].f1.f1.f1))) || (!(l[i].f1.f2 == m[i].f1.f2) || (!(l[i].f1.f3 == m[i].f1.f3))))))) = true
    · rw [if_pos h, if_pos h]
    · rw [if_neg h, if_neg h]
theorem rsame_eq {l m : List W} (hn : l.length < LM) (k : Nat) (hk : l.length < k) : ebbtideref10_Same.f k l m = some (same l m) := by
  unfold ebbtideref10_Same.f same
  by_cases h : l.length = m.length
  · have h0 := rsame_l0 hn h l.length 0 k (by omega) hk
    rw [show ((0 : Nat) : Int) = 0 from rfl] at h0
    rw [if_pos (by omega), if_pos h, h0]
    rfl
  · rw [if_neg (by omega), if_neg h]
theorem pushed_le (l m : List W) : (pushed l m).1.length ≤ l.length + m.length := by
  unfold pushed
  split
  · rw [List.length_append]
    exact Nat.le_refl _
  · exact Nat.zero_le _
/-- The place of the last one of a stamp at most, from a place on. -/
def nw (s : Int) : Nat → Int → List W → Int
  | _, acc, [] => acc
  | i, acc, x :: l => nw s (i + 1) (if x.f0 ≤ s then (i : Int) else acc) l
theorem nw_cons (s : Int) (i : Nat) (acc : Int) (x : W) (l : List W) : nw s i acc (x :: l) = nw s (i + 1) (if x.f0 ≤ s then (i : Int) else acc) l := rfl
theorem nw_app (s : Int) (a c : List W) : ∀ (i : Nat) (acc : Int), nw s i acc (a ++ c) = nw s (i + a.length) (nw s i acc a) c := by
  induction a with
  | nil => intro i acc; rfl
  | cons x a ih =>
    intro i acc
    rw [List.cons_append, nw_cons, ih, nw_cons, List.length_cons]
    congr 1
    omega
theorem nw_big (s : Int) (b : List W) : (∀ x ∈ b, x.f0 > s) → ∀ (i : Nat) (acc : Int), nw s i acc b = acc := by
  induction b with
  | nil => intro _ i acc; rfl
  | cons x b ih =>
    intro h i acc
    have h0 := h x List.mem_cons_self
    rw [nw_cons, ih (fun y hy => h y (List.mem_cons_of_mem _ hy)), if_neg (by omega)]
theorem nw_take {l : List W} {i : Nat} (h : i < l.length) (s : Int) : nw s 0 (-1) (l.take (i + 1)) = if l[i].f0 ≤ s then (i : Int) else nw s 0 (-1) (l.take i) := by
  rw [take_at h, nw_app, List.length_take, Nat.min_eq_left (by omega), nw_cons, Nat.zero_add]
  rfl
theorem newest_l0 {l : List W} (hn : l.length < LM) (s : Int) : ∀ (i k : Nat), i ≤ l.length → i < k → chain_newest.l0 k l s ((i : Int) - 1) = some (nw s 0 (-1) (l.take i)) := by
  have hn' := hn
  unfold LM at hn'
  intro i
  induction i with
  | zero =>
    intro k _ hk
    obtain ⟨k, rfl⟩ := succ_of hk
    simp only [chain_newest.l0]
    rw [if_neg (by omega)]
    rfl
  | succ i ih =>
    intro k hi hk
    obtain ⟨k, rfl⟩ := succ_of hk
    have hlt : i < l.length := by omega
    have hc : (((i + 1 : Nat) : Int) - 1) = (i : Int) := by omega
    simp only [chain_newest.l0]
    rw [hc, if_pos (by omega), if_pos (by omega), if_pos (by omega), rdW hlt, w64p (by omega), ih k (by omega) (by omega), nw_take hlt]
    by_cases h : l[i].f0 ≤ s
    · rw [if_pos h, if_pos h]
    · rw [if_neg h, if_neg h]
theorem newest_eq {l : List W} (hn : l.length < LM) (s : Int) (k : Nat) (hk : l.length < k) : chain_newest.f k l s = some (nw s 0 (-1) l) := by
  have hn' := hn
  unfold LM at hn'
  unfold chain_newest.f
  rw [w64p (by omega), newest_l0 hn s l.length k (Nat.le_refl _) hk, List.take_length]
/-- What is told at a stamp, from a cell on. -/
def atf (s : Int) (c : C) (l : List W) : C := l.foldl (fun c x => if x.f0 ≤ s then ce x.f1 else c) c
theorem atf_cons (s : Int) (c : C) (x : W) (l : List W) : atf s c (x :: l) = atf s (if x.f0 ≤ s then ce x.f1 else c) l := rfl
theorem atf_app (s : Int) (c : C) (a b : List W) : atf s c (a ++ b) = atf s (atf s c a) b := List.foldl_append
theorem atf_snoc (s : Int) (c : C) (a : List W) (x : W) : atf s c (a ++ [x]) = if x.f0 ≤ s then ce x.f1 else atf s c a := by rw [atf_app]; rfl
theorem nw_spec {l : List W} (s : Int) : ∀ (i : Nat), i ≤ l.length → (nw s 0 (-1) (l.take i) = -1 ∧ atf s zc (l.take i) = zc) ∨ (∃ j, ∃ h : j < l.length, nw s 0 (-1) (l.take i) = (j : Int) ∧ atf s zc (l.take i) = ce l[j].f1) := by
  intro i
  induction i with
  | zero => exact fun _ => Or.inl ⟨rfl, rfl⟩
  | succ i ih =>
    intro hi
    have hlt : i < l.length := by omega
    rw [nw_take hlt, take_at hlt, atf_snoc]
    by_cases h : l[i].f0 ≤ s
    · rw [if_pos h, if_pos h]
      exact Or.inr ⟨i, hlt, rfl, rfl⟩
    · rw [if_neg h, if_neg h]
      exact ih (by omega)
theorem at_eq {l : List W} (hn : l.length < LM) (s : Int) (k : Nat) (hk : l.length < k) : chain_At.f k l s = some (atf s zc l) := by
  unfold chain_At.f
  rw [newest_eq hn s k hk]
  simp only [Option.bind_some]
  have h := nw_spec (l := l) s l.length (Nat.le_refl _)
  rw [List.take_length] at h
  rcases h with ⟨h1, h2⟩ | ⟨j, hj, h1, h2⟩
  · rw [h1, h2, if_neg (by omega)]
    rfl
  · rw [h1, h2, if_pos (by omega), if_pos (by omega), if_pos (by omega), rdW hj]
    rfl
theorem rat_l0 {l : List W} (hn : l.length < LM) (s : Int) (d : Nat) : ∀ (i k : Nat) (c : C), i + d = l.length → d < k →
    ebbtideref10_At.l0 k l s (i : Int) c.1 c.2.1 c.2.2.1 c.2.2.2.1 c.2.2.2.2 = some (atf s c (l.drop i)) := by
  have hn' := hn
  unfold LM at hn'
  induction d with
  | zero =>
    intro i k c hi hk
    obtain ⟨k, rfl⟩ := succ_of hk
    simp only [ebbtideref10_At.l0]
    rw [if_neg (by omega), List.drop_of_length_le (by omega)]
    rfl
  | succ d ih =>
    intro i k c hi hk
    obtain ⟨k, rfl⟩ := succ_of hk
    have hlt : i < l.length := by omega
    simp only [ebbtideref10_At.l0]
    rw [if_pos (by omega), if_pos (by omega), rdW hlt, drop_at hlt, w64s (by omega), atf_cons, ih (i + 1) k c (by omega) (by omega)]
    by_cases h : l[i].f0 ≤ s
    · rw [if_pos h, if_pos h]
      exact ih (i + 1) k (ce l[i].f1) (by omega) (by omega)
    · rw [if_neg h, if_neg h]
theorem rat_eq {l : List W} (hn : l.length < LM) (s : Int) (k : Nat) (hk : l.length < k) : ebbtideref10_At.f k l s = some (atf s zc l) :=
  rat_l0 hn s l.length 0 k zc (by omega) hk
/-- What is left: the one of a place, and what is of a greater stamp. -/
def prn (f n : Int) : Nat → List W → List W
  | _, [] => []
  | i, x :: l => if (i : Int) = n then x :: prn f n (i + 1) l else if x.f0 > f then x :: prn f n (i + 1) l else prn f n (i + 1) l
theorem prn_cons (f n : Int) (i : Nat) (x : W) (l : List W) : prn f n i (x :: l) = if (i : Int) = n then x :: prn f n (i + 1) l else if x.f0 > f then x :: prn f n (i + 1) l else prn f n (i + 1) l := rfl
theorem prn_le (f n : Int) (l : List W) : ∀ i, (prn f n i l).length ≤ l.length := by
  induction l with
  | nil => exact fun _ => Nat.le_refl _
  | cons x l ih =>
    intro i
    have h := ih (i + 1)
    rw [prn_cons]
    split
    · simp only [List.length_cons]; omega
    · split <;> simp only [List.length_cons] <;> omega
def pruned (f : Int) (l : List W) : List W := prn f (nw f 0 (-1) l) 0 l
theorem prune_l0 {l : List W} (hn : l.length < LM) (f n : Int) (d : Nat) : ∀ (i k : Nat) (acc : List W), i + d = l.length → d < k → acc.length ≤ i →
    chain_Prune.l0 k f acc n l (l.length : Int) (i : Int) = some (acc ++ prn f n i (l.drop i)) := by
  have hn' := hn
  unfold LM at hn'
  induction d with
  | zero =>
    intro i k acc hi hk _
    obtain ⟨k, rfl⟩ := succ_of hk
    simp only [chain_Prune.l0]
    rw [if_neg (by omega), List.drop_of_length_le (by omega), prn, List.append_nil]
  | succ d ih =>
    intro i k acc hi hk ha
    obtain ⟨k, rfl⟩ := succ_of hk
    have hlt : i < l.length := by omega
    have h1 := ih (i + 1) k (acc ++ [l[i]]) (by omega) (by omega) (by rw [List.length_append, List.length_singleton]; omega)
    rw [List.append_assoc, List.singleton_append] at h1
    simp only [chain_Prune.l0]
    rw [if_pos (by omega), if_pos (by omega), if_pos (by omega), rdW hlt, drop_at hlt, w64s (by omega), prn_cons, if_pos (show acc.length < 2932031007402 by omega), ih (i + 1) k acc (by omega) (by omega) (by omega)]
    by_cases c1 : (i : Int) = n
    · rw [if_pos c1, if_pos c1]
      exact h1
    · rw [if_neg c1, if_neg c1]
      by_cases c2 : l[i].f0 > f
      · rw [if_pos c2, if_pos c2]
        exact h1
      · rw [if_neg c2, if_neg c2]
theorem prune_eq {l : List W} (hn : l.length < LM) (f : Int) (k : Nat) (hk : l.length < k) : chain_Prune.f k l f = some (pruned f l) := by
  unfold chain_Prune.f
  rw [newest_eq hn f k hk]
  exact prune_l0 hn f _ l.length 0 k [] (by omega) hk (Nat.le_refl _)
theorem last_le {l : List W} (hn : l.length < LM) : ∃ v, chain_Last.f l = some v := by
  unfold LM at hn
  unfold chain_Last.f
  by_cases h : (l.length : Int) = 0
  · exact ⟨_, if_pos h⟩
  · rw [if_neg h, w64p (by omega), if_pos (by omega), if_pos (by omega)]
    exact ⟨_, rfl⟩
theorem cat2 (l m : List W) : [l, m].flatten = l ++ m := by simp
theorem cell_eq (c : C) : (c.1 == c.1 && ((c.2.1 == c.2.1 && (c.2.2.1 == c.2.2.1)) && (c.2.2.2.1 == c.2.2.2.1 && (c.2.2.2.2 == c.2.2.2.2)))) = true := by simp
theorem alive_eq (k : Nat) (hk : 14 ≤ k) : ebbtidelaw10_alive.f k = some true :=
  at_rounds (g := fun k => ebbtidelaw10_alive.f k) ebbtidelaw10_alive.mono hk (by decide +kernel)
end Go.Proofs.Ythphlphkmfgkdaa.Pure
