/- What queues are, in plain Lean: joined, in order, alike, popped; and that the program's functions and the references' compute just that. Conditions: all together are short enough for the machine. -/
import Derived.Test.YtejpddjdpcpepaaAid
import Derived.Test.YtejpddjdpcpepaaXx2
import Derived.Test.YtejpddjdpcpepaaXx2
import Derived.Test.YtejpddjdpcpepaaXx2
import Derived.Test.YtejpddjdpcpepaaXx3
import Derived.Test.YtejpddjdpcpepaaXx3
import Derived.Test.YtejpddjdpcpepaaXx5
import Derived.Test.YtejpddjdpcpepaaXx6
namespace Go.Proofs.Ytejpddjdpcpepaa.Pure
open Go.RowKit Go.Proofs.Ytejpddjdpcpepaa.X Go.Proofs.YtejpddjdpcpepaaW.PrintWords Go.Proofs.YtejpddjdpcpepaaW.PrintLast Go.Proofs.YtejpddjdpcpepaaW.PrintMore Go.Proofs.Ytejpddjdpcpepaa.Aid

abbrev W := S29
theorem rdW {l : List W} {i : Nat} (h : i < l.length) : rd_T29 l (i : Int) = l[i] := getD_at h _
theorem rdWW {l : List (List W)} {i : Nat} (h : i < l.length) : rd_L3 l (i : Int) = l[i] := getD_at h _
theorem flat_take {α : Type} {ll : List (List α)} {i : Nat} (h : i < ll.length) : (ll.take (i + 1)).flatten = (ll.take i).flatten ++ ll[i] := by
  rw [take_at h, List.flatten_append]
  simp
theorem flat_le {α : Type} (ll : List (List α)) (i : Nat) : (ll.take i).flatten.length ≤ ll.flatten.length := by
  conv => rhs; rw [← List.take_append_drop i ll, List.flatten_append]
  rw [List.length_append]
  exact Nat.le_add_right _ _
def LM : Nat := 3518437208883
theorem cat_l1 {ll : List (List W)} (hb : ll.flatten.length < LM) (hn : ll.length < LM) (d : Nat) : ∀ (i k : Nat) (acc : List W), i + d = ll.length → d < k → acc = (ll.take i).flatten →
    api_Write_24.l1 k acc ll (ll.length : Int) (i : Int) = some ll.flatten := by
  unfold LM at hb hn
  induction d with
  | zero =>
    intro i k acc hi hk ha
    obtain ⟨k, rfl⟩ := succ_of hk
    simp only [api_Write_24.l1]
    rw [if_neg (by omega), ha, List.take_of_length_le (by omega)]
  | succ d ih =>
    intro i k acc hi hk ha
    obtain ⟨k, rfl⟩ := succ_of hk
    have hlt : i < ll.length := by omega
    have h1 := flat_take hlt
    have h2 := flat_le ll (i + 1)
    rw [h1, List.length_append] at h2
    simp only [api_Write_24.l1]
    rw [if_pos (by omega), if_pos (by omega), if_pos (by omega), rdWW hlt, if_pos (by rw [ha]; omega), w64s (by omega)]
    exact ih (i + 1) k _ (by omega) (by omega) (by rw [ha, h1])
theorem cat_l0 {ll : List (List W)} (hb : ll.flatten.length < LM) (hn : ll.length < LM) (d : Nat) : ∀ (i k : Nat) (s : Int), i + d = ll.length → d + ll.length + 1 < k → s = ((ll.take i).flatten.length : Int) →
    api_Write_24.l0 k ll s ll (ll.length : Int) (i : Int) = some ll.flatten := by
  have hb' := hb
  have hn' := hn
  unfold LM at hb' hn'
  induction d with
  | zero =>
    intro i k s hi hk hs
    obtain ⟨k, rfl⟩ := succ_of hk
    have h2 := flat_le ll i
    simp only [api_Write_24.l0, api_Write_30.f]
    rw [if_neg (by omega), if_pos (by omega), if_pos (by omega)]
    exact cat_l1 hb hn ll.length 0 k [] (by omega) (by omega) (by simp)
  | succ d ih =>
    intro i k s hi hk hs
    obtain ⟨k, rfl⟩ := succ_of hk
    have hlt : i < ll.length := by omega
    have h1 := flat_take hlt
    have h2 := flat_le ll (i + 1)
    rw [h1, List.length_append] at h2
    simp only [api_Write_24.l0]
    have hw : wrap64 (s + (ll[i].length : Int)) = s + (ll[i].length : Int) := w64 (by omega) (by omega)
    rw [if_pos (by omega), if_pos (by omega), if_pos (by omega), rdWW hlt, hw, if_neg (by omega), w64s (by omega)]
    exact ih (i + 1) k _ (by omega) (by omega) (by rw [h1, List.length_append, hs]; omega)
theorem cat_eq {ll : List (List W)} (hb : ll.flatten.length < LM) (hn : ll.length < LM) (k : Nat) (hk : ll.length + ll.length + 1 < k) : api_Write_24.f k ll = some ll.flatten :=
  cat_l0 hb hn ll.length 0 k 0 (by omega) hk (by simp)
/-- In order, behind a stamp. -/
def rightFrom (last : Int) : List W → Bool
  | [] => true
  | x :: l => if x.f0 ≤ last then false else if x.f0 > 1000000000000000 then false else rightFrom x.f0 l
theorem right_cons (last : Int) (x : W) (l : List W) : rightFrom last (x :: l) = if x.f0 ≤ last then false else if x.f0 > 1000000000000000 then false else rightFrom x.f0 l := rfl
theorem right_l0 {l : List W} (hn : l.length < LM) (d : Nat) : ∀ (i k : Nat) (last : Int), i + d = l.length → d < k → seq_Right.l0 k last l (l.length : Int) (i : Int) = some (rightFrom last (l.drop i)) := by
  have hn' := hn
  unfold LM at hn'
  induction d with
  | zero =>
    intro i k last hi hk
    obtain ⟨k, rfl⟩ := succ_of hk
    simp only [seq_Right.l0]
    rw [if_neg (by omega), List.drop_of_length_le (by omega)]
    rfl
  | succ d ih =>
    intro i k last hi hk
    obtain ⟨k, rfl⟩ := succ_of hk
    have hlt : i < l.length := by omega
    simp only [seq_Right.l0]
    rw [if_pos (by omega), if_pos (by omega), if_pos (by omega), rdW hlt, drop_at hlt, w64s (by omega), ih (i + 1) k _ (by omega) (by omega)]
    rw [right_cons]
    by_cases h1 : l[i].f0 ≤ last
    · rw [if_pos h1, if_pos h1]
    · rw [if_neg h1, if_neg h1]
      by_cases h2 : l[i].f0 > 1000000000000000
      · rw [if_pos h2, if_pos h2]
      · rw [if_neg h2, if_neg h2]
theorem right_eq {l : List W} (hn : l.length < LM) (k : Nat) (hk : l.length < k) : seq_Right.f k l = some (rightFrom 0 l) := right_l0 hn l.length 0 k 0 (by omega) hk
theorem rright_l0 {l : List W} (hn : l.length < LM) (d : Nat) : ∀ (i k : Nat) (last : Int), i + d = l.length → d < k → (i = 0 → last = 0) → (∀ h : 0 < i ∧ i - 1 < l.length, last = (l[i - 1]'h.2).f0 ∧ 1 ≤ last) →
    ebbtideref14_Right.l0 k l (i : Int) = some (rightFrom last (l.drop i)) := by
  have hn' := hn
  unfold LM at hn'
  induction d with
  | zero =>
    intro i k last hi hk _ _
    obtain ⟨k, rfl⟩ := succ_of hk
    simp only [ebbtideref14_Right.l0]
    rw [if_neg (by omega), List.drop_of_length_le (by omega)]
    rfl
  | succ d ih =>
    intro i k last hi hk h0 h1
    obtain ⟨k, rfl⟩ := succ_of hk
    have hlt : i < l.length := by omega
    have hl0 : 0 ≤ last := by
      by_cases e : i = 0
      · rw [h0 e]
        exact Int.le_refl _
      · have := (h1 ⟨by omega, by omega⟩).2
        omega
    simp only [ebbtideref14_Right.l0]
    rw [if_pos (by omega), if_pos (by omega), rdW hlt, drop_at hlt, w64s (by omega)]
    rw [right_cons]
    by_cases c1 : l[i].f0 < 1
    · rw [if_pos c1, if_pos (by omega)]
    · rw [if_neg c1]
      by_cases c2 : l[i].f0 > 1000000000000000
      · rw [if_pos c2]
        by_cases c3 : l[i].f0 ≤ last
        · rw [if_pos c3]
        · rw [if_neg c3, if_pos c2]
      · rw [if_neg c2]
        have hs := ih (i + 1) k l[i].f0 (by omega) (by omega) (by omega) (fun _ => ⟨rfl, by omega⟩)
        by_cases e : i = 0
        · subst e
          rw [if_neg (by omega), hs, if_neg (by have := h0 rfl; omega), if_neg c2]
        · obtain ⟨e1, e2⟩ := h1 ⟨by omega, by omega⟩
          have hp : i - 1 < l.length := by omega
          have hc : ((i : Int) - 1) = ((i - 1 : Nat) : Int) := by omega
          rw [if_pos (by omega), w64p (by omega), hc, if_pos (by omega), if_pos (by omega), rdW hp, ← e1]
          by_cases c3 : l[i].f0 ≤ last
          · rw [if_pos (show last ≥ l[i].f0 from c3), if_pos c3]
          · rw [if_neg (show ¬ last ≥ l[i].f0 from c3), if_neg c3, if_neg c2, hs]
theorem rright_eq {l : List W} (hn : l.length < LM) (k : Nat) (hk : l.length < k) : ebbtideref14_Right.f k l = some (rightFrom 0 l) :=
  rright_l0 hn l.length 0 k 0 (by omega) hk (fun _ => rfl) (fun h => absurd h.1 (by omega))
/-- Pushed: all, if that is in order. -/
def pushed (l m : List W) : List W × Int := if rightFrom 0 (l ++ m) = true then (l ++ m, 0) else ([], 9)
theorem push_eq {l m : List W} (hn : l.length + m.length < LM) (k : Nat) (hk : l.length + m.length + 5 < k) : seq_Push.f k l m = some (pushed l m) := by
  have hf : [l, m].flatten = l ++ m := by simp
  have hl : (l ++ m).length < LM := by rw [List.length_append]; exact hn
  have hc := cat_eq (ll := [l, m]) (by rw [hf]; exact hl) (by unfold LM; simp) k (by simp; omega)
  unfold seq_Push.f pushed
  rw [hc, hf]
  simp only [Option.bind_some]
  rw [right_eq hl k (by rw [List.length_append]; omega)]
  simp only [Option.bind_some]
  by_cases h : rightFrom 0 (l ++ m) = true
  · rw [if_pos h, if_pos h]
  · rw [if_neg h, if_neg h]
/-- Two elements, alike or not, as the machine asks. -/
def neE (x y : W) : Bool := (!(x.f0 == y.f0) || (!(x.f1 == y.f1) || (!((x.f2.toList) == (y.f2.toList)) || (!(x.f3 == y.f3)))))
theorem neE_self (x : W) : neE x x = false := by simp [neE]
def eqs : List W → List W → Bool
  | x :: l, y :: m => if neE x y = true then false else eqs l m
  | _, _ => true
theorem eqs_cons (x y : W) (l m : List W) : eqs (x :: l) (y :: m) = if neE x y = true then false else eqs l m := rfl
def same (l m : List W) : Bool := if l.length = m.length then eqs l m else false
theorem eqs_self (l : List W) : eqs l l = true := by
  induction l with
  | nil => rfl
  | cons x l ih => rw [eqs_cons, neE_self, if_neg (by simp), ih]
theorem same_self (l : List W) : same l l = true := by rw [same, if_pos rfl, eqs_self]
theorem same_l0 {l m : List W} (hn : l.length < LM) (he : l.length = m.length) (d : Nat) : ∀ (i k : Nat), i + d = l.length → d < k → api_Write_26.l0 k l m (l.length : Int) (i : Int) = some (eqs (l.drop i) (m.drop i)) := by
  have hn' := hn
  unfold LM at hn'
  induction d with
  | zero =>
    intro i k hi hk
    obtain ⟨k, rfl⟩ := succ_of hk
    simp only [api_Write_26.l0]
    rw [if_neg (by omega), List.drop_of_length_le (by omega)]
    rfl
  | succ d ih =>
    intro i k hi hk
    obtain ⟨k, rfl⟩ := succ_of hk
    have hlt : i < l.length := by omega
    have hlm : i < m.length := by omega
    simp only [api_Write_26.l0]
    rw [if_pos (by omega), if_pos (by omega), if_pos (by omega), if_pos (by omega), rdW hlt, rdW hlm, drop_at hlt, drop_at hlm, w64s (by omega), ih (i + 1) k (by omega) (by omega)]
    rw [eqs_cons]
    unfold neE
    by_cases h : (!(l[i].f0 == m[i].f0) || (!(l[i].f1 == m[i].f1) || (!((l[i].f2.toList) == (m[i].f2.toList)) || (!(l[i].f3 == m[i].f3))))) = true
    · rw [if_pos h, if_pos h]
    · rw [if_neg h, if_neg h]
theorem same_eq {l m : List W} (hn : l.length < LM) (k : Nat) (hk : l.length < k) : seq_Same.f k l m = some (same l m) := by
  unfold seq_Same.f api_Write_26.f same
  by_cases h : l.length = m.length
  · have h0 := same_l0 hn h l.length 0 k (by omega) hk
    rw [show ((0 : Nat) : Int) = 0 from rfl] at h0
    rw [if_pos (by omega), if_pos h, h0]
    rfl
  · rw [if_neg (by omega), if_neg h]
    rfl
theorem clone_eq {l : List W} (hn : l.length < LM) : api_Write_25.f l = some l := by
  unfold api_Write_25.f
  unfold LM at hn
  rw [if_pos hn]
theorem pop_cons {x : W} {l : List W} (hn : l.length + 1 < LM) : seq_Pop.f (x :: l) = some (x.f0, x.f1, x.f2, x.f3, l, true) := by
  unfold seq_Pop.f
  have h0 : rd_T29 (x :: l) 0 = x := rfl
  rw [if_neg (by simp only [List.length_cons]; omega), if_pos (by simp only [List.length_cons]; omega), if_pos (by simp only [List.length_cons]; omega), List.drop_succ_cons, List.drop_zero, clone_eq (by omega), h0]
  rfl
theorem pop_nil : seq_Pop.f [] = some (0, 0, (⟨#[]⟩ : ByteArray), 0, [], false) := rfl
theorem alive_eq (k : Nat) (hk : 12 ≤ k) : ebbtidelaw14_alive.f k = some true :=
  at_rounds (g := fun k => ebbtidelaw14_alive.f k) ebbtidelaw14_alive.mono hk (by decide +kernel)
end Go.Proofs.Ytejpddjdpcpepaa.Pure
