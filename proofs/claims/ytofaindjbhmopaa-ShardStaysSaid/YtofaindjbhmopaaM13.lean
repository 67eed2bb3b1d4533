/- Plain facts on what the printed functions compute, joined; each says its conditions. -/
import Derived.Test.YtofaindjbhmopaaM1
import Derived.Test.YtofaindjbhmopaaM8
import Derived.Test.YtofaindjbhmopaaM5
import Derived.Test.YtofaindjbhmopaaM9
import Derived.Test.YtofaindjbhmopaaM12
section
namespace Go.Proofs.Ytofaindjbhmopaa.Pure
open Go.RowKit Go.Proofs.Ytofaindjbhmopaa.X Go.Proofs.YtofaindjbhmopaaW.PrintWords Go.Proofs.YtofaindjbhmopaaW.PrintLast Go.Proofs.YtofaindjbhmopaaW.PrintMore Go.Proofs.Ytofaindjbhmopaa.Aid
abbrev W := S82
theorem rdW {l : List W} {i : Nat} (h : i < l.length) : rd_T82 l (i : Int) = l[i] := getD_at h _
def LM : Nat := 2932031007402
abbrev E := S59
theorem rdE {l : List E} {i : Nat} (h : i < l.length) : rd_T59 l (i : Int) = l[i] := getD_at h _
def small (l : List E) : Prop := l.length ≤ 100 ∧ ∀ e ∈ l, e.f2.length ≤ 100 ∧ e.f1.size ≤ 300
theorem small_at {l : List E} (h : small l) {i : Nat} (hi : i < l.length) : l[i].f2.length ≤ 100 := (h.2 _ (List.getElem_mem hi)).1
def small1 (l : List E) : Prop := l.length ≤ 101 ∧ ∀ e ∈ l, e.f2.length ≤ 101
theorem small.one {l : List E} (h : small l) : small1 l := ⟨Nat.le_succ_of_le h.1, fun e he => Nat.le_succ_of_le (h.2 e he).1⟩
theorem small1_at {l : List E} (h : small1 l) {i : Nat} (hi : i < l.length) : l[i].f2.length ≤ 101 := h.2 _ (List.getElem_mem hi)
def great (l : List E) : Bool := l.any fun e => decide (e.f2.length > 100) || decide (e.f1.size > 300)
theorem great_l0 {l : List E} (hn : l.length ≤ 100) (d : Nat) : ∀ (i k : Nat), i + d = l.length → d < k → r11_Great.l0 k (i : Int) l = some (great (l.drop i)) := by
 induction d with
 | zero =>
  intro i k hi hk
  obtain ⟨k, rfl⟩ := succ_of hk
  simp only [r11_Great.l0]
  rw [if_neg (by omega), List.drop_of_length_le (by omega)]
  rfl
 | succ d ih =>
  intro i k hi hk
  obtain ⟨k, rfl⟩ := succ_of hk
  have hlt : i < l.length := by omega
  simp only [r11_Great.l0]
  rw [if_pos (by omega), if_pos (by omega), rdE hlt, drop_at hlt, w64s (by omega), ih (i + 1) k (by omega) (by omega)]
  by_cases c1 : ((l[i].f2).length : Int) > 100
  ·
   rw [if_pos c1]
   have c2 : l[i].f2.length > 100 := by omega
   simp only [great, List.any_cons, decide_eq_true c2, Bool.true_or]
  ·
   rw [if_neg c1]
   have c2 : ¬ l[i].f2.length > 100 := by omega
   by_cases c3 : ((l[i].f1).size : Int) > 300
   ·
    rw [if_pos c3]
    have c4 : l[i].f1.size > 300 := by omega
    simp only [great, List.any_cons, decide_eq_true c4, Bool.or_true, Bool.true_or]
   ·
    rw [if_neg c3]
    have c4 : ¬ l[i].f1.size > 300 := by omega
    simp only [great, List.any_cons, decide_eq_false c2, decide_eq_false c4, Bool.or_self, Bool.false_or]
theorem great_or (l : List E) (k : Nat) (hk : 100 < k) : r11_Great.f k l = some true ∨ (r11_Great.f k l = some false ∧ small l) := by
 unfold r11_Great.f
 by_cases h : (l.length : Int) > 100
 ·
  exact .inl (if_pos h)
 ·
  rw [if_neg h]
  have h0 := great_l0 (l := l) (by omega) l.length 0 k (by omega) (by omega)
  rw [show ((0 : Nat) : Int) = 0 from rfl, List.drop_zero] at h0
  rw [h0]
  cases hg : great l with
  | true => exact .inl rfl
  | false =>
   refine .inr ⟨rfl, by omega, fun e he => ?_⟩
   have := List.any_eq_false.1 hg e he
   simp only [Bool.or_eq_true, decide_eq_true_eq, not_or] at this
   omega
end Go.Proofs.Ytofaindjbhmopaa.Pure
end
section
namespace Go.Proofs.Ytofaindjbhmopaa.Pure
open Go.RowKit Go.Proofs.Ytofaindjbhmopaa.X Go.Proofs.YtofaindjbhmopaaW.PrintWords Go.Proofs.YtofaindjbhmopaaW.PrintLast Go.Proofs.YtofaindjbhmopaaW.PrintMore Go.Proofs.Ytofaindjbhmopaa.Aid
def nw (s : Int) : Nat → Int → List W → Int
 | _, acc, [] => acc
 | i, acc, x :: l => nw s (i + 1) (if x.f0 ≤ s then (i : Int) else acc) l
theorem nw_cons (s : Int) (i : Nat) (acc : Int) (x : W) (l : List W) : nw s i acc (x :: l) = nw s (i + 1) (if x.f0 ≤ s then (i : Int) else acc) l := rfl
theorem nw_app (s : Int) (a c : List W) : ∀ (i : Nat) (acc : Int), nw s i acc (a ++ c) = nw s (i + a.length) (nw s i acc a) c := by
 induction a with
 | nil => intro i acc; rfl
 | cons x a ih =>
  intro i acc
  rw [List.cons_append, nw_cons, ih, nw_cons, List.length_cons]
  congr 1
  omega
theorem nw_big (s : Int) (b : List W) : (∀ x ∈ b, x.f0 > s) → ∀ (i : Nat) (acc : Int), nw s i acc b = acc := by
 induction b with
 | nil => intro _ i acc; rfl
 | cons x b ih =>
  intro h i acc
  have h0 := h x List.mem_cons_self
  rw [nw_cons, ih (fun y hy => h y (List.mem_cons_of_mem _ hy)), if_neg (by omega)]
theorem nw_take {l : List W} {i : Nat} (h : i < l.length) (s : Int) : nw s 0 (-1) (l.take (i + 1)) = if l[i].f0 ≤ s then (i : Int) else nw s 0 (-1) (l.take i) := by
 rw [take_at h, nw_app, List.length_take, Nat.min_eq_left (by omega), nw_cons, Nat.zero_add]
 rfl
theorem newest_l0 {l : List W} (hn : l.length < LM) (s : Int) : ∀ (i k : Nat), i ≤ l.length → i < k → chain_newest.l0 k l s ((i : Int) - 1) = some (nw s 0 (-1) (l.take i)) := by
 have hn' := hn
 unfold LM at hn'
 intro i
 induction i with
 | zero =>
  intro k _ hk
  obtain ⟨k, rfl⟩ := succ_of hk
  simp only [chain_newest.l0]
  rw [if_neg (by omega)]
  rfl
 | succ i ih =>
  intro k hi hk
  obtain ⟨k, rfl⟩ := succ_of hk
  have hlt : i < l.length := by omega
  have hc : (((i + 1 : Nat) : Int) - 1) = (i : Int) := by omega
  simp only [chain_newest.l0]
  rw [hc, if_pos (by omega), if_pos (by omega), if_pos (by omega), rdW hlt, w64p (by omega), ih k (by omega) (by omega), nw_take hlt]
  by_cases h : l[i].f0 ≤ s
  ·
   rw [if_pos h, if_pos h]
  ·
   rw [if_neg h, if_neg h]
theorem newest_eq {l : List W} (hn : l.length < LM) (s : Int) (k : Nat) (hk : l.length < k) : chain_newest.f k l s = some (nw s 0 (-1) l) := by
 have hn' := hn
 unfold LM at hn'
 unfold chain_newest.f
 rw [w64p (by omega), newest_l0 hn s l.length k (Nat.le_refl _) hk, List.take_length]
end Go.Proofs.Ytofaindjbhmopaa.Pure
end
section
namespace Go.Proofs.Ytofaindjbhmopaa.Pure
open Go.RowKit Go.Proofs.Ytofaindjbhmopaa.X Go.Proofs.YtofaindjbhmopaaW.PrintWords Go.Proofs.YtofaindjbhmopaaW.PrintLast Go.Proofs.YtofaindjbhmopaaW.PrintMore Go.Proofs.Ytofaindjbhmopaa.Aid
abbrev D := S39
def drp (ds : List D) (w s : Int) : Bool := ds.any fun x => x.f0 == w && decide (x.f1 ≤ s)
theorem drop_eq (ds : List D) (w s : Int) : shard_dropped.f ds w s = some (drp ds w s) := rfl
end Go.Proofs.Ytofaindjbhmopaa.Pure
end
section
namespace Go.Proofs.Ytofaindjbhmopaa.Pure
open Go.RowKit Go.Proofs.Ytofaindjbhmopaa.X Go.Proofs.YtofaindjbhmopaaW.PrintWords Go.Proofs.YtofaindjbhmopaaW.PrintLast Go.Proofs.YtofaindjbhmopaaW.PrintMore Go.Proofs.Ytofaindjbhmopaa.Aid
def prn (f n : Int) : Nat → List W → List W
 | _, [] => []
 | i, x :: l => if (i : Int) = n then x :: prn f n (i + 1) l else if x.f0 > f then x :: prn f n (i + 1) l else prn f n (i + 1) l
theorem prn_cons (f n : Int) (i : Nat) (x : W) (l : List W) : prn f n i (x :: l) = if (i : Int) = n then x :: prn f n (i + 1) l else if x.f0 > f then x :: prn f n (i + 1) l else prn f n (i + 1) l := rfl
theorem prn_le (f n : Int) (l : List W) : ∀ i, (prn f n i l).length ≤ l.length := by
 induction l with
 | nil => exact fun _ => Nat.le_refl _
 | cons x l ih =>
  intro i
  have h := ih (i + 1)
  rw [prn_cons]
  split
  ·
   simp only [List.length_cons]; omega
  ·
   split <;> simp only [List.length_cons] <;> omega
def pruned (f : Int) (l : List W) : List W := prn f (nw f 0 (-1) l) 0 l
theorem prune_l0 {l : List W} (hn : l.length < LM) (f n : Int) (d : Nat) : ∀ (i k : Nat) (acc : List W), i + d = l.length → d < k → acc.length ≤ i →
 chain_Prune.l0 k f acc n l (l.length : Int) (i : Int) = some (acc ++ prn f n i (l.drop i)) := by
 have hn' := hn
 unfold LM at hn'
 induction d with
 | zero =>
  intro i k acc hi hk _
  obtain ⟨k, rfl⟩ := succ_of hk
  simp only [chain_Prune.l0]
  rw [if_neg (by omega), List.drop_of_length_le (by omega), prn, List.append_nil]
 | succ d ih =>
  intro i k acc hi hk ha
  obtain ⟨k, rfl⟩ := succ_of hk
  have hlt : i < l.length := by omega
  have h1 := ih (i + 1) k (acc ++ [l[i]]) (by omega) (by omega) (by rw [List.length_append, List.length_singleton]; omega)
  rw [List.append_assoc, List.singleton_append] at h1
  simp only [chain_Prune.l0]
  rw [if_pos (by omega), if_pos (by omega), if_pos (by omega), rdW hlt, drop_at hlt, w64s (by omega), prn_cons, if_pos (show acc.length < 2932031007402 by omega), ih (i + 1) k acc (by omega) (by omega) (by omega)]
  by_cases c1 : (i : Int) = n
  ·
   rw [if_pos c1, if_pos c1]
   exact h1
  ·
   rw [if_neg c1, if_neg c1]
   by_cases c2 : l[i].f0 > f
   ·
    rw [if_pos c2, if_pos c2]
    exact h1
   ·
    rw [if_neg c2, if_neg c2]
theorem prune_eq {l : List W} (hn : l.length < LM) (f : Int) (k : Nat) (hk : l.length < k) : chain_Prune.f k l f = some (pruned f l) := by
 unfold chain_Prune.f
 rw [newest_eq hn f k hk]
 exact prune_l0 hn f _ l.length 0 k [] (by omega) hk (Nat.le_refl _)
theorem pruned_le (f : Int) (l : List W) : (pruned f l).length ≤ l.length := prn_le _ _ _ _
def prl (f : Int) (ds : List D) : List E → List E
 | [] => []
 | e :: l => if drp ds e.f0 f = true then prl f ds l else ⟨e.f0, e.f1, pruned f e.f2⟩ :: prl f ds l
theorem prl_cons (f : Int) (ds : List D) (e : E) (l : List E) : prl f ds (e :: l) = if drp ds e.f0 f = true then prl f ds l else ⟨e.f0, e.f1, pruned f e.f2⟩ :: prl f ds l := rfl
theorem prl_le (f : Int) (ds : List D) : ∀ l : List E, (prl f ds l).length ≤ l.length
 | [] => Nat.le_refl _
 | e :: l => by
  have := prl_le f ds l
  rw [prl_cons]
  split <;> simp only [List.length_cons] <;> omega
theorem prl_small {f : Int} {ds : List D} {l : List E} (h : small l) : small (prl f ds l) := by
 refine ⟨Nat.le_trans (prl_le f ds l) h.1, ?_⟩
 have h2 := h.2
 clear h
 induction l with
 | nil => intro e he; cases he
 | cons x l ih =>
  have ih' := ih (fun e he => h2 e (List.mem_cons_of_mem _ he))
  intro e he
  rw [prl_cons] at he
  by_cases c : drp ds x.f0 f = true
  ·
   rw [if_pos c] at he
   exact ih' e he
  ·
   rw [if_neg c] at he
   rcases List.mem_cons.1 he with rfl | he
   ·
    have := h2 x List.mem_cons_self
    exact ⟨Nat.le_trans (pruned_le f x.f2) this.1, this.2⟩
   ·
    exact ih' e he
theorem sprune_l0 {l : List E} (hl : small l) (f : Int) (ds : List D) (d : Nat) : ∀ (i k : Nat) (acc : List E), i + d = l.length → d + 101 < k → acc.length ≤ i →
 shard_Prune.l0 k f ds l (l.length : Int) (i : Int) acc = some (acc ++ prl f ds (l.drop i)) := by
 have hn := hl.1
 induction d with
 | zero =>
  intro i k acc hi hk _
  obtain ⟨k, rfl⟩ := succ_of hk
  simp only [shard_Prune.l0]
  rw [if_neg (by omega), List.drop_of_length_le (by omega), prl, List.append_nil]
 | succ d ih =>
  intro i k acc hi hk ha
  obtain ⟨k, rfl⟩ := succ_of hk
  have hlt : i < l.length := by omega
  have hs := small_at hl hlt
  have h1 := ih (i + 1) k (acc ++ [⟨l[i].f0, l[i].f1, pruned f l[i].f2⟩]) (by omega) (by omega) (by rw [List.length_append, List.length_singleton]; omega)
  rw [List.append_assoc, List.singleton_append] at h1
  simp only [shard_Prune.l0, drop_eq, Option.bind_some]
  rw [if_pos (by omega), if_pos (by omega), if_pos (by omega), rdE hlt, drop_at hlt, w64s (by omega), prl_cons, ih (i + 1) k acc (by omega) (by omega) (by omega), prune_eq (l := l[i].f2) (by unfold LM; omega) f k (by omega)]
  simp only [Option.bind_some]
  by_cases c1 : drp ds l[i].f0 f = true
  ·
   rw [if_pos c1, if_pos c1]
  ·
   rw [if_neg c1, if_neg c1, if_pos (show acc.length < 2932031007402 by omega)]
   exact h1
theorem sprune_eq {l : List E} (hl : small l) (f : Int) (ds : List D) (k : Nat) (hk : l.length + 101 < k) : shard_Prune.f k l f ds = some (prl f ds l) := by
 have h := sprune_l0 hl f ds l.length 0 k [] (by omega) hk (Nat.zero_le _)
 rw [List.nil_append, List.drop_zero] at h
 exact h
end Go.Proofs.Ytofaindjbhmopaa.Pure
end
section
namespace Go.Proofs.Ytofaindjbhmopaa.Pure
open Go.RowKit Go.Proofs.Ytofaindjbhmopaa.X Go.Proofs.YtofaindjbhmopaaW.PrintWords Go.Proofs.YtofaindjbhmopaaW.PrintLast Go.Proofs.YtofaindjbhmopaaW.PrintMore Go.Proofs.Ytofaindjbhmopaa.Aid
def rightFrom (last : Int) : List W → Bool
 | [] => true
 | x :: l => if x.f0 ≤ last then false else if x.f0 > 1000000000000000 then false else rightFrom x.f0 l
theorem right_cons (last : Int) (x : W) (l : List W) : rightFrom last (x :: l) = if x.f0 ≤ last then false else if x.f0 > 1000000000000000 then false else rightFrom x.f0 l := rfl
theorem rright_l0 {l : List W} (hn : l.length < LM) (d : Nat) : ∀ (i k : Nat) (last : Int), i + d = l.length → d < k → (i = 0 → last = 0) → (∀ h : 0 < i ∧ i - 1 < l.length, last = (l[i - 1]'h.2).f0 ∧ 1 ≤ last) →
 r10_Right.l0 k l (i : Int) = some (rightFrom last (l.drop i)) := by
 have hn' := hn
 unfold LM at hn'
 induction d with
 | zero =>
  intro i k last hi hk _ _
  obtain ⟨k, rfl⟩ := succ_of hk
  simp only [r10_Right.l0]
  rw [if_neg (by omega), List.drop_of_length_le (by omega)]
  rfl
 | succ d ih =>
  intro i k last hi hk h0 h1
  obtain ⟨k, rfl⟩ := succ_of hk
  have hlt : i < l.length := by omega
  have hl0 : 0 ≤ last := by
   by_cases e : i = 0
   ·
    rw [h0 e]
    exact Int.le_refl _
   ·
    have := (h1 ⟨by omega, by omega⟩).2
    omega
  simp only [r10_Right.l0]
  rw [if_pos (by omega), if_pos (by omega), rdW hlt, drop_at hlt, w64s (by omega)]
  rw [right_cons]
  by_cases c1 : l[i].f0 < 1
  ·
   rw [if_pos c1, if_pos (by omega)]
  ·
   rw [if_neg c1]
   by_cases c2 : l[i].f0 > 1000000000000000
   ·
    rw [if_pos c2]
    by_cases c3 : l[i].f0 ≤ last
    ·
     rw [if_pos c3]
    ·
     rw [if_neg c3, if_pos c2]
   ·
    rw [if_neg c2]
    have hs := ih (i + 1) k l[i].f0 (by omega) (by omega) (by omega) (fun _ => ⟨rfl, by omega⟩)
    by_cases e : i = 0
    ·
     subst e
     rw [if_neg (by omega), hs, if_neg (by have := h0 rfl; omega), if_neg c2]
    ·
     obtain ⟨e1, e2⟩ := h1 ⟨by omega, by omega⟩
     have hp : i - 1 < l.length := by omega
     have hc : ((i : Int) - 1) = ((i - 1 : Nat) : Int) := by omega
     rw [if_pos (by omega), w64p (by omega), hc, if_pos (by omega), if_pos (by omega), rdW hp, ← e1]
     by_cases c3 : l[i].f0 ≤ last
     ·
      rw [if_pos (show last ≥ l[i].f0 from c3), if_pos c3]
     ·
      rw [if_neg (show ¬ last ≥ l[i].f0 from c3), if_neg c3, if_neg c2, hs]
theorem rright_eq {l : List W} (hn : l.length < LM) (k : Nat) (hk : l.length < k) : r10_Right.f k l = some (rightFrom 0 l) :=
 rright_l0 hn l.length 0 k 0 (by omega) hk (fun _ => rfl) (fun h => absurd h.1 (by omega))
end Go.Proofs.Ytofaindjbhmopaa.Pure
end
section
namespace Go.Proofs.Ytofaindjbhmopaa.Pure
open Go.RowKit Go.Proofs.Ytofaindjbhmopaa.X Go.Proofs.YtofaindjbhmopaaW.PrintWords Go.Proofs.YtofaindjbhmopaaW.PrintLast Go.Proofs.YtofaindjbhmopaaW.PrintMore Go.Proofs.Ytofaindjbhmopaa.Aid
theorem right_app {r : List W} : ∀ (a : List W) (c : Int), 0 ≤ c → rightFrom c (a ++ r) = true → ∃ c', 0 ≤ c' ∧ rightFrom c' r = true := by
 intro a
 induction a with
 | nil => exact fun c h0 h => ⟨c, h0, h⟩
 | cons x a ih =>
  intro c h0 h
  rw [List.cons_append, right_cons] at h
  by_cases h1 : x.f0 ≤ c
  ·
   rw [if_pos h1] at h; exact absurd h (by simp)
  ·
   rw [if_neg h1] at h
   by_cases h2 : x.f0 > 1000000000000000
   ·
    rw [if_pos h2] at h; exact absurd h (by simp)
   ·
    rw [if_neg h2] at h
    exact ih x.f0 (by omega) h
theorem right_low {r : List W} {c : Int} (h0 : 0 ≤ c) (h : rightFrom c r = true) : rightFrom 0 r = true := by
 cases r with
 | nil => rfl
 | cons x r =>
  rw [right_cons] at h ⊢
  by_cases h1 : x.f0 ≤ c
  ·
   rw [if_pos h1] at h; exact absurd h (by simp)
  ·
   rw [if_neg h1] at h
   rw [if_neg (by omega)]
   exact h
theorem right_gt {r : List W} : ∀ (c : Int), rightFrom c r = true → ∀ y ∈ r, c < y.f0 := by
 induction r with
 | nil => exact fun c _ y hy => absurd hy (by simp)
 | cons x r ih =>
  intro c h y hy
  rw [right_cons] at h
  by_cases h1 : x.f0 ≤ c
  ·
   rw [if_pos h1] at h; exact absurd h (by simp)
  ·
   rw [if_neg h1] at h
   by_cases h2 : x.f0 > 1000000000000000
   ·
    rw [if_pos h2] at h; exact absurd h (by simp)
   ·
    rw [if_neg h2] at h
    rcases List.mem_cons.mp hy with e | e
    ·
     rw [e]; omega
    ·
     have := ih x.f0 h y e; omega
end Go.Proofs.Ytofaindjbhmopaa.Pure
end
section
namespace Go.Proofs.Ytofaindjbhmopaa.Pure
open Go.RowKit Go.Proofs.Ytofaindjbhmopaa.X Go.Proofs.YtofaindjbhmopaaW.PrintWords Go.Proofs.YtofaindjbhmopaaW.PrintLast Go.Proofs.YtofaindjbhmopaaW.PrintMore Go.Proofs.Ytofaindjbhmopaa.Aid
abbrev C := Int × Int × Bool × Int × Int
def zc : C := (0, 0, false, 0, 0)
def ce (x : S52) : C := (x.f0, x.f1.f0, x.f1.f1, x.f2, x.f3)
def ec (c : C) : S52 := ⟨c.1, ⟨c.2.1, c.2.2.1⟩, c.2.2.2.1, c.2.2.2.2⟩
end Go.Proofs.Ytofaindjbhmopaa.Pure
end
section
namespace Go.Proofs.Ytofaindjbhmopaa.Pure
open Go.RowKit Go.Proofs.Ytofaindjbhmopaa.X Go.Proofs.YtofaindjbhmopaaW.PrintWords Go.Proofs.YtofaindjbhmopaaW.PrintLast Go.Proofs.YtofaindjbhmopaaW.PrintMore Go.Proofs.Ytofaindjbhmopaa.Aid
def atf (s : Int) (c : C) (l : List W) : C := l.foldl (fun c x => if x.f0 ≤ s then ce x.f1 else c) c
theorem atf_cons (s : Int) (c : C) (x : W) (l : List W) : atf s c (x :: l) = atf s (if x.f0 ≤ s then ce x.f1 else c) l := rfl
theorem atf_app (s : Int) (c : C) (a b : List W) : atf s c (a ++ b) = atf s (atf s c a) b := List.foldl_append
theorem atf_snoc (s : Int) (c : C) (a : List W) (x : W) : atf s c (a ++ [x]) = if x.f0 ≤ s then ce x.f1 else atf s c a := by rw [atf_app]; rfl
theorem nw_spec {l : List W} (s : Int) : ∀ (i : Nat), i ≤ l.length → (nw s 0 (-1) (l.take i) = -1 ∧ atf s zc (l.take i) = zc) ∨ (∃ j, ∃ h : j < l.length, nw s 0 (-1) (l.take i) = (j : Int) ∧ atf s zc (l.take i) = ce l[j].f1) := by
 intro i
 induction i with
 | zero => exact fun _ => Or.inl ⟨rfl, rfl⟩
 | succ i ih =>
  intro hi
  have hlt : i < l.length := by omega
  rw [nw_take hlt, take_at hlt, atf_snoc]
  by_cases h : l[i].f0 ≤ s
  ·
   rw [if_pos h, if_pos h]
   exact Or.inr ⟨i, hlt, rfl, rfl⟩
  ·
   rw [if_neg h, if_neg h]
   exact ih (by omega)
theorem at_eq {l : List W} (hn : l.length < LM) (s : Int) (k : Nat) (hk : l.length < k) : chain_At.f k l s = some (atf s zc l) := by
 unfold chain_At.f
 rw [newest_eq hn s k hk]
 simp only [Option.bind_some]
 have h := nw_spec (l := l) s l.length (Nat.le_refl _)
 rw [List.take_length] at h
 rcases h with ⟨h1, h2⟩ | ⟨j, hj, h1, h2⟩
 ·
  rw [h1, h2, if_neg (by omega)]
  rfl
 ·
  rw [h1, h2, if_pos (by omega), if_pos (by omega), if_pos (by omega), rdW hj]
  rfl
end Go.Proofs.Ytofaindjbhmopaa.Pure
end
section
namespace Go.Proofs.Ytofaindjbhmopaa.Pure
open Go.RowKit Go.Proofs.Ytofaindjbhmopaa.X Go.Proofs.YtofaindjbhmopaaW.PrintWords Go.Proofs.YtofaindjbhmopaaW.PrintLast Go.Proofs.YtofaindjbhmopaaW.PrintMore Go.Proofs.Ytofaindjbhmopaa.Aid
theorem parts (f : Int) (l : List W) : (∀ x ∈ l, x.f0 > f) ∨ ∃ a x b, l = a ++ x :: b ∧ x.f0 ≤ f ∧ ∀ y ∈ b, y.f0 > f := by
 induction l with
 | nil => exact Or.inl (fun x h => absurd h (by simp))
 | cons y l ih =>
  rcases ih with h | ⟨a, x, b, e, h1, h2⟩
  ·
   by_cases hy : y.f0 ≤ f
   ·
    exact Or.inr ⟨[], y, l, rfl, hy, h⟩
   ·
    refine Or.inl (fun z hz => ?_)
    rcases List.mem_cons.mp hz with e | e
    ·
     rw [e]; omega
    ·
     exact h z e
  ·
   exact Or.inr ⟨y :: a, x, b, by rw [e, List.cons_append], h1, h2⟩
theorem smallV {a b : List W} {x : W} {f : Int} (hx : x.f0 ≤ f) : ∀ c : Int, rightFrom c (a ++ x :: b) = true → ∀ y ∈ a, y.f0 ≤ f := by
 induction a with
 | nil => exact fun c _ y hy => absurd hy (by simp)
 | cons z a ih =>
  intro c h y hy
  rw [List.cons_append, right_cons] at h
  by_cases h1 : z.f0 ≤ c
  ·
   rw [if_pos h1] at h; exact absurd h (by simp)
  ·
   rw [if_neg h1] at h
   by_cases h2 : z.f0 > 1000000000000000
   ·
    rw [if_pos h2] at h; exact absurd h (by simp)
   ·
    rw [if_neg h2] at h
    rcases List.mem_cons.mp hy with e | e
    ·
     have := right_gt z.f0 h x (by simp)
     rw [e]; omega
    ·
     exact ih z.f0 h y e
theorem prn_small {f n : Int} {r : List W} : ∀ (a : List W) (i : Nat), (∀ y ∈ a, y.f0 ≤ f) → n ≥ (i + a.length : Nat) → prn f n i (a ++ r) = prn f n (i + a.length) r := by
 intro a
 induction a with
 | nil => intro i _ _; rfl
 | cons x a ih =>
  intro i h hn
  have hx := h x List.mem_cons_self
  rw [List.length_cons] at hn
  rw [List.cons_append, prn_cons, if_neg (by omega), if_neg (by omega), ih (i + 1) (fun y hy => h y (List.mem_cons_of_mem _ hy)) (by omega), List.length_cons]
  congr 1
  omega
theorem prn_big {f n : Int} : ∀ (b : List W) (i : Nat), (∀ y ∈ b, y.f0 > f) → prn f n i b = b := by
 intro b
 induction b with
 | nil => intro i _; rfl
 | cons x b ih =>
  intro i h
  have hx := h x List.mem_cons_self
  rw [prn_cons, ih (i + 1) (fun y hy => h y (List.mem_cons_of_mem _ hy)), if_pos hx]
  split <;> rfl
theorem pruned_big {f : Int} {l : List W} (h : ∀ x ∈ l, x.f0 > f) : pruned f l = l := prn_big l 0 h
theorem pruned_one {f : Int} {a b : List W} {x : W} (ha : ∀ y ∈ a, y.f0 ≤ f) (hx : x.f0 ≤ f) (hb : ∀ y ∈ b, y.f0 > f) : pruned f (a ++ x :: b) = x :: b := by
 unfold pruned
 have h1 : nw f 0 (-1) (a ++ x :: b) = (a.length : Int) := by
  rw [nw_app, nw_cons, nw_big f b hb, if_pos hx, Nat.zero_add]
 rw [h1, prn_small a 0 ha (by omega), prn_cons, if_pos (by omega), prn_big b _ hb]
theorem atf_drop {s : Int} {a b : List W} {x : W} (hx : x.f0 ≤ s) : atf s zc (a ++ x :: b) = atf s zc (x :: b) := by
 rw [atf_app, atf_cons, atf_cons, if_pos hx, if_pos hx]
theorem smallV' {a b : List W} {x : W} {f : Int} (hx : x.f0 ≤ f) {l : List W} (e : l = a ++ x :: b) (hr : rightFrom 0 l = true) : ∀ y ∈ a, y.f0 ≤ f := smallV hx 0 (by rw [← e]; exact hr)
theorem pruned_right {f : Int} {l : List W} (hr : rightFrom 0 l = true) : rightFrom 0 (pruned f l) = true := by
 rcases parts f l with h | ⟨a, x, b, e, hx, hb⟩
 ·
  rw [pruned_big h]
  exact hr
 ·
  rw [e, pruned_one (smallV' hx e hr) hx hb]
  rw [e] at hr
  obtain ⟨c, hc, h⟩ := right_app a 0 (Int.le_refl _) hr
  exact right_low hc h
theorem pruned_ne {f : Int} {l : List W} (hr : rightFrom 0 l = true) (h0 : l.length ≠ 0) : (pruned f l).length ≠ 0 := by
 rcases parts f l with h | ⟨a, x, b, e, hx, hb⟩
 ·
  rw [pruned_big h]
  exact h0
 ·
  rw [e, pruned_one (smallV' hx e hr) hx hb, List.length_cons]
  omega
theorem pruned_at {f s : Int} {l : List W} (hr : rightFrom 0 l = true) (hs : f ≤ s) : atf s zc (pruned f l) = atf s zc l := by
 rcases parts f l with h | ⟨a, x, b, e, hx, hb⟩
 ·
  rw [pruned_big h]
 ·
  rw [e, pruned_one (smallV' hx e hr) hx hb, atf_drop (by omega)]
theorem pruned_two {f g : Int} {l : List W} (hr : rightFrom 0 l = true) (hs : f ≤ g) : pruned g (pruned f l) = pruned g l := by
 rcases parts f l with h | ⟨a, x, b, e, hx, hb⟩
 ·
  rw [pruned_big h]
 ·
  have ha := smallV' hx e hr
  have h1 := pruned_right (f := f) hr
  have h2 : pruned f l = x :: b := by rw [e, pruned_one ha hx hb]
  rw [h2] at h1 ⊢
  rcases parts g (x :: b) with h | ⟨a', x', b', e', hx', hb'⟩
  ·
   exact absurd (h x List.mem_cons_self) (by omega)
  ·
   have ha' := smallV' hx' e' h1
   rw [e, e', pruned_one ha' hx' hb', ← List.append_assoc, pruned_one (a := a ++ a') (fun y hy => ?_) hx' hb']
   rcases List.mem_append.1 hy with h | h
   ·
    have := ha y h
    omega
   ·
    exact ha' y h
end Go.Proofs.Ytofaindjbhmopaa.Pure
end
section
namespace Go.Proofs.Ytofaindjbhmopaa.Pure
open Go.RowKit Go.Proofs.Ytofaindjbhmopaa.X Go.Proofs.YtofaindjbhmopaaW.PrintWords Go.Proofs.YtofaindjbhmopaaW.PrintLast Go.Proofs.YtofaindjbhmopaaW.PrintMore Go.Proofs.Ytofaindjbhmopaa.Aid
abbrev I := S54
def rdl (s : Int) (ds : List D) : List E → List I
 | [] => []
 | e :: l => if drp ds e.f0 s = true then rdl s ds l else if (atf s zc e.f2).1 < 1 then rdl s ds l else ⟨e.f0, e.f1, ec (atf s zc e.f2)⟩ :: rdl s ds l
theorem rdl_cons (s : Int) (ds : List D) (e : E) (l : List E) : rdl s ds (e :: l) = if drp ds e.f0 s = true then rdl s ds l else if (atf s zc e.f2).1 < 1 then rdl s ds l else ⟨e.f0, e.f1, ec (atf s zc e.f2)⟩ :: rdl s ds l := rfl
theorem rdl_le (s : Int) (ds : List D) : ∀ l : List E, (rdl s ds l).length ≤ l.length
 | [] => Nat.le_refl _
 | e :: l => by
  have := rdl_le s ds l
  rw [rdl_cons]
  split
  ·
   simp only [List.length_cons]; omega
  ·
   split
   ·
    simp only [List.length_cons]; omega
   ·
    simp only [List.length_cons]; omega
theorem read_l0 {l : List E} (hl : small1 l) (s : Int) (ds : List D) (d : Nat) : ∀ (i k : Nat) (acc : List I), i + d = l.length → d + 102 < k → acc.length ≤ i →
 shard_Read.l0 k s ds acc l (l.length : Int) (i : Int) = some (acc ++ rdl s ds (l.drop i)) := by
 have hn := hl.1
 induction d with
 | zero =>
  intro i k acc hi hk _
  obtain ⟨k, rfl⟩ := succ_of hk
  simp only [shard_Read.l0]
  rw [if_neg (by omega), List.drop_of_length_le (by omega), rdl, List.append_nil]
 | succ d ih =>
  intro i k acc hi hk ha
  obtain ⟨k, rfl⟩ := succ_of hk
  have hlt : i < l.length := by omega
  have hs := small1_at hl hlt
  have h1 := ih (i + 1) k (acc ++ [⟨l[i].f0, l[i].f1, ec (atf s zc l[i].f2)⟩]) (by omega) (by omega) (by rw [List.length_append, List.length_singleton]; omega)
  rw [List.append_assoc, List.singleton_append] at h1
  simp only [shard_Read.l0, drop_eq, Option.bind_some, cell_Empty.f]
  rw [if_pos (by omega), if_pos (by omega), if_pos (by omega), rdE hlt, drop_at hlt, w64s (by omega), rdl_cons, ih (i + 1) k acc (by omega) (by omega) (by omega), at_eq (l := l[i].f2) (by unfold LM; omega) s k (by omega)]
  simp only [Option.bind_some, decide_eq_true_eq]
  by_cases c1 : drp ds l[i].f0 s = true
  ·
   rw [if_pos c1, if_pos c1]
  ·
   rw [if_neg c1, if_neg c1]
   by_cases c2 : (atf s zc l[i].f2).1 < 1
   ·
    rw [if_pos c2, if_pos c2]
   ·
    rw [if_neg c2, if_neg c2, if_pos (show acc.length < 2199023255552 by omega)]
    exact h1
theorem read_eq {l : List E} (hl : small1 l) (s : Int) (ds : List D) (k : Nat) (hk : l.length + 102 < k) : shard_Read.f k l s ds = some (rdl s ds l) := by
 have h := read_l0 hl s ds l.length 0 k [] (by omega) hk (Nat.zero_le _)
 rw [List.nil_append, List.drop_zero] at h
 exact h
end Go.Proofs.Ytofaindjbhmopaa.Pure
end
section
namespace Go.Proofs.Ytofaindjbhmopaa.Ord
open Go.Proofs.Ytofaindjbhmopaa.Bytes
abbrev T := List UInt8
abbrev less (a b : T) : Bool := Op.bytesLess a b
theorem less_cons (a b : UInt8) (x y : T) : less (a :: x) (b :: y) = (decide (a < b) || (a == b && less x y)) := rfl
theorem lt_nat {a b : UInt8} : a < b ↔ a.toNat < b.toNat := UInt8.lt_iff_toNat_lt
theorem eq_nat {a b : UInt8} : a = b ↔ a.toNat = b.toNat := ⟨fun h => by rw [h], fun h => UInt8.toNat_inj.mp h⟩
theorem less_iff (a b : UInt8) (x y : T) : less (a :: x) (b :: y) = true ↔ a.toNat < b.toNat ∨ (a = b ∧ less x y = true) := by
 rw [less_cons, Bool.or_eq_true, Bool.and_eq_true, decide_eq_true_eq, beq_iff_eq, lt_nat]
theorem less_nil (a : T) : less a [] = false := by cases a <;> rfl
theorem nil_less (b : UInt8) (y : T) : less [] (b :: y) = true := rfl
theorem irrefl : ∀ a : T, less a a = false
 | [] => rfl
 | a :: x => by
  rw [Bool.eq_false_iff]
  intro h
  rcases (less_iff a a x x).mp h with h | ⟨_, h⟩
  ·
   omega
  ·
   rw [irrefl x] at h
   cases h
theorem trans : ∀ {a b c : T}, less a b = true → less b c = true → less a c = true
 | _, [], _, h, _ => by rw [less_nil] at h; cases h
 | _, _ :: _, [], _, h => by rw [less_nil] at h; cases h
 | [], _ :: _, c :: z, _, _ => nil_less c z
 | a :: x, b :: y, c :: z, h1, h2 => by
  rw [less_iff] at h1 h2 ⊢
  rcases h1 with h1 | ⟨e1, h1⟩
  ·
   rcases h2 with h2 | ⟨e2, _⟩
   ·
    exact .inl (by omega)
   ·
    rw [eq_nat] at e2
    exact .inl (by omega)
  ·
   subst e1
   rcases h2 with h2 | ⟨e2, h2⟩
   ·
    exact .inl h2
   ·
    exact .inr ⟨e2, trans h1 h2⟩
end Go.Proofs.Ytofaindjbhmopaa.Ord
end
section
namespace Go.Proofs.Ytofaindjbhmopaa.Pure
open Go.RowKit Go.Proofs.Ytofaindjbhmopaa.X Go.Proofs.YtofaindjbhmopaaW.PrintWords Go.Proofs.YtofaindjbhmopaaW.PrintLast Go.Proofs.YtofaindjbhmopaaW.PrintMore Go.Proofs.Ytofaindjbhmopaa.Aid
open Go.Proofs.Ytofaindjbhmopaa.Ord (less)
abbrev T := List UInt8
def bl (s : ByteArray) : T := s.data.toList
theorem bl_toList (s : ByteArray) : s.toList = bl s := ByteArray.toList_eq s
abbrev Key := Int × T
def lt (a b : Key) : Bool := decide (a.1 < b.1) || (decide (a.1 = b.1) && less a.2 b.2)
theorem lt_iff (a b : Key) : lt a b = true ↔ a.1 < b.1 ∨ (a.1 = b.1 ∧ less a.2 b.2 = true) := by
 unfold lt
 rw [Bool.or_eq_true, Bool.and_eq_true, decide_eq_true_eq, decide_eq_true_eq]
theorem lt_irrefl (a : Key) : lt a a = false := by
 rw [Bool.eq_false_iff]
 intro h
 rcases (lt_iff a a).mp h with h | ⟨_, h⟩
 ·
  omega
 ·
  rw [Ord.irrefl] at h
  cases h
theorem lt_trans {a b c : Key} (h1 : lt a b = true) (h2 : lt b c = true) : lt a c = true := by
 rw [lt_iff] at h1 h2 ⊢
 rcases h1 with h1 | ⟨e1, h1⟩
 ·
  rcases h2 with h2 | ⟨e2, _⟩
  ·
   exact .inl (by omega)
  ·
   exact .inl (by omega)
 ·
  rcases h2 with h2 | ⟨e2, h2⟩
  ·
   exact .inl (by omega)
  ·
   exact .inr ⟨by omega, Ord.trans h1 h2⟩
def keyE (e : E) : Key := (e.f0, bl e.f1)
def kw (w : Int) (s : ByteArray) : Key := (w, bl s)
def Rise (l : List E) : Prop := l.Pairwise fun a b => lt (keyE a) (keyE b) = true
end Go.Proofs.Ytofaindjbhmopaa.Pure
end
section
namespace Go.Proofs.Ytofaindjbhmopaa.Pure
open Go.RowKit Go.Proofs.Ytofaindjbhmopaa.X Go.Proofs.YtofaindjbhmopaaW.PrintWords Go.Proofs.YtofaindjbhmopaaW.PrintLast Go.Proofs.YtofaindjbhmopaaW.PrintMore Go.Proofs.Ytofaindjbhmopaa.Aid
open Go.Proofs.Ytofaindjbhmopaa.Ord (less)
def behind (p : Option Key) (q : Key) : Bool := match p with | none => true | some a => lt a q
theorem behind_some (a q : Key) : behind (some a) q = lt a q := rfl
def okE : Option Key → List E → Bool
 | _, [] => true
 | p, e :: l => if e.f2.length = 0 then false else if rightFrom 0 e.f2 = true then (if behind p (keyE e) = true then okE (some (keyE e)) l else false) else false
theorem okE_cons (p : Option Key) (e : E) (l : List E) : okE p (e :: l) = if e.f2.length = 0 then false else if rightFrom 0 e.f2 = true then (if behind p (keyE e) = true then okE (some (keyE e)) l else false) else false := rfl
def prevE (l : List E) (i : Nat) : Option Key := if i = 0 then none else (l[i - 1]?).map keyE
theorem prevE_succ {l : List E} {i : Nat} (h : i < l.length) : prevE l (i + 1) = some (keyE l[i]) := by
 unfold prevE
 rw [if_neg (by omega), Nat.add_sub_cancel, List.getElem?_eq_getElem h]
 rfl
theorem prevE_at {l : List E} {i : Nat} (h0 : i ≠ 0) (h : i - 1 < l.length) : prevE l i = some (keyE l[i - 1]) := by
 unfold prevE
 rw [if_neg h0, List.getElem?_eq_getElem h]
 rfl
theorem rless_eq (x : E) (w : Int) (s : ByteArray) : r11_less.f x.f0 x.f1 x.f2 w s = some (lt (keyE x) (kw w s)) := by
 unfold r11_less.f lt keyE kw
 rw [bl_toList, bl_toList]
 dsimp only
 by_cases c1 : x.f0 < w
 ·
  rw [if_pos c1, decide_eq_true c1, Bool.true_or]
 ·
  rw [if_neg c1, decide_eq_false c1, Bool.false_or]
  by_cases c2 : x.f0 = w
  ·
   rw [if_pos c2, decide_eq_true c2, Bool.true_and]
  ·
   rw [if_neg c2, decide_eq_false c2, Bool.false_and]
theorem srright_l0 {l : List E} (hl : small1 l) (d : Nat) : ∀ (i k : Nat), i + d = l.length → d + 110 < k → r11_Right.l0 k (i : Int) l = some (okE (prevE l i) (l.drop i)) := by
 have hn := hl.1
 induction d with
 | zero =>
  intro i k hi hk
  obtain ⟨k, rfl⟩ := succ_of hk
  simp only [r11_Right.l0]
  rw [if_neg (by omega), List.drop_of_length_le (by omega)]
  rfl
 | succ d ih =>
  intro i k hi hk
  obtain ⟨k, rfl⟩ := succ_of hk
  have hlt : i < l.length := by omega
  have hs := small1_at hl hlt
  simp only [r11_Right.l0]
  rw [if_pos (by omega), if_pos (by omega), rdE hlt, drop_at hlt, w64s (by omega), ih (i + 1) k (by omega) (by omega), prevE_succ hlt, okE_cons, rright_eq (l := l[i].f2) (by unfold LM; omega) k (by omega)]
  simp only [Option.bind_some]
  by_cases c1 : l[i].f2.length = 0
  ·
   rw [if_pos (by omega), if_pos c1]
  ·
   rw [if_neg (by omega), if_neg c1]
   by_cases c2 : rightFrom 0 l[i].f2 = true
   ·
    rw [if_pos c2, if_pos c2]
    by_cases c3 : i = 0
    ·
     subst c3
     rw [if_neg (by omega)]
     rfl
    ·
     have hp : i - 1 < l.length := by omega
     have hc : ((i : Int) - 1) = ((i - 1 : Nat) : Int) := by omega
     rw [if_pos (by omega), w64p (by omega), hc, if_pos (by omega), if_pos (by omega), rdE hp, rless_eq]
     simp only [Option.bind_some]
     rw [prevE_at c3 hp, behind_some]
     have e : kw l[i].f0 l[i].f1 = keyE l[i] := rfl
     rw [e]
     by_cases c4 : lt (keyE l[i - 1]) (keyE l[i]) = true
     ·
      rw [if_pos c4, if_pos c4]
     ·
      rw [if_neg c4, if_neg c4]
   ·
    rw [if_neg c2, if_neg c2]
theorem srright_eq {l : List E} (hl : small1 l) (k : Nat) (hk : l.length + 110 < k) : r11_Right.f k l = some (okE none l) := by
 have h := srright_l0 hl l.length 0 k (by omega) hk
 rw [List.drop_zero] at h
 exact h
theorem okE_rise : ∀ {l : List E} {p : Option Key}, okE p l = true → Rise l ∧ (∀ q, p = some q → ∀ e ∈ l, lt q (keyE e) = true) ∧ ∀ e ∈ l, e.f2.length ≠ 0 ∧ rightFrom 0 e.f2 = true
 | [], p, _ => ⟨List.Pairwise.nil, (fun _ _ e he => by cases he), (fun e he => by cases he)⟩
 | x :: l, p, h => by
  rw [okE_cons] at h
  by_cases c1 : x.f2.length = 0
  ·
   rw [if_pos c1] at h
   cases h
  ·
   rw [if_neg c1] at h
   by_cases c2 : rightFrom 0 x.f2 = true
   ·
    rw [if_pos c2] at h
    by_cases c3 : behind p (keyE x) = true
    ·
     rw [if_pos c3] at h
     obtain ⟨h1, h2, h3⟩ := okE_rise h
     have h2' := h2 _ rfl
     refine ⟨List.pairwise_cons.2 ⟨h2', h1⟩, ?_, ?_⟩
     ·
      intro q hq e he
      subst hq
      rcases List.mem_cons.1 he with rfl | he
      ·
       exact c3
      ·
       exact lt_trans c3 (h2' e he)
     ·
      intro e he
      rcases List.mem_cons.1 he with rfl | he
      ·
       exact ⟨c1, c2⟩
      ·
       exact h3 e he
    ·
     rw [if_neg c3] at h
     cases h
   ·
    rw [if_neg c2] at h
    cases h
theorem okE_of : ∀ {l : List E} {p : Option Key}, Rise l → (∀ q, p = some q → ∀ e ∈ l, lt q (keyE e) = true) → (∀ e ∈ l, e.f2.length ≠ 0 ∧ rightFrom 0 e.f2 = true) → okE p l = true
 | [], _, _, _, _ => rfl
 | x :: l, p, h1, h2, h3 => by
  have hx := h3 x List.mem_cons_self
  have hp := List.pairwise_cons.1 h1
  rw [okE_cons, if_neg hx.1, if_pos hx.2]
  have hb : behind p (keyE x) = true := by
   cases p with
   | none => rfl
   | some q => exact h2 q rfl x List.mem_cons_self
  rw [if_pos hb]
  exact okE_of hp.2 (fun q hq e he => by cases hq; exact hp.1 e he) (fun e he => h3 e (List.mem_cons_of_mem _ he))
end Go.Proofs.Ytofaindjbhmopaa.Pure
end
section
namespace Go.Proofs.Ytofaindjbhmopaa.Pure
open Go.RowKit Go.Proofs.Ytofaindjbhmopaa.X Go.Proofs.YtofaindjbhmopaaW.PrintWords Go.Proofs.YtofaindjbhmopaaW.PrintLast Go.Proofs.YtofaindjbhmopaaW.PrintMore Go.Proofs.Ytofaindjbhmopaa.Aid
theorem drp_mono {ds : List D} {w f s : Int} (h : drp ds w f = true) (hs : f ≤ s) : drp ds w s = true := by
 unfold drp at h ⊢
 rw [List.any_eq_true] at h ⊢
 obtain ⟨x, hx, h⟩ := h
 rw [Bool.and_eq_true, decide_eq_true_eq] at h
 exact ⟨x, hx, by rw [h.1, Bool.true_and, decide_eq_true_eq]; omega⟩
def okV (l : List E) : Prop := ∀ e ∈ l, e.f2.length ≠ 0 ∧ rightFrom 0 e.f2 = true
theorem okV_cons {x : E} {l : List E} (h : okV (x :: l)) : (x.f2.length ≠ 0 ∧ rightFrom 0 x.f2 = true) ∧ okV l := ⟨h x List.mem_cons_self, fun e he => h e (List.mem_cons_of_mem _ he)⟩
theorem rdl_prl {f s : Int} (ds : List D) (hs : f ≤ s) : ∀ {l : List E}, okV l → rdl s ds (prl f ds l) = rdl s ds l
 | [], _ => rfl
 | x :: l, h => by
  obtain ⟨hx, hl⟩ := okV_cons h
  have ih := rdl_prl ds hs hl
  rw [prl_cons, rdl_cons (l := l)]
  by_cases c : drp ds x.f0 f = true
  ·
   rw [if_pos c, if_pos (drp_mono c hs), ih]
  ·
   rw [if_neg c, rdl_cons, ih]
   dsimp only
   rw [pruned_at hx.2 hs]
theorem prl_prl {f g : Int} (ds : List D) (hs : f ≤ g) : ∀ {l : List E}, okV l → prl g ds (prl f ds l) = prl g ds l
 | [], _ => rfl
 | x :: l, h => by
  obtain ⟨hx, hl⟩ := okV_cons h
  have ih := prl_prl ds hs hl
  rw [prl_cons, prl_cons g ds x l]
  by_cases c : drp ds x.f0 f = true
  ·
   rw [if_pos c, if_pos (drp_mono c hs), ih]
  ·
   rw [if_neg c, prl_cons, ih]
   dsimp only
   rw [pruned_two hx.2 hs]
theorem prl_mem {f : Int} {ds : List D} : ∀ {l : List E} {e : E}, e ∈ prl f ds l → ∃ x ∈ l, keyE e = keyE x ∧ e.f2 = pruned f x.f2
 | x :: l, e, h => by
  rw [prl_cons] at h
  by_cases c : drp ds x.f0 f = true
  ·
   rw [if_pos c] at h
   obtain ⟨y, hy, h1⟩ := prl_mem h
   exact ⟨y, List.mem_cons_of_mem _ hy, h1⟩
  ·
   rw [if_neg c] at h
   rcases List.mem_cons.1 h with rfl | h
   ·
    exact ⟨x, List.mem_cons_self, rfl, rfl⟩
   ·
    obtain ⟨y, hy, h1⟩ := prl_mem h
    exact ⟨y, List.mem_cons_of_mem _ hy, h1⟩
theorem prl_rise {f : Int} {ds : List D} : ∀ {l : List E}, Rise l → Rise (prl f ds l)
 | [], _ => List.Pairwise.nil
 | x :: l, h => by
  have hp := List.pairwise_cons.1 h
  have ih := prl_rise (f := f) (ds := ds) hp.2
  rw [prl_cons]
  by_cases c : drp ds x.f0 f = true
  ·
   rw [if_pos c]
   exact ih
  ·
   rw [if_neg c]
   refine List.pairwise_cons.2 ⟨fun e he => ?_, ih⟩
   obtain ⟨y, hy, h1, _⟩ := prl_mem he
   rw [h1]
   exact hp.1 y hy
theorem prl_ok {f : Int} {ds : List D} {l : List E} (h : okE none l = true) : okE none (prl f ds l) = true := by
 obtain ⟨h1, _, h3⟩ := okE_rise h
 refine okE_of (prl_rise h1) (fun q hq => by cases hq) (fun e he => ?_)
 obtain ⟨y, hy, _, h2⟩ := prl_mem he
 rw [h2]
 exact ⟨pruned_ne (h3 y hy).2 (h3 y hy).1, pruned_right (h3 y hy).2⟩
end Go.Proofs.Ytofaindjbhmopaa.Pure
end
section
namespace Go.Proofs.Ytofaindjbhmopaa.Pure
open Go.RowKit Go.Proofs.Ytofaindjbhmopaa.X Go.Proofs.YtofaindjbhmopaaW.PrintWords Go.Proofs.YtofaindjbhmopaaW.PrintLast Go.Proofs.YtofaindjbhmopaaW.PrintMore Go.Proofs.Ytofaindjbhmopaa.Aid
theorem items_l0 {l : List I} (hn : l.length ≤ 101) (d : Nat) : ∀ (i k : Nat), i + d = l.length → d < k → r08_Items.l0 k l l (i : Int) = some true := by
 induction d with
 | zero =>
  intro i k hi hk
  obtain ⟨k, rfl⟩ := succ_of hk
  simp only [r08_Items.l0]
  rw [if_neg (by omega)]
 | succ d ih =>
  intro i k hi hk
  obtain ⟨k, rfl⟩ := succ_of hk
  have hlt : i < l.length := by omega
  simp only [r08_Items.l0]
  rw [if_pos (by omega), if_pos (by omega), if_pos (by omega), w64s (by omega), ih (i + 1) k (by omega) (by omega)]
  rw [if_neg (by simp)]
theorem items_eq {l : List I} (hn : l.length ≤ 101) (k : Nat) (hk : l.length < k) : r08_Items.f k l l = some true := by
 unfold r08_Items.f
 rw [if_pos rfl]
 exact items_l0 hn l.length 0 k (by omega) hk
end Go.Proofs.Ytofaindjbhmopaa.Pure
end
section
namespace Go.Proofs.Ytofaindjbhmopaa.Pure
open Go.RowKit Go.Proofs.Ytofaindjbhmopaa.X Go.Proofs.YtofaindjbhmopaaW.PrintWords Go.Proofs.YtofaindjbhmopaaW.PrintLast Go.Proofs.YtofaindjbhmopaaW.PrintMore Go.Proofs.Ytofaindjbhmopaa.Aid
def neE (x y : W) : Bool := (!(x.f0 == y.f0) || ((!(x.f1.f0 == y.f1.f0) || ((!(x.f1.f1.f0 == y.f1.f1.f0) || (!(x.f1.f1.f1 == y.f1.f1.f1))) || (!(x.f1.f2 == y.f1.f2) || (!(x.f1.f3 == y.f1.f3)))))))
theorem neE_self (x : W) : neE x x = false := by simp [neE]
def eqs : List W → List W → Bool
 | x :: l, y :: m => if neE x y = true then false else eqs l m
 | _, _ => true
theorem eqs_cons (x y : W) (l m : List W) : eqs (x :: l) (y :: m) = if neE x y = true then false else eqs l m := rfl
def same (l m : List W) : Bool := if l.length = m.length then eqs l m else false
theorem eqs_self (l : List W) : eqs l l = true := by
 induction l with
 | nil => rfl
 | cons x l ih => rw [eqs_cons, neE_self, if_neg (by simp), ih]
theorem same_self (l : List W) : same l l = true := by rw [same, if_pos rfl, eqs_self]
theorem rsame_l0 {l m : List W} (hn : l.length < LM) (he : l.length = m.length) (d : Nat) : ∀ (i k : Nat), i + d = l.length → d < k → r10_Same.l0 k l m (i : Int) = some (eqs (l.drop i) (m.drop i)) := by
 have hn' := hn
 unfold LM at hn'
 induction d with
 | zero =>
  intro i k hi hk
  obtain ⟨k, rfl⟩ := succ_of hk
  simp only [r10_Same.l0]
  rw [if_neg (by omega), List.drop_of_length_le (by omega)]
  rfl
 | succ d ih =>
  intro i k hi hk
  obtain ⟨k, rfl⟩ := succ_of hk
  have hlt : i < l.length := by omega
  have hlm : i < m.length := by omega
  simp only [r10_Same.l0]
  rw [if_pos (by omega), if_pos (by omega), if_pos (by omega), rdW hlt, rdW hlm, drop_at hlt, drop_at hlm, w64s (by omega), ih (i + 1) k (by omega) (by omega)]
  rw [eqs_cons]
  unfold neE
  by_cases h : (!(l[i].f0 == m[i].f0) || ((!(l[i].f1.f0 == m[i].f1.f0) || ((!(l[i].f1.f1.f0 == m[i].f1.f1.f0) || (!(l[i].f1.f1.f1 == m[i].f1.f1.f1))) || (!(l[i].f1.f2 == m[i].f1.f2) || (!(l[i].f1.f3 == m[i].f1.f3))))))) = true
  ·
   rw [if_pos h, if_pos h]
  ·
   rw [if_neg h, if_neg h]
theorem rsame_eq {l m : List W} (hn : l.length < LM) (k : Nat) (hk : l.length < k) : r10_Same.f k l m = some (same l m) := by
 unfold r10_Same.f same
 by_cases h : l.length = m.length
 ·
  have h0 := rsame_l0 hn h l.length 0 k (by omega) hk
  rw [show ((0 : Nat) : Int) = 0 from rfl] at h0
  rw [if_pos (by omega), if_pos h, h0]
  rfl
 ·
  rw [if_neg (by omega), if_neg h]
def eqE : List E → List E → Bool
 | x :: l, y :: m => if x.f0 = y.f0 ∧ x.f1 = y.f1 ∧ same x.f2 y.f2 = true then eqE l m else false
 | _, _ => true
theorem eqE_cons (x y : E) (l m : List E) : eqE (x :: l) (y :: m) = if x.f0 = y.f0 ∧ x.f1 = y.f1 ∧ same x.f2 y.f2 = true then eqE l m else false := rfl
def sameE (l m : List E) : Bool := if l.length = m.length then eqE l m else false
theorem eqE_self (l : List E) : eqE l l = true := by
 induction l with
 | nil => rfl
 | cons x l ih => rw [eqE_cons, if_pos ⟨rfl, rfl, same_self _⟩, ih]
theorem sameE_self (l : List E) : sameE l l = true := by rw [sameE, if_pos rfl, eqE_self]
theorem ba_toList {a b : ByteArray} : a.toList = b.toList ↔ a = b := by
 refine ⟨fun h => ?_, fun h => by rw [h]⟩
 rw [ByteArray.toList_eq, ByteArray.toList_eq] at h
 exact ByteArray.ext (Array.toList_inj.1 h)
theorem srsame_l0 {l m : List E} (hl : small l) (he : l.length = m.length) (d : Nat) : ∀ (i k : Nat), i + d = l.length → d + 101 < k → r11_Same.l0 k (i : Int) l m = some (eqE (l.drop i) (m.drop i)) := by
 have hn := hl.1
 induction d with
 | zero =>
  intro i k hi hk
  obtain ⟨k, rfl⟩ := succ_of hk
  simp only [r11_Same.l0]
  rw [if_neg (by omega), List.drop_of_length_le (by omega)]
  rfl
 | succ d ih =>
  intro i k hi hk
  obtain ⟨k, rfl⟩ := succ_of hk
  have hlt : i < l.length := by omega
  have hlm : i < m.length := by omega
  have hs := small_at hl hlt
  simp only [r11_Same.l0]
  rw [if_pos (by omega), if_pos (by omega), if_pos (by omega), rdE hlt, rdE hlm, drop_at hlt, drop_at hlm, w64s (by omega), ih (i + 1) k (by omega) (by omega), rsame_eq (l := l[i].f2) (by unfold LM; omega) k (by omega), eqE_cons]
  simp only [Option.bind_some]
  by_cases c1 : l[i].f0 = m[i].f0
  ·
   rw [if_pos c1]
   by_cases c2 : l[i].f1 = m[i].f1
   ·
    rw [if_pos (ba_toList.2 c2)]
    by_cases c3 : same l[i].f2 m[i].f2 = true
    ·
     rw [if_pos c3, if_pos ⟨c1, c2, c3⟩]
    ·
     rw [if_neg c3, if_neg (fun h => c3 h.2.2)]
   ·
    rw [if_neg (fun h => c2 (ba_toList.1 h)), if_neg (fun h => c2 h.2.1)]
  ·
   rw [if_neg c1, if_neg (fun h => c1 h.1)]
theorem srsame_eq {l m : List E} (hl : small l) (k : Nat) (hk : l.length + 101 < k) : r11_Same.f k l m = some (sameE l m) := by
 unfold r11_Same.f sameE
 by_cases h : l.length = m.length
 ·
  have h0 := srsame_l0 hl h l.length 0 k (by omega) hk
  rw [show ((0 : Nat) : Int) = 0 from rfl] at h0
  rw [if_pos (by omega), if_pos h, h0]
  rfl
 ·
  rw [if_neg (by omega), if_neg h]
end Go.Proofs.Ytofaindjbhmopaa.Pure
end
section
namespace Go.Proofs.Ytofaindjbhmopaa.Pure
open Go.RowKit Go.Proofs.Ytofaindjbhmopaa.X Go.Proofs.YtofaindjbhmopaaW.PrintWords Go.Proofs.YtofaindjbhmopaaW.PrintLast Go.Proofs.YtofaindjbhmopaaW.PrintMore Go.Proofs.Ytofaindjbhmopaa.Aid
theorem alive_eq (k : Nat) (hk : 30 ≤ k) : w11_alive.f k = some true :=
 at_rounds (g := fun k => w11_alive.f k) w11_alive.mono hk (by decide +kernel)
theorem j0_true (ds : List D) (l : List E) (a b : Int) (k : Nat) (hk : 0 < k) : w11_ShardStays.j0 k ds true l a b = some true := by
 obtain ⟨k, rfl⟩ := succ_of hk
 simp only [w11_ShardStays.j0]
 rfl
theorem mnx (a b : Int) : mn a b ≤ mx a b := by
 unfold mn mx
 split <;> split <;> omega
theorem j0_false (ds : List D) {l : List E} (hl : small l) (h : okE none l = true) (a b : Int) (k : Nat) (hk : 600 < k) : w11_ShardStays.j0 k ds false l a b = some true := by
 obtain ⟨k, rfl⟩ := succ_of hk
 have hn := hl.1
 obtain ⟨_, _, hv⟩ := okE_rise h
 have hm := mnx a b
 simp only [w11_ShardStays.j0]
 generalize mn a b = f at hm ⊢
 generalize mx a b = g at hm ⊢
 have hp := prl_small (f := f) (ds := ds) hl
 have hq := prl_small (f := g) (ds := ds) hl
 have hpl := hp.1
 have hql := hq.1
 have e1 := rdl_prl (f := f) (s := g) ds hm hv
 have e2 := rdl_prl (f := f) (s := f) ds (Int.le_refl _) hv
 have e3 := prl_prl (f := f) (g := g) ds hm hv
 have le1 := rdl_le g ds l
 have le2 := rdl_le f ds l
 rw [if_neg (by simp), sprune_eq hl f ds k (by omega)]
 simp only [Option.bind_some]
 rw [sprune_eq hp g ds k (by omega), srright_eq hp.one k (by omega), prl_ok h, read_eq hp.one g ds k (by omega), e1, read_eq hl.one g ds k (by omega)]
 simp only [Option.bind_some, if_true]
 rw [items_eq (by omega) k (by omega)]
 simp only [Option.bind_some, if_true]
 rw [read_eq hp.one f ds k (by omega), e2, read_eq hl.one f ds k (by omega)]
 simp only [Option.bind_some]
 rw [items_eq (by omega) k (by omega), sprune_eq hl g ds k (by omega), e3]
 simp only [Option.bind_some, if_true]
 rw [srsame_eq hq k (by omega), sameE_self]
 rfl
theorem ShardStays : w11_ShardStays.Pure := by
 intro x0 x1 ds _ _ _ _
 obtain ⟨K, hK⟩ : ∃ K : Nat, K = 700 := ⟨_, rfl⟩
 refine ⟨K, ?_⟩
 unfold w11_ShardStays.f
 rw [alive_eq K (by omega)]
 simp only [Option.bind_some, if_true]
 rcases great_or x0.f0 K (by omega) with hg | ⟨hg, hl⟩
 ·
  rw [hg]
  simp only [Option.bind_some, if_true]
  exact j0_true _ _ _ _ K (by omega)
 ·
  rw [hg]
  simp only [Option.bind_some]
  rw [if_neg (by simp)]
  by_cases c : (ds.length : Int) > 50
  ·
   rw [if_pos c]
   exact j0_true _ _ _ _ K (by omega)
  ·
   have hn := hl.1
   rw [if_neg c, srright_eq hl.one K (by omega)]
   simp only [Option.bind_some]
   by_cases c2 : okE none x0.f0 = true
   ·
    rw [c2]
    exact j0_false ds hl c2 _ _ K (by omega)
   ·
    rw [Bool.eq_false_iff.2 c2]
    exact j0_true _ _ _ _ K (by omega)
end Go.Proofs.Ytofaindjbhmopaa.Pure
end
