/- Plain facts on what the printed functions compute, joined; each says its conditions. -/
import Derived.Test.YtofaindjbhmopaaM1
import Derived.Test.YtofaindjbhmopaaM8
import Derived.Test.YtofaindjbhmopaaM5
import Derived.Test.YtofaindjbhmopaaM10
import Derived.Test.YtofaindjbhmopaaM9
import Derived.Test.YtofaindjbhmopaaM4
import Derived.Test.YtofaindjbhmopaaM6
import Derived.Test.YtofaindjbhmopaaM13
section
namespace Go.Proofs.Ytofaindjbhmopaa.Pure
open Go.RowKit Go.Proofs.Ytofaindjbhmopaa.X Go.Proofs.YtofaindjbhmopaaW.PrintWords Go.Proofs.YtofaindjbhmopaaW.PrintLast Go.Proofs.YtofaindjbhmopaaW.PrintMore Go.Proofs.Ytofaindjbhmopaa.Aid
abbrev W := S82
theorem rdW {l : List W} {i : Nat} (h : i < l.length) : rd_T82 l (i : Int) = l[i] := getD_at h _
def LM : Nat := 2932031007402
abbrev E := S59
theorem rdE {l : List E} {i : Nat} (h : i < l.length) : rd_T59 l (i : Int) = l[i] := getD_at h _
def small (l : List E) : Prop := l.length ≤ 100 ∧ ∀ e ∈ l, e.f2.length ≤ 100 ∧ e.f1.size ≤ 300
theorem small_at {l : List E} (h : small l) {i : Nat} (hi : i < l.length) : l[i].f2.length ≤ 100 := (h.2 _ (List.getElem_mem hi)).1
def great (l : List E) : Bool := l.any fun e => decide (e.f2.length > 100) || decide (e.f1.size > 300)
theorem great_l0 {l : List E} (hn : l.length ≤ 100) (d : Nat) : ∀ (i k : Nat), i + d = l.length → d < k → r11_Great.l0 k (i : Int) l = some (great (l.drop i)) := by
 induction d with
 | zero =>
  intro i k hi hk
  obtain ⟨k, rfl⟩ := succ_of hk
  simp only [r11_Great.l0]
  rw [if_neg (by omega), List.drop_of_length_le (by omega)]
  rfl
 | succ d ih =>
  intro i k hi hk
  obtain ⟨k, rfl⟩ := succ_of hk
  have hlt : i < l.length := by omega
  simp only [r11_Great.l0]
  rw [if_pos (by omega), if_pos (by omega), rdE hlt, drop_at hlt, w64s (by omega), ih (i + 1) k (by omega) (by omega)]
  by_cases c1 : ((l[i].f2).length : Int) > 100
  ·
   rw [if_pos c1]
   have c2 : l[i].f2.length > 100 := by omega
   simp only [great, List.any_cons, decide_eq_true c2, Bool.true_or]
  ·
   rw [if_neg c1]
   have c2 : ¬ l[i].f2.length > 100 := by omega
   by_cases c3 : ((l[i].f1).size : Int) > 300
   ·
    rw [if_pos c3]
    have c4 : l[i].f1.size > 300 := by omega
    simp only [great, List.any_cons, decide_eq_true c4, Bool.or_true, Bool.true_or]
   ·
    rw [if_neg c3]
    have c4 : ¬ l[i].f1.size > 300 := by omega
    simp only [great, List.any_cons, decide_eq_false c2, decide_eq_false c4, Bool.or_self, Bool.false_or]
theorem great_or (l : List E) (k : Nat) (hk : 100 < k) : r11_Great.f k l = some true ∨ (r11_Great.f k l = some false ∧ small l) := by
 unfold r11_Great.f
 by_cases h : (l.length : Int) > 100
 ·
  exact .inl (if_pos h)
 ·
  rw [if_neg h]
  have h0 := great_l0 (l := l) (by omega) l.length 0 k (by omega) (by omega)
  rw [show ((0 : Nat) : Int) = 0 from rfl, List.drop_zero] at h0
  rw [h0]
  cases hg : great l with
  | true => exact .inl rfl
  | false =>
   refine .inr ⟨rfl, by omega, fun e he => ?_⟩
   have := List.any_eq_false.1 hg e he
   simp only [Bool.or_eq_true, decide_eq_true_eq, not_or] at this
   omega
end Go.Proofs.Ytofaindjbhmopaa.Pure
end
section
namespace Go.Proofs.Ytofaindjbhmopaa.Pure
open Go.RowKit Go.Proofs.Ytofaindjbhmopaa.X Go.Proofs.YtofaindjbhmopaaW.PrintWords Go.Proofs.YtofaindjbhmopaaW.PrintLast Go.Proofs.YtofaindjbhmopaaW.PrintMore Go.Proofs.Ytofaindjbhmopaa.Aid
def nw (s : Int) : Nat → Int → List W → Int
 | _, acc, [] => acc
 | i, acc, x :: l => nw s (i + 1) (if x.f0 ≤ s then (i : Int) else acc) l
theorem nw_cons (s : Int) (i : Nat) (acc : Int) (x : W) (l : List W) : nw s i acc (x :: l) = nw s (i + 1) (if x.f0 ≤ s then (i : Int) else acc) l := rfl
theorem nw_app (s : Int) (a c : List W) : ∀ (i : Nat) (acc : Int), nw s i acc (a ++ c) = nw s (i + a.length) (nw s i acc a) c := by
 induction a with
 | nil => intro i acc; rfl
 | cons x a ih =>
  intro i acc
  rw [List.cons_append, nw_cons, ih, nw_cons, List.length_cons]
  congr 1
  omega
theorem nw_take {l : List W} {i : Nat} (h : i < l.length) (s : Int) : nw s 0 (-1) (l.take (i + 1)) = if l[i].f0 ≤ s then (i : Int) else nw s 0 (-1) (l.take i) := by
 rw [take_at h, nw_app, List.length_take, Nat.min_eq_left (by omega), nw_cons, Nat.zero_add]
 rfl
theorem newest_l0 {l : List W} (hn : l.length < LM) (s : Int) : ∀ (i k : Nat), i ≤ l.length → i < k → chain_newest.l0 k l s ((i : Int) - 1) = some (nw s 0 (-1) (l.take i)) := by
 have hn' := hn
 unfold LM at hn'
 intro i
 induction i with
 | zero =>
  intro k _ hk
  obtain ⟨k, rfl⟩ := succ_of hk
  simp only [chain_newest.l0]
  rw [if_neg (by omega)]
  rfl
 | succ i ih =>
  intro k hi hk
  obtain ⟨k, rfl⟩ := succ_of hk
  have hlt : i < l.length := by omega
  have hc : (((i + 1 : Nat) : Int) - 1) = (i : Int) := by omega
  simp only [chain_newest.l0]
  rw [hc, if_pos (by omega), if_pos (by omega), if_pos (by omega), rdW hlt, w64p (by omega), ih k (by omega) (by omega), nw_take hlt]
  by_cases h : l[i].f0 ≤ s
  ·
   rw [if_pos h, if_pos h]
  ·
   rw [if_neg h, if_neg h]
theorem newest_eq {l : List W} (hn : l.length < LM) (s : Int) (k : Nat) (hk : l.length < k) : chain_newest.f k l s = some (nw s 0 (-1) l) := by
 have hn' := hn
 unfold LM at hn'
 unfold chain_newest.f
 rw [w64p (by omega), newest_l0 hn s l.length k (Nat.le_refl _) hk, List.take_length]
end Go.Proofs.Ytofaindjbhmopaa.Pure
end
section
namespace Go.Proofs.Ytofaindjbhmopaa.Pure
open Go.RowKit Go.Proofs.Ytofaindjbhmopaa.X Go.Proofs.YtofaindjbhmopaaW.PrintWords Go.Proofs.YtofaindjbhmopaaW.PrintLast Go.Proofs.YtofaindjbhmopaaW.PrintMore Go.Proofs.Ytofaindjbhmopaa.Aid
abbrev D := S39
theorem rdD {l : List D} {i : Nat} (h : i < l.length) : rd_T39 l (i : Int) = l[i] := getD_at h _
def drp (ds : List D) (w s : Int) : Bool := ds.any fun x => x.f0 == w && decide (x.f1 ≤ s)
theorem drop_eq (ds : List D) (w s : Int) : shard_dropped.f ds w s = some (drp ds w s) := rfl
theorem rdrop_l0 {ds : List D} (hn : ds.length < LM) (w s : Int) (d : Nat) : ∀ (i k : Nat), i + d = ds.length → d < k → r11_Dropped.l0 k ds w s (i : Int) = some (drp (ds.drop i) w s) := by
 unfold LM at hn
 induction d with
 | zero =>
  intro i k hi hk
  obtain ⟨k, rfl⟩ := succ_of hk
  simp only [r11_Dropped.l0]
  rw [if_neg (by omega), List.drop_of_length_le (by omega)]
  rfl
 | succ d ih =>
  intro i k hi hk
  obtain ⟨k, rfl⟩ := succ_of hk
  have hlt : i < ds.length := by omega
  simp only [r11_Dropped.l0]
  rw [if_pos (by omega), if_pos (by omega), rdD hlt, drop_at hlt, w64s (by omega), ih (i + 1) k (by omega) (by omega)]
  unfold drp
  rw [List.any_cons]
  by_cases c1 : ds[i].f0 = w
  ·
   rw [if_pos c1, beq_iff_eq.2 c1]
   by_cases c2 : ds[i].f1 ≤ s
   ·
    rw [if_pos c2, decide_eq_true c2]
    rfl
   ·
    rw [if_neg c2, decide_eq_false c2]
    rfl
  ·
   rw [if_neg c1, beq_eq_false_iff_ne.2 c1]
   rfl
theorem rdrop_eq {ds : List D} (hn : ds.length < LM) (w s : Int) (k : Nat) (hk : ds.length < k) : r11_Dropped.f k ds w s = some (drp ds w s) := rdrop_l0 hn w s ds.length 0 k (by omega) hk
end Go.Proofs.Ytofaindjbhmopaa.Pure
end
section
namespace Go.Proofs.Ytofaindjbhmopaa.Pure
open Go.RowKit Go.Proofs.Ytofaindjbhmopaa.X Go.Proofs.YtofaindjbhmopaaW.PrintWords Go.Proofs.YtofaindjbhmopaaW.PrintLast Go.Proofs.YtofaindjbhmopaaW.PrintMore Go.Proofs.Ytofaindjbhmopaa.Aid
def prn (f n : Int) : Nat → List W → List W
 | _, [] => []
 | i, x :: l => if (i : Int) = n then x :: prn f n (i + 1) l else if x.f0 > f then x :: prn f n (i + 1) l else prn f n (i + 1) l
theorem prn_cons (f n : Int) (i : Nat) (x : W) (l : List W) : prn f n i (x :: l) = if (i : Int) = n then x :: prn f n (i + 1) l else if x.f0 > f then x :: prn f n (i + 1) l else prn f n (i + 1) l := rfl
theorem prn_le (f n : Int) (l : List W) : ∀ i, (prn f n i l).length ≤ l.length := by
 induction l with
 | nil => exact fun _ => Nat.le_refl _
 | cons x l ih =>
  intro i
  have h := ih (i + 1)
  rw [prn_cons]
  split
  ·
   simp only [List.length_cons]; omega
  ·
   split <;> simp only [List.length_cons] <;> omega
def pruned (f : Int) (l : List W) : List W := prn f (nw f 0 (-1) l) 0 l
theorem prune_l0 {l : List W} (hn : l.length < LM) (f n : Int) (d : Nat) : ∀ (i k : Nat) (acc : List W), i + d = l.length → d < k → acc.length ≤ i →
 chain_Prune.l0 k f acc n l (l.length : Int) (i : Int) = some (acc ++ prn f n i (l.drop i)) := by
 have hn' := hn
 unfold LM at hn'
 induction d with
 | zero =>
  intro i k acc hi hk _
  obtain ⟨k, rfl⟩ := succ_of hk
  simp only [chain_Prune.l0]
  rw [if_neg (by omega), List.drop_of_length_le (by omega), prn, List.append_nil]
 | succ d ih =>
  intro i k acc hi hk ha
  obtain ⟨k, rfl⟩ := succ_of hk
  have hlt : i < l.length := by omega
  have h1 := ih (i + 1) k (acc ++ [l[i]]) (by omega) (by omega) (by rw [List.length_append, List.length_singleton]; omega)
  rw [List.append_assoc, List.singleton_append] at h1
  simp only [chain_Prune.l0]
  rw [if_pos (by omega), if_pos (by omega), if_pos (by omega), rdW hlt, drop_at hlt, w64s (by omega), prn_cons, if_pos (show acc.length < 2932031007402 by omega), ih (i + 1) k acc (by omega) (by omega) (by omega)]
  by_cases c1 : (i : Int) = n
  ·
   rw [if_pos c1, if_pos c1]
   exact h1
  ·
   rw [if_neg c1, if_neg c1]
   by_cases c2 : l[i].f0 > f
   ·
    rw [if_pos c2, if_pos c2]
    exact h1
   ·
    rw [if_neg c2, if_neg c2]
theorem prune_eq {l : List W} (hn : l.length < LM) (f : Int) (k : Nat) (hk : l.length < k) : chain_Prune.f k l f = some (pruned f l) := by
 unfold chain_Prune.f
 rw [newest_eq hn f k hk]
 exact prune_l0 hn f _ l.length 0 k [] (by omega) hk (Nat.le_refl _)
theorem rprune_l1 {l : List W} (hn : l.length < LM) (f n : Int) (d : Nat) : ∀ (i k : Nat) (acc : List W), i + d = l.length → d < k → acc.length ≤ i →
 r10_Prune.l1 k l f n acc (i : Int) = some (acc ++ prn f n i (l.drop i)) := by
 have hn' := hn
 unfold LM at hn'
 induction d with
 | zero =>
  intro i k acc hi hk _
  obtain ⟨k, rfl⟩ := succ_of hk
  simp only [r10_Prune.l1]
  rw [if_neg (by omega), List.drop_of_length_le (by omega), prn, List.append_nil]
 | succ d ih =>
  intro i k acc hi hk ha
  obtain ⟨k, rfl⟩ := succ_of hk
  have hlt : i < l.length := by omega
  have h1 := ih (i + 1) k (acc ++ [l[i]]) (by omega) (by omega) (by rw [List.length_append, List.length_singleton]; omega)
  rw [List.append_assoc, List.singleton_append] at h1
  simp only [r10_Prune.l1]
  rw [if_pos (by omega), if_pos (by omega), rdW hlt, drop_at hlt, w64s (by omega), prn_cons, if_pos (show acc.length < 2932031007402 by omega), ih (i + 1) k acc (by omega) (by omega) (by omega)]
  by_cases c1 : (i : Int) = n
  ·
   rw [if_pos c1, if_pos c1]
   by_cases c2 : l[i].f0 > f
   ·
    rw [if_pos c2]
    exact h1
   ·
    rw [if_neg c2]
    exact h1
  ·
   rw [if_neg c1, if_neg c1]
   by_cases c2 : l[i].f0 > f
   ·
    rw [if_pos c2, if_pos c2]
    exact h1
   ·
    rw [if_neg c2, if_neg c2]
theorem rprune_l0 {l : List W} (hn : l.length < LM) (f : Int) (d : Nat) : ∀ (i k : Nat), i + d = l.length → d + l.length + 1 < k →
 r10_Prune.l0 k l f (nw f 0 (-1) (l.take i)) (i : Int) = some (pruned f l) := by
 have hn' := hn
 unfold LM at hn'
 induction d with
 | zero =>
  intro i k hi hk
  obtain ⟨k, rfl⟩ := succ_of hk
  simp only [r10_Prune.l0]
  rw [if_neg (by omega), List.take_of_length_le (by omega)]
  exact rprune_l1 hn f _ l.length 0 k [] (by omega) (by omega) (Nat.le_refl _)
 | succ d ih =>
  intro i k hi hk
  obtain ⟨k, rfl⟩ := succ_of hk
  have hlt : i < l.length := by omega
  have h1 := ih (i + 1) k (by omega) (by omega)
  rw [nw_take hlt] at h1
  simp only [r10_Prune.l0]
  rw [if_pos (by omega), if_pos (by omega), rdW hlt, w64s (by omega)]
  by_cases c1 : l[i].f0 ≤ f
  ·
   rw [if_pos c1] at h1 ⊢
   exact h1
  ·
   rw [if_neg c1] at h1 ⊢
   exact h1
theorem rprune_eq {l : List W} (hn : l.length < LM) (f : Int) (k : Nat) (hk : l.length + l.length + 1 < k) : r10_Prune.f k l f = some (pruned f l) :=
 rprune_l0 hn f l.length 0 k (by omega) hk
theorem pruned_le (f : Int) (l : List W) : (pruned f l).length ≤ l.length := prn_le _ _ _ _
def prl (f : Int) (ds : List D) : List E → List E
 | [] => []
 | e :: l => if drp ds e.f0 f = true then prl f ds l else ⟨e.f0, e.f1, pruned f e.f2⟩ :: prl f ds l
theorem prl_cons (f : Int) (ds : List D) (e : E) (l : List E) : prl f ds (e :: l) = if drp ds e.f0 f = true then prl f ds l else ⟨e.f0, e.f1, pruned f e.f2⟩ :: prl f ds l := rfl
theorem prl_le (f : Int) (ds : List D) : ∀ l : List E, (prl f ds l).length ≤ l.length
 | [] => Nat.le_refl _
 | e :: l => by
  have := prl_le f ds l
  rw [prl_cons]
  split <;> simp only [List.length_cons] <;> omega
theorem prl_small {f : Int} {ds : List D} {l : List E} (h : small l) : small (prl f ds l) := by
 refine ⟨Nat.le_trans (prl_le f ds l) h.1, ?_⟩
 have h2 := h.2
 clear h
 induction l with
 | nil => intro e he; cases he
 | cons x l ih =>
  have ih' := ih (fun e he => h2 e (List.mem_cons_of_mem _ he))
  intro e he
  rw [prl_cons] at he
  by_cases c : drp ds x.f0 f = true
  ·
   rw [if_pos c] at he
   exact ih' e he
  ·
   rw [if_neg c] at he
   rcases List.mem_cons.1 he with rfl | he
   ·
    have := h2 x List.mem_cons_self
    exact ⟨Nat.le_trans (pruned_le f x.f2) this.1, this.2⟩
   ·
    exact ih' e he
theorem sprune_l0 {l : List E} (hl : small l) (f : Int) (ds : List D) (d : Nat) : ∀ (i k : Nat) (acc : List E), i + d = l.length → d + 101 < k → acc.length ≤ i →
 shard_Prune.l0 k f ds l (l.length : Int) (i : Int) acc = some (acc ++ prl f ds (l.drop i)) := by
 have hn := hl.1
 induction d with
 | zero =>
  intro i k acc hi hk _
  obtain ⟨k, rfl⟩ := succ_of hk
  simp only [shard_Prune.l0]
  rw [if_neg (by omega), List.drop_of_length_le (by omega), prl, List.append_nil]
 | succ d ih =>
  intro i k acc hi hk ha
  obtain ⟨k, rfl⟩ := succ_of hk
  have hlt : i < l.length := by omega
  have hs := small_at hl hlt
  have h1 := ih (i + 1) k (acc ++ [⟨l[i].f0, l[i].f1, pruned f l[i].f2⟩]) (by omega) (by omega) (by rw [List.length_append, List.length_singleton]; omega)
  rw [List.append_assoc, List.singleton_append] at h1
  simp only [shard_Prune.l0, drop_eq, Option.bind_some]
  rw [if_pos (by omega), if_pos (by omega), if_pos (by omega), rdE hlt, drop_at hlt, w64s (by omega), prl_cons, ih (i + 1) k acc (by omega) (by omega) (by omega), prune_eq (l := l[i].f2) (by unfold LM; omega) f k (by omega)]
  simp only [Option.bind_some]
  by_cases c1 : drp ds l[i].f0 f = true
  ·
   rw [if_pos c1, if_pos c1]
  ·
   rw [if_neg c1, if_neg c1, if_pos (show acc.length < 2932031007402 by omega)]
   exact h1
theorem sprune_eq {l : List E} (hl : small l) (f : Int) (ds : List D) (k : Nat) (hk : l.length + 101 < k) : shard_Prune.f k l f ds = some (prl f ds l) := by
 have h := sprune_l0 hl f ds l.length 0 k [] (by omega) hk (Nat.zero_le _)
 rw [List.nil_append, List.drop_zero] at h
 exact h
theorem srprune_l0 {l : List E} (hl : small l) (f : Int) {ds : List D} (hd : ds.length < LM) (d : Nat) : ∀ (i k : Nat) (acc : List E), i + d = l.length → d + 202 + ds.length < k → acc.length ≤ i →
 r11_Prune.l0 k f ds acc (i : Int) l = some (acc ++ prl f ds (l.drop i)) := by
 have hn := hl.1
 induction d with
 | zero =>
  intro i k acc hi hk _
  obtain ⟨k, rfl⟩ := succ_of hk
  simp only [r11_Prune.l0]
  rw [if_neg (by omega), List.drop_of_length_le (by omega), prl, List.append_nil]
 | succ d ih =>
  intro i k acc hi hk ha
  obtain ⟨k, rfl⟩ := succ_of hk
  have hlt : i < l.length := by omega
  have hs := small_at hl hlt
  have h1 := ih (i + 1) k (acc ++ [⟨l[i].f0, l[i].f1, pruned f l[i].f2⟩]) (by omega) (by omega) (by rw [List.length_append, List.length_singleton]; omega)
  rw [List.append_assoc, List.singleton_append] at h1
  simp only [r11_Prune.l0]
  rw [if_pos (by omega), if_pos (by omega), rdE hlt, drop_at hlt, w64s (by omega), prl_cons, ih (i + 1) k acc (by omega) (by omega) (by omega), rdrop_eq hd l[i].f0 f k (by omega), rprune_eq (l := l[i].f2) (by unfold LM; omega) f k (by omega)]
  simp only [Option.bind_some]
  by_cases c1 : drp ds l[i].f0 f = true
  ·
   rw [if_pos c1, if_pos c1]
  ·
   rw [if_neg c1, if_neg c1, if_pos (show acc.length < 2932031007402 by omega)]
   exact h1
theorem srprune_eq {l : List E} (hl : small l) (f : Int) {ds : List D} (hd : ds.length < LM) (k : Nat) (hk : l.length + 202 + ds.length < k) : r11_Prune.f k l f ds = some (prl f ds l) := by
 have h := srprune_l0 hl f hd l.length 0 k [] (by omega) hk (Nat.zero_le _)
 rw [List.nil_append, List.drop_zero] at h
 exact h
end Go.Proofs.Ytofaindjbhmopaa.Pure
end
section
namespace Go.Proofs.Ytofaindjbhmopaa.Pure
open Go.RowKit Go.Proofs.Ytofaindjbhmopaa.X Go.Proofs.YtofaindjbhmopaaW.PrintWords Go.Proofs.YtofaindjbhmopaaW.PrintLast Go.Proofs.YtofaindjbhmopaaW.PrintMore Go.Proofs.Ytofaindjbhmopaa.Aid
def neE (x y : W) : Bool := (!(x.f0 == y.f0) || ((!(x.f1.f0 == y.f1.f0) || ((!(x.f1.f1.f0 == y.f1.f1.f0) || (!(x.f1.f1.f1 == y.f1.f1.f1))) || (!(x.f1.f2 == y.f1.f2) || (!(x.f1.f3 == y.f1.f3)))))))
theorem neE_self (x : W) : neE x x = false := by simp [neE]
def eqs : List W → List W → Bool
 | x :: l, y :: m => if neE x y = true then false else eqs l m
 | _, _ => true
theorem eqs_cons (x y : W) (l m : List W) : eqs (x :: l) (y :: m) = if neE x y = true then false else eqs l m := rfl
def same (l m : List W) : Bool := if l.length = m.length then eqs l m else false
theorem eqs_self (l : List W) : eqs l l = true := by
 induction l with
 | nil => rfl
 | cons x l ih => rw [eqs_cons, neE_self, if_neg (by simp), ih]
theorem same_self (l : List W) : same l l = true := by rw [same, if_pos rfl, eqs_self]
theorem rsame_l0 {l m : List W} (hn : l.length < LM) (he : l.length = m.length) (d : Nat) : ∀ (i k : Nat), i + d = l.length → d < k → r10_Same.l0 k l m (i : Int) = some (eqs (l.drop i) (m.drop i)) := by
 have hn' := hn
 unfold LM at hn'
 induction d with
 | zero =>
  intro i k hi hk
  obtain ⟨k, rfl⟩ := succ_of hk
  simp only [r10_Same.l0]
  rw [if_neg (by omega), List.drop_of_length_le (by omega)]
  rfl
 | succ d ih =>
  intro i k hi hk
  obtain ⟨k, rfl⟩ := succ_of hk
  have hlt : i < l.length := by omega
  have hlm : i < m.length := by omega
  simp only [r10_Same.l0]
  rw [if_pos (by omega), if_pos (by omega), if_pos (by omega), rdW hlt, rdW hlm, drop_at hlt, drop_at hlm, w64s (by omega), ih (i + 1) k (by omega) (by omega)]
  rw [eqs_cons]
  unfold neE
  by_cases h : (!(l[i].f0 == m[i].f0) || ((!(l[i].f1.f0 == m[i].f1.f0) || ((!(l[i].f1.f1.f0 == m[i].f1.f1.f0) || (!(l[i].f1.f1.f1 == m[i].f1.f1.f1))) || (!(l[i].f1.f2 == m[i].f1.f2) || (!(l[i].f1.f3 == m[i].f1.f3))))))) = true
  ·
   rw [if_pos h, if_pos h]
  ·
   rw [if_neg h, if_neg h]
theorem rsame_eq {l m : List W} (hn : l.length < LM) (k : Nat) (hk : l.length < k) : r10_Same.f k l m = some (same l m) := by
 unfold r10_Same.f same
 by_cases h : l.length = m.length
 ·
  have h0 := rsame_l0 hn h l.length 0 k (by omega) hk
  rw [show ((0 : Nat) : Int) = 0 from rfl] at h0
  rw [if_pos (by omega), if_pos h, h0]
  rfl
 ·
  rw [if_neg (by omega), if_neg h]
def eqE : List E → List E → Bool
 | x :: l, y :: m => if x.f0 = y.f0 ∧ x.f1 = y.f1 ∧ same x.f2 y.f2 = true then eqE l m else false
 | _, _ => true
theorem eqE_cons (x y : E) (l m : List E) : eqE (x :: l) (y :: m) = if x.f0 = y.f0 ∧ x.f1 = y.f1 ∧ same x.f2 y.f2 = true then eqE l m else false := rfl
def sameE (l m : List E) : Bool := if l.length = m.length then eqE l m else false
theorem eqE_self (l : List E) : eqE l l = true := by
 induction l with
 | nil => rfl
 | cons x l ih => rw [eqE_cons, if_pos ⟨rfl, rfl, same_self _⟩, ih]
theorem sameE_self (l : List E) : sameE l l = true := by rw [sameE, if_pos rfl, eqE_self]
theorem ba_toList {a b : ByteArray} : a.toList = b.toList ↔ a = b := by
 refine ⟨fun h => ?_, fun h => by rw [h]⟩
 rw [ByteArray.toList_eq, ByteArray.toList_eq] at h
 exact ByteArray.ext (Array.toList_inj.1 h)
theorem srsame_l0 {l m : List E} (hl : small l) (he : l.length = m.length) (d : Nat) : ∀ (i k : Nat), i + d = l.length → d + 101 < k → r11_Same.l0 k (i : Int) l m = some (eqE (l.drop i) (m.drop i)) := by
 have hn := hl.1
 induction d with
 | zero =>
  intro i k hi hk
  obtain ⟨k, rfl⟩ := succ_of hk
  simp only [r11_Same.l0]
  rw [if_neg (by omega), List.drop_of_length_le (by omega)]
  rfl
 | succ d ih =>
  intro i k hi hk
  obtain ⟨k, rfl⟩ := succ_of hk
  have hlt : i < l.length := by omega
  have hlm : i < m.length := by omega
  have hs := small_at hl hlt
  simp only [r11_Same.l0]
  rw [if_pos (by omega), if_pos (by omega), if_pos (by omega), rdE hlt, rdE hlm, drop_at hlt, drop_at hlm, w64s (by omega), ih (i + 1) k (by omega) (by omega), rsame_eq (l := l[i].f2) (by unfold LM; omega) k (by omega), eqE_cons]
  simp only [Option.bind_some]
  by_cases c1 : l[i].f0 = m[i].f0
  ·
   rw [if_pos c1]
   by_cases c2 : l[i].f1 = m[i].f1
   ·
    rw [if_pos (ba_toList.2 c2)]
    by_cases c3 : same l[i].f2 m[i].f2 = true
    ·
     rw [if_pos c3, if_pos ⟨c1, c2, c3⟩]
    ·
     rw [if_neg c3, if_neg (fun h => c3 h.2.2)]
   ·
    rw [if_neg (fun h => c2 (ba_toList.1 h)), if_neg (fun h => c2 h.2.1)]
  ·
   rw [if_neg c1, if_neg (fun h => c1 h.1)]
theorem srsame_eq {l m : List E} (hl : small l) (k : Nat) (hk : l.length + 101 < k) : r11_Same.f k l m = some (sameE l m) := by
 unfold r11_Same.f sameE
 by_cases h : l.length = m.length
 ·
  have h0 := srsame_l0 hl h l.length 0 k (by omega) hk
  rw [show ((0 : Nat) : Int) = 0 from rfl] at h0
  rw [if_pos (by omega), if_pos h, h0]
  rfl
 ·
  rw [if_neg (by omega), if_neg h]
end Go.Proofs.Ytofaindjbhmopaa.Pure
end
section
namespace Go.Proofs.Ytofaindjbhmopaa.Ord
open Go.Proofs.Ytofaindjbhmopaa.Bytes
abbrev T := List UInt8
abbrev less (a b : T) : Bool := Op.bytesLess a b
theorem less_cons (a b : UInt8) (x y : T) : less (a :: x) (b :: y) = (decide (a < b) || (a == b && less x y)) := rfl
theorem lt_nat {a b : UInt8} : a < b ↔ a.toNat < b.toNat := UInt8.lt_iff_toNat_lt
theorem eq_nat {a b : UInt8} : a = b ↔ a.toNat = b.toNat := ⟨fun h => by rw [h], fun h => UInt8.toNat_inj.mp h⟩
theorem less_iff (a b : UInt8) (x y : T) : less (a :: x) (b :: y) = true ↔ a.toNat < b.toNat ∨ (a = b ∧ less x y = true) := by
 rw [less_cons, Bool.or_eq_true, Bool.and_eq_true, decide_eq_true_eq, beq_iff_eq, lt_nat]
theorem less_nil (a : T) : less a [] = false := by cases a <;> rfl
theorem nil_less (b : UInt8) (y : T) : less [] (b :: y) = true := rfl
theorem irrefl : ∀ a : T, less a a = false
 | [] => rfl
 | a :: x => by
  rw [Bool.eq_false_iff]
  intro h
  rcases (less_iff a a x x).mp h with h | ⟨_, h⟩
  ·
   omega
  ·
   rw [irrefl x] at h
   cases h
theorem trans : ∀ {a b c : T}, less a b = true → less b c = true → less a c = true
 | _, [], _, h, _ => by rw [less_nil] at h; cases h
 | _, _ :: _, [], _, h => by rw [less_nil] at h; cases h
 | [], _ :: _, c :: z, _, _ => nil_less c z
 | a :: x, b :: y, c :: z, h1, h2 => by
  rw [less_iff] at h1 h2 ⊢
  rcases h1 with h1 | ⟨e1, h1⟩
  ·
   rcases h2 with h2 | ⟨e2, _⟩
   ·
    exact .inl (by omega)
   ·
    rw [eq_nat] at e2
    exact .inl (by omega)
  ·
   subst e1
   rcases h2 with h2 | ⟨e2, h2⟩
   ·
    exact .inl h2
   ·
    exact .inr ⟨e2, trans h1 h2⟩
theorem ne_of {a b : T} (h : less a b = true) : a ≠ b := by
 intro e
 subst e
 rw [irrefl] at h
 cases h
theorem cmp_cases : ∀ a b : T, (less a b = true ∧ Lib.compareBytes a b = -1) ∨ (a = b ∧ Lib.compareBytes a b = 0) ∨ (less b a = true ∧ Lib.compareBytes a b = 1)
 | [], [] => .inr (.inl ⟨rfl, rfl⟩)
 | [], b :: y => .inl ⟨nil_less b y, rfl⟩
 | a :: x, [] => .inr (.inr ⟨nil_less a x, rfl⟩)
 | a :: x, b :: y => by
  unfold Lib.compareBytes
  rcases Nat.lt_trichotomy a.toNat b.toNat with h | h | h
  ·
   exact .inl ⟨(less_iff a b x y).mpr (.inl h), if_pos (lt_nat.mpr h)⟩
  ·
   have e := eq_nat.mpr h
   subst e
   rw [if_neg (fun h => by rw [lt_nat] at h; omega), if_neg (fun h => by rw [lt_nat] at h; omega)]
   rcases cmp_cases x y with ⟨h1, h2⟩ | ⟨h1, h2⟩ | ⟨h1, h2⟩
   ·
    exact .inl ⟨(less_iff a a x y).mpr (.inr ⟨rfl, h1⟩), h2⟩
   ·
    exact .inr (.inl ⟨by rw [h1], h2⟩)
   ·
    exact .inr (.inr ⟨(less_iff a a y x).mpr (.inr ⟨rfl, h1⟩), h2⟩)
  ·
   refine .inr (.inr ⟨(less_iff b a y x).mpr (.inl h), ?_⟩)
   rw [if_neg (fun h2 => by rw [lt_nat] at h2; omega), if_pos (lt_nat.mpr h)]
theorem cmp_zero (a b : T) : (Lib.compareBytes a b = 0) ↔ a = b := by
 rcases cmp_cases a b with ⟨h1, h2⟩ | ⟨h1, h2⟩ | ⟨h1, h2⟩
 ·
  rw [h2]
  exact ⟨fun h => absurd h (by decide), fun h => absurd h (ne_of h1)⟩
 ·
  rw [h2]
  exact ⟨fun _ => h1, fun _ => rfl⟩
 ·
  rw [h2]
  exact ⟨fun h => absurd h (by decide), fun h => absurd h.symm (ne_of h1)⟩
end Go.Proofs.Ytofaindjbhmopaa.Ord
end
section
namespace Go.Proofs.Ytofaindjbhmopaa.Pure
open Go.RowKit Go.Proofs.Ytofaindjbhmopaa.X Go.Proofs.YtofaindjbhmopaaW.PrintWords Go.Proofs.YtofaindjbhmopaaW.PrintLast Go.Proofs.YtofaindjbhmopaaW.PrintMore Go.Proofs.Ytofaindjbhmopaa.Aid
def ordE (w1 : Int) (k1 : ByteArray) (w2 : Int) (k2 : ByteArray) : Int := if w1 < w2 then -1 else if w1 > w2 then 1 else Lib.compareBytes k1.data.toList k2.data.toList
theorem or_two (a b : Int) (k : Nat) (hk : 2 < k) : cmp_Or_int.f k [a, b] = some (if a = 0 then b else a) := by
 obtain ⟨k, rfl⟩ := succ_of hk
 obtain ⟨k, rfl⟩ := succ_of (show 1 < k by omega)
 obtain ⟨k, rfl⟩ := succ_of (show 0 < k by omega)
 have e1 : wrap64 (0 + 1) = 1 := w64 (a := 0 + 1) (by omega) (by omega)
 have e2 : wrap64 (1 + 1) = 2 := w64 (a := 1 + 1) (by omega) (by omega)
 have r0 : rd [a, b] 0 = a := rfl
 have r1 : rd [a, b] 1 = b := rfl
 simp only [cmp_Or_int.f, cmp_Or_int.l0, List.length_cons, List.length_nil, e1, e2, r0, r1]
 by_cases ha : a = 0
 ·
  by_cases hb : b = 0
  ·
   simp [ha, hb]
  ·
   simp [ha, hb]
 ·
  simp [ha]
theorem order_eq (w1 : Int) (k1 : ByteArray) (l1 : List W) (w2 : Int) (k2 : ByteArray) (l2 : List W) (k : Nat) (hk : 2 < k) : shard_order.f k w1 k1 l1 w2 k2 l2 = some (ordE w1 k1 w2 k2) := by
 have h1 : cmp_Compare_int64.f w1 w2 = some (if w1 < w2 then -1 else if w1 > w2 then 1 else 0) := by
  simp only [cmp_Compare_int64.f, cmp_isNaN_int64.f, Option.bind_some, bne_self_eq_false]
  rw [if_neg (by decide), if_neg (by decide)]
  split
  ·
   rfl
  ·
   split <;> rfl
 unfold shard_order.f
 rw [h1]
 simp only [Option.bind_some, strings_Compare.f]
 rw [or_two _ _ k hk]
 simp only [Option.bind_some]
 unfold ordE
 congr 1
 by_cases c1 : w1 < w2
 ·
  simp [c1]
 ·
  by_cases c2 : w1 > w2
  ·
   simp [c1, c2]
  ·
   simp [c1, c2]
theorem ord_zero {w1 : Int} {k1 : ByteArray} {w2 : Int} {k2 : ByteArray} : ordE w1 k1 w2 k2 = 0 ↔ w1 = w2 ∧ k1 = k2 := by
 unfold ordE
 by_cases c1 : w1 < w2
 ·
  rw [if_pos c1]
  exact ⟨fun h => by omega, fun h => by omega⟩
 ·
  rw [if_neg c1]
  by_cases c2 : w1 > w2
  ·
   rw [if_pos c2]
   exact ⟨fun h => by omega, fun h => by omega⟩
  ·
   rw [if_neg c2, Ord.cmp_zero]
   refine ⟨fun h => ⟨by omega, ?_⟩, fun h => by rw [h.2]⟩
   exact ByteArray.ext (Array.toList_inj.1 h)
end Go.Proofs.Ytofaindjbhmopaa.Pure
end
section
namespace Go.Proofs.Ytofaindjbhmopaa.Pure
open Go.RowKit Go.Proofs.Ytofaindjbhmopaa.X Go.Proofs.YtofaindjbhmopaaW.PrintWords Go.Proofs.YtofaindjbhmopaaW.PrintLast Go.Proofs.YtofaindjbhmopaaW.PrintMore Go.Proofs.Ytofaindjbhmopaa.Aid
theorem same_l0 {l m : List W} (hn : l.length < LM) (he : l.length = m.length) (d : Nat) : ∀ (i k : Nat), i + d = l.length → d < k → api_Version_57.l0 k l m (l.length : Int) (i : Int) = some (eqs (l.drop i) (m.drop i)) := by
 have hn' := hn
 unfold LM at hn'
 induction d with
 | zero =>
  intro i k hi hk
  obtain ⟨k, rfl⟩ := succ_of hk
  simp only [api_Version_57.l0]
  rw [if_neg (by omega), List.drop_of_length_le (by omega)]
  rfl
 | succ d ih =>
  intro i k hi hk
  obtain ⟨k, rfl⟩ := succ_of hk
  have hlt : i < l.length := by omega
  have hlm : i < m.length := by omega
  simp only [api_Version_57.l0]
  rw [if_pos (by omega), if_pos (by omega), if_pos (by omega), if_pos (by omega), rdW hlt, rdW hlm, drop_at hlt, drop_at hlm, w64s (by omega), ih (i + 1) k (by omega) (by omega)]
  rw [eqs_cons]
  unfold neE
  by_cases h : (!(l[i].f0 == m[i].f0) || ((!(l[i].f1.f0 == m[i].f1.f0) || ((!(l[i].f1.f1.f0 == m[i].f1.f1.f0) || (!(l[i].f1.f1.f1 == m[i].f1.f1.f1))) || (!(l[i].f1.f2 == m[i].f1.f2) || (!(l[i].f1.f3 == m[i].f1.f3))))))) = true
  ·
   rw [if_pos h, if_pos h]
  ·
   rw [if_neg h, if_neg h]
theorem same_eq {l m : List W} (hn : l.length < LM) (k : Nat) (hk : l.length < k) : chain_Same.f k l m = some (same l m) := by
 unfold chain_Same.f api_Version_57.f same
 by_cases h : l.length = m.length
 ·
  have h0 := same_l0 hn h l.length 0 k (by omega) hk
  rw [show ((0 : Nat) : Int) = 0 from rfl] at h0
  rw [if_pos (by omega), if_pos h, h0]
  rfl
 ·
  rw [if_neg (by omega), if_neg h]
  rfl
theorem same1_eq {x y : E} (h : x.f2.length < LM) (k : Nat) (hk : x.f2.length + 3 < k) : shard_Same_1.f k x.f0 x.f1 x.f2 y.f0 y.f1 y.f2 = some (decide (x.f0 = y.f0 ∧ x.f1 = y.f1 ∧ same x.f2 y.f2 = true)) := by
 unfold shard_Same_1.f
 rw [order_eq _ _ _ _ _ _ k (by omega), same_eq h k (by omega)]
 simp only [Option.bind_some]
 by_cases c : ordE x.f0 x.f1 y.f0 y.f1 = 0
 ·
  rw [if_pos c]
  obtain ⟨c1, c2⟩ := ord_zero.1 c
  congr 1
  cases hh : same x.f2 y.f2 with
  | true => simp [c1, c2]
  | false => simp
 ·
  rw [if_neg c]
  congr 1
  exact (decide_eq_false (fun h => c (ord_zero.2 ⟨h.1, h.2.1⟩))).symm
theorem ssame_l0 {l m : List E} (hl : small l) (he : l.length = m.length) (d : Nat) : ∀ (i k : Nat), i + d = l.length → d + 104 < k → api_Entry_with_43.l0 k m l (l.length : Int) (i : Int) = some (eqE (l.drop i) (m.drop i)) := by
 have hn := hl.1
 induction d with
 | zero =>
  intro i k hi hk
  obtain ⟨k, rfl⟩ := succ_of hk
  simp only [api_Entry_with_43.l0]
  rw [if_neg (by omega), List.drop_of_length_le (by omega)]
  rfl
 | succ d ih =>
  intro i k hi hk
  obtain ⟨k, rfl⟩ := succ_of hk
  have hlt : i < l.length := by omega
  have hlm : i < m.length := by omega
  have hs := small_at hl hlt
  simp only [api_Entry_with_43.l0]
  rw [if_pos (by omega), if_pos (by omega), if_pos (by omega), if_pos (by omega), rdE hlt, rdE hlm, drop_at hlt, drop_at hlm, w64s (by omega), ih (i + 1) k (by omega) (by omega), same1_eq (by unfold LM; omega) k (by omega), eqE_cons]
  simp only [Option.bind_some, decide_eq_true_eq]
  split <;> rfl
theorem ssame_eq {l m : List E} (hl : small l) (k : Nat) (hk : l.length + 104 < k) : shard_Same.f k l m = some (sameE l m) := by
 unfold shard_Same.f api_Entry_with_43.f sameE
 by_cases h : l.length = m.length
 ·
  have h0 := ssame_l0 hl h l.length 0 k (by omega) hk
  rw [show ((0 : Nat) : Int) = 0 from rfl] at h0
  rw [if_pos (by omega), if_pos h, h0]
  rfl
 ·
  rw [if_neg (by omega), if_neg h]
  rfl
end Go.Proofs.Ytofaindjbhmopaa.Pure
end
section
namespace Go.Proofs.Ytofaindjbhmopaa.Pure
open Go.RowKit Go.Proofs.Ytofaindjbhmopaa.X Go.Proofs.YtofaindjbhmopaaW.PrintWords Go.Proofs.YtofaindjbhmopaaW.PrintLast Go.Proofs.YtofaindjbhmopaaW.PrintMore Go.Proofs.Ytofaindjbhmopaa.Aid
theorem copy_l0 {l : List E} (hl : small l) (d : Nat) : ∀ (i k : Nat) (acc : List E), i + d = l.length → d < k → acc.length ≤ i →
 r11_Copy.l0 k acc (i : Int) l = some (acc ++ l.drop i) := by
 have hn := hl.1
 induction d with
 | zero =>
  intro i k acc hi hk _
  obtain ⟨k, rfl⟩ := succ_of hk
  simp only [r11_Copy.l0]
  rw [if_neg (by omega), List.drop_of_length_le (by omega), List.append_nil]
 | succ d ih =>
  intro i k acc hi hk ha
  obtain ⟨k, rfl⟩ := succ_of hk
  have hlt : i < l.length := by omega
  have hs := small_at hl hlt
  have h1 := ih (i + 1) k (acc ++ [l[i]]) (by omega) (by omega) (by rw [List.length_append, List.length_singleton]; omega)
  rw [List.append_assoc, List.singleton_append] at h1
  simp only [r11_Copy.l0, Option.bind_some, List.nil_append, List.length_nil]
  rw [if_pos (by omega), if_pos (by omega), rdE hlt, drop_at hlt, w64s (by omega), if_pos (by omega), if_pos (show acc.length < 2932031007402 by omega)]
  exact h1
theorem copy_eq {l : List E} (hl : small l) (k : Nat) (hk : l.length < k) : r11_Copy.f k l = some l := by
 have h := copy_l0 hl l.length 0 k [] (by omega) hk (Nat.zero_le _)
 rw [List.nil_append, List.drop_zero] at h
 exact h
end Go.Proofs.Ytofaindjbhmopaa.Pure
end
section
namespace Go.Proofs.Ytofaindjbhmopaa.Pure
open Go.RowKit Go.Proofs.Ytofaindjbhmopaa.X Go.Proofs.YtofaindjbhmopaaW.PrintWords Go.Proofs.YtofaindjbhmopaaW.PrintLast Go.Proofs.YtofaindjbhmopaaW.PrintMore Go.Proofs.Ytofaindjbhmopaa.Aid
theorem alive_eq (k : Nat) (hk : 30 ≤ k) : w11_alive.f k = some true :=
 at_rounds (g := fun k => w11_alive.f k) w11_alive.mono hk (by decide +kernel)
theorem j0_true (f : Int) (l m : List E) (k : Nat) (hk : 0 < k) : w11_ShardPrunes.j0 k f true l m = some true := by
 obtain ⟨k, rfl⟩ := succ_of hk
 simp only [w11_ShardPrunes.j0]
 rfl
theorem j0_false (f : Int) {l m : List E} (hl : small l) (k : Nat) (hk : 600 < k) : w11_ShardPrunes.j0 k f false l m = some true := by
 obtain ⟨k, rfl⟩ := succ_of hk
 have hn := hl.1
 simp only [w11_ShardPrunes.j0, Option.bind_some]
 rw [if_neg (by simp), copy_eq hl k (by omega)]
 simp only [Option.bind_some]
 rw [sprune_eq hl f _ k (by omega), srprune_eq hl f (by unfold LM; simp) k (by simp; omega)]
 simp only [Option.bind_some]
 have hp := prl_small (f := f) (ds := [(⟨1, f⟩ : D), (⟨2, 5⟩ : D)]) hl
 rw [srsame_eq hp k (by have := hp.1; omega), sameE_self]
 simp only [Option.bind_some, if_true]
 rw [srsame_eq hl k (by omega), sameE_self]
 simp only [Option.bind_some, if_true]
 rw [ssame_eq hl k (by omega), srsame_eq hl k (by omega)]
 simp
theorem ShardPrunes : w11_ShardPrunes.Pure := by
 intro x0 x1 a2 _ _ _
 obtain ⟨K, hK⟩ : ∃ K : Nat, K = 700 := ⟨_, rfl⟩
 refine ⟨K, ?_⟩
 unfold w11_ShardPrunes.f
 rw [alive_eq K (by omega)]
 simp only [Option.bind_some, if_true]
 rcases great_or x0.f0 K (by omega) with h0 | ⟨h0, hl⟩
 ·
  rw [h0]
  simp only [Option.bind_some, if_true]
  exact j0_true _ _ _ K (by omega)
 ·
  rw [h0]
  simp only [Option.bind_some]
  rw [if_neg (by simp)]
  rcases great_or x1.f0 K (by omega) with h1 | ⟨h1, _⟩
  ·
   rw [h1]
   simp only [Option.bind_some]
   exact j0_true _ _ _ K (by omega)
  ·
   rw [h1]
   simp only [Option.bind_some]
   exact j0_false _ hl K (by omega)
end Go.Proofs.Ytofaindjbhmopaa.Pure
end
