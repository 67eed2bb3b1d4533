/- Plain facts on what the printed functions compute, joined; each says its conditions. -/
import Derived.Test.YtklhjponikgkkaaM1
import Derived.Test.YtklhjponikgkkaaM4
import Derived.Test.YtklhjponikgkkaaM12
import Derived.Test.YtklhjponikgkkaaM10
import Derived.Test.YtklhjponikgkkaaM9
section
namespace Go.Proofs.Ytklhjponikgkkaa.Pure
open Go.RowKit Go.Proofs.Ytklhjponikgkkaa.X Go.Proofs.YtklhjponikgkkaaW.PrintWords Go.Proofs.YtklhjponikgkkaaW.PrintLast Go.Proofs.YtklhjponikgkkaaW.PrintMore Go.Proofs.Ytklhjponikgkkaa.Aid
abbrev W := S61
abbrev En := S70
abbrev Sh := S50
abbrev Dr := S46
theorem rdW {l : List W} {i : Nat} (h : i < l.length) : rd_T61 l (i : Int) = l[i] := getD_at h _
theorem rdE {l : List En} {i : Nat} (h : i < l.length) : rd_T70 l (i : Int) = l[i] := getD_at h _
theorem rdS {l : List Sh} {i : Nat} (h : i < l.length) : rd_T50 l (i : Int) = l[i] := getD_at h _
theorem rdD {l : List Dr} {i : Nat} (h : i < l.length) : rd_T46 l (i : Int) = l[i] := getD_at h _
theorem rdWW {l : List (List W)} {i : Nat} (h : i < l.length) : rd_L11 l (i : Int) = l[i] := getD_at h _
theorem flat_take {α : Type} {ll : List (List α)} {i : Nat} (h : i < ll.length) : (ll.take (i + 1)).flatten = (ll.take i).flatten ++ ll[i] := by
 rw [take_at h, List.flatten_append]
 simp
theorem flat_le {α : Type} (ll : List (List α)) (i : Nat) : (ll.take i).flatten.length ≤ ll.flatten.length := by
 conv => rhs; rw [← List.take_append_drop i ll, List.flatten_append]
 rw [List.length_append]
 exact Nat.le_add_right _ _
def LM : Nat := 2932031007402
theorem cat_l1 {ll : List (List W)} (hb : ll.flatten.length < LM) (hn : ll.length < LM) (d : Nat) : ∀ (i k : Nat) (acc : List W), i + d = ll.length → d < k → acc = (ll.take i).flatten →
 api_Write_49.l1 k acc ll (ll.length : Int) (i : Int) = some ll.flatten := by
 unfold LM at hb hn
 induction d with
 | zero =>
  intro i k acc hi hk ha
  obtain ⟨k, rfl⟩ := succ_of hk
  simp only [api_Write_49.l1]
  rw [if_neg (by omega), ha, List.take_of_length_le (by omega)]
 | succ d ih =>
  intro i k acc hi hk ha
  obtain ⟨k, rfl⟩ := succ_of hk
  have hlt : i < ll.length := by omega
  have h1 := flat_take hlt
  have h2 := flat_le ll (i + 1)
  rw [h1, List.length_append] at h2
  simp only [api_Write_49.l1]
  rw [if_pos (by omega), if_pos (by omega), if_pos (by omega), rdWW hlt, if_pos (by rw [ha]; omega), w64s (by omega)]
  exact ih (i + 1) k _ (by omega) (by omega) (by rw [ha, h1])
theorem cat_l0 {ll : List (List W)} (hb : ll.flatten.length < LM) (hn : ll.length < LM) (d : Nat) : ∀ (i k : Nat) (s : Int), i + d = ll.length → d + ll.length + 1 < k → s = ((ll.take i).flatten.length : Int) →
 api_Write_49.l0 k ll s ll (ll.length : Int) (i : Int) = some ll.flatten := by
 have hb' := hb
 have hn' := hn
 unfold LM at hb' hn'
 induction d with
 | zero =>
  intro i k s hi hk hs
  obtain ⟨k, rfl⟩ := succ_of hk
  have h2 := flat_le ll i
  simp only [api_Write_49.l0, api_Write_58.f]
  rw [if_neg (by omega), if_pos (by omega), if_pos (by omega)]
  exact cat_l1 hb hn ll.length 0 k [] (by omega) (by omega) (by simp)
 | succ d ih =>
  intro i k s hi hk hs
  obtain ⟨k, rfl⟩ := succ_of hk
  have hlt : i < ll.length := by omega
  have h1 := flat_take hlt
  have h2 := flat_le ll (i + 1)
  rw [h1, List.length_append] at h2
  simp only [api_Write_49.l0]
  have hw : wrap64 (s + (ll[i].length : Int)) = s + (ll[i].length : Int) := w64 (by omega) (by omega)
  rw [if_pos (by omega), if_pos (by omega), if_pos (by omega), rdWW hlt, hw, if_neg (by omega), w64s (by omega)]
  exact ih (i + 1) k _ (by omega) (by omega) (by rw [h1, List.length_append, hs]; omega)
theorem cat_eq {ll : List (List W)} (hb : ll.flatten.length < LM) (hn : ll.length < LM) (k : Nat) (hk : ll.length + ll.length + 1 < k) : api_Write_49.f k ll = some ll.flatten :=
 cat_l0 hb hn ll.length 0 k 0 (by omega) hk (by simp)
def small (ll : List (List W)) : Prop := ll.length ≤ 20 ∧ ∀ q ∈ ll, q.length ≤ 100
theorem flat_bound {α : Type} {n : Nat} : ∀ {ll : List (List α)}, (∀ q ∈ ll, q.length ≤ n) → ll.flatten.length ≤ n * ll.length
 | [], _ => by simp
 | q :: ll, h => by
  have h1 := flat_bound (ll := ll) (fun x hx => h x (List.mem_cons_of_mem _ hx))
  have h2 := h q List.mem_cons_self
  simp only [List.flatten_cons, List.length_append, List.length_cons, Nat.mul_add, Nat.mul_one]
  omega
theorem qgreat_l0 {ll : List (List W)} (hn : ll.length ≤ 20) (d : Nat) : ∀ (i k : Nat), i + d = ll.length → d < k → ebbtideref14_Great.l0 k ll (i : Int) = some true ∨ (ebbtideref14_Great.l0 k ll (i : Int) = some false ∧ ∀ q ∈ ll.drop i, q.length ≤ 100) := by
 induction d with
 | zero =>
  intro i k hi hk
  obtain ⟨k, rfl⟩ := succ_of hk
  simp only [ebbtideref14_Great.l0]
  rw [if_neg (by omega), List.drop_of_length_le (by omega)]
  exact .inr ⟨rfl, fun q hq => by simp at hq⟩
 | succ d ih =>
  intro i k hi hk
  obtain ⟨k, rfl⟩ := succ_of hk
  have hlt : i < ll.length := by omega
  simp only [ebbtideref14_Great.l0]
  rw [if_pos (by omega), if_pos (by omega), rdWW hlt, w64s (by omega), drop_at hlt]
  by_cases h : (ll[i].length : Int) > 100
  ·
   rw [if_pos h]
   exact .inl rfl
  ·
   rw [if_neg h]
   rcases ih (i + 1) k (by omega) (by omega) with h1 | ⟨h1, h2⟩
   ·
    exact .inl h1
   ·
    refine .inr ⟨h1, fun q hq => ?_⟩
    rcases List.mem_cons.1 hq with rfl | hq
    ·
     omega
    ·
     exact h2 q hq
theorem qgreat_eq (ll : List (List W)) (k : Nat) (hk : 30 < k) : ebbtideref14_Great.f k ll = some true ∨ (ebbtideref14_Great.f k ll = some false ∧ small ll) := by
 unfold ebbtideref14_Great.f
 by_cases h : (ll.length : Int) > 20
 ·
  rw [if_pos h]
  exact .inl rfl
 ·
  rw [if_neg h]
  rcases qgreat_l0 (ll := ll) (by omega) ll.length 0 k (by omega) (by omega) with h1 | ⟨h1, h2⟩
  ·
   exact .inl h1
  ·
   exact .inr ⟨h1, by omega, h2⟩
theorem small_cat {ll : List (List W)} (h : small ll) : ll.flatten.length < LM ∧ ll.length < LM := by
 have := flat_bound h.2
 have := h.1
 unfold LM
 omega
def waits (a : Int) (l : List W) : Bool := l.any fun x => x.f1 == a
theorem waits_eq {ll : List (List W)} (hs : small ll) (a : Int) (k : Nat) (hk : 50 < k) : seq_Waits.f k a ll = some (waits a ll.flatten) := by
 have := hs.1
 obtain ⟨h1, h2⟩ := small_cat hs
 unfold seq_Waits.f waits
 rw [cat_eq h1 h2 k (by omega)]
 rfl
theorem rwaits_l1 {ll : List (List W)} (hs : small ll) (a : Int) (i : Nat) (hlt : i < ll.length) (r : Bool) (k1 : Nat) (hr : ∀ k, k1 ≤ k → ebbtideref14_Waits.l0 k a ll ((i + 1 : Nat) : Int) = some r) (d : Nat) :
 ∀ (j k : Nat), j + d = ll[i].length → d + k1 < k → ebbtideref14_Waits.l1 k a ll (i : Int) (j : Int) = some (waits a (ll[i].drop j) || r) := by
 have hn := hs.1
 have hq := hs.2 _ (List.getElem_mem hlt)
 induction d with
 | zero =>
  intro j k hj hk
  obtain ⟨k, rfl⟩ := succ_of hk
  simp only [ebbtideref14_Waits.l1]
  rw [if_pos (by omega), if_pos (by omega), rdWW hlt, if_neg (by omega), w64s (by omega), hr k (by omega), List.drop_of_length_le (by omega)]
  rfl
 | succ d ih =>
  intro j k hj hk
  obtain ⟨k, rfl⟩ := succ_of hk
  have hj2 : j < ll[i].length := by omega
  simp only [ebbtideref14_Waits.l1]
  rw [if_pos (by omega), if_pos (by omega), rdWW hlt, if_pos (by omega), if_pos (by omega), rdW hj2, w64s (by omega), drop_at hj2]
  have hw : waits a (ll[i][j] :: ll[i].drop (j + 1)) = (ll[i][j].f1 == a || waits a (ll[i].drop (j + 1))) := rfl
  rw [hw]
  by_cases h : ll[i][j].f1 = a
  ·
   rw [if_pos h, beq_iff_eq.2 h]
   rfl
  ·
   rw [if_neg h, ih (j + 1) k (by omega) (by omega), beq_eq_false_iff_ne.2 h]
   rfl
theorem rwaits_l0 {ll : List (List W)} (hs : small ll) (a : Int) (d : Nat) : ∀ (i k : Nat), i + d = ll.length → d * 110 < k → ebbtideref14_Waits.l0 k a ll (i : Int) = some (waits a (ll.drop i).flatten) := by
 have hn := hs.1
 induction d with
 | zero =>
  intro i k hi hk
  obtain ⟨k, rfl⟩ := succ_of hk
  simp only [ebbtideref14_Waits.l0]
  rw [if_neg (by omega), List.drop_of_length_le (by omega)]
  rfl
 | succ d ih =>
  intro i k hi hk
  obtain ⟨k, rfl⟩ := succ_of hk
  have hlt : i < ll.length := by omega
  have hq := hs.2 _ (List.getElem_mem hlt)
  simp only [ebbtideref14_Waits.l0]
  rw [if_pos (by omega)]
  have := rwaits_l1 hs a i hlt _ (d * 110 + 1) (fun k hk => ih (i + 1) k (by omega) (by omega)) ll[i].length 0 k (by omega) (by omega)
  rw [show ((0 : Nat) : Int) = 0 from rfl] at this
  rw [this, drop_at hlt, List.flatten_cons, List.drop_zero]
  unfold waits
  rw [List.any_append]
theorem rwaits_eq {ll : List (List W)} (hs : small ll) (a : Int) (k : Nat) (hk : 2300 < k) : ebbtideref14_Waits.f k a ll = some (waits a ll.flatten) :=
 rwaits_l0 hs a ll.length 0 k (by omega) (by have := hs.1; omega)
def minl : List Int → Int
 | [] => 0
 | x :: l => l.foldl mn x
theorem minl_snoc (l : List Int) (v : Int) : minl (l ++ [v]) = if l = [] then v else mn (minl l) v := by
 cases l with
 | nil => rfl
 | cons x l =>
  rw [if_neg (by simp)]
  simp [minl, List.foldl_append]
theorem min_l0 {l : List Int} (hn : l.length < LM) (d : Nat) : ∀ (i k : Nat) (m : Int), i + d = l.length → d < k → slices_Min_int64_int64.l0 k l m (i : Int) = some ((l.drop i).foldl mn m) := by
 unfold LM at hn
 induction d with
 | zero =>
  intro i k m hi hk
  obtain ⟨k, rfl⟩ := succ_of hk
  simp only [slices_Min_int64_int64.l0]
  rw [if_neg (by omega), List.drop_of_length_le (by omega)]
  rfl
 | succ d ih =>
  intro i k m hi hk
  obtain ⟨k, rfl⟩ := succ_of hk
  have hlt : i < l.length := by omega
  simp only [slices_Min_int64_int64.l0]
  rw [if_pos (by omega), if_pos (by omega), rd_at hlt, w64s (by omega), drop_at hlt, ih (i + 1) k _ (by omega) (by omega)]
  rfl
theorem min_eq {l : List Int} (h : l ≠ []) (hn : l.length < LM) (k : Nat) (hk : l.length < k) : slices_Min_int64_int64.f k l = some (minl l) := by
 cases l with
 | nil => exact absurd rfl h
 | cons x l =>
  unfold slices_Min_int64_int64.f
  rw [if_neg (by simp only [List.length_cons]; omega), if_pos (by simp only [List.length_cons]; omega)]
  have := min_l0 hn l.length 1 k (rd (x :: l) 0) (by simp only [List.length_cons]; omega) (by simp at hk; omega)
  exact this
theorem foldl_mn : ∀ (l : List Int) (x : Int), (l.foldl mn x = x ∨ l.foldl mn x ∈ l) ∧ l.foldl mn x ≤ x ∧ ∀ y ∈ l, l.foldl mn x ≤ y
 | [], x => ⟨.inl rfl, Int.le_refl _, fun y h => by simp at h⟩
 | z :: l, x => by
  obtain ⟨h1, h2, h3⟩ := foldl_mn l (mn x z)
  have hm : mn x z = x ∨ mn x z = z := by unfold mn; split <;> simp
  have hl : mn x z ≤ x ∧ mn x z ≤ z := by unfold mn; split <;> omega
  refine ⟨?_, ?_, ?_⟩
  ·
   rcases h1 with h1 | h1
   ·
    rcases hm with hm | hm
    ·
     exact .inl (h1.trans hm)
    ·
     exact .inr (by rw [List.foldl_cons, h1, hm]; exact List.mem_cons_self)
   ·
    exact .inr (List.mem_cons_of_mem _ h1)
  ·
   rw [List.foldl_cons]; omega
  ·
   intro y hy
   rw [List.foldl_cons]
   rcases List.mem_cons.1 hy with rfl | hy
   ·
    omega
   ·
    exact h3 y hy
theorem minl_mem {l : List Int} (h : l ≠ []) : minl l ∈ l := by
 cases l with
 | nil => exact absurd rfl h
 | cons x l =>
  rcases (foldl_mn l x).1 with h | h
  ·
   show l.foldl mn x ∈ _
   rw [h]
   exact List.mem_cons_self
  ·
   exact List.mem_cons_of_mem _ h
theorem minl_le {l : List Int} {y : Int} (h : y ∈ l) : minl l ≤ y := by
 cases l with
 | nil => simp at h
 | cons x l =>
  rcases List.mem_cons.1 h with rfl | h
  ·
   exact (foldl_mn l y).2.1
  ·
   exact (foldl_mn l x).2.2 y h
def TH (w d : Int) : Prop := 1 ≤ d ∧ d ≤ 1000 ∧ 0 ≤ w ∧ w ≤ 1000000000000
theorem th_mul {w d : Int} (h : TH w d) : 0 ≤ w * d ∧ w * d ≤ 1000000000000000 ∧ (w + 1) * d = w * d + d := by
 obtain ⟨h1, h2, h3, h4⟩ := h
 refine ⟨Int.mul_nonneg h3 (by omega), ?_, by rw [Int.add_mul, Int.one_mul]⟩
 calc w * d ≤ 1000000000000 * d := Int.mul_le_mul_of_nonneg_right h4 (by omega)
  _ ≤ 1000000000000000 := by omega
theorem among_eq (a b c : Int) : win_among.f a b c = some (decide (b ≤ a ∧ a ≤ c)) := by
 unfold win_among.f
 by_cases h : a ≥ b
 ·
  rw [if_pos h]
  simp [show b ≤ a from h]
 ·
  rw [if_neg h]
  simp
  omega
theorem there_true {w d : Int} (h : TH w d) : win_there.f w d = some true := by
 obtain ⟨h1, h2, h3, h4⟩ := h
 simp [win_there.f, among_eq, h1, h2, h3, h4]
theorem there_false {w d : Int} (h : ¬ TH w d) : win_there.f w d = some false := by
 unfold TH at h
 simp only [win_there.f, among_eq, Option.bind_some]
 by_cases h1 : 1 ≤ d ∧ d ≤ 1000
 ·
  have h2 : ¬ (0 ≤ w ∧ w ≤ 1000000000000) := by omega
  simp [h1, h2]
 ·
  simp [h1]
theorem rthere_true {w d : Int} (h : TH w d) : ebbtideref13_there.f w d = some true := by
 obtain ⟨h1, h2, h3, h4⟩ := h
 unfold ebbtideref13_there.f
 rw [if_pos h1, if_pos h2, if_pos h3]
 simp [h4]
theorem rthere_false {w d : Int} (h : ¬ TH w d) : ebbtideref13_there.f w d = some false := by
 unfold TH at h
 unfold ebbtideref13_there.f
 by_cases h1 : d ≥ 1
 ·
  rw [if_pos h1]
  by_cases h2 : d ≤ 1000
  ·
   rw [if_pos h2]
   by_cases h3 : w ≥ 0
   ·
    rw [if_pos h3]
    simp
    omega
   ·
    rw [if_neg h3]
  ·
   rw [if_neg h2]
 ·
  rw [if_neg h1]
theorem end_true {w d : Int} (h : TH w d) : win_End.f w d = some (w * d + d) := by
 obtain ⟨h1, h2, h3⟩ := th_mul h
 have h4 := h
 obtain ⟨a1, a2, a3, a4⟩ := h4
 simp only [win_End.f, there_true h, Option.bind_some, if_true]
 rw [w64 (a := w + 1) (by omega) (by omega), h3, w64 (by omega) (by omega)]
theorem closed_true {w d : Int} (h : TH w d) (l n : Int) : win_Closed.f w d l n = some (decide (0 ≤ l ∧ l ≤ 1000 ∧ w * d + d + l ≤ n)) := by
 obtain ⟨h1, h2, h3⟩ := th_mul h
 have h4 := h
 obtain ⟨a1, a2, a3, a4⟩ := h4
 simp only [win_Closed.f, there_true h, among_eq, end_true h, Option.bind_some, if_true]
 by_cases hl : 0 ≤ l ∧ l ≤ 1000
 ·
  obtain ⟨l1, l2⟩ := hl
  rw [w64 (by omega) (by omega)]
  simp [l1, l2]
 ·
  have : ¬ (0 ≤ l ∧ l ≤ 1000 ∧ w * d + d + l ≤ n) := by omega
  simp [hl, this]
theorem closed_false {w d : Int} (h : ¬ TH w d) (l n : Int) : win_Closed.f w d l n = some false := by
 simp [win_Closed.f, there_false h]
theorem rclosed (w d l n : Int) : ebbtideref13_Closed.f w d l n = win_Closed.f w d l n := by
 by_cases h : TH w d
 ·
  obtain ⟨h1, h2, h3⟩ := th_mul h
  have h4 := h
  obtain ⟨a1, a2, a3, a4⟩ := h4
  rw [closed_true h]
  simp only [ebbtideref13_Closed.f, rthere_true h, Option.bind_some, if_true]
  rw [w64 (a := w * d) (by omega) (by omega), w64 (a := w * d + d) (by omega) (by omega)]
  by_cases l1 : 0 ≤ l
  ·
   by_cases l2 : l ≤ 1000
   ·
    rw [w64 (a := w * d + d + l) (by omega) (by omega)]
    simp [l1, l2]
   ·
    simp [l1, l2]
  ·
   simp [l1]
 ·
  rw [closed_false h]
  simp [ebbtideref13_Closed.f, rthere_false h]
def cl (d l n w : Int) : Bool := (win_Closed.f w d l n).getD false
theorem closed_eq (w d l n : Int) : win_Closed.f w d l n = some (cl d l n w) := by
 unfold cl
 by_cases h : TH w d
 ·
  rw [closed_true h]; rfl
 ·
  rw [closed_false h]; rfl
theorem rclosed_eq (w d l n : Int) : ebbtideref13_Closed.f w d l n = some (cl d l n w) := (rclosed w d l n).trans (closed_eq w d l n)
def ents (l : List Sh) : List En := (l.map (·.f0)).flatten
theorem ents_cons (x : Sh) (l : List Sh) : ents (x :: l) = x.f0 ++ ents l := rfl
theorem ents_take {l : List Sh} {i : Nat} (h : i < l.length) : ents (l.take (i + 1)) = ents (l.take i) ++ l[i].f0 := by
 unfold ents
 rw [take_at h, List.map_append, List.flatten_append]
 simp
theorem ents_le (l : List Sh) (i : Nat) : (ents (l.take i)).length ≤ (ents l).length := by
 unfold ents
 rw [List.map_take]
 exact flat_le _ _
def few (l : List Sh) : Prop := l.length ≤ 8 ∧ ∀ s ∈ l, s.f0.length ≤ 30
theorem few_ents {l : List Sh} (h : few l) : (ents l).length ≤ 240 := by
 have h1 := flat_bound (n := 30) (ll := l.map (·.f0)) (fun q hq => by obtain ⟨s, hs, rfl⟩ := List.mem_map.1 hq; exact h.2 s hs)
 rw [List.length_map] at h1
 have := h.1
 unfold ents
 omega
theorem entries_l0 {l : List Sh} (h : few l) (d : Nat) : ∀ (i k : Nat), i + d = l.length → d < k → emit_entries.l0 k (ents (l.take i)) l (l.length : Int) (i : Int) = some (ents l) := by
 have hn := h.1
 have he := few_ents h
 induction d with
 | zero =>
  intro i k hi hk
  obtain ⟨k, rfl⟩ := succ_of hk
  simp only [emit_entries.l0]
  rw [if_neg (by omega), List.take_of_length_le (by omega)]
 | succ d ih =>
  intro i k hi hk
  obtain ⟨k, rfl⟩ := succ_of hk
  have hlt : i < l.length := by omega
  have h1 := ents_take hlt
  have h2 := ents_le l (i + 1)
  rw [h1, List.length_append] at h2
  simp only [emit_entries.l0]
  rw [if_pos (by omega), if_pos (by omega), if_pos (by omega), rdS hlt, if_pos (by omega), w64s (by omega), ← h1]
  exact ih (i + 1) k (by omega) (by omega)
theorem entries_eq {l : List Sh} (h : few l) (k : Nat) (hk : 10 < k) : emit_entries.f k l = some (ents l) :=
 entries_l0 h l.length 0 k (by omega) (by have := h.1; omega)
theorem sgreat_l0 {l : List En} (hn : l.length ≤ 100) (d : Nat) : ∀ (i k : Nat), i + d = l.length → d < k → ∃ b, ebbtideref11_Great.l0 k (i : Int) l = some b := by
 induction d with
 | zero =>
  intro i k hi hk
  obtain ⟨k, rfl⟩ := succ_of hk
  simp only [ebbtideref11_Great.l0]
  rw [if_neg (by omega)]
  exact ⟨_, rfl⟩
 | succ d ih =>
  intro i k hi hk
  obtain ⟨k, rfl⟩ := succ_of hk
  have hlt : i < l.length := by omega
  simp only [ebbtideref11_Great.l0]
  rw [if_pos (by omega), if_pos (by omega), rdE hlt, w64s (by omega)]
  split
  ·
   exact ⟨_, rfl⟩
  ·
   split
   ·
    exact ⟨_, rfl⟩
   ·
    exact ih (i + 1) k (by omega) (by omega)
theorem sgreat_eq (l : List En) (k : Nat) (hk : 110 < k) : ∃ b, ebbtideref11_Great.f k l = some b := by
 unfold ebbtideref11_Great.f
 by_cases h : (l.length : Int) > 100
 ·
  rw [if_pos h]
  exact ⟨_, rfl⟩
 ·
  rw [if_neg h]
  exact sgreat_l0 (by omega) l.length 0 k (by omega) (by omega)
theorem hgreat_l0 {l : List Sh} (hn : l.length ≤ 8) (d : Nat) : ∀ (i k : Nat), i + d = l.length → d + 120 < k → ebbtideref16_Great.l0 k l (i : Int) = some true ∨ (ebbtideref16_Great.l0 k l (i : Int) = some false ∧ ∀ s ∈ l.drop i, s.f0.length ≤ 30) := by
 induction d with
 | zero =>
  intro i k hi hk
  obtain ⟨k, rfl⟩ := succ_of hk
  simp only [ebbtideref16_Great.l0]
  rw [if_neg (by omega), List.drop_of_length_le (by omega)]
  exact .inr ⟨rfl, fun q hq => by simp at hq⟩
 | succ d ih =>
  intro i k hi hk
  obtain ⟨k, rfl⟩ := succ_of hk
  have hlt : i < l.length := by omega
  obtain ⟨b, hb⟩ := sgreat_eq l[i].f0 k (by omega)
  simp only [ebbtideref16_Great.l0]
  rw [if_pos (by omega), if_pos (by omega), rdS hlt, hb, w64s (by omega), drop_at hlt]
  simp only [Option.bind_some]
  cases b with
  | true => rw [if_pos rfl]; exact .inl rfl
  | false =>
   rw [if_neg (by simp)]
   by_cases h : (l[i].f0.length : Int) > 30
   ·
    rw [if_pos h]
    exact .inl rfl
   ·
    rw [if_neg h]
    rcases ih (i + 1) k (by omega) (by omega) with h1 | ⟨h1, h2⟩
    ·
     exact .inl h1
    ·
     refine .inr ⟨h1, fun q hq => ?_⟩
     rcases List.mem_cons.1 hq with rfl | hq
     ·
      omega
     ·
      exact h2 q hq
theorem hgreat_eq (l : List Sh) (k : Nat) (hk : 140 < k) : ebbtideref16_Great.f k l = some true ∨ (ebbtideref16_Great.f k l = some false ∧ few l) := by
 unfold ebbtideref16_Great.f
 by_cases h : (l.length : Int) > 8
 ·
  rw [if_pos h]
  exact .inl rfl
 ·
  rw [if_neg h]
  rcases hgreat_l0 (l := l) (by omega) l.length 0 k (by omega) (by omega) with h1 | ⟨h1, h2⟩
  ·
   exact .inl h1
  ·
   exact .inr ⟨h1, by omega, h2⟩
theorem great_eq (dr : List Dr) (q : List (List W)) (l : List Sh) (k : Nat) (hk : 200 < k) : ebbtidelaw17_great.f k dr q l = some true ∨ (ebbtidelaw17_great.f k dr q l = some false ∧ dr.length ≤ 20 ∧ small q ∧ few l) := by
 unfold ebbtidelaw17_great.f
 by_cases h : (dr.length : Int) > 20
 ·
  rw [if_pos h]
  exact .inl rfl
 ·
  rw [if_neg h]
  rcases qgreat_eq q k (by omega) with h1 | ⟨h1, h2⟩
  ·
   rw [h1]
   exact .inl rfl
  ·
   rw [h1]
   rcases hgreat_eq l k (by omega) with h3 | ⟨h3, h4⟩
   ·
    exact .inl (by rw [h3]; rfl)
   ·
    exact .inr ⟨by rw [h3]; rfl, by omega, h2, h4⟩
def may (d l n : Int) (dr : List Dr) (q : List (List W)) (w : Int) : Bool := !(dr.any fun x => x.f0 == w) && (cl d l n w && !(waits w q.flatten))
def mays (d l n : Int) (dr : List Dr) (q : List (List W)) (e : List En) : List Int := (e.filter fun x => may d l n dr q x.f0).map (·.f0)
theorem mays_append (d l n : Int) (dr : List Dr) (q : List (List W)) (e f : List En) : mays d l n dr q (e ++ f) = mays d l n dr q e ++ mays d l n dr q f := by
 unfold mays
 rw [List.filter_append, List.map_append]
theorem mays_cons (d l n : Int) (dr : List Dr) (q : List (List W)) (x : En) (e : List En) : mays d l n dr q (x :: e) = (if may d l n dr q x.f0 = true then [x.f0] else []) ++ mays d l n dr q e := by
 unfold mays
 by_cases h : may d l n dr q x.f0 = true
 ·
  rw [if_pos h, List.filter_cons, if_pos h]
  rfl
 ·
  rw [if_neg h, List.filter_cons, if_neg h]
  rfl
theorem mays_le (d l n : Int) (dr : List Dr) (q : List (List W)) (e : List En) : (mays d l n dr q e).length ≤ e.length := by
 unfold mays
 rw [List.length_map]
 exact List.length_filter_le _ _
theorem mays_mem {d l n : Int} {dr : List Dr} {q : List (List W)} {e : List En} {w : Int} : w ∈ mays d l n dr q e ↔ may d l n dr q w = true ∧ w ∈ e.map (·.f0) := by
 unfold mays
 simp only [List.mem_map, List.mem_filter]
 constructor
 ·
  rintro ⟨x, ⟨h1, h2⟩, rfl⟩
  exact ⟨h2, x, h1, rfl⟩
 ·
  rintro ⟨h1, x, h2, rfl⟩
  exact ⟨x, ⟨h2, h1⟩, rfl⟩
def fin (m : List Int) : Int × Bool := (minl m, decide (m ≠ []))
theorem next_l0 {q : List (List W)} (hq : small q) (dr : List Dr) (c0 c1 d l c4 n : Int) {e : List En} (he : e.length < 10000) (m : Nat) : ∀ (i k : Nat), i + m = e.length → m + e.length + 60 < k →
 emit_Next.l0 k n dr q (mays d l n dr q (e.take i)) e (e.length : Int) (i : Int) c0 c1 d l c4 = some (fin (mays d l n dr q e)) := by
 induction m with
 | zero =>
  intro i k hi hk
  obtain ⟨k, rfl⟩ := succ_of hk
  have hl := mays_le d l n dr q e
  simp only [emit_Next.l0]
  rw [if_neg (by omega), List.take_of_length_le (by omega)]
  by_cases h : mays d l n dr q e = []
  ·
   rw [if_pos (by rw [h]; rfl), h]
   rfl
  ·
   have hp : (mays d l n dr q e).length ≠ 0 := fun e2 => h (List.eq_nil_of_length_eq_zero e2)
   rw [if_neg (by omega), min_eq h (by unfold LM; omega) k (by omega)]
   simp [fin, h]
 | succ m ih =>
  intro i k hi hk
  obtain ⟨k, rfl⟩ := succ_of hk
  have hlt : i < e.length := by omega
  have h1 : mays d l n dr q (e.take (i + 1)) = mays d l n dr q (e.take i) ++ (if may d l n dr q e[i].f0 = true then [e[i].f0] else []) := by
   rw [take_at hlt, mays_append, mays_cons]
   simp [mays]
  have h2 := mays_le d l n dr q (e.take i)
  rw [List.length_take] at h2
  have h3 := ih (i + 1) k (by omega) (by omega)
  rw [h1] at h3
  simp only [emit_Next.l0, api_Drop_over_25.f, Option.bind_some]
  rw [if_pos (by omega), if_pos (by omega), if_pos (by omega), rdE hlt, w64s (by omega), closed_eq, waits_eq hq _ k (by omega)]
  simp only [Option.bind_some]
  have hm : may d l n dr q e[i].f0 = (!(dr.any fun x => x.f0 == e[i].f0) && (cl d l n e[i].f0 && !(waits e[i].f0 q.flatten))) := rfl
  by_cases a1 : (dr.any fun x => x.f0 == e[i].f0) = true
  ·
   rw [if_neg (by rw [hm, a1]; simp), List.append_nil] at h3
   rw [if_pos a1]
   exact h3
  ·
   rw [if_neg a1]
   by_cases a2 : cl d l n e[i].f0 = true
   ·
    rw [if_pos a2]
    by_cases a3 : waits e[i].f0 q.flatten = true
    ·
     rw [if_neg (by rw [hm, a3]; simp), List.append_nil] at h3
     rw [if_pos a3]
     exact h3
    ·
     rw [if_pos (by rw [hm, a2, Bool.eq_false_iff.2 a1, Bool.eq_false_iff.2 a3]; rfl)] at h3
     rw [if_neg a3, if_pos (by omega)]
     exact h3
   ·
    rw [if_neg (by rw [hm, Bool.eq_false_iff.2 a2]; simp), List.append_nil] at h3
    rw [if_neg a2]
    exact h3
theorem next_eq {q : List (List W)} (hq : small q) (dr : List Dr) (c0 c1 d l c4 n : Int) {s : List Sh} (hs : few s) (k : Nat) (hk : 1000 < k) :
 emit_Next.f k c0 c1 d l c4 n dr q s = some (fin (mays d l n dr q (ents s))) := by
 have he := few_ents hs
 unfold emit_Next.f
 rw [entries_eq hs k (by omega)]
 exact next_l0 hq dr c0 c1 d l c4 n (by omega) (ents s).length 0 k (by omega) (by omega)
theorem out_l0 {dr : List Dr} (hn : dr.length ≤ 1000) (w : Int) (d : Nat) : ∀ (i k : Nat), i + d = dr.length → d < k → ebbtideref17_out.l0 k dr w (i : Int) = some ((dr.drop i).any fun x => x.f0 == w) := by
 induction d with
 | zero =>
  intro i k hi hk
  obtain ⟨k, rfl⟩ := succ_of hk
  simp only [ebbtideref17_out.l0]
  rw [if_neg (by omega), List.drop_of_length_le (by omega)]
  rfl
 | succ d ih =>
  intro i k hi hk
  obtain ⟨k, rfl⟩ := succ_of hk
  have hlt : i < dr.length := by omega
  simp only [ebbtideref17_out.l0]
  rw [if_pos (by omega), if_pos (by omega), rdD hlt, w64s (by omega), drop_at hlt, List.any_cons, ih (i + 1) k (by omega) (by omega)]
  by_cases h : dr[i].f0 = w
  ·
   rw [if_pos h, beq_iff_eq.2 h, Bool.true_or]
  ·
   rw [if_neg h, beq_eq_false_iff_ne.2 h, Bool.false_or]
theorem out_eq {dr : List Dr} (hn : dr.length ≤ 1000) (w : Int) (k : Nat) (hk : 1000 < k) : ebbtideref17_out.f k dr w = some (dr.any fun x => x.f0 == w) :=
 out_l0 hn w dr.length 0 k (by omega) (by omega)
theorem rnext_l1 {q : List (List W)} (hq : small q) {dr : List Dr} (hd : dr.length ≤ 1000) (c0 c1 d l c4 n : Int) {s : List Sh} (hs : few s) (i : Nat) (hi : i < s.length) (rest : List Int) (K : Nat) (h3000 : 3000 ≤ K)
 (hr : ∀ (k : Nat) (m : List Int), K ≤ k → ebbtideref17_Next.l0 k n dr q s (minl m) (decide (m ≠ [])) ((i + 1 : Nat) : Int) c0 c1 d l c4 = some (fin (m ++ rest))) (t : Nat) :
 ∀ (j k : Nat) (m : List Int), j + t = s[i].f0.length → t + K < k → ebbtideref17_Next.l1 k n dr q s (minl m) (decide (m ≠ [])) (i : Int) (j : Int) c0 c1 d l c4 = some (fin (m ++ (mays d l n dr q (s[i].f0.drop j) ++ rest))) := by
 have hn := hs.1
 have hq2 := hs.2 _ (List.getElem_mem hi)
 induction t with
 | zero =>
  intro j k m hj hk
  obtain ⟨k, rfl⟩ := succ_of hk
  simp only [ebbtideref17_Next.l1]
  rw [if_pos (by omega), if_pos (by omega), rdS hi, if_neg (by omega), w64s (by omega), hr k m (by omega), List.drop_of_length_le (by omega)]
  rfl
 | succ t ih =>
  intro j k m hj hk
  obtain ⟨k, rfl⟩ := succ_of hk
  have hj2 : j < s[i].f0.length := by omega
  have hm : may d l n dr q s[i].f0[j].f0 = (!(dr.any fun x => x.f0 == s[i].f0[j].f0) && (cl d l n s[i].f0[j].f0 && !(waits s[i].f0[j].f0 q.flatten))) := rfl
  have h0 := ih (j + 1) k m (by omega) (by omega)
  have h1 := ih (j + 1) k (m ++ [s[i].f0[j].f0]) (by omega) (by omega)
  simp only [ebbtideref17_Next.l1]
  rw [if_pos (by omega), if_pos (by omega), rdS hi, if_pos (by omega), if_pos (by omega), rdE hj2, w64s (by omega), drop_at hj2, mays_cons, rclosed_eq, out_eq hd _ k (by omega), rwaits_eq hq _ k (by omega)]
  simp only [Option.bind_some]
  by_cases a2 : cl d l n s[i].f0[j].f0 = true
  ·
   rw [if_pos a2]
   by_cases a1 : (dr.any fun x => x.f0 == s[i].f0[j].f0) = true
   ·
    rw [if_pos a1, if_neg (by rw [hm, a1]; simp)]
    exact h0
   ·
    rw [if_neg a1]
    by_cases a3 : waits s[i].f0[j].f0 q.flatten = true
    ·
     rw [if_pos a3, if_neg (by rw [hm, a3]; simp)]
     exact h0
    ·
     rw [if_neg a3, show (if may d l n dr q s[i].f0[j].f0 = true then [s[i].f0[j].f0] else []) = [s[i].f0[j].f0] from if_pos (by rw [hm, a2, Bool.eq_false_iff.2 a1, Bool.eq_false_iff.2 a3]; rfl)]
     rw [List.append_assoc] at h1
     rw [List.append_assoc]
     rw [show decide (m ++ [s[i].f0[j].f0] ≠ []) = true from by simp] at h1
     by_cases e : m = []
     ·
      subst e
      rw [if_neg (by simp)]
      exact h1
     ·
      rw [if_pos (by simp [e])]
      rw [minl_snoc, if_neg e] at h1
      unfold mn at h1
      by_cases e2 : s[i].f0[j].f0 < minl m
      ·
       rw [if_pos e2] at h1
       rw [if_pos e2]
       exact h1
      ·
       rw [if_neg e2] at h1
       rw [if_neg e2, show decide (m ≠ []) = true from by simp [e]]
       exact h1
  ·
   rw [if_neg a2, if_neg (by rw [hm, Bool.eq_false_iff.2 a2]; simp)]
   exact h0
theorem rnext_l0 {q : List (List W)} (hq : small q) {dr : List Dr} (hd : dr.length ≤ 1000) (c0 c1 d l c4 n : Int) {s : List Sh} (hs : few s) (B : Nat) (hB : 3000 ≤ B) (t : Nat) :
 ∀ (i k : Nat) (m : List Int), i + t = s.length → t * 40 + B < k → ebbtideref17_Next.l0 k n dr q s (minl m) (decide (m ≠ [])) (i : Int) c0 c1 d l c4 = some (fin (m ++ mays d l n dr q (ents (s.drop i)))) := by
 have hn := hs.1
 induction t with
 | zero =>
  intro i k m hi hk
  obtain ⟨k, rfl⟩ := succ_of hk
  simp only [ebbtideref17_Next.l0]
  rw [if_neg (by omega), List.drop_of_length_le (by omega)]
  simp [ents, mays, fin]
 | succ t ih =>
  intro i k m hi hk
  obtain ⟨k, rfl⟩ := succ_of hk
  have hlt : i < s.length := by omega
  have hq2 := hs.2 _ (List.getElem_mem hlt)
  simp only [ebbtideref17_Next.l0]
  rw [if_pos (by omega)]
  have := rnext_l1 hq hd c0 c1 d l c4 n hs i hlt _ (t * 40 + B + 1) (by omega) (fun k m hk => ih (i + 1) k m (by omega) (by omega)) s[i].f0.length 0 k m (by omega) (by omega)
  rw [show ((0 : Nat) : Int) = 0 from rfl] at this
  rw [this, drop_at hlt, ents_cons, mays_append, List.drop_zero]
theorem rnext_eq {q : List (List W)} (hq : small q) {dr : List Dr} (hd : dr.length ≤ 1000) (c0 c1 d l c4 n : Int) {s : List Sh} (hs : few s) (k : Nat) (hk : 4000 < k) :
 ebbtideref17_Next.f k c0 c1 d l c4 n dr q s = some (fin (mays d l n dr q (ents s))) := by
 have := rnext_l0 hq hd c0 c1 d l c4 n hs 3000 (Nat.le_refl _) s.length 0 k [] (by omega) (by have := hs.1; omega)
 exact this
end Go.Proofs.Ytklhjponikgkkaa.Pure
end
section
namespace Go.Proofs.Ytklhjponikgkkaa.Pure
open Go.RowKit Go.Proofs.Ytklhjponikgkkaa.X Go.Proofs.YtklhjponikgkkaaW.PrintWords Go.Proofs.YtklhjponikgkkaaW.PrintLast Go.Proofs.YtklhjponikgkkaaW.PrintMore Go.Proofs.Ytklhjponikgkkaa.Aid
theorem alive_eq (k : Nat) (hk : 24 ≤ k) : ebbtidelaw17_alive.f k = some true :=
 at_rounds (g := fun k => ebbtidelaw17_alive.f k) ebbtidelaw17_alive.mono hk (by decide +kernel)
theorem EmitNext : ebbtidelaw17_EmitNext.Pure := by
 intro c n m _ _ _
 obtain ⟨K, hK⟩ : ∃ K : Nat, K = 5000 := ⟨_, rfl⟩
 refine ⟨K, ?_⟩
 unfold ebbtidelaw17_EmitNext.f
 rw [alive_eq K (by omega)]
 simp only [Option.bind_some, if_true]
 rcases great_eq m.f0 m.f1 m.f2 K (by omega) with hg | ⟨hg, hd, hq, hs⟩
 ·
  rw [hg]
  rfl
 ·
  rw [hg]
  simp only [Option.bind_some]
  rw [if_neg (by simp), next_eq hq _ _ _ _ _ _ _ hs K (by omega)]
  simp only [Option.bind_some]
  rw [rnext_eq hq (by omega) _ _ _ _ _ _ hs K (by omega)]
  simp
end Go.Proofs.Ytklhjponikgkkaa.Pure
end
section
namespace Go.Proofs.Ytklhjponikgkkaa.Pure
open Go.RowKit Go.Proofs.Ytklhjponikgkkaa.X Go.Proofs.YtklhjponikgkkaaW.PrintWords Go.Proofs.YtklhjponikgkkaaW.PrintLast Go.Proofs.YtklhjponikgkkaaW.PrintMore Go.Proofs.Ytklhjponikgkkaa.Aid
theorem EmitOnce : ebbtidelaw17_EmitOnce.Pure := by
 intro c n m _ _ _
 obtain ⟨K, hK⟩ : ∃ K : Nat, K = 5000 := ⟨_, rfl⟩
 refine ⟨K, ?_⟩
 unfold ebbtidelaw17_EmitOnce.f
 rw [alive_eq K (by omega)]
 simp only [Option.bind_some, if_true]
 rcases great_eq m.f0 m.f1 m.f2 K (by omega) with hg | ⟨hg, hd, hq, hs⟩
 ·
  rw [hg]
  rfl
 ·
  rw [hg]
  simp only [Option.bind_some]
  rw [if_neg (by simp), next_eq hq _ _ _ _ _ _ _ hs K (by omega)]
  simp only [Option.bind_some, fin]
  obtain ⟨l, hl⟩ : ∃ l, l = mays c.f2 c.f3 n m.f0 m.f1 (ents m.f2) := ⟨_, rfl⟩
  rw [← hl]
  by_cases e : l = []
  ·
   rw [if_neg (by simp [e]), e]
   rfl
  ·
   rw [if_pos (by simp [e])]
   have hm := minl_mem e
   have hm2 := hm
   rw [hl, mays_mem, ← hl] at hm2
   obtain ⟨h1, h2⟩ := hm2
   unfold may at h1
   simp only [Bool.and_eq_true, Bool.not_eq_true'] at h1
   obtain ⟨a1, a2, a3⟩ := h1
   rw [rclosed_eq, a2]
   simp only [Option.bind_some, if_true]
   rw [rwaits_eq hq _ K (by omega), a3]
   simp only [Option.bind_some]
   rw [if_neg (by simp), if_pos (by simp; omega), if_pos (by simp; omega), next_eq hq _ _ _ _ _ _ _ hs K (by omega)]
   simp only [Option.bind_some, fin]
   obtain ⟨l2, hl2⟩ : ∃ l2, l2 = mays c.f2 c.f3 n (([] : List Dr) ++ m.f0 ++ [(⟨minl l, 9⟩ : Dr)]) m.f1 (ents m.f2) := ⟨_, rfl⟩
   have hsub : ∀ w ∈ l2, w ∈ l ∧ w ≠ minl l := by
    intro w hw
    rw [hl2, mays_mem] at hw
    obtain ⟨b1, b2⟩ := hw
    unfold may at b1
    simp only [List.nil_append, List.any_append, List.any_cons, List.any_nil, Bool.or_false, Bool.and_eq_true, Bool.not_eq_true', Bool.or_eq_false_iff, beq_eq_false_iff_ne] at b1
    refine ⟨?_, fun h => b1.1.2 h.symm⟩
    rw [hl, mays_mem]
    refine ⟨?_, b2⟩
    unfold may
    rw [b1.1.1, b1.2.1, b1.2.2]
    rfl
   have hfin : (if decide (l2 ≠ []) = true then some (decide (minl l2 > minl l)) else some true) = some true := by
    by_cases e2 : l2 = []
    ·
     rw [if_neg (by simp [e2])]
    ·
     rw [if_pos (by simp [e2])]
     obtain ⟨g1, g2⟩ := hsub _ (minl_mem e2)
     have g3 := minl_le g1
     rw [decide_eq_true (by omega : minl l2 > minl l)]
   rw [hl2] at hfin
   exact hfin
end Go.Proofs.Ytklhjponikgkkaa.Pure
end
