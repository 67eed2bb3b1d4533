/- What cells are, in plain Lean: adding a sample, folding many; and that the program's function and the references' compute just that. Conditions: the numbers are the machine's. -/
import Derived.Test.YthphlphkmfgkdaaAid
import Derived.Test.YthphlphkmfgkdaaXx7
import Derived.Test.YthphlphkmfgkdaaXx8
import Derived.Test.YthphlphkmfgkdaaXx9
import Derived.Test.YthphlphkmfgkdaaXx10
import Derived.Test.YthphlphkmfgkdaaXx11
namespace Go.Proofs.Ythphlphkmfgkdaa.Pure
open Go.RowKit Go.Proofs.Ythphlphkmfgkdaa.X Go.Proofs.YthphlphkmfgkdaaW.PrintWords Go.Proofs.YthphlphkmfgkdaaW.PrintLast Go.Proofs.YthphlphkmfgkdaaW.PrintMore Go.Proofs.Ythphlphkmfgkdaa.Aid

abbrev C := Int × Int × Bool × Int × Int
def MX : Int := 9223372036854775807
def MI : Int := -9223372036854775808
def inr (a : Int) : Prop := MI ≤ a ∧ a ≤ MX
def sadd (a : Int) (oa : Bool) (b : Int) (ob : Bool) : Int × Bool :=
  if oa = true then (a, oa) else if ob = true then (b, ob) else if a + b > MX then (MX, true) else if a + b < MI then (MI, true) else (a + b, false)
theorem sadd_inr {a b : Int} (ha : inr a) (hb : inr b) (oa ob : Bool) : inr (sadd a oa b ob).1 := by
  unfold sadd inr MX MI at *
  split
  · exact ha
  · split
    · exact hb
    · split
      · omega
      · split <;> simp <;> omega
theorem sat_add {a b : Int} (ha : inr a) (hb : inr b) (oa ob : Bool) (k : Nat) (hk : 0 < k) : sat_Add.f k a oa b ob = some (sadd a oa b ob) := by
  obtain ⟨k, rfl⟩ := succ_of hk
  unfold inr MX MI at ha hb
  unfold sat_Add.f sadd MX MI
  by_cases h1 : oa = true
  · rw [if_pos h1, if_pos h1]
  · rw [if_neg h1, if_neg h1]
    by_cases h2 : ob = true
    · rw [if_pos h2, if_pos h2]
    · rw [if_neg h2, if_neg h2]
      simp only [sat_Add.j0, sat_Of.f, Option.bind_some]
      by_cases c1 : a + b > 9223372036854775807
      · have hw : wrap64 (a + b) = a + b - 18446744073709551616 := by unfold wrap64; omega
        rw [hw, if_pos (show a > 0 by omega), if_pos (show b > 0 by omega), if_pos (by simp; omega), if_pos c1]
      · rw [if_neg c1]
        by_cases c2 : a + b < -9223372036854775808
        · have hw : wrap64 (a + b) = a + b + 18446744073709551616 := by unfold wrap64; omega
          rw [hw, if_pos c2, if_neg (show ¬ a > 0 by omega), if_neg (by simp), if_pos (show a < 0 by omega), if_pos (show b < 0 by omega), if_pos (by omega)]
        · rw [if_neg c2, w64 (by omega) (by omega)]
          by_cases d1 : a > 0
          · rw [if_pos d1]
            by_cases d2 : b > 0
            · rw [if_pos d2, if_neg (by simp; omega), if_neg (by omega)]
            · rw [if_neg d2, if_neg (by simp), if_neg (by omega)]
          · rw [if_neg d1, if_neg (by simp)]
            by_cases d2 : a < 0
            · rw [if_pos d2]
              by_cases d3 : b < 0
              · rw [if_pos d3, if_neg (by omega)]
              · rw [if_neg d3]
            · rw [if_neg d2]
theorem ref_add {a b : Int} (ha : inr a) (hb : inr b) (oa ob : Bool) (k : Nat) (hk : 0 < k) : ebbtideref01_Add.f k a oa b ob = some (sadd a oa b ob) := by
  obtain ⟨k, rfl⟩ := succ_of hk
  unfold inr MX MI at ha hb
  unfold ebbtideref01_Add.f sadd MX MI
  by_cases h1 : oa = true
  · rw [if_pos h1, if_pos h1]
  · rw [if_neg h1, if_neg h1]
    by_cases h2 : ob = true
    · rw [if_pos h2, if_pos h2]
    · rw [if_neg h2, if_neg h2]
      simp only [ebbtideref01_Add.j0]
      by_cases d1 : a > 0
      · rw [if_pos d1, w64 (a := 9223372036854775807 - a) (by omega) (by omega)]
        by_cases c1 : a + b > 9223372036854775807
        · rw [if_pos (by simp; omega), if_pos c1]
        · rw [if_neg (by simp; omega), if_neg c1, if_neg (show ¬ a < 0 by omega), if_neg (show ¬ a + b < -9223372036854775808 by omega), w64 (by omega) (by omega)]
      · rw [if_neg d1, if_neg (by simp), if_neg (show ¬ a + b > 9223372036854775807 by omega)]
        by_cases d2 : a < 0
        · rw [if_pos d2, w64 (a := -9223372036854775808 - a) (by omega) (by omega)]
          by_cases c2 : a + b < -9223372036854775808
          · rw [if_pos (by omega), if_pos c2]
          · rw [if_neg (by omega), if_neg c2, w64 (by omega) (by omega)]
        · rw [if_neg d2, if_neg (show ¬ a + b < -9223372036854775808 by omega), w64 (by omega) (by omega)]
/-- A cell whose numbers are the machine's. -/
def WC (c : C) : Prop := inr c.1 ∧ inr c.2.1 ∧ inr c.2.2.2.1 ∧ inr c.2.2.2.2
def csum (a b : Int) : Int := if a + b > MX then MX else a + b
def ctwo (a b : C) : C :=
  if b.1 < 1 then a else if a.1 < 1 then b else (csum a.1 b.1, (sadd a.2.1 a.2.2.1 b.2.1 b.2.2.1).1, (sadd a.2.1 a.2.2.1 b.2.1 b.2.2.1).2, mn a.2.2.2.1 b.2.2.2.1, mx a.2.2.2.2 b.2.2.2.2)
theorem ctwo_wc {a b : C} (ha : WC a) (hb : WC b) : WC (ctwo a b) := by
  unfold ctwo
  split
  · exact ha
  · split
    · exact hb
    · obtain ⟨a1, a2, a3, a4⟩ := ha
      obtain ⟨b1, b2, b3, b4⟩ := hb
      refine ⟨?_, sadd_inr a2 b2 _ _, ?_, ?_⟩
      · unfold csum inr MX MI at *
        simp only
        split <;> omega
      · unfold mn
        simp only
        split
        · exact b3
        · exact a3
      · unfold mx
        simp only
        split
        · exact b4
        · exact a4
theorem two_eq {a b : C} (ha : WC a) (hb : WC b) (k : Nat) (hk : 0 < k) :
    cell_two.f k a.1 a.2.1 a.2.2.1 a.2.2.2.1 a.2.2.2.2 b.1 b.2.1 b.2.2.1 b.2.2.2.1 b.2.2.2.2 = some (ctwo a b) := by
  obtain ⟨a1, a2, a3, a4, a5⟩ := a
  obtain ⟨b1, b2, b3, b4, b5⟩ := b
  obtain ⟨wa1, wa2, _, _⟩ := ha
  obtain ⟨wb1, wb2, _, _⟩ := hb
  simp only at wa1 wa2 wb1 wb2 ⊢
  unfold cell_two.f cell_Empty.f ctwo
  simp only [Option.bind_some, decide_eq_true_eq]
  by_cases h1 : b1 < 1
  · rw [if_pos h1, if_pos h1]
  · rw [if_neg h1, if_neg h1]
    by_cases h2 : a1 < 1
    · rw [if_pos h2, if_pos h2]
    · rw [if_neg h2, if_neg h2]
      rw [sat_add wa2 wb2 a3 b3 k hk]
      unfold cell_counts.f csum
      unfold inr MX MI at *
      rw [w64 (a := 9223372036854775807 - b1) (by omega) (by omega)]
      by_cases h3 : a1 + b1 > 9223372036854775807
      · rw [if_pos (by omega), if_pos h3]
        rfl
      · rw [if_neg (by omega), if_neg h3, w64 (by omega) (by omega)]
        rfl
def one (v : Int) : C := (1, v, false, v, v)
def cfold (c : C) (v : Int) : C := ctwo c (one v)
theorem one_wc {v : Int} (h : inr v) : WC (one v) := ⟨by unfold one inr MX MI; simp, h, h, h⟩
theorem fold_eq {c : C} {v : Int} (hc : WC c) (hv : inr v) (k : Nat) (hk : 0 < k) : cell_Fold.f k c.1 c.2.1 c.2.2.1 c.2.2.2.1 c.2.2.2.2 v = some (cfold c v) := by
  have h := two_eq hc (one_wc hv) k hk
  simp only [one] at h
  simp only [cell_Fold.f, cell_single.f, sat_Of.f, Option.bind_some, h]
  rfl
theorem cfold_wc {c : C} {v : Int} (hc : WC c) (hv : inr v) : WC (cfold c v) := ctwo_wc hc (one_wc hv)
theorem ref_fold {c : C} {v : Int} (hc : WC c) (hv : inr v) (k : Nat) (hk : 1 < k) : ebbtideref06_Fold.f k c.1 c.2.1 c.2.2.1 c.2.2.2.1 c.2.2.2.2 v = some (cfold c v) := by
  obtain ⟨c1, c2, c3, c4, c5⟩ := c
  obtain ⟨w1, w2, _, _⟩ := hc
  obtain ⟨k, rfl⟩ := succ_of hk
  have ha := ref_add w2 hv c3 false k (by omega)
  simp only at ha w1 w2 ⊢
  unfold ebbtideref06_Fold.f cfold ctwo one
  simp only
  rw [if_neg (show ¬ (1 : Int) < 1 by omega)]
  by_cases h1 : c1 < 1
  · rw [if_pos h1, if_pos h1]
  · rw [if_neg h1, if_neg h1]
    have hj : ∀ n : Int, ebbtideref06_Fold.j0 (k + 1) v n c2 c3 c4 c5 = some (n, (sadd c2 c3 v false).1, (sadd c2 c3 v false).2, mn c4 v, mx c5 v) := by
      intro n
      simp only [ebbtideref06_Fold.j0, ha, Option.bind_some]
      unfold mn mx
      by_cases e1 : v < c4
      · rw [if_pos e1, if_pos e1]
        by_cases e2 : v > c5
        · rw [if_pos e2, if_pos (show c5 < v from e2)]
        · rw [if_neg e2, if_neg (show ¬ c5 < v from e2)]
      · rw [if_neg e1, if_neg e1]
        by_cases e2 : v > c5
        · rw [if_pos e2, if_pos (show c5 < v from e2)]
        · rw [if_neg e2, if_neg (show ¬ c5 < v from e2)]
    rw [hj, hj]
    unfold csum
    unfold inr MX MI at *
    by_cases h2 : c1 < 9223372036854775807
    · rw [if_pos h2, if_neg (by omega), w64 (by omega) (by omega)]
    · rw [if_neg h2, if_pos (by omega)]
      have : c1 = 9223372036854775807 := by omega
      rw [this]
def zc : C := (0, 0, false, 0, 0)
theorem zc_wc : WC zc := by unfold WC zc inr MX MI; simp
def cof (l : List Int) : C := l.foldl cfold zc
theorem foldl_wc {l : List Int} (hl : ∀ x ∈ l, inr x) : ∀ c : C, WC c → WC (l.foldl cfold c) := by
  induction l with
  | nil => exact fun c h => h
  | cons x l ih => exact fun c h => ih (fun y hy => hl y (List.mem_cons_of_mem _ hy)) _ (cfold_wc h (hl x List.mem_cons_self))
theorem cof_wc {l : List Int} (hl : ∀ x ∈ l, inr x) : WC (cof l) := foldl_wc hl _ zc_wc
/-- A record as a cell, and a cell as a record. -/
def ce (x : S28) : C := (x.f0, x.f1.f0, x.f1.f1, x.f2, x.f3)
def ec (c : C) : S28 := ⟨c.1, ⟨c.2.1, c.2.2.1⟩, c.2.2.2.1, c.2.2.2.2⟩
theorem ec_ce (x : S28) : ec (ce x) = x := rfl
theorem ce_ec (c : C) : ce (ec c) = c := rfl
theorem rof_l0 {l : List Int} (hl : ∀ x ∈ l, inr x) (hn : l.length ≤ 9223372036854775807) (d : Nat) : ∀ (i k : Nat) (c : C), i + d = l.length → d + 2 < k → WC c →
    ebbtideref06_Of.l0 k l (i : Int) c.1 c.2.1 c.2.2.1 c.2.2.2.1 c.2.2.2.2 = some ((l.drop i).foldl cfold c) := by
  induction d with
  | zero =>
    intro i k c hi hk _
    obtain ⟨k, rfl⟩ := succ_of hk
    simp only [ebbtideref06_Of.l0]
    rw [if_neg (by omega), List.drop_of_length_le (by omega)]
    rfl
  | succ d ih =>
    intro i k c hi hk hc
    obtain ⟨k, rfl⟩ := succ_of hk
    have hlt : i < l.length := by omega
    have hx : inr l[i] := hl _ (List.getElem_mem hlt)
    simp only [ebbtideref06_Of.l0]
    rw [if_pos (by omega), if_pos (by omega), rd_at hlt, ref_fold hc hx k (by omega), w64s (by omega), drop_at hlt]
    exact ih (i + 1) k _ (by omega) (by omega) (cfold_wc hc hx)
theorem rof_eq {l : List Int} (hl : ∀ x ∈ l, inr x) (hn : l.length ≤ 9223372036854775807) (k : Nat) (hk : l.length + 2 < k) : ebbtideref06_Of.f k l = some (cof l) :=
  rof_l0 hl hn l.length 0 k zc (by omega) hk zc_wc
theorem inr_of {a : Int} (h : (Lit.int .i64 a).wf = true) : inr a := wf64 h
end Go.Proofs.Ythphlphkmfgkdaa.Pure
