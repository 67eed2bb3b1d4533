/- Printed by a program of this session's own: what functions of the program compute, and that the machine computes it. No condition of its own. -/
import Derived.Test.YtgcbejidponoaaaGreatDoorM3
import Derived.Test.YtgcbejidponoaaaGreatDoorM7
import Derived.Test.YtgcbejidponoaaaGreatDoorM8
namespace Go.Proofs.YtgcbejidponoaaaGreatDoor.X
open Go.RowKit Go.Proofs.YtgcbejidponoaaaGreatDoorW.PrintWords Go.Proofs.YtgcbejidponoaaaGreatDoorW.PrintLast Go.Proofs.YtgcbejidponoaaaGreatDoorW.PrintMore
attribute [local go_sem] max2_int min2_int max_two min_two max_three min_three max_four min_four
set_option linter.unusedVariables false
set_option linter.unusedSimpArgs false
set_option maxHeartbeats 8000000
set_option maxRecDepth 100000
attribute [local go_sem high] eqA48
def ebbtideref09_Same.l0 : Nat → List (S48) → List (S48) → Int → Option (Bool)
 | 0, _, _, _ => none
 | k + 1, x0, x1, x5 => if x5 < (x0.length : Int) then (if 0 ≤ x5 then (if x5 < (x1.length : Int) then (if ((!(((rd_T48 x0 x5).f0.f0) == ((rd_T48 x1 x5).f0.f0)) || (!((((rd_T48 x0 x5).f0.f1).toList) == (((rd_T48 x1 x5).f0.f1).toList)) || ((!(((rd_T48 x0 x5).f0.f2.f0) == ((rd_T48 x1 x5).f0.f2.f0)) || (!(((rd_T48 x0 x5).f0.f2.f1) == ((rd_T48 x1 x5).f0.f2.f1))))))) || (!(((rd_T48 x0 x5).f1) == ((rd_T48 x1 x5).f1)))) = true then (some false) else (ebbtideref09_Same.l0 k x0 x1 (wrap64 (x5 + 1)))) else (none)) else (none)) else (some true)
def ebbtideref09_Same.f (k : Nat) (l0 : List (S48)) (l1 : List (S48)) : Option (Bool) := if (l0.length : Int) = (l1.length : Int) then (ebbtideref09_Same.l0 k l0 l1 0) else (some false)
theorem ebbtideref09_Same.mono_l : ∀ k, (∀ y0 y1 y2, LeC (ebbtideref09_Same.l0 k y0 y1 y2) (ebbtideref09_Same.l0 (k + 1) y0 y1 y2))
 | 0 => fun _ _ _ => ⟨fun r h => by simp [ebbtideref09_Same.l0] at h⟩
 | k + 1 => by have ih0 := ebbtideref09_Same.mono_l k; exact fun _ _ _ => by unfold ebbtideref09_Same.l0; exact lm
theorem ebbtideref09_Same.mono : ∀ a0 a1 k, LeO (ebbtideref09_Same.f k a0 a1) (ebbtideref09_Same.f (k + 1) a0 a1) := by
 intro a0 a1 k
 have ih0 := ebbtideref09_Same.mono_l k
 unfold ebbtideref09_Same.f
 exact lo
instance ebbtideref09_Same.mI {a0 a1 k} : LeC (ebbtideref09_Same.f k a0 a1) (ebbtideref09_Same.f (k + 1) a0 a1) := ⟨ebbtideref09_Same.mono _ _ _⟩
theorem ebbtideref09_Same.calls (k : Nat) (A0 : Option Addr) (c0 : Nat) (l0 : List (S48)) (A1 : Option Addr) (c1 : Nat) (l1 : List (S48)) (r : Bool) (w : World) (hr0 : Kd.C k48 w A0 l0.length l0) (hc0 : l0.length ≤ c0) (hr1 : Kd.C k48 w A1 l1.length l1) (hc1 : l1.length ≤ c1) (h : ebbtideref09_Same.f k l0 l1 = some r) :
 Calls Tryz.prog 12 #[.slice A0 l0.length c0, .slice A1 l1.length c1] w fun e w' => e = .returned (.bool r) ∧ Drawn0 w w' := by
 have hu48 := Tryz.underlying48
 have HR0 := Aside0.mk hr0
 have HC0 := Aside0.mk hc0
 clear hr0 hc0
 have HR1 := Aside0.mk hr1
 have HC1 := Aside0.mk hc1
 clear hr1 hc1
 have H : (if (l0.length : Int) = (l1.length : Int) then (ebbtideref09_Same.l0 k l0 l1 0) else (some false)) = some r := h
 clear h
 by_cases c3 : (l0.length : Int) = (l1.length : Int)
 ·
  rw [if_pos c3] at H
  have c3b0 : ((l0.length : Int) == (l1.length : Int)) = true := beq_iff_eq.mpr c3
  have c3b1 : ((l0.length : Int) != (l1.length : Int)) = false := bne_eq_false_iff_eq.mpr c3
  have c3b2 : (l0.length == l1.length) = true := by first | simpa using c3 | (simp at c3 ⊢; omega)
  clear c3
  have H' := Aside0.mk H
  clear H
  go_enter Tryz.func12, Tryz.ntmps12
  go_wp2
  repeat (go_quiet (fail); try go_wp2)
  go_loopg [5] k (fun kq v5 w' => ∃ (x5_1 : Int), v5 = .int .i64 x5_1 ∧ Aside0 (ebbtideref09_Same.l0 kq l0 l1 x5_1 = some r) ∧ Aside0 (kq ≤ k) ∧ Drawn0 w w')
  case atStart => exact ⟨(0), rs_, H', ⟨Nat.le_refl _⟩, dr_⟩
  case round =>
   clear H'
   try clear c1
   try clear p2
   try clear c3
   try clear c3b0
   try clear c3b1
   try clear c3b2
   obtain ⟨x5_1, rfl, HA, HK1, ⟨m1, rfl⟩⟩ := hrel
   cases gk with
   | zero => exact absurd HA.out (by simp [ebbtideref09_Same.l0])
   | succ k1 =>
    have H := HA.out
    clear HA
    simp only [ebbtideref09_Same.l0] at H
    by_cases c4 : x5_1 < (l0.length : Int)
    ·
     rw [if_pos c4] at H
     have c4b0 : decide (x5_1 < (l0.length : Int)) = true := decide_eq_true c4
     clear c4
     obtain ⟨c5b0, H⟩ := gdd H
     obtain ⟨c6b0, H⟩ := gdd H
     by_cases c7 : ((!(((rd_T48 l0 x5_1).f0.f0) == ((rd_T48 l1 x5_1).f0.f0)) || (!((((rd_T48 l0 x5_1).f0.f1).toList) == (((rd_T48 l1 x5_1).f0.f1).toList)) || ((!(((rd_T48 l0 x5_1).f0.f2.f0) == ((rd_T48 l1 x5_1).f0.f2.f0)) || (!(((rd_T48 l0 x5_1).f0.f2.f1) == ((rd_T48 l1 x5_1).f0.f2.f1))))))) || (!(((rd_T48 l0 x5_1).f1) == ((rd_T48 l1 x5_1).f1)))) = true
     ·
      rw [if_pos c7] at H
      have c7b0 : ((!(((rd_T48 l0 x5_1).f0.f0) == ((rd_T48 l1 x5_1).f0.f0)) || (!((((rd_T48 l0 x5_1).f0.f1).toList) == (((rd_T48 l1 x5_1).f0.f1).toList)) || ((!(((rd_T48 l0 x5_1).f0.f2.f0) == ((rd_T48 l1 x5_1).f0.f2.f0)) || (!(((rd_T48 l0 x5_1).f0.f2.f1) == ((rd_T48 l1 x5_1).f0.f2.f1))))))) || (!(((rd_T48 l0 x5_1).f1) == ((rd_T48 l1 x5_1).f1)))) = true := c7
      clear c7
      obtain rfl := Option.some.inj H
      have p652 : 0 ≤ (x5_1 : Int) := od
      have q652 : x5_1 < (l0.length : Int) := od
      obtain ⟨ad652, e652, hx652_0, hx652_1, hx652_2, hx652_3, hx652_4⟩ := at_T48 HR0.out x5_1 p652 q652
      cases e652
      replace p652 := eq_true p652
      replace q652 := eq_true q652
      have p653 : 0 ≤ (x5_1 : Int) := od
      have q653 : x5_1 < (l1.length : Int) := od
      obtain ⟨ad653, e653, hx653_0, hx653_1, hx653_2, hx653_3, hx653_4⟩ := at_T48 HR1.out x5_1 p653 q653
      cases e653
      replace p653 := eq_true p653
      replace q653 := eq_true q653
      go_wp2
      repeat (go_quiet (fail); try go_wp2)
      go_ret
      exact ⟨rs_, dr_⟩
     ·
      rw [if_neg c7] at H
      have c7b0 : ((!(((rd_T48 l0 x5_1).f0.f0) == ((rd_T48 l1 x5_1).f0.f0)) || (!((((rd_T48 l0 x5_1).f0.f1).toList) == (((rd_T48 l1 x5_1).f0.f1).toList)) || ((!(((rd_T48 l0 x5_1).f0.f2.f0) == ((rd_T48 l1 x5_1).f0.f2.f0)) || (!(((rd_T48 l0 x5_1).f0.f2.f1) == ((rd_T48 l1 x5_1).f0.f2.f1))))))) || (!(((rd_T48 l0 x5_1).f1) == ((rd_T48 l1 x5_1).f1)))) = false := by simpa using c7
      clear c7
      have H' := Aside0.mk H
      clear H
      have p652 : 0 ≤ (x5_1 : Int) := od
      have q652 : x5_1 < (l0.length : Int) := od
      obtain ⟨ad652, e652, hx652_0, hx652_1, hx652_2, hx652_3, hx652_4⟩ := at_T48 HR0.out x5_1 p652 q652
      cases e652
      replace p652 := eq_true p652
      replace q652 := eq_true q652
      have p653 : 0 ≤ (x5_1 : Int) := od
      have q653 : x5_1 < (l1.length : Int) := od
      obtain ⟨ad653, e653, hx653_0, hx653_1, hx653_2, hx653_3, hx653_4⟩ := at_T48 HR1.out x5_1 p653 q653
      cases e653
      replace p653 := eq_true p653
      replace q653 := eq_true q653
      go_wp2
      repeat (go_quiet (fail); try go_wp2)
      go_roundg k1
      case measure => have := HK1.out; omega
      case rel => exact ⟨(wrap64 (x5_1 + 1)), rs_, H', ⟨by have := HK1.out; omega⟩, dr_⟩
    ·
     rw [if_neg c4] at H
     have c4b0 : decide (x5_1 < (l0.length : Int)) = false := decide_eq_false c4
     clear c4
     obtain rfl := Option.some.inj H
     go_wp2
     repeat (go_quiet (fail); try go_wp2)
     go_ret
     exact ⟨rs_, dr_⟩
 ·
  rw [if_neg c3] at H
  have c3b0 : ((l0.length : Int) == (l1.length : Int)) = false := beq_eq_false_iff_ne.mpr c3
  have c3b1 : ((l0.length : Int) != (l1.length : Int)) = true := bne_iff_ne.mpr c3
  have c3b2 : (l0.length == l1.length) = false := by first | simpa using c3 | (simp at c3 ⊢; omega)
  obtain rfl := Option.some.inj H
  go_enter Tryz.func12, Tryz.ntmps12
  go_wp2
  repeat (go_quiet (fail); try go_wp2)
  go_ret
  exact ⟨rs_, dr_⟩
mutual
def ebbtideref01_Number.j0 : Nat → Int → Int → Option (ByteArray)
 | 0, _, _ => none
 | k + 1, x0, x3 => ebbtideref01_Number.l0 k x0 x3 (⟨#[]⟩ : ByteArray)
def ebbtideref01_Number.l0 : Nat → Int → Int → ByteArray → Option (ByteArray)
 | 0, _, _, _ => none
 | k + 1, x0, x3, x4 => (some (([(wrap64 (48 + (wrap64 (-(Int.tmod x3 10))))) % 256] : List Int) : List Int)).bind fun y654 => (if (strOfNums y654).size + x4.size ≤ 9223372036854775807 then (if (wrap64 (Int.tdiv x3 10)) = 0 then (if x0 < 0 then (if 1 + ((strOfNums y654) ++ x4).size ≤ 9223372036854775807 then (some ((⟨#[45]⟩ : ByteArray) ++ ((strOfNums y654) ++ x4))) else (none)) else (some ((strOfNums y654) ++ x4))) else (ebbtideref01_Number.l0 k x0 (wrap64 (Int.tdiv x3 10)) ((strOfNums y654) ++ x4))) else (none))
end
def ebbtideref01_Number.f (k : Nat) (a0 : Int) : Option (ByteArray) := if a0 > 0 then (ebbtideref01_Number.j0 k a0 (wrap64 (-a0))) else (ebbtideref01_Number.j0 k a0 a0)
theorem ebbtideref01_Number.mono_l : ∀ k, (∀ y0 y1, LeC (ebbtideref01_Number.j0 k y0 y1) (ebbtideref01_Number.j0 (k + 1) y0 y1)) ∧ (∀ y0 y1 y2, LeC (ebbtideref01_Number.l0 k y0 y1 y2) (ebbtideref01_Number.l0 (k + 1) y0 y1 y2))
 | 0 => ⟨fun _ _ => ⟨fun r h => by simp [ebbtideref01_Number.j0] at h⟩, fun _ _ _ => ⟨fun r h => by simp [ebbtideref01_Number.l0] at h⟩⟩
 | k + 1 => by obtain ⟨ih0, ih1⟩ := ebbtideref01_Number.mono_l k; exact ⟨fun _ _ => by unfold ebbtideref01_Number.j0; exact lm, fun _ _ _ => by unfold ebbtideref01_Number.l0; exact lm⟩
theorem ebbtideref01_Number.mono : ∀ a0 k, LeO (ebbtideref01_Number.f k a0) (ebbtideref01_Number.f (k + 1) a0) := by
 intro a0 k
 obtain ⟨ih0, ih1⟩ := ebbtideref01_Number.mono_l k
 unfold ebbtideref01_Number.f
 exact lo
instance ebbtideref01_Number.mI {a0 k} : LeC (ebbtideref01_Number.f k a0) (ebbtideref01_Number.f (k + 1) a0) := ⟨ebbtideref01_Number.mono _ _⟩
theorem ebbtideref01_Number.calls (k : Nat) (a0 : Int) (r : ByteArray) (w : World) (h : ebbtideref01_Number.f k a0 = some r) :
 Calls Tryz.prog 34 #[.int .i64 a0] w fun e w' => e = .returned (.string r) ∧ Below w.heap.size w w' := by
 have HB := Aside0.mk (Below.refl w.heap.size w)
 have H : (if a0 > 0 then (ebbtideref01_Number.j0 k a0 (wrap64 (-a0))) else (ebbtideref01_Number.j0 k a0 a0)) = some r := h
 clear h
 have HC2 := Aside0.mk H
 clear H
 go_enter Tryz.func34, Tryz.ntmps34
 go_upto_if 7 with (fail)
 go_cut [3] (fun v3 wc => ∃ (kq : Nat) (x3_1 : Int), v3 = .int .i64 x3_1 ∧ Aside0 (ebbtideref01_Number.j0 kq a0 x3_1 = some r) ∧ Aside0 (kq ≤ k) ∧ Aside0 (Below w.heap.size w wc))
 case first =>
  have H := HC2.out
  clear HC2
  by_cases c3 : a0 > 0
  ·
   rw [if_pos c3] at H
   have c3b0 : decide (0 < a0) = true := decide_eq_true c3
   clear c3
   (first | rw [c3b0] | (simp only [i64_w, i32_w]; rw [c3b0]) | skip)
   have H' := Aside0.mk H
   clear H
   go_wp2
   go_meet
   case rel => exact ⟨_, (wrap64 (-a0)), rs_, H', ⟨by first | omega | exact Nat.le_refl _⟩, ⟨uW HB.out⟩⟩
  ·
   rw [if_neg c3] at H
   have c3b0 : decide (0 < a0) = false := decide_eq_false c3
   clear c3
   (first | rw [c3b0] | (simp only [i64_w, i32_w]; rw [c3b0]) | skip)
   have H' := Aside0.mk H
   clear H
   go_wp2
   go_meet
   case rel => exact ⟨_, (a0), rs_, H', ⟨by first | omega | exact Nat.le_refl _⟩, ⟨uW HB.out⟩⟩
 case rest =>
  clear HC2
  try clear p2
  try clear c3
  try clear c3b0
  obtain ⟨kq, x3_1, rfl, HA, HJ1, HB⟩ := hcut
  cases kq with
  | zero => exact absurd HA.out (by simp [ebbtideref01_Number.j0])
  | succ kj1 =>
   have H := HA.out
   clear HA
   simp only [ebbtideref01_Number.j0] at H
   have H' := Aside0.mk H
   clear H
   go_wp2
   go_loopg [3, 4] kj1 (fun kq v3 v4 w' => ∃ (x3_2 : Int) (x4_2 : ByteArray), v3 = .int .i64 x3_2 ∧ v4 = .string x4_2 ∧ Aside0 (ebbtideref01_Number.l0 kq a0 x3_2 x4_2 = some r) ∧ Aside0 (kq ≤ kj1) ∧ Aside0 (Below w.heap.size w w'))
   case atStart => exact ⟨(x3_1), ((⟨#[]⟩ : ByteArray)), rs_, rs_, H', ⟨Nat.le_refl _⟩, ⟨uW HB.out⟩⟩
   case round =>
    clear H'
    try clear p2
    try clear c3
    try clear c3b0
    try clear p2
    obtain ⟨x3_2, x4_2, rfl, rfl, HA, HK2, HB⟩ := hrel
    cases gk with
    | zero => exact absurd HA.out (by simp [ebbtideref01_Number.l0])
    | succ k2 =>
     have H := HA.out
     clear HA
     simp only [ebbtideref01_Number.l0] at H
     obtain ⟨y654, Ny654, H⟩ := ys H
     try dsimp only at H
     by_cases c4 : (strOfNums y654).size + x4_2.size ≤ 9223372036854775807
     ·
      rw [if_pos c4] at H
      have c4b0 := eq_true c4
      have c4b1 : decide ((strOfNums y654).size + x4_2.size ≤ 9223372036854775807) = true := decide_eq_true c4
      try have c4b2 : (9223372036854775807 < (strOfNums y654).size + x4_2.size) = False := eq_false (Nat.not_lt.2 c4)
      by_cases c5 : (wrap64 (Int.tdiv x3_2 10)) = 0
      ·
       rw [if_pos c5] at H
       have c5b0 : ((wrap64 (Int.tdiv x3_2 10)) == 0) = true := beq_iff_eq.mpr c5
       have c5b1 : ((wrap64 (Int.tdiv x3_2 10)) != 0) = false := bne_eq_false_iff_eq.mpr c5
       clear c5
       by_cases c6 : a0 < 0
       ·
        rw [if_pos c6] at H
        have c6b0 : decide (a0 < 0) = true := decide_eq_true c6
        clear c6
        obtain ⟨c7, H⟩ := gd H
        have c7b0 := eq_true c7
        have c7b1 : decide (1 + ((strOfNums y654) ++ x4_2).size ≤ 9223372036854775807) = true := decide_eq_true c7
        try have c7b2 : (9223372036854775807 < 1 + ((strOfNums y654) ++ x4_2).size) = False := eq_false (Nat.not_lt.2 c7)
        try have c7b8 := c7b2
        try simp only [ByteArray.size_append] at c7b8
        obtain rfl := Option.some.inj H
        go_wp2_with (first | ((with_reducible refine gate_dst (N := 15) rfl ?_); refine Kd.R_lit (Kd.int .u8) _ 5 ?hg (N := 15) ?hd (xs := ([(wrap64 (48 + (wrap64 (-(Int.tmod x3_2 10))))) % 256] : List Int)) (inner := [.int .u8 ((wrap64 (48 + (wrap64 (-(Int.tmod x3_2 10))))) % 256)]) (ok := fun _ => True) (okp := fun _ => True) ?hr ?hp (fun _ hk => hk) trivial (Below.refl _ _) (Nat.le_refl _) (by simp) ?_; (case hd => rfl); (case hg => rfl); (case hr => first | (go_simp; done) | (go_simp; rfl)); (case hp => exact (Reps.one (show Kd.M (Kd.int .u8) _ _ _ ((wrap64 (48 + (wrap64 (-(Int.tmod x3_2 10))))) % 256) [.int .u8 ((wrap64 (48 + (wrap64 (-(Int.tmod x3_2 10))))) % 256)] from rfl) (Reps.none _ _))); intro v655 w8 ho9 hb hg_ hnew_; clear hg_ hnew_; (first | rw [← Ny654.out] at ho9 | (simp only [Int.reduceToNat] at ho9; rw [← Ny654.out] at ho9)); have HO656 := Aside0.mk (Kd.R_lower ho9 (below_size (uW HB.out))); replace HB := cW HB hb; clear hb ho9; have hcv10 := own_string (P := Tryz.prog) Tryz.underlying72 Tryz.underlying5 Tryz.underlying9 (Kd.own_of_R HO656.out)))
        go_ret
        exact ⟨re_, uW HB.out⟩
       ·
        rw [if_neg c6] at H
        have c6b0 : decide (a0 < 0) = false := decide_eq_false c6
        clear c6
        obtain rfl := Option.some.inj H
        go_wp2_with (first | ((with_reducible refine gate_dst (N := 15) rfl ?_); refine Kd.R_lit (Kd.int .u8) _ 5 ?hg (N := 15) ?hd (xs := ([(wrap64 (48 + (wrap64 (-(Int.tmod x3_2 10))))) % 256] : List Int)) (inner := [.int .u8 ((wrap64 (48 + (wrap64 (-(Int.tmod x3_2 10))))) % 256)]) (ok := fun _ => True) (okp := fun _ => True) ?hr ?hp (fun _ hk => hk) trivial (Below.refl _ _) (Nat.le_refl _) (by simp) ?_; (case hd => rfl); (case hg => rfl); (case hr => first | (go_simp; done) | (go_simp; rfl)); (case hp => exact (Reps.one (show Kd.M (Kd.int .u8) _ _ _ ((wrap64 (48 + (wrap64 (-(Int.tmod x3_2 10))))) % 256) [.int .u8 ((wrap64 (48 + (wrap64 (-(Int.tmod x3_2 10))))) % 256)] from rfl) (Reps.none _ _))); intro v655 w11 ho12 hb hg_ hnew_; clear hg_ hnew_; (first | rw [← Ny654.out] at ho12 | (simp only [Int.reduceToNat] at ho12; rw [← Ny654.out] at ho12)); have HO656 := Aside0.mk (Kd.R_lower ho12 (below_size (uW HB.out))); replace HB := cW HB hb; clear hb ho12; have hcv13 := own_string (P := Tryz.prog) Tryz.underlying72 Tryz.underlying5 Tryz.underlying9 (Kd.own_of_R HO656.out)))
        go_ret
        exact ⟨re_, uW HB.out⟩
      ·
       rw [if_neg c5] at H
       have c5b0 : ((wrap64 (Int.tdiv x3_2 10)) == 0) = false := beq_eq_false_iff_ne.mpr c5
       have c5b1 : ((wrap64 (Int.tdiv x3_2 10)) != 0) = true := bne_iff_ne.mpr c5
       have H' := Aside0.mk H
       clear H
       go_wp2_with (first | ((with_reducible refine gate_dst (N := 15) rfl ?_); refine Kd.R_lit (Kd.int .u8) _ 5 ?hg (N := 15) ?hd (xs := ([(wrap64 (48 + (wrap64 (-(Int.tmod x3_2 10))))) % 256] : List Int)) (inner := [.int .u8 ((wrap64 (48 + (wrap64 (-(Int.tmod x3_2 10))))) % 256)]) (ok := fun _ => True) (okp := fun _ => True) ?hr ?hp (fun _ hk => hk) trivial (Below.refl _ _) (Nat.le_refl _) (by simp) ?_; (case hd => rfl); (case hg => rfl); (case hr => first | (go_simp; done) | (go_simp; rfl)); (case hp => exact (Reps.one (show Kd.M (Kd.int .u8) _ _ _ ((wrap64 (48 + (wrap64 (-(Int.tmod x3_2 10))))) % 256) [.int .u8 ((wrap64 (48 + (wrap64 (-(Int.tmod x3_2 10))))) % 256)] from rfl) (Reps.none _ _))); intro v655 w14 ho15 hb hg_ hnew_; clear hg_ hnew_; (first | rw [← Ny654.out] at ho15 | (simp only [Int.reduceToNat] at ho15; rw [← Ny654.out] at ho15)); have HO656 := Aside0.mk (Kd.R_lower ho15 (below_size (uW HB.out))); replace HB := cW HB hb; clear hb ho15; have hcv16 := own_string (P := Tryz.prog) Tryz.underlying72 Tryz.underlying5 Tryz.underlying9 (Kd.own_of_R HO656.out)))
       go_roundg k2
       case measure => have := HJ1.out; have := HK2.out; omega
       case rel => exact ⟨(wrap64 (Int.tdiv x3_2 10)), ((strOfNums y654) ++ x4_2), rs_, rs_, H', ⟨by have := HJ1.out; have := HK2.out; omega⟩, ⟨uW HB.out⟩⟩
     ·
      rw [if_neg c4] at H
      exact absurd H (by simp)
def ebbtideref01_Text.f (k : Nat) (a0_0 : Int) (a0_1 : Bool) : Option (ByteArray) := if a0_1 = true then ((ebbtideref01_Number.f k a0_0).bind fun t658 => (if t658.size + 1 ≤ 9223372036854775807 then (some (t658 ++ (⟨#[33]⟩ : ByteArray))) else (none))) else ((ebbtideref01_Number.f k a0_0).bind fun t659 => (some t659))
theorem ebbtideref01_Text.mono : ∀ a0 a1 k, LeO (ebbtideref01_Text.f k a0 a1) (ebbtideref01_Text.f (k + 1) a0 a1) := by
 intro a0 a1 k
 unfold ebbtideref01_Text.f
 exact lo
instance ebbtideref01_Text.mI {a0 a1 k} : LeC (ebbtideref01_Text.f k a0 a1) (ebbtideref01_Text.f (k + 1) a0 a1) := ⟨ebbtideref01_Text.mono _ _ _⟩
theorem ebbtideref01_Text.calls (k : Nat) (a0_0 : Int) (a0_1 : Bool) (r : ByteArray) (w : World) (h : ebbtideref01_Text.f k a0_0 a0_1 = some r) :
 Calls Tryz.prog 55 #[.agg #[.int .i64 a0_0, .bool a0_1]] w fun e w' => e = .returned (.string r) ∧ Below w.heap.size w w' := by
 have hu43 := Tryz.underlying43
 have HB := Aside0.mk (Below.refl w.heap.size w)
 have H : (if a0_1 = true then ((ebbtideref01_Number.f k a0_0).bind fun t658 => (if t658.size + 1 ≤ 9223372036854775807 then (some (t658 ++ (⟨#[33]⟩ : ByteArray))) else (none))) else ((ebbtideref01_Number.f k a0_0).bind fun t659 => (some t659))) = some r := h
 clear h
 by_cases c2 : a0_1 = true
 ·
  subst c2
  rw [if_pos rfl] at H
  obtain ⟨t658, A3, H⟩ := bs H
  try dsimp only at H
  obtain ⟨c4, H⟩ := gd H
  have c4b0 := eq_true c4
  have c4b1 : decide (t658.size + 1 ≤ 9223372036854775807) = true := decide_eq_true c4
  try have c4b2 : (9223372036854775807 < t658.size + 1) = False := eq_false (Nat.not_lt.2 c4)
  obtain rfl := Option.some.inj H
  go_enter Tryz.func55, Tryz.ntmps55
  go_wp2_with (first | ((with_reducible refine gate_dst (N := 1) rfl ?_); refine bx (N := 1) #[.int .i64 a0_0, .bool true] 43 ?_; intro gb657 hg w5 hbox hb; have BK657 := Aside0.mk (hbox); have GW657 := gw hg (uW HB.out); have GE657 := GW657; replace HB := cW HB hb; clear hb hbox hg; obtain ⟨hcz6_0, hcz6_1, hfz6_0, hfz6_1⟩ := z2 BK657) | (refine gL (some 7) rfl Tryz.func34 #[.int .i64 a0_0] ?_; (with_reducible refine (ebbtideref01_Number.calls k a0_0 t658 _ A3.out).mono ?_); rintro e w7 ⟨rfl, hb⟩; refine ⟨_, rfl, ?_⟩; replace BK657 := cB BK657 hb; replace HB := Aside0.mk (below_step bl hb); (try clear hb)))
  go_ret
  exact ⟨re_, bl⟩
 ·
  replace c2 := Bool.eq_false_iff.mpr c2
  subst c2
  rw [if_neg (show ¬ (false = true) by decide)] at H
  obtain ⟨t659, A8, H⟩ := bs H
  try dsimp only at H
  obtain rfl := Option.some.inj H
  go_enter Tryz.func55, Tryz.ntmps55
  go_wp2_with (first | ((with_reducible refine gate_dst (N := 1) rfl ?_); refine bx (N := 1) #[.int .i64 a0_0, .bool false] 43 ?_; intro gb657 hg w9 hbox hb; have BK657 := Aside0.mk (hbox); have GW657 := gw hg (uW HB.out); have GE657 := GW657; replace HB := cW HB hb; clear hb hbox hg; obtain ⟨hcz10_0, hcz10_1, hfz10_0, hfz10_1⟩ := z2 BK657) | (refine gL (some 11) rfl Tryz.func34 #[.int .i64 a0_0] ?_; (with_reducible refine (ebbtideref01_Number.calls k a0_0 t659 _ A8.out).mono ?_); rintro e w11 ⟨rfl, hb⟩; refine ⟨_, rfl, ?_⟩; replace BK657 := cB BK657 hb; replace HB := Aside0.mk (below_step bl hb); (try clear hb)))
  go_ret
  exact ⟨re_, bl⟩
def ebbtideref08_Text.l0 : Nat → List (S45) → List ByteArray → Int → Option (ByteArray)
 | 0, _, _, _ => none
 | k + 1, x0, x3, x4 => if x4 < (x0.length : Int) then (if 0 ≤ x4 then ((ebbtideref01_Number.f k ((rd_T45 x0 x4).f0)).bind fun t661 => (if t661.size + 1 ≤ 9223372036854775807 then (if (t661 ++ (⟨#[124]⟩ : ByteArray)).size + ((rd_T45 x0 x4).f1).size ≤ 9223372036854775807 then (if ((t661 ++ (⟨#[124]⟩ : ByteArray)) ++ ((rd_T45 x0 x4).f1)).size + 1 ≤ 9223372036854775807 then ((ebbtideref01_Text.f k ((rd_T45 x0 x4).f2.f0) ((rd_T45 x0 x4).f2.f1)).bind fun t664 => (if (((t661 ++ (⟨#[124]⟩ : ByteArray)) ++ ((rd_T45 x0 x4).f1)) ++ (⟨#[124]⟩ : ByteArray)).size + t664.size ≤ 9223372036854775807 then (if x3.length < 8796093022208 then (ebbtideref08_Text.l0 k x0 (x3 ++ [(((t661 ++ (⟨#[124]⟩ : ByteArray)) ++ ((rd_T45 x0 x4).f1)) ++ (⟨#[124]⟩ : ByteArray)) ++ t664]) (wrap64 (x4 + 1))) else (none)) else (none))) else (none)) else (none)) else (none))) else (none)) else ((ebbtideref02_Join.f k (⟨#[59]⟩ : ByteArray) x3).bind fun t668 => (some t668))
def ebbtideref08_Text.f (k : Nat) (l0 : List (S45)) : Option (ByteArray) := if (l0.length : Int) = 0 then (some (⟨#[45]⟩ : ByteArray)) else (ebbtideref08_Text.l0 k l0 ([] : List ByteArray) 0)
theorem ebbtideref08_Text.mono_l : ∀ k, (∀ y0 y1 y2, LeC (ebbtideref08_Text.l0 k y0 y1 y2) (ebbtideref08_Text.l0 (k + 1) y0 y1 y2))
 | 0 => fun _ _ _ => ⟨fun r h => by simp [ebbtideref08_Text.l0] at h⟩
 | k + 1 => by have ih0 := ebbtideref08_Text.mono_l k; exact fun _ _ _ => by unfold ebbtideref08_Text.l0; exact lm
theorem ebbtideref08_Text.mono : ∀ a0 k, LeO (ebbtideref08_Text.f k a0) (ebbtideref08_Text.f (k + 1) a0) := by
 intro a0 k
 have ih0 := ebbtideref08_Text.mono_l k
 unfold ebbtideref08_Text.f
 exact lo
instance ebbtideref08_Text.mI {a0 k} : LeC (ebbtideref08_Text.f k a0) (ebbtideref08_Text.f (k + 1) a0) := ⟨ebbtideref08_Text.mono _ _⟩
def ebbtideref08_Text.T7 : Bool × List (List Nat × List Nat) := (true, [([], []), ([], []), ([], []), ([1, 2], [1, 2]), ([3], [3]), ([4], [4]), ([5], [5]), ([6], [6]), ([], []), ([], []), ([8, 9], [8, 9]), ([10], [10]), ([11], [11]), ([7, 12], [7, 12]), ([13], [13]), ([], []), ([], []), ([15, 16], [15, 16]), ([17], [17]), ([18], [18]), ([19, 6], [19]), ([14, 20], [14, 20]), ([21], [21]), ([0, 22, 20], [0, 22]), ([23, 23, 0, 1, 2, 3, 4, 5, 6, 7, 8, 9, 10, 11, 12, 13, 14, 15, 16, 17, 18, 19, 20, 21, 22, 23], [0, 23])])
def ebbtideref08_Text.B7 : List Nat := [0, 0, 0, 6, 14, 30, 62, 126, 0, 0, 768, 1792, 3840, 8190, 16382, 0, 0, 98304, 229376, 491520, 1015934, 2097150, 4194302, 8388607, 16777215]
theorem ebbtideref08_Text.tab7 : rtab .any (opsOf Tryz.f33 7) = ebbtideref08_Text.T7 := by kernel_rfl
theorem ebbtideref08_Text.bits7 : waitsOk ebbtideref08_Text.T7.2 ebbtideref08_Text.B7 = true := by kernel_rfl
theorem ebbtideref08_Text.calls (k : Nat) (A0 : Option Addr) (c0 : Nat) (l0 : List (S45)) (r : ByteArray) (w : World) (hr0 : Kd.C k45 w A0 l0.length l0) (hc0 : l0.length ≤ c0) (h : ebbtideref08_Text.f k l0 = some r) :
 Calls Tryz.prog 33 #[.slice A0 l0.length c0] w fun e w' => e = .returned (.string r) ∧ Below w.heap.size w w' := by
 have hu43 := Tryz.underlying43
 have HR0 := Aside0.mk hr0
 have HC0 := Aside0.mk hc0
 clear hr0 hc0
 have HB := Aside0.mk (Below.refl w.heap.size w)
 have H : (if (l0.length : Int) = 0 then (some (⟨#[45]⟩ : ByteArray)) else (ebbtideref08_Text.l0 k l0 ([] : List ByteArray) 0)) = some r := h
 clear h
 by_cases c2 : (l0.length : Int) = 0
 ·
  rw [if_pos c2] at H
  have c2b0 : ((l0.length : Int) == 0) = true := beq_iff_eq.mpr c2
  have c2b1 : ((l0.length : Int) != 0) = false := bne_eq_false_iff_eq.mpr c2
  clear c2
  obtain rfl := Option.some.inj H
  go_enter Tryz.func33, Tryz.ntmps33
  go_wp2
  go_ret
  exact ⟨re_, uW HB.out⟩
 ·
  rw [if_neg c2] at H
  have c2b0 : ((l0.length : Int) == 0) = false := beq_eq_false_iff_ne.mpr c2
  have c2b1 : ((l0.length : Int) != 0) = true := bne_iff_ne.mpr c2
  have c2b2 : ¬ (l0 = []) := fun h_ => c2 (by rw [h_]; rfl)
  have H' := Aside0.mk H
  clear H
  go_enter Tryz.func33, Tryz.ntmps33
  go_wp2
  go_loopg [3, 4] k (fun kq v3 v4 w' => ∃ (x3_1 : List ByteArray) (x4_1 : Int), v4 = .int .i64 x4_1 ∧ Aside0 (ebbtideref08_Text.l0 kq l0 x3_1 x4_1 = some r) ∧ Aside0 (kq ≤ k) ∧ Aside0 (Kd.R Kd.string 9 w' w.heap.size (fun _ => True) v3 x3_1) ∧ Aside0 (Below w.heap.size w w'))
  case atStart => exact ⟨(([] : List ByteArray)), (0), rs_, H', ⟨Nat.le_refl _⟩, ⟨nl_⟩, ⟨uW HB.out⟩⟩
  case round =>
   clear H'
   try clear c2
   try clear c2b0
   try clear c2b1
   try clear c2b2
   try clear p2
   obtain ⟨x3_1, x4_1, rfl, HA, HK1, HO_3, HB⟩ := hrel
   cases gk with
   | zero => exact absurd HA.out (by simp [ebbtideref08_Text.l0])
   | succ k1 =>
    have H := HA.out
    clear HA
    simp only [ebbtideref08_Text.l0] at H
    by_cases c3 : x4_1 < (l0.length : Int)
    ·
     rw [if_pos c3] at H
     have c3b0 : decide (x4_1 < (l0.length : Int)) = true := decide_eq_true c3
     clear c3
     obtain ⟨c4b0, H⟩ := gdd H
     obtain ⟨t661, A5, H⟩ := bs H
     try dsimp only at H
     obtain ⟨c6, H⟩ := gd H
     have c6b0 := eq_true c6
     have c6b1 : decide (t661.size + 1 ≤ 9223372036854775807) = true := decide_eq_true c6
     try have c6b2 : (9223372036854775807 < t661.size + 1) = False := eq_false (Nat.not_lt.2 c6)
     obtain ⟨c7, H⟩ := gd H
     have c7b0 := eq_true c7
     have c7b1 : decide ((t661 ++ (⟨#[124]⟩ : ByteArray)).size + ((rd_T45 l0 x4_1).f1).size ≤ 9223372036854775807) = true := decide_eq_true c7
     try have c7b2 : (9223372036854775807 < (t661 ++ (⟨#[124]⟩ : ByteArray)).size + ((rd_T45 l0 x4_1).f1).size) = False := eq_false (Nat.not_lt.2 c7)
     try have c7b8 := c7b2
     try simp only [ByteArray.size_append] at c7b8
     try have c7b9 := c7b2
     try simp only [ByteArray.size_append, show (⟨#[124]⟩ : ByteArray).size = 1 from rfl] at c7b9
     obtain ⟨c8, H⟩ := gd H
     have c8b0 := eq_true c8
     have c8b1 : decide (((t661 ++ (⟨#[124]⟩ : ByteArray)) ++ ((rd_T45 l0 x4_1).f1)).size + 1 ≤ 9223372036854775807) = true := decide_eq_true c8
     try have c8b2 : (9223372036854775807 < ((t661 ++ (⟨#[124]⟩ : ByteArray)) ++ ((rd_T45 l0 x4_1).f1)).size + 1) = False := eq_false (Nat.not_lt.2 c8)
     try have c8b8 := c8b2
     try simp only [ByteArray.size_append] at c8b8
     try have c8b9 := c8b2
     try simp only [ByteArray.size_append, show (⟨#[124]⟩ : ByteArray).size = 1 from rfl] at c8b9
     obtain ⟨t664, A9, H⟩ := bs H
     try dsimp only at H
     obtain ⟨c10, H⟩ := gd H
     have c10b0 := eq_true c10
     have c10b1 : decide ((((t661 ++ (⟨#[124]⟩ : ByteArray)) ++ ((rd_T45 l0 x4_1).f1)) ++ (⟨#[124]⟩ : ByteArray)).size + t664.size ≤ 9223372036854775807) = true := decide_eq_true c10
     try have c10b2 : (9223372036854775807 < (((t661 ++ (⟨#[124]⟩ : ByteArray)) ++ ((rd_T45 l0 x4_1).f1)) ++ (⟨#[124]⟩ : ByteArray)).size + t664.size) = False := eq_false (Nat.not_lt.2 c10)
     try have c10b8 := c10b2
     try simp only [ByteArray.size_append] at c10b8
     try have c10b9 := c10b2
     try simp only [ByteArray.size_append, show (⟨#[124]⟩ : ByteArray).size = 1 from rfl] at c10b9
     obtain ⟨c11, H⟩ := gd H
     have LMc11 := Aside0.mk c11
     clear c11
     obtain ⟨y665, hy665⟩ : ∃ y_ : List ByteArray, y_ = (x3_1 ++ [(((t661 ++ (⟨#[124]⟩ : ByteArray)) ++ ((rd_T45 l0 x4_1).f1)) ++ (⟨#[124]⟩ : ByteArray)) ++ t664]) := ⟨_, rfl⟩
     replace H : (ebbtideref08_Text.l0 k1 l0 y665 (wrap64 (x4_1 + 1))) = some r := by first | (rw [hy665]; with_reducible exact H) | (have H2_ := (Option.bind_some _ _).symm.trans H; rw [hy665]; with_reducible exact H2_) | (have H2_ := (Option.bind_some _ _).symm.trans H; with_reducible exact H2_) | with_reducible exact H | (rw [hy665]; exact H) | exact H
     have Ny665 := Aside0.mk hy665
     clear hy665
     have H' := Aside0.mk H
     clear H
     try go_wp2
     have n0_ := Aside0.mk (Kd.R_drew HO_3.out)
     have n1_ := Aside0.mk (below_drew1 HB.out)
     clear HO_3
     clear HB
     have HO_3 := n0_
     have HB := n1_
     clear n0_ n1_
     have p660 : 0 ≤ (x4_1 : Int) := od
     have q660 : x4_1 < (l0.length : Int) := od
     obtain ⟨ad660, e660, hx660_0, hx660_1, hx660_2, hx660_3⟩ := at_T45 HR0.out x4_1 p660 q660
     have hw660_3 := hx660_3
     have hw660_2 := hx660_2
     have hw660_1 := hx660_1
     have hw660_0 := hx660_0
     cases e660
     replace hx660_0 := kc HB hx660_0
     replace hx660_1 := kc HB hx660_1
     replace hx660_2 := kc HB hx660_2
     replace hx660_3 := kc HB hx660_3
     replace p660 := eq_true p660
     replace q660 := eq_true q660
     have p662 : 0 ≤ (x4_1 : Int) := od
     have q662 : x4_1 < (l0.length : Int) := od
     obtain ⟨ad662, e662, hx662_0, hx662_1, hx662_2, hx662_3⟩ := at_T45 HR0.out x4_1 p662 q662
     have hw662_3 := hx662_3
     have hw662_2 := hx662_2
     have hw662_1 := hx662_1
     have hw662_0 := hx662_0
     obtain rfl : ad660 = ad662 := (by injection e662)
     replace hx662_0 := kc HB hx662_0
     replace hx662_1 := kc HB hx662_1
     replace hx662_2 := kc HB hx662_2
     replace hx662_3 := kc HB hx662_3
     replace p662 := eq_true p662
     replace q662 := eq_true q662
     have p663 : 0 ≤ (x4_1 : Int) := od
     have q663 : x4_1 < (l0.length : Int) := od
     obtain ⟨ad663, e663, hx663_0, hx663_1, hx663_2, hx663_3⟩ := at_T45 HR0.out x4_1 p663 q663
     have hw663_3 := hx663_3
     have hw663_2 := hx663_2
     have hw663_1 := hx663_1
     have hw663_0 := hx663_0
     obtain rfl : ad660 = ad663 := (by injection e663)
     replace hx663_0 := kc HB hx663_0
     replace hx663_1 := kc HB hx663_1
     replace hx663_2 := kc HB hx663_2
     replace hx663_3 := kc HB hx663_3
     replace p663 := eq_true p663
     replace q663 := eq_true q663
     refine start_ (n := 25) (S := fun w' => w'.cell? (ad660.add ((x4_1).toNat * 4)) = some (.int .i64 ((rd_T45 l0 x4_1).f0)) ∧ w'.cell? ⟨(ad660.add ((x4_1).toNat * 4)).block, (ad660.add ((x4_1).toNat * 4)).off + 1, none⟩ = some (.string ((rd_T45 l0 x4_1).f1)) ∧ w'.cell? ⟨(ad660.add ((x4_1).toNat * 4)).block, (ad660.add ((x4_1).toNat * 4)).off + 2, none⟩ = some (.int .i64 ((rd_T45 l0 x4_1).f2.f0)) ∧ w'.cell? ⟨(ad660.add ((x4_1).toNat * 4)).block, (ad660.add ((x4_1).toNat * 4)).off + 3, none⟩ = some (.bool ((rd_T45 l0 x4_1).f2.f1)) ∧ w'.cell? (ad660.add ((x4_1).toNat * 4)) = some (.int .i64 ((rd_T45 l0 x4_1).f0)) ∧ w'.cell? ⟨(ad660.add ((x4_1).toNat * 4)).block, (ad660.add ((x4_1).toNat * 4)).off + 1, none⟩ = some (.string ((rd_T45 l0 x4_1).f1)) ∧ w'.cell? ⟨(ad660.add ((x4_1).toNat * 4)).block, (ad660.add ((x4_1).toNat * 4)).off + 2, none⟩ = some (.int .i64 ((rd_T45 l0 x4_1).f2.f0)) ∧ w'.cell? ⟨(ad660.add ((x4_1).toNat * 4)).block, (ad660.add ((x4_1).toNat * 4)).off + 3, none⟩ = some (.bool ((rd_T45 l0 x4_1).f2.f1)) ∧ w'.cell? (ad660.add ((x4_1).toNat * 4)) = some (.int .i64 ((rd_T45 l0 x4_1).f0)) ∧ w'.cell? ⟨(ad660.add ((x4_1).toNat * 4)).block, (ad660.add ((x4_1).toNat * 4)).off + 1, none⟩ = some (.string ((rd_T45 l0 x4_1).f1)) ∧ w'.cell? ⟨(ad660.add ((x4_1).toNat * 4)).block, (ad660.add ((x4_1).toNat * 4)).off + 2, none⟩ = some (.int .i64 ((rd_T45 l0 x4_1).f2.f0)) ∧ w'.cell? ⟨(ad660.add ((x4_1).toNat * 4)).block, (ad660.add ((x4_1).toNat * 4)).off + 3, none⟩ = some (.bool ((rd_T45 l0 x4_1).f2.f1))) (ds := []) #[false, false, false, false, false, false, false, false, false, false, false, false, false, false, false, false, false, false, false, false, false, false, false, false, false] (by kernel_rfl) rfl rfl ⟨(kc HB hw660_0), (kc HB hw660_1), (kc HB hw660_2), (kc HB hw660_3), (kc HB hw662_0), (kc HB hw662_1), (kc HB hw662_2), (kc HB hw662_3), (kc HB hw663_0), (kc HB hw663_1), (kc HB hw663_2), (kc HB hw663_3)⟩ (fun hHeld => ?_); refine with_tabW ebbtideref08_Text.tab7 ebbtideref08_Text.bits7 (fun HT_ HW_ => ?_)
     generalize wr.drew = w12 at HO_3 HB hx660_0 hx660_1 hx660_2 hx660_3 hx662_0 hx662_1 hx662_2 hx662_3 hx663_0 hx663_1 hx663_2 hx663_3 hHeld ⊢
     refine p1 0 (some 14) ?_
     refine p1 1 (some 15) ?_
     refine p1 2 (some 16) ?_
     refine p1 3 (some 17) ?_
     refine p1 4 (some 18) ?_
     refine p1 8 (some 22) ?_
     refine p1 9 (some 23) ?_
     refine p1 10 (some 24) ?_
     refine p1 11 (some 25) ?_
     refine p1 15 (some 29) ?_
     refine p1 16 (some 30) ?_
     refine p1 17 (some 31) ?_
     refine p1 18 (some 32) ?_
     refine t1 5 (some 19) rfl rfl hHeld (Or.inl ⟨by rfl, by rintro w' ⟨s0, s1, s2, s3, s4, s5, s6, s7, s8, s9, s10, s11⟩; go_simp; with_reducible rfl⟩) ?_
     refine t1 12 (some 26) rfl rfl hHeld (Or.inl ⟨by rfl, by rintro w' ⟨s0, s1, s2, s3, s4, s5, s6, s7, s8, s9, s10, s11⟩; go_simp; with_reducible rfl⟩) ?_
     refine t1 19 (some 33) rfl rfl hHeld (Or.inl ⟨by rfl, by rintro w' ⟨s0, s1, s2, s3, s4, s5, s6, s7, s8, s9, s10, s11⟩; go_simp; with_reducible rfl⟩) ?_
     refine one_ (i := 6) (N := some 20) #[true, true, true, true, true, true, true, false, true, true, true, true, true, false, false, true, true, true, true, true, false, false, false, false, false] rfl rfl (one_of HT_.out (by kernel_rfl)) (by decide) (fun K hK => ?_)
     refine goes_ Tryz.func34 (by kernel_rfl) rfl #[.int .i64 ((rd_T45 l0 x4_1).f0)] (by rfl) rfl rfl (by (try simp only [List.map_toArray, List.map_cons, List.map_nil]); first | done | rfl | (simp only [List.length_drop, List.length_take]; rfl)) ?_
     with_reducible refine (ebbtideref01_Number.calls k1 ((rd_T45 l0 x4_1).f0) t661 _ A5.out).mono ?_
     rintro e w13 ⟨rfl, hb⟩
     refine ⟨_, rfl, ?_⟩
     have n0_ := cR HO_3 hb
     have n1_ := cW HB hb
     clear HO_3
     clear HB
     have HO_3 := n0_
     have HB := n1_
     clear n0_ n1_
     (try clear hb)
     (try clear hb2)
     (try clear hk)
     (try clear hi)
     refine hK.out _ _ ⟨(kc HB hw660_0), (kc HB hw660_1), (kc HB hw660_2), (kc HB hw660_3), (kc HB hw662_0), (kc HB hw662_1), (kc HB hw662_2), (kc HB hw662_3), (kc HB hw663_0), (kc HB hw663_1), (kc HB hw663_2), (kc HB hw663_3)⟩ (fun hHeld => ?_)
     clear hK K
     refine norm_ (a' := ?_) ?_ ?_
     rotate_left
     ·
      show Act.put _ (some 20) _ = _
      simp only [Act.put, List.setIfInBounds_toArray, List.set_cons_zero, List.set_cons_succ, i64_w, i32_w]
      rfl
     refine p1 7 (some 21) ?_
     refine p1 13 (some 27) ?_
     refine p1 14 (some 28) ?_
     refine one_ (i := 20) (N := some 34) #[true, true, true, true, true, true, true, true, true, true, true, true, true, true, true, true, true, true, true, true, true, false, false, false, false] rfl rfl (one_of HT_.out (by kernel_rfl)) (by decide) (fun K hK => ?_)
     refine goes_ Tryz.func55 (by kernel_rfl) rfl #[.agg #[.int .i64 ((rd_T45 l0 x4_1).f2.f0), .bool ((rd_T45 l0 x4_1).f2.f1)]] (by rfl) rfl rfl (by (try simp only [List.map_toArray, List.map_cons, List.map_nil]); first | done | rfl | (simp only [List.length_drop, List.length_take]; rfl)) ?_
     with_reducible refine (ebbtideref01_Text.calls k1 ((rd_T45 l0 x4_1).f2.f0) ((rd_T45 l0 x4_1).f2.f1) t664 _ A9.out).mono ?_
     rintro e w14 ⟨rfl, hb⟩
     refine ⟨_, rfl, ?_⟩
     have n0_ := cR HO_3 hb
     have n1_ := cW HB hb
     clear HO_3
     clear HB
     have HO_3 := n0_
     have HB := n1_
     clear n0_ n1_
     (try clear hb)
     (try clear hb2)
     (try clear hk)
     (try clear hi)
     refine hK.out _ _ ⟨(kc HB hw660_0), (kc HB hw660_1), (kc HB hw660_2), (kc HB hw660_3), (kc HB hw662_0), (kc HB hw662_1), (kc HB hw662_2), (kc HB hw662_3), (kc HB hw663_0), (kc HB hw663_1), (kc HB hw663_2), (kc HB hw663_3)⟩ (fun hHeld => ?_)
     clear hK K
     refine norm_ (a' := ?_) ?_ ?_
     rotate_left
     ·
      show Act.put _ (some 34) _ = _
      simp only [Act.put, List.setIfInBounds_toArray, List.set_cons_zero, List.set_cons_succ, i64_w, i32_w]
      rfl
     refine p1 21 (some 35) ?_
     refine one_ (i := 22) (N := some 36) #[true, true, true, true, true, true, true, true, true, true, true, true, true, true, true, true, true, true, true, true, true, true, true, false, false] rfl rfl (one_of HT_.out (by kernel_rfl)) (by decide) (fun K hK => ?_)
     refine value_ (w1 := ?_) (v := ?_) (by rfl) rfl ?_ ?_
     rotate_left 2
     ·
      go_simp
      constructor
      ·
       rfl
      ·
       rfl
     refine hK.out _ _ ⟨(World.cell?_alloc_lt _ _ _ (World.block_lt_of_cell? _ _ ((kc HB hw660_0)))).trans ((kc HB hw660_0)), (World.cell?_alloc_lt _ _ _ (World.block_lt_of_cell? _ _ ((kc HB hw660_1)))).trans ((kc HB hw660_1)), (World.cell?_alloc_lt _ _ _ (World.block_lt_of_cell? _ _ ((kc HB hw660_2)))).trans ((kc HB hw660_2)), (World.cell?_alloc_lt _ _ _ (World.block_lt_of_cell? _ _ ((kc HB hw660_3)))).trans ((kc HB hw660_3)), (World.cell?_alloc_lt _ _ _ (World.block_lt_of_cell? _ _ ((kc HB hw662_0)))).trans ((kc HB hw662_0)), (World.cell?_alloc_lt _ _ _ (World.block_lt_of_cell? _ _ ((kc HB hw662_1)))).trans ((kc HB hw662_1)), (World.cell?_alloc_lt _ _ _ (World.block_lt_of_cell? _ _ ((kc HB hw662_2)))).trans ((kc HB hw662_2)), (World.cell?_alloc_lt _ _ _ (World.block_lt_of_cell? _ _ ((kc HB hw662_3)))).trans ((kc HB hw662_3)), (World.cell?_alloc_lt _ _ _ (World.block_lt_of_cell? _ _ ((kc HB hw663_0)))).trans ((kc HB hw663_0)), (World.cell?_alloc_lt _ _ _ (World.block_lt_of_cell? _ _ ((kc HB hw663_1)))).trans ((kc HB hw663_1)), (World.cell?_alloc_lt _ _ _ (World.block_lt_of_cell? _ _ ((kc HB hw663_2)))).trans ((kc HB hw663_2)), (World.cell?_alloc_lt _ _ _ (World.block_lt_of_cell? _ _ ((kc HB hw663_3)))).trans ((kc HB hw663_3))⟩ (fun hHeld => ?_)
     clear hK K
     refine norm_ (a' := ?_) ?_ ?_
     rotate_left
     ·
      show Act.put _ (some 36) _ = _
      simp only [Act.put, List.setIfInBounds_toArray, List.set_cons_zero, List.set_cons_succ, i64_w, i32_w]
      rfl
     refine one_ (i := 23) (N := some 37) #[true, true, true, true, true, true, true, true, true, true, true, true, true, true, true, true, true, true, true, true, true, true, true, true, false] rfl rfl (one_of HT_.out (by kernel_rfl)) (by decide) (fun K hK => ?_)
     refine Kd.R_append_step Kd.string (w0 := w) w.heap.size (by rfl) (.tmp 14) (.tmp 36) 52 9 (.string ⟨#[]⟩) 16 rfl Tryz.underlying52 info9 rfl (by decide) (by omega) u3 x3_1 ((((t661 ++ (⟨#[124]⟩ : ByteArray)) ++ ((rd_T45 l0 x4_1).f1)) ++ (⟨#[124]⟩ : ByteArray)) ++ t664) [.string ((((t661 ++ (⟨#[124]⟩ : ByteArray)) ++ ((rd_T45 l0 x4_1).f1)) ++ (⟨#[124]⟩ : ByteArray)) ++ t664)] (fun _ => True) (fun _ => False) rfl rfl ?aP (fun _ hk => hk.elim) ?aF ?aO ?aB ?aS ?aL ?_
     (case aP => exact rfl)
     (case aB => exact (uW HB.out))
     (case aF => exact (fun _ _ => trivial))
     (case aO => exact (uR HO_3.out))
     (case aS => exact (below_size (uW HB.out)))
     (case aL => have := LMc11.out; omega)
     intro v666 w15 ho hb hg hat
     rw [← Ny665.out] at ho
     have n0_ := Aside0.mk (hb)
     have n1_ := Aside0.mk (ho)
     clear HB
     clear HO_3
     have HB := n0_
     have HO667 := n1_
     clear n0_ n1_
     clear ho hb hg hat
     refine hK.out _ _ ⟨(kc HB hw660_0), (kc HB hw660_1), (kc HB hw660_2), (kc HB hw660_3), (kc HB hw662_0), (kc HB hw662_1), (kc HB hw662_2), (kc HB hw662_3), (kc HB hw663_0), (kc HB hw663_1), (kc HB hw663_2), (kc HB hw663_3)⟩ (fun hHeld => ?_)
     clear hK K
     refine norm_ (a' := ?_) ?_ ?_
     rotate_left
     ·
      show Act.put _ (some 37) _ = _
      simp only [Act.put, List.setIfInBounds_toArray, List.set_cons_zero, List.set_cons_succ, i64_w, i32_w]
      rfl
     refine p1 24 (some 3) ?_
     refine done_ (done_of HT_.out (by kernel_rfl)) ?_
     try go_wp2
     go_roundg k1
     case measure => have := HK1.out; omega
     case rel => exact ⟨(y665), (wrap64 (x4_1 + 1)), rs_, H', ⟨by have := HK1.out; omega⟩, ⟨uR HO667.out⟩, ⟨uW HB.out⟩⟩
    ·
     rw [if_neg c3] at H
     have c3b0 : decide (x4_1 < (l0.length : Int)) = false := decide_eq_false c3
     clear c3
     obtain ⟨t668, A16, H⟩ := bs H
     try dsimp only at H
     obtain rfl := Option.some.inj H
     obtain ⟨Ao17, co17, eo17⟩ := Kd.R_slice HO_3.out
     subst eo17
     go_wp2_with (first | (refine gL (some 39) rfl Tryz.func35 #[.string (⟨#[59]⟩ : ByteArray), .slice Ao17 x3_1.length co17] ?_; (with_reducible refine (ebbtideref02_Join.calls k1 (⟨#[59]⟩ : ByteArray) _ _ x3_1 t668 _ ?side1 ?side2 A16.out).mono ?_); (case side1 => exact uC <| (Kd.R_reads' HO_3.out).2.2); (case side2 => exact (Kd.R_reads' HO_3.out).2.1); rintro e w' ⟨rfl, ⟨nd, rfl⟩⟩; refine ⟨_, rfl, ?_⟩))
     go_ret
     exact ⟨re_, uW HB.out⟩
end Go.Proofs.YtgcbejidponoaaaGreatDoor.X
