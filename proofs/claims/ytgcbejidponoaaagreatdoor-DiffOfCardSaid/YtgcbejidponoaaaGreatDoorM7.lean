/- Printed by a program of this session's own: what functions of the program compute, and that the machine computes it. No condition of its own. -/
import Derived.Test.YtgcbejidponoaaaGreatDoorM3
import Derived.Test.YtgcbejidponoaaaGreatDoorM4
import Derived.Test.YtgcbejidponoaaaGreatDoorM5
namespace Go.Proofs.YtgcbejidponoaaaGreatDoor.X
open Go.RowKit Go.Proofs.YtgcbejidponoaaaGreatDoorW.PrintWords Go.Proofs.YtgcbejidponoaaaGreatDoorW.PrintLast Go.Proofs.YtgcbejidponoaaaGreatDoorW.PrintMore
attribute [local go_sem] max2_int min2_int max_two min_two max_three min_three max_four min_four
set_option linter.unusedVariables false
set_option linter.unusedSimpArgs false
set_option maxHeartbeats 8000000
set_option maxRecDepth 100000
attribute [local go_sem high] eqA45
def ebbtideref08_Same.l0 : Nat → List (S45) → List (S45) → Int → Option (Bool)
 | 0, _, _, _ => none
 | k + 1, x0, x1, x5 => if x5 < (x0.length : Int) then (if 0 ≤ x5 then (if x5 < (x1.length : Int) then (if (!(((rd_T45 x0 x5).f0) == ((rd_T45 x1 x5).f0)) || (!((((rd_T45 x0 x5).f1).toList) == (((rd_T45 x1 x5).f1).toList)) || ((!(((rd_T45 x0 x5).f2.f0) == ((rd_T45 x1 x5).f2.f0)) || (!(((rd_T45 x0 x5).f2.f1) == ((rd_T45 x1 x5).f2.f1))))))) = true then (some false) else (ebbtideref08_Same.l0 k x0 x1 (wrap64 (x5 + 1)))) else (none)) else (none)) else (some true)
def ebbtideref08_Same.f (k : Nat) (l0 : List (S45)) (l1 : List (S45)) : Option (Bool) := if (l0.length : Int) = (l1.length : Int) then (ebbtideref08_Same.l0 k l0 l1 0) else (some false)
theorem ebbtideref08_Same.mono_l : ∀ k, (∀ y0 y1 y2, LeC (ebbtideref08_Same.l0 k y0 y1 y2) (ebbtideref08_Same.l0 (k + 1) y0 y1 y2))
 | 0 => fun _ _ _ => ⟨fun r h => by simp [ebbtideref08_Same.l0] at h⟩
 | k + 1 => by have ih0 := ebbtideref08_Same.mono_l k; exact fun _ _ _ => by unfold ebbtideref08_Same.l0; exact lm
theorem ebbtideref08_Same.mono : ∀ a0 a1 k, LeO (ebbtideref08_Same.f k a0 a1) (ebbtideref08_Same.f (k + 1) a0 a1) := by
 intro a0 a1 k
 have ih0 := ebbtideref08_Same.mono_l k
 unfold ebbtideref08_Same.f
 exact lo
instance ebbtideref08_Same.mI {a0 a1 k} : LeC (ebbtideref08_Same.f k a0 a1) (ebbtideref08_Same.f (k + 1) a0 a1) := ⟨ebbtideref08_Same.mono _ _ _⟩
theorem ebbtideref08_Same.calls (k : Nat) (A0 : Option Addr) (c0 : Nat) (l0 : List (S45)) (A1 : Option Addr) (c1 : Nat) (l1 : List (S45)) (r : Bool) (w : World) (hr0 : Kd.C k45 w A0 l0.length l0) (hc0 : l0.length ≤ c0) (hr1 : Kd.C k45 w A1 l1.length l1) (hc1 : l1.length ≤ c1) (h : ebbtideref08_Same.f k l0 l1 = some r) :
 Calls Tryz.prog 13 #[.slice A0 l0.length c0, .slice A1 l1.length c1] w fun e w' => e = .returned (.bool r) ∧ Drawn0 w w' := by
 have hu45 := Tryz.underlying45
 have HR0 := Aside0.mk hr0
 have HC0 := Aside0.mk hc0
 clear hr0 hc0
 have HR1 := Aside0.mk hr1
 have HC1 := Aside0.mk hc1
 clear hr1 hc1
 have H : (if (l0.length : Int) = (l1.length : Int) then (ebbtideref08_Same.l0 k l0 l1 0) else (some false)) = some r := h
 clear h
 by_cases c3 : (l0.length : Int) = (l1.length : Int)
 ·
  rw [if_pos c3] at H
  have c3b0 : ((l0.length : Int) == (l1.length : Int)) = true := beq_iff_eq.mpr c3
  have c3b1 : ((l0.length : Int) != (l1.length : Int)) = false := bne_eq_false_iff_eq.mpr c3
  have c3b2 : (l0.length == l1.length) = true := by first | simpa using c3 | (simp at c3 ⊢; omega)
  clear c3
  have H' := Aside0.mk H
  clear H
  go_enter Tryz.func13, Tryz.ntmps13
  go_wp2
  repeat (go_quiet (fail); try go_wp2)
  go_loopg [5] k (fun kq v5 w' => ∃ (x5_1 : Int), v5 = .int .i64 x5_1 ∧ Aside0 (ebbtideref08_Same.l0 kq l0 l1 x5_1 = some r) ∧ Aside0 (kq ≤ k) ∧ Drawn0 w w')
  case atStart => exact ⟨(0), rs_, H', ⟨Nat.le_refl _⟩, dr_⟩
  case round =>
   clear H'
   try clear c1
   try clear p2
   try clear c3
   try clear c3b0
   try clear c3b1
   try clear c3b2
   obtain ⟨x5_1, rfl, HA, HK1, ⟨m1, rfl⟩⟩ := hrel
   cases gk with
   | zero => exact absurd HA.out (by simp [ebbtideref08_Same.l0])
   | succ k1 =>
    have H := HA.out
    clear HA
    simp only [ebbtideref08_Same.l0] at H
    by_cases c4 : x5_1 < (l0.length : Int)
    ·
     rw [if_pos c4] at H
     have c4b0 : decide (x5_1 < (l0.length : Int)) = true := decide_eq_true c4
     clear c4
     obtain ⟨c5b0, H⟩ := gdd H
     obtain ⟨c6b0, H⟩ := gdd H
     by_cases c7 : (!(((rd_T45 l0 x5_1).f0) == ((rd_T45 l1 x5_1).f0)) || (!((((rd_T45 l0 x5_1).f1).toList) == (((rd_T45 l1 x5_1).f1).toList)) || ((!(((rd_T45 l0 x5_1).f2.f0) == ((rd_T45 l1 x5_1).f2.f0)) || (!(((rd_T45 l0 x5_1).f2.f1) == ((rd_T45 l1 x5_1).f2.f1))))))) = true
     ·
      rw [if_pos c7] at H
      have c7b0 : (!(((rd_T45 l0 x5_1).f0) == ((rd_T45 l1 x5_1).f0)) || (!((((rd_T45 l0 x5_1).f1).toList) == (((rd_T45 l1 x5_1).f1).toList)) || ((!(((rd_T45 l0 x5_1).f2.f0) == ((rd_T45 l1 x5_1).f2.f0)) || (!(((rd_T45 l0 x5_1).f2.f1) == ((rd_T45 l1 x5_1).f2.f1))))))) = true := c7
      clear c7
      obtain rfl := Option.some.inj H
      have p260 : 0 ≤ (x5_1 : Int) := od
      have q260 : x5_1 < (l0.length : Int) := od
      obtain ⟨ad260, e260, hx260_0, hx260_1, hx260_2, hx260_3⟩ := at_T45 HR0.out x5_1 p260 q260
      cases e260
      replace p260 := eq_true p260
      replace q260 := eq_true q260
      have p261 : 0 ≤ (x5_1 : Int) := od
      have q261 : x5_1 < (l1.length : Int) := od
      obtain ⟨ad261, e261, hx261_0, hx261_1, hx261_2, hx261_3⟩ := at_T45 HR1.out x5_1 p261 q261
      cases e261
      replace p261 := eq_true p261
      replace q261 := eq_true q261
      go_wp2
      repeat (go_quiet (fail); try go_wp2)
      go_ret
      exact ⟨rs_, dr_⟩
     ·
      rw [if_neg c7] at H
      have c7b0 : (!(((rd_T45 l0 x5_1).f0) == ((rd_T45 l1 x5_1).f0)) || (!((((rd_T45 l0 x5_1).f1).toList) == (((rd_T45 l1 x5_1).f1).toList)) || ((!(((rd_T45 l0 x5_1).f2.f0) == ((rd_T45 l1 x5_1).f2.f0)) || (!(((rd_T45 l0 x5_1).f2.f1) == ((rd_T45 l1 x5_1).f2.f1))))))) = false := by simpa using c7
      clear c7
      have H' := Aside0.mk H
      clear H
      have p260 : 0 ≤ (x5_1 : Int) := od
      have q260 : x5_1 < (l0.length : Int) := od
      obtain ⟨ad260, e260, hx260_0, hx260_1, hx260_2, hx260_3⟩ := at_T45 HR0.out x5_1 p260 q260
      cases e260
      replace p260 := eq_true p260
      replace q260 := eq_true q260
      have p261 : 0 ≤ (x5_1 : Int) := od
      have q261 : x5_1 < (l1.length : Int) := od
      obtain ⟨ad261, e261, hx261_0, hx261_1, hx261_2, hx261_3⟩ := at_T45 HR1.out x5_1 p261 q261
      cases e261
      replace p261 := eq_true p261
      replace q261 := eq_true q261
      go_wp2
      repeat (go_quiet (fail); try go_wp2)
      go_roundg k1
      case measure => have := HK1.out; omega
      case rel => exact ⟨(wrap64 (x5_1 + 1)), rs_, H', ⟨by have := HK1.out; omega⟩, dr_⟩
    ·
     rw [if_neg c4] at H
     have c4b0 : decide (x5_1 < (l0.length : Int)) = false := decide_eq_false c4
     clear c4
     obtain rfl := Option.some.inj H
     go_wp2
     repeat (go_quiet (fail); try go_wp2)
     go_ret
     exact ⟨rs_, dr_⟩
 ·
  rw [if_neg c3] at H
  have c3b0 : ((l0.length : Int) == (l1.length : Int)) = false := beq_eq_false_iff_ne.mpr c3
  have c3b1 : ((l0.length : Int) != (l1.length : Int)) = true := bne_iff_ne.mpr c3
  have c3b2 : (l0.length == l1.length) = false := by first | simpa using c3 | (simp at c3 ⊢; omega)
  obtain rfl := Option.some.inj H
  go_enter Tryz.func13, Tryz.ntmps13
  go_wp2
  repeat (go_quiet (fail); try go_wp2)
  go_ret
  exact ⟨rs_, dr_⟩
def strconv_FormatInt.f (a0 : Int) (a1 : Int) : Option (ByteArray) := if a1 = 10 ∧ -9223372036854775808 ≤ a0 ∧ a0 ≤ 9223372036854775807 then (some (⟨(Lib.itoa a0).toArray⟩ : ByteArray)) else (none)
theorem strconv_FormatInt.calls (a0 : Int) (a1 : Int) (r : ByteArray) (w : World) (hL : LD w) (h : strconv_FormatInt.f a0 a1 = some r) :
 Calls Tryz.prog 53 #[.int .i64 a0, .int .i64 a1] w fun e w' => e = .returned (.string r) ∧ Below w.heap.size w w' := by
 unfold strconv_FormatInt.f at h
 by_cases hc : a1 = 10 ∧ -9223372036854775808 ≤ a0 ∧ a0 ≤ 9223372036854775807
 ·
  rw [if_pos hc] at h
  obtain rfl := Option.some.inj h
  obtain ⟨rfl, h0, h1⟩ := hc
  refine (Tryz.strconv_FormatInt_10 a0 h0 h1 w hL.pow10).mono ?_
  rintro e w' ⟨rfl, k, os, rfl⟩
  exact ⟨rfl, below_growX w k os⟩
 ·
  rw [if_neg hc] at h
  exact absurd h (by simp)
def sat_Number.f (a0 : Int) : Option (ByteArray) := (strconv_FormatInt.f a0 10).bind fun t262 => (some t262)
theorem sat_Number.calls (a0 : Int) (r : ByteArray) (w : World) (hL : LD w) (h : sat_Number.f a0 = some r) :
 Calls Tryz.prog 31 #[.int .i64 a0] w fun e w' => e = .returned (.string r) ∧ Below w.heap.size w w' := by
 have HL0 := Aside0.mk hL
 clear hL
 have HB := Aside0.mk (Below.refl w.heap.size w)
 have H : ((strconv_FormatInt.f a0 10).bind fun t262 => (some t262)) = some r := h
 clear h
 obtain ⟨t262, A2, H⟩ := bs H
 try dsimp only at H
 obtain rfl := Option.some.inj H
 go_enter Tryz.func31, Tryz.ntmps31
 go_wp2_with (first | (refine gL (some 4) rfl Tryz.func53 #[.int .i64 a0, .int .i64 10] ?_; (with_reducible refine (strconv_FormatInt.calls (hL := (by first | exact HL0.out | exact LD.below HL0.out (uW HB.out))) a0 10 t262 _ A2.out).mono ?_); rintro e w3 ⟨rfl, hb⟩; refine ⟨_, rfl, ?_⟩; replace HB := cW HB hb; (try clear hb)))
 go_ret
 exact ⟨re_, uW HB.out⟩
def sat_Text.f (a0_0 : Int) (a0_1 : Bool) : Option (ByteArray) := if a0_1 = true then ((sat_Number.f a0_0).bind fun t264 => (if t264.size + 1 ≤ 9223372036854775807 then (some (t264 ++ (⟨#[33]⟩ : ByteArray))) else (none))) else ((sat_Number.f a0_0).bind fun t265 => (some t265))
theorem sat_Text.calls (a0_0 : Int) (a0_1 : Bool) (r : ByteArray) (w : World) (hL : LD w) (h : sat_Text.f a0_0 a0_1 = some r) :
 Calls Tryz.prog 54 #[.agg #[.int .i64 a0_0, .bool a0_1]] w fun e w' => e = .returned (.string r) ∧ Below w.heap.size w w' := by
 have HL0 := Aside0.mk hL
 clear hL
 have hu43 := Tryz.underlying43
 have HB := Aside0.mk (Below.refl w.heap.size w)
 have H : (if a0_1 = true then ((sat_Number.f a0_0).bind fun t264 => (if t264.size + 1 ≤ 9223372036854775807 then (some (t264 ++ (⟨#[33]⟩ : ByteArray))) else (none))) else ((sat_Number.f a0_0).bind fun t265 => (some t265))) = some r := h
 clear h
 by_cases c2 : a0_1 = true
 ·
  subst c2
  rw [if_pos rfl] at H
  obtain ⟨t264, A3, H⟩ := bs H
  try dsimp only at H
  obtain ⟨c4, H⟩ := gd H
  have c4b0 := eq_true c4
  have c4b1 : decide (t264.size + 1 ≤ 9223372036854775807) = true := decide_eq_true c4
  try have c4b2 : (9223372036854775807 < t264.size + 1) = False := eq_false (Nat.not_lt.2 c4)
  obtain rfl := Option.some.inj H
  go_enter Tryz.func54, Tryz.ntmps54
  go_wp2_with (first | ((with_reducible refine gate_dst (N := 1) rfl ?_); refine bx (N := 1) #[.int .i64 a0_0, .bool true] 43 ?_; intro gb263 hg w5 hbox hb; have BK263 := Aside0.mk (hbox); have GW263 := gw hg (uW HB.out); have GE263 := GW263; replace HB := cW HB hb; clear hb hbox hg; obtain ⟨hcz6_0, hcz6_1, hfz6_0, hfz6_1⟩ := z2 BK263) | (refine gL (some 7) rfl Tryz.func31 #[.int .i64 a0_0] ?_; (with_reducible refine (sat_Number.calls (hL := (by first | exact HL0.out | exact LD.below HL0.out bl)) a0_0 t264 _ A3.out).mono ?_); rintro e w7 ⟨rfl, hb⟩; refine ⟨_, rfl, ?_⟩; replace BK263 := cB BK263 hb; replace HB := Aside0.mk (below_step bl hb); (try clear hb)))
  go_ret
  exact ⟨re_, bl⟩
 ·
  replace c2 := Bool.eq_false_iff.mpr c2
  subst c2
  rw [if_neg (show ¬ (false = true) by decide)] at H
  obtain ⟨t265, A8, H⟩ := bs H
  try dsimp only at H
  obtain rfl := Option.some.inj H
  go_enter Tryz.func54, Tryz.ntmps54
  go_wp2_with (first | ((with_reducible refine gate_dst (N := 1) rfl ?_); refine bx (N := 1) #[.int .i64 a0_0, .bool false] 43 ?_; intro gb263 hg w9 hbox hb; have BK263 := Aside0.mk (hbox); have GW263 := gw hg (uW HB.out); have GE263 := GW263; replace HB := cW HB hb; clear hb hbox hg; obtain ⟨hcz10_0, hcz10_1, hfz10_0, hfz10_1⟩ := z2 BK263) | (refine gL (some 11) rfl Tryz.func31 #[.int .i64 a0_0] ?_; (with_reducible refine (sat_Number.calls (hL := (by first | exact HL0.out | exact LD.below HL0.out bl)) a0_0 t265 _ A8.out).mono ?_); rintro e w11 ⟨rfl, hb⟩; refine ⟨_, rfl, ?_⟩; replace BK263 := cB BK263 hb; replace HB := Aside0.mk (below_step bl hb); (try clear hb)))
  go_ret
  exact ⟨re_, bl⟩
def row_Text.l0 : Nat → List ByteArray → List (S45) → Int → Int → Option (ByteArray)
 | 0, _, _, _, _ => none
 | k + 1, x3, x9, x10, x11 => if x11 < x10 then (if 0 ≤ x11 then (if x11 < (x9.length : Int) then ((sat_Number.f ((rd_T45 x9 x11).f0)).bind fun t268 => ((sat_Text.f ((rd_T45 x9 x11).f2.f0) ((rd_T45 x9 x11).f2.f1)).bind fun t269 => ((word_Join.f (⟨#[124]⟩ : ByteArray) (([t268, (rd_T45 x9 x11).f1, t269] : List ByteArray))).bind fun t273 => (if x3.length < 8796093022208 then (row_Text.l0 k (x3 ++ [t273]) x9 x10 (wrap64 (x11 + 1))) else (none))))) else (none)) else (none)) else ((word_Join.f (⟨#[59]⟩ : ByteArray) x3).bind fun t277 => (some t277))
def row_Text.f (k : Nat) (l0 : List (S45)) : Option (ByteArray) := if (l0.length : Int) = 0 then (some (⟨#[45]⟩ : ByteArray)) else (row_Text.l0 k ([] : List ByteArray) l0 (l0.length : Int) 0)
theorem row_Text.mono_l : ∀ k, (∀ y0 y1 y2 y3, LeC (row_Text.l0 k y0 y1 y2 y3) (row_Text.l0 (k + 1) y0 y1 y2 y3))
 | 0 => fun _ _ _ _ => ⟨fun r h => by simp [row_Text.l0] at h⟩
 | k + 1 => by have ih0 := row_Text.mono_l k; exact fun _ _ _ _ => by unfold row_Text.l0; exact lm
theorem row_Text.mono : ∀ a0 k, LeO (row_Text.f k a0) (row_Text.f (k + 1) a0) := by
 intro a0 k
 have ih0 := row_Text.mono_l k
 unfold row_Text.f
 exact lo
instance row_Text.mI {a0 k} : LeC (row_Text.f k a0) (row_Text.f (k + 1) a0) := ⟨row_Text.mono _ _⟩
def row_Text.T7 : Bool × List (List Nat × List Nat) := (true, [([], []), ([], []), ([1], [1]), ([2], [2]), ([], []), ([4], [4]), ([], []), ([6], [6]), ([7, 3], [7]), ([3, 5, 8], [3, 5, 8]), ([9, 8], [9]), ([10], [10]), ([0, 11, 10], [0, 11]), ([12, 12, 0, 1, 2, 3, 4, 5, 6, 7, 8, 9, 10, 11, 12], [0, 12])])
def row_Text.B7 : List Nat := [0, 0, 2, 6, 0, 16, 0, 64, 206, 510, 1022, 2046, 4095, 8191]
theorem row_Text.tab7 : rtab .any (opsOf Tryz.f32 7) = row_Text.T7 := by kernel_rfl
theorem row_Text.bits7 : waitsOk row_Text.T7.2 row_Text.B7 = true := by kernel_rfl
theorem row_Text.calls (k : Nat) (A0 : Option Addr) (c0 : Nat) (l0 : List (S45)) (r : ByteArray) (w : World) (hr0 : Kd.C k45 w A0 l0.length l0) (hc0 : l0.length ≤ c0) (hL : LD w) (h : row_Text.f k l0 = some r) :
 Calls Tryz.prog 32 #[.slice A0 l0.length c0] w fun e w' => e = .returned (.string r) ∧ Below w.heap.size w w' := by
 have HL0 := Aside0.mk hL
 clear hL
 have hu45 := Tryz.underlying45
 have hu43 := Tryz.underlying43
 have HR0 := Aside0.mk hr0
 have HC0 := Aside0.mk hc0
 clear hr0 hc0
 have HB := Aside0.mk (Below.refl w.heap.size w)
 have H : (if (l0.length : Int) = 0 then (some (⟨#[45]⟩ : ByteArray)) else (row_Text.l0 k ([] : List ByteArray) l0 (l0.length : Int) 0)) = some r := h
 clear h
 by_cases c2 : (l0.length : Int) = 0
 ·
  rw [if_pos c2] at H
  have c2b0 : ((l0.length : Int) == 0) = true := beq_iff_eq.mpr c2
  have c2b1 : ((l0.length : Int) != 0) = false := bne_eq_false_iff_eq.mpr c2
  clear c2
  obtain rfl := Option.some.inj H
  go_enter Tryz.func32, Tryz.ntmps32
  go_wp2
  go_ret
  exact ⟨re_, uW HB.out⟩
 ·
  rw [if_neg c2] at H
  have c2b0 : ((l0.length : Int) == 0) = false := beq_eq_false_iff_ne.mpr c2
  have c2b1 : ((l0.length : Int) != 0) = true := bne_iff_ne.mpr c2
  have c2b2 : ¬ (l0 = []) := fun h_ => c2 (by rw [h_]; rfl)
  have H' := Aside0.mk H
  clear H
  go_enter Tryz.func32, Tryz.ntmps32
  go_wp2
  go_loopg [3, 11] k (fun kq v3 v11 w' => ∃ (x3_1 : List ByteArray) (x11_1 : Int), v11 = .int .i64 x11_1 ∧ Aside0 (row_Text.l0 kq x3_1 l0 (l0.length : Int) x11_1 = some r) ∧ Aside0 (kq ≤ k) ∧ Aside0 (Kd.R Kd.string 9 w' w.heap.size (fun _ => True) v3 x3_1) ∧ Aside0 (Below w.heap.size w w'))
  case atStart => exact ⟨(([] : List ByteArray)), (0), rs_, H', ⟨Nat.le_refl _⟩, ⟨nl_⟩, ⟨uW HB.out⟩⟩
  case round =>
   clear H'
   try clear c2
   try clear c2b0
   try clear c2b1
   try clear c2b2
   try clear p2
   obtain ⟨x3_1, x11_1, rfl, HA, HK1, HO_3, HB⟩ := hrel
   cases gk with
   | zero => exact absurd HA.out (by simp [row_Text.l0])
   | succ k1 =>
    have H := HA.out
    clear HA
    simp only [row_Text.l0] at H
    by_cases c3 : x11_1 < (l0.length : Int)
    ·
     rw [if_pos c3] at H
     have c3b0 : decide (x11_1 < (l0.length : Int)) = true := decide_eq_true c3
     clear c3
     obtain ⟨c4b0, H⟩ := gdd H
     obtain ⟨c5b0, H⟩ := gdd H
     obtain ⟨t268, A6, H⟩ := bs H
     try dsimp only at H
     obtain ⟨t269, A7, H⟩ := bs H
     try dsimp only at H
     obtain ⟨y270, hy270⟩ : ∃ y_ : List ByteArray, y_ = (([t268, (rd_T45 l0 x11_1).f1, t269] : List ByteArray)) := ⟨_, rfl⟩
     replace H : ((word_Join.f (⟨#[124]⟩ : ByteArray) y270).bind fun t273 => (if x3_1.length < 8796093022208 then (row_Text.l0 k1 (x3_1 ++ [t273]) l0 (l0.length : Int) (wrap64 (x11_1 + 1))) else (none))) = some r := by first | (rw [hy270]; with_reducible exact H) | (have H2_ := (Option.bind_some _ _).symm.trans H; rw [hy270]; with_reducible exact H2_) | (have H2_ := (Option.bind_some _ _).symm.trans H; with_reducible exact H2_) | with_reducible exact H | (rw [hy270]; exact H) | exact H
     have Ny270 := Aside0.mk hy270
     clear hy270
     obtain ⟨t273, A8, H⟩ := bs H
     try dsimp only at H
     obtain ⟨c9, H⟩ := gd H
     have LMc9 := Aside0.mk c9
     clear c9
     obtain ⟨y274, hy274⟩ : ∃ y_ : List ByteArray, y_ = (x3_1 ++ [t273]) := ⟨_, rfl⟩
     replace H : (row_Text.l0 k1 y274 l0 (l0.length : Int) (wrap64 (x11_1 + 1))) = some r := by first | (rw [hy274]; with_reducible exact H) | (have H2_ := (Option.bind_some _ _).symm.trans H; rw [hy274]; with_reducible exact H2_) | (have H2_ := (Option.bind_some _ _).symm.trans H; with_reducible exact H2_) | with_reducible exact H | (rw [hy274]; exact H) | exact H
     have Ny274 := Aside0.mk hy274
     clear hy274
     have H' := Aside0.mk H
     clear H
     have p266 : 0 ≤ (x11_1 : Int) := od
     have q266 : x11_1 < (l0.length : Int) := od
     obtain ⟨ad266, e266, hx266_0, hx266_1, hx266_2, hx266_3⟩ := at_T45 HR0.out x11_1 p266 q266
     cases e266
     replace hx266_0 := kc HB hx266_0
     replace hx266_1 := kc HB hx266_1
     replace hx266_2 := kc HB hx266_2
     replace hx266_3 := kc HB hx266_3
     replace p266 := eq_true p266
     replace q266 := eq_true q266
     try go_wp2_with (first | ((with_reducible refine gate_dst (N := 5) rfl ?_); refine bx (N := 5) #[.int .i64 0, .string (⟨#[]⟩ : ByteArray), .int .i64 0, .bool false] 45 ?_; intro gb267 hg w10 hbox hb; replace HO_3 := cR HO_3 hb; have BK267 := Aside0.mk (hbox); have GW267 := gw hg (uW HB.out); have GE267 := GW267; replace HB := cW HB hb; clear hb hbox hg; obtain ⟨hcz11_0, hcz11_1, hcz11_2, hcz11_3, hfz11_0, hfz11_1, hfz11_2, hfz11_3⟩ := z4 BK267))
     have n0_ : Aside0 (Kd.R Kd.string 9 ((((w10.setCell ⟨gb267, 0, none⟩ (.int .i64 ((rd_T45 l0 x11_1).f0))).setCell ⟨gb267, 1, none⟩ (.string ((rd_T45 l0 x11_1).f1))).setCell ⟨gb267, 2, none⟩ (.int .i64 ((rd_T45 l0 x11_1).f2.f0))).setCell ⟨gb267, 3, none⟩ (.bool ((rd_T45 l0 x11_1).f2.f1))) w.heap.size (fun _ => True) u3 x3_1) := ⟨by exact uR <| Kd.R_mono (Kd.R_far (p := ⟨gb267, 3, none⟩) (Kd.R_far (p := ⟨gb267, 2, none⟩) (Kd.R_far (p := ⟨gb267, 1, none⟩) (Kd.R_far (p := ⟨gb267, 0, none⟩) (Kd.R_types HO_3.out BK267.out (by decide)) (fun _ hk => hk.2) (.int .i64 ((rd_T45 l0 x11_1).f0))) (fun _ hk => hk.2) (.string ((rd_T45 l0 x11_1).f1))) (fun _ hk => hk.2) (.int .i64 ((rd_T45 l0 x11_1).f2.f0))) (fun _ hk => hk.2) (.bool ((rd_T45 l0 x11_1).f2.f1))) (fun _ hk => trivial)⟩
     have n1_ : Aside0 (((((w10.setCell ⟨gb267, 0, none⟩ (.int .i64 ((rd_T45 l0 x11_1).f0))).setCell ⟨gb267, 1, none⟩ (.string ((rd_T45 l0 x11_1).f1))).setCell ⟨gb267, 2, none⟩ (.int .i64 ((rd_T45 l0 x11_1).f2.f0))).setCell ⟨gb267, 3, none⟩ (.bool ((rd_T45 l0 x11_1).f2.f1))).heap[gb267]? = some (.cells #[.int .i64 ((rd_T45 l0 x11_1).f0), .string ((rd_T45 l0 x11_1).f1), .int .i64 ((rd_T45 l0 x11_1).f2.f0), .bool ((rd_T45 l0 x11_1).f2.f1)] 45 (0, 0))) := ⟨by (with_reducible repeat (first | refine blk_drewN ?_ _ | refine blk_drew ?_ | refine blk_alloc ?_ _)); refine blk_put (cs := #[.int .i64 ((rd_T45 l0 x11_1).f0), .string ((rd_T45 l0 x11_1).f1), .int .i64 ((rd_T45 l0 x11_1).f2.f0), .bool false]) ?_ 3 _ rfl; (with_reducible repeat (first | refine blk_drewN ?_ _ | refine blk_drew ?_ | refine blk_alloc ?_ _)); refine blk_put (cs := #[.int .i64 ((rd_T45 l0 x11_1).f0), .string ((rd_T45 l0 x11_1).f1), .int .i64 0, .bool false]) ?_ 2 _ rfl; (with_reducible repeat (first | refine blk_drewN ?_ _ | refine blk_drew ?_ | refine blk_alloc ?_ _)); refine blk_put (cs := #[.int .i64 ((rd_T45 l0 x11_1).f0), .string (⟨#[]⟩ : ByteArray), .int .i64 0, .bool false]) ?_ 1 _ rfl; (with_reducible repeat (first | refine blk_drewN ?_ _ | refine blk_drew ?_ | refine blk_alloc ?_ _)); refine blk_put (cs := #[.int .i64 0, .string (⟨#[]⟩ : ByteArray), .int .i64 0, .bool false]) ?_ 0 _ rfl; exact uB <| BK267.out⟩
     have n2_ : Aside0 (Below w.heap.size w ((((w10.setCell ⟨gb267, 0, none⟩ (.int .i64 ((rd_T45 l0 x11_1).f0))).setCell ⟨gb267, 1, none⟩ (.string ((rd_T45 l0 x11_1).f1))).setCell ⟨gb267, 2, none⟩ (.int .i64 ((rd_T45 l0 x11_1).f2.f0))).setCell ⟨gb267, 3, none⟩ (.bool ((rd_T45 l0 x11_1).f2.f1)))) := ⟨bl⟩
     (try clear HO_3)
     (try clear BK267)
     (try clear HB)
     generalize ((((w10.setCell ⟨gb267, 0, none⟩ (.int .i64 ((rd_T45 l0 x11_1).f0))).setCell ⟨gb267, 1, none⟩ (.string ((rd_T45 l0 x11_1).f1))).setCell ⟨gb267, 2, none⟩ (.int .i64 ((rd_T45 l0 x11_1).f2.f0))).setCell ⟨gb267, 3, none⟩ (.bool ((rd_T45 l0 x11_1).f2.f1))) = w12 at n0_ n1_ n2_ ⊢
     have HO_3 := n0_
     have BK267 := n1_
     have HB := n2_
     clear n0_ n1_ n2_
     have n0_ := Aside0.mk (Kd.R_drew HO_3.out)
     have n1_ := Aside0.mk (blk_drew BK267.out)
     have n2_ := Aside0.mk (below_drew1 HB.out)
     clear HO_3
     clear BK267
     clear HB
     have HO_3 := n0_
     have BK267 := n1_
     have HB := n2_
     clear n0_ n1_ n2_
     refine start_ (n := 14) (S := fun w' => w'.cell? ⟨gb267, 0, none⟩ = some (.int .i64 ((rd_T45 l0 x11_1).f0)) ∧ w'.cell? ⟨gb267, 1, none⟩ = some (.string ((rd_T45 l0 x11_1).f1)) ∧ w'.cell? ⟨gb267, 2, none⟩ = some (.int .i64 ((rd_T45 l0 x11_1).f2.f0)) ∧ w'.cell? ⟨gb267, 3, none⟩ = some (.bool ((rd_T45 l0 x11_1).f2.f1))) (ds := []) #[false, false, false, false, false, false, false, false, false, false, false, false, false, false] (by kernel_rfl) rfl rfl ⟨(blk_cell BK267.out 0).trans rfl, (blk_cell BK267.out 1).trans rfl, (blk_cell BK267.out 2).trans rfl, (blk_cell BK267.out 3).trans rfl⟩ (fun hHeld => ?_); refine with_tabW row_Text.tab7 row_Text.bits7 (fun HT_ HW_ => ?_)
     generalize w12.drew = w13 at HO_3 BK267 HB hHeld ⊢
     refine p1 0 (some 15) ?_
     refine p1 1 (some 16) ?_
     refine p1 4 (some 19) ?_
     refine p1 6 (some 21) ?_
     refine t1 2 (some 17) rfl rfl hHeld (Or.inl ⟨by rfl, by rintro w' ⟨s0, s1, s2, s3⟩; go_simp; with_reducible rfl⟩) ?_
     refine t1 5 (some 20) rfl rfl hHeld (Or.inl ⟨by rfl, by rintro w' ⟨s0, s1, s2, s3⟩; go_simp; with_reducible rfl⟩) ?_
     refine t1 7 (some 22) rfl rfl hHeld (Or.inl ⟨by rfl, by rintro w' ⟨s0, s1, s2, s3⟩; go_simp; with_reducible rfl⟩) ?_
     refine one_ (i := 3) (N := some 18) #[true, true, true, true, true, true, true, true, false, false, false, false, false, false] rfl rfl (one_of HT_.out (by kernel_rfl)) (by decide) (fun K hK => ?_)
     refine goes_ Tryz.func31 (by kernel_rfl) rfl #[.int .i64 ((rd_T45 l0 x11_1).f0)] (by rfl) rfl rfl (by (try simp only [List.map_toArray, List.map_cons, List.map_nil]); first | done | rfl | (simp only [List.length_drop, List.length_take]; rfl)) ?_
     with_reducible refine (sat_Number.calls (hL := (by first | exact HL0.out | exact LD.below HL0.out bl)) ((rd_T45 l0 x11_1).f0) t268 _ A6.out).mono ?_
     rintro e w14 ⟨rfl, hb⟩
     refine ⟨_, rfl, ?_⟩
     have n0_ := cR HO_3 hb
     have n1_ := cB BK267 hb
     have n2_ := Aside0.mk (below_step bl hb)
     clear HO_3
     clear BK267
     clear HB
     have HO_3 := n0_
     have BK267 := n1_
     have HB := n2_
     clear n0_ n1_ n2_
     (try clear hb)
     (try clear hb2)
     (try clear hk)
     (try clear hi)
     refine hK.out _ _ ⟨(blk_cell BK267.out 0).trans rfl, (blk_cell BK267.out 1).trans rfl, (blk_cell BK267.out 2).trans rfl, (blk_cell BK267.out 3).trans rfl⟩ (fun hHeld => ?_)
     clear hK K
     refine norm_ (a' := ?_) ?_ ?_
     rotate_left
     ·
      show Act.put _ (some 18) _ = _
      simp only [Act.put, List.setIfInBounds_toArray, List.set_cons_zero, List.set_cons_succ, i64_w, i32_w]
      rfl
     refine one_ (i := 8) (N := some 23) #[true, true, true, true, true, true, true, true, true, false, false, false, false, false] rfl rfl (one_of HT_.out (by kernel_rfl)) (by decide) (fun K hK => ?_)
     refine goes_ Tryz.func54 (by kernel_rfl) rfl #[.agg #[.int .i64 ((rd_T45 l0 x11_1).f2.f0), .bool ((rd_T45 l0 x11_1).f2.f1)]] (by rfl) rfl rfl (by (try simp only [List.map_toArray, List.map_cons, List.map_nil]); first | done | rfl | (simp only [List.length_drop, List.length_take]; rfl)) ?_
     with_reducible refine (sat_Text.calls (hL := (by first | exact HL0.out | exact LD.below HL0.out bl)) ((rd_T45 l0 x11_1).f2.f0) ((rd_T45 l0 x11_1).f2.f1) t269 _ A7.out).mono ?_
     rintro e w15 ⟨rfl, hb⟩
     refine ⟨_, rfl, ?_⟩
     have n0_ := cR HO_3 hb
     have n1_ := cB BK267 hb
     have n2_ := Aside0.mk (below_step bl hb)
     clear HO_3
     clear BK267
     clear HB
     have HO_3 := n0_
     have BK267 := n1_
     have HB := n2_
     clear n0_ n1_ n2_
     (try clear hb)
     (try clear hb2)
     (try clear hk)
     (try clear hi)
     refine hK.out _ _ ⟨(blk_cell BK267.out 0).trans rfl, (blk_cell BK267.out 1).trans rfl, (blk_cell BK267.out 2).trans rfl, (blk_cell BK267.out 3).trans rfl⟩ (fun hHeld => ?_)
     clear hK K
     refine norm_ (a' := ?_) ?_ ?_
     rotate_left
     ·
      show Act.put _ (some 23) _ = _
      simp only [Act.put, List.setIfInBounds_toArray, List.set_cons_zero, List.set_cons_succ, i64_w, i32_w]
      rfl
     refine one_ (i := 9) (N := some 24) #[true, true, true, true, true, true, true, true, true, true, false, false, false, false] rfl rfl (one_of HT_.out (by kernel_rfl)) (by decide) (fun K hK => ?_)
     refine Kd.R_lit_step Kd.string _ 9 ?hg (N := 24) ?hd (xs := ([t268, (rd_T45 l0 x11_1).f1, t269] : List ByteArray)) (inner := [.string t268, .string ((rd_T45 l0 x11_1).f1), .string t269]) (ok := fun _ => True) (okp := fun _ => True) ?hr ?hp (fun _ hk => hk) trivial (Below.refl _ _) (Nat.le_refl _) (by simp) ?_; (case hd => rfl); (case hg => rfl); (case hr => first | (go_simp; done) | (go_simp; rfl)); (case hp => exact (Reps.one (show Kd.M Kd.string _ _ _ t268 [.string t268] from rfl) (Reps.one (show Kd.M Kd.string _ _ _ ((rd_T45 l0 x11_1).f1) [.string ((rd_T45 l0 x11_1).f1)] from rfl) (Reps.one (show Kd.M Kd.string _ _ _ t269 [.string t269] from rfl) (Reps.none _ _)))))
     intro v271 w16 ho17 hb hg_ hnew_
     clear hg_ hnew_
     (first | rw [← Ny270.out] at ho17 | (simp only [Int.reduceToNat] at ho17; rw [← Ny270.out] at ho17))
     have n0_ := Aside0.mk (Kd.R_elder' (uR HO_3.out) (Kd.R_base ho17) hb)
     have n1_ := Aside0.mk (Kd.R_lower (Kd.R_new' ho17 (Kd.R_lt (uR HO_3.out))) (below_size bl))
     have n2_ := cB BK267 hb
     have n3_ := Aside0.mk (below_step bl hb)
     clear HO_3
     clear BK267
     clear HB
     have HO_3 := n0_
     have HO272 := n1_
     have BK267 := n2_
     have HB := n3_
     clear n0_ n1_ n2_ n3_
     clear hb ho17
     obtain ⟨Ao18, co18, eo18⟩ := Kd.R_slice HO272.out
     (first | subst eo18 | (injection eo18 with f1_ f2_ f3_; have f4_ := f1_.symm; have f5_ := f3_.symm; clear f1_ f2_ f3_; subst f4_; subst f5_))
     refine hK.out _ _ ⟨(blk_cell BK267.out 0).trans rfl, (blk_cell BK267.out 1).trans rfl, (blk_cell BK267.out 2).trans rfl, (blk_cell BK267.out 3).trans rfl⟩ (fun hHeld => ?_)
     clear hK K
     refine norm_ (a' := ?_) ?_ ?_
     rotate_left
     ·
      show Act.put _ (some 24) _ = _
      simp only [Act.put, List.setIfInBounds_toArray, List.set_cons_zero, List.set_cons_succ, i64_w, i32_w]
      rfl
     refine one_ (i := 10) (N := some 25) #[true, true, true, true, true, true, true, true, true, true, true, false, false, false] rfl rfl (one_of HT_.out (by kernel_rfl)) (by decide) (fun K hK => ?_)
     refine goes_ Tryz.func30 (by kernel_rfl) rfl #[.string (⟨#[124]⟩ : ByteArray), .slice Ao18 y270.length co18] (by rfl) rfl rfl (by (try simp only [List.map_toArray, List.map_cons, List.map_nil]); first | done | rfl | (simp only [List.length_drop, List.length_take]; rfl)) ?_
     with_reducible refine (word_Join.calls (⟨#[124]⟩ : ByteArray) _ _ y270 t273 _ ?side1 ?side2 A8.out).mono ?_
     (case side1 => exact uC <| (Kd.R_reads' HO272.out).2.2)
     (case side2 => exact (Kd.R_reads' HO272.out).2.1)
     rintro e w19 ⟨rfl, hb⟩
     refine ⟨_, rfl, ?_⟩
     have n0_ := cR HO_3 hb
     have n1_ := cR HO272 hb
     have n2_ := cB BK267 hb
     have n3_ := Aside0.mk (below_step bl hb)
     clear HO_3
     clear HO272
     clear BK267
     clear HB
     have HO_3 := n0_
     have HO272 := n1_
     have BK267 := n2_
     have HB := n3_
     clear n0_ n1_ n2_ n3_
     (try clear hb)
     (try clear hb2)
     (try clear hk)
     (try clear hi)
     refine hK.out _ _ ⟨(blk_cell BK267.out 0).trans rfl, (blk_cell BK267.out 1).trans rfl, (blk_cell BK267.out 2).trans rfl, (blk_cell BK267.out 3).trans rfl⟩ (fun hHeld => ?_)
     clear hK K
     refine norm_ (a' := ?_) ?_ ?_
     rotate_left
     ·
      show Act.put _ (some 25) _ = _
      simp only [Act.put, List.setIfInBounds_toArray, List.set_cons_zero, List.set_cons_succ, i64_w, i32_w]
      rfl
     refine one_ (i := 11) (N := some 26) #[true, true, true, true, true, true, true, true, true, true, true, true, false, false] rfl rfl (one_of HT_.out (by kernel_rfl)) (by decide) (fun K hK => ?_)
     refine value_ (w1 := ?_) (v := ?_) (by rfl) rfl ?_ ?_
     rotate_left 2
     ·
      go_simp
      constructor
      ·
       rfl
      ·
       rfl
     refine hK.out _ _ ⟨(blk_cell (blk_alloc BK267.out _) 0).trans rfl, (blk_cell (blk_alloc BK267.out _) 1).trans rfl, (blk_cell (blk_alloc BK267.out _) 2).trans rfl, (blk_cell (blk_alloc BK267.out _) 3).trans rfl⟩ (fun hHeld => ?_)
     clear hK K
     refine norm_ (a' := ?_) ?_ ?_
     rotate_left
     ·
      show Act.put _ (some 26) _ = _
      simp only [Act.put, List.setIfInBounds_toArray, List.set_cons_zero, List.set_cons_succ, i64_w, i32_w]
      rfl
     refine one_ (i := 12) (N := some 27) #[true, true, true, true, true, true, true, true, true, true, true, true, true, false] rfl rfl (one_of HT_.out (by kernel_rfl)) (by decide) (fun K hK => ?_)
     refine Kd.R_append_step Kd.string (w0 := w) w.heap.size (by rfl) (.tmp 15) (.tmp 26) 52 9 (.string ⟨#[]⟩) 16 rfl Tryz.underlying52 info9 rfl (by decide) (by omega) u3 x3_1 t273 [.string t273] (fun k_ => some k_ ≠ (.slice Ao18 y270.length co18 : Value).ownBlock) (fun _ => False) rfl rfl ?aP (fun _ hk => hk.elim) ?aF ?aO ?aB ?aS ?aL ?_
     (case aP => exact rfl)
     (case aB => exact bl)
     (case aF => exact (fun k_ hk => Kd.fresh' (Kd.R_lt (uR HO272.out)) k_ hk))
     (case aO => exact (by exact uR <| Kd.R_mono HO_3.out (fun _ hk => hk.2)))
     (case aS => exact (below_size bl))
     (case aL => have := LMc9.out; omega)
     intro v275 w20 ho hb hg hat
     rw [← Ny274.out] at ho
     have n0_ := Aside0.mk (blk_grown (g := gb267) (o := .cells #[.int .i64 ((rd_T45 l0 x11_1).f0), .string ((rd_T45 l0 x11_1).f1), .int .i64 ((rd_T45 l0 x11_1).f2.f0), .bool ((rd_T45 l0 x11_1).f2.f1)] 45 (0, 0)) (uB BK267.out) hg (Kd.R_ne HO_3.out BK267.out (by decide)))
     have n1_ := Aside0.mk (Kd.R_after (ok := (fun _ => True)) (uR HO272.out) hg hat)
     have n2_ := Aside0.mk (hb)
     have n3_ := Aside0.mk (ho)
     clear BK267
     clear HO272
     clear HB
     clear HO_3
     have BK267 := n0_
     have HO272 := n1_
     have HB := n2_
     have HO276 := n3_
     clear n0_ n1_ n2_ n3_
     clear ho hb hg hat
     refine hK.out _ _ ⟨(blk_cell BK267.out 0).trans rfl, (blk_cell BK267.out 1).trans rfl, (blk_cell BK267.out 2).trans rfl, (blk_cell BK267.out 3).trans rfl⟩ (fun hHeld => ?_)
     clear hK K
     refine norm_ (a' := ?_) ?_ ?_
     rotate_left
     ·
      show Act.put _ (some 27) _ = _
      simp only [Act.put, List.setIfInBounds_toArray, List.set_cons_zero, List.set_cons_succ, i64_w, i32_w]
      rfl
     refine p1 13 (some 3) ?_
     refine done_ (done_of HT_.out (by kernel_rfl)) ?_
     try go_wp2
     go_roundg k1
     case measure => have := HK1.out; omega
     case rel => exact ⟨(y274), (wrap64 (x11_1 + 1)), rs_, H', ⟨by have := HK1.out; omega⟩, ⟨by exact uR <| Kd.R_mono HO276.out (fun _ hk => trivial)⟩, ⟨bl⟩⟩
    ·
     rw [if_neg c3] at H
     have c3b0 : decide (x11_1 < (l0.length : Int)) = false := decide_eq_false c3
     clear c3
     obtain ⟨t277, A21, H⟩ := bs H
     try dsimp only at H
     obtain rfl := Option.some.inj H
     obtain ⟨Ao22, co22, eo22⟩ := Kd.R_slice HO_3.out
     subst eo22
     go_wp2_with (first | (refine gL (some 30) rfl Tryz.func30 #[.string (⟨#[59]⟩ : ByteArray), .slice Ao22 x3_1.length co22] ?_; (with_reducible refine (word_Join.calls (⟨#[59]⟩ : ByteArray) _ _ x3_1 t277 _ ?side1 ?side2 A21.out).mono ?_); (case side1 => exact uC <| (Kd.R_reads' HO_3.out).2.2); (case side2 => exact (Kd.R_reads' HO_3.out).2.1); rintro e w23 ⟨rfl, hb⟩; refine ⟨_, rfl, ?_⟩; replace HO_3 := cR HO_3 hb; replace HB := cW HB hb; (try clear hb)))
     go_ret
     exact ⟨re_, uW HB.out⟩
theorem eqA48 (d : Nat) (w : World) (x0 y0 : Int) (x1 y1 : ByteArray) (x2 y2 : Int) (x3 y3 : Bool) (x4 y4 : Bool) :
 (Op.equalIn (d + 4) 48 (.agg #[.int .i64 x0, .string x1, .int .i64 x2, .bool x3, .bool x4]) (.agg #[.int .i64 y0, .string y1, .int .i64 y2, .bool y3, .bool y4])).run Tryz.prog w = .ok ((x0 == y0 && (x1.toList == y1.toList && ((x2 == y2 && (x3 == y3))))) && (x4 == y4)) w := by
 refine eqA_of Tryz.underlying48 (by kernel_rfl) ?_
 refine eqf_cons (by rfl) (by go_simp) (by go_simp) (eqA45 (d + 0) w _ _ _ _ _ _ _ _) ?_
 exact eqf_last (by rfl) (by go_simp; rfl) (by go_simp; rfl) (by go_simp)
attribute [local go_sem high] eqA48
def diff_Text.l0 : Nat → List ByteArray → List (S48) → Int → Int → Option (ByteArray)
 | 0, _, _, _, _ => none
 | k + 1, x3, x9, x10, x11 => if x11 < x10 then (if 0 ≤ x11 then (if x11 < (x9.length : Int) then (if (rd_T48 x9 x11).f1 = true then ((sat_Number.f ((rd_T48 x9 x11).f0.f0)).bind fun t281 => ((word_Join.f (⟨#[124]⟩ : ByteArray) (([t281, (rd_T48 x9 x11).f0.f1] : List ByteArray))).bind fun t285 => (if 1 + t285.size ≤ 9223372036854775807 then (if x3.length < 8796093022208 then (diff_Text.l0 k (x3 ++ [(⟨#[33]⟩ : ByteArray) ++ t285]) x9 x10 (wrap64 (x11 + 1))) else (none)) else (none)))) else ((row_Text.f k (([(⟨(rd_T48 x9 x11).f0.f0, (rd_T48 x9 x11).f0.f1, (⟨(rd_T48 x9 x11).f0.f2.f0, (rd_T48 x9 x11).f0.f2.f1⟩ : S43)⟩ : S45)] : List (S45)))).bind fun t292 => (if x3.length < 8796093022208 then (diff_Text.l0 k (x3 ++ [t292]) x9 x10 (wrap64 (x11 + 1))) else (none)))) else (none)) else (none)) else ((word_Join.f (⟨#[59]⟩ : ByteArray) x3).bind fun t278 => (some t278))
def diff_Text.f (k : Nat) (l0 : List (S48)) : Option (ByteArray) := if (l0.length : Int) = 0 then (some (⟨#[45]⟩ : ByteArray)) else (diff_Text.l0 k ([] : List ByteArray) l0 (l0.length : Int) 0)
theorem diff_Text.mono_l : ∀ k, (∀ y0 y1 y2 y3, LeC (diff_Text.l0 k y0 y1 y2 y3) (diff_Text.l0 (k + 1) y0 y1 y2 y3))
 | 0 => fun _ _ _ _ => ⟨fun r h => by simp [diff_Text.l0] at h⟩
 | k + 1 => by have ih0 := diff_Text.mono_l k; exact fun _ _ _ _ => by unfold diff_Text.l0; exact lm
theorem diff_Text.mono : ∀ a0 k, LeO (diff_Text.f k a0) (diff_Text.f (k + 1) a0) := by
 intro a0 k
 have ih0 := diff_Text.mono_l k
 unfold diff_Text.f
 exact lo
instance diff_Text.mI {a0 k} : LeC (diff_Text.f k a0) (diff_Text.f (k + 1) a0) := ⟨diff_Text.mono _ _⟩
def diff_Text.T8 : Bool × List (List Nat × List Nat) := (true, [([], []), ([], []), ([1], [1]), ([2], [2]), ([3], [3]), ([], []), ([5], [5]), ([6], [6]), ([4, 7], [4, 7]), ([8, 4], [8]), ([9], [9]), ([10], [10]), ([0, 11, 9], [0, 11]), ([12, 12, 0, 1, 2, 3, 4, 5, 6, 7, 8, 9, 10, 11, 12], [0, 12])])
def diff_Text.B8 : List Nat := [0, 0, 2, 6, 14, 0, 32, 96, 254, 510, 1022, 2046, 4095, 8191]
theorem diff_Text.tab8 : rtab .any (opsOf Tryz.f14 8) = diff_Text.T8 := by kernel_rfl
theorem diff_Text.bits8 : waitsOk diff_Text.T8.2 diff_Text.B8 = true := by kernel_rfl
theorem diff_Text.calls (k : Nat) (A0 : Option Addr) (c0 : Nat) (l0 : List (S48)) (r : ByteArray) (w : World) (hr0 : Kd.C k48 w A0 l0.length l0) (hc0 : l0.length ≤ c0) (hL : LD w) (h : diff_Text.f k l0 = some r) :
 Calls Tryz.prog 14 #[.slice A0 l0.length c0] w fun e w' => e = .returned (.string r) ∧ Below w.heap.size w w' := by
 have HL0 := Aside0.mk hL
 clear hL
 have hu48 := Tryz.underlying48
 have hu45 := Tryz.underlying45
 have HR0 := Aside0.mk hr0
 have HC0 := Aside0.mk hc0
 clear hr0 hc0
 have HB := Aside0.mk (Below.refl w.heap.size w)
 have H : (if (l0.length : Int) = 0 then (some (⟨#[45]⟩ : ByteArray)) else (diff_Text.l0 k ([] : List ByteArray) l0 (l0.length : Int) 0)) = some r := h
 clear h
 by_cases c2 : (l0.length : Int) = 0
 ·
  rw [if_pos c2] at H
  have c2b0 : ((l0.length : Int) == 0) = true := beq_iff_eq.mpr c2
  have c2b1 : ((l0.length : Int) != 0) = false := bne_eq_false_iff_eq.mpr c2
  clear c2
  obtain rfl := Option.some.inj H
  go_enter Tryz.func14, Tryz.ntmps14
  go_wp2
  go_ret
  exact ⟨re_, uW HB.out⟩
 ·
  rw [if_neg c2] at H
  have c2b0 : ((l0.length : Int) == 0) = false := beq_eq_false_iff_ne.mpr c2
  have c2b1 : ((l0.length : Int) != 0) = true := bne_iff_ne.mpr c2
  have c2b2 : ¬ (l0 = []) := fun h_ => c2 (by rw [h_]; rfl)
  have H' := Aside0.mk H
  clear H
  go_enter Tryz.func14, Tryz.ntmps14
  go_wp2
  go_loopg [3, 11] k (fun kq v3 v11 w' => ∃ (x3_1 : List ByteArray) (x11_1 : Int), v11 = .int .i64 x11_1 ∧ Aside0 (diff_Text.l0 kq x3_1 l0 (l0.length : Int) x11_1 = some r) ∧ Aside0 (kq ≤ k) ∧ Aside0 (Kd.R Kd.string 9 w' w.heap.size (fun _ => True) v3 x3_1) ∧ Aside0 (Below w.heap.size w w'))
  case atStart => exact ⟨(([] : List ByteArray)), (0), rs_, H', ⟨Nat.le_refl _⟩, ⟨nl_⟩, ⟨uW HB.out⟩⟩
  case round =>
   clear H'
   try clear c1
   try clear c2
   try clear c2b0
   try clear c2b1
   try clear c2b2
   try clear p2
   obtain ⟨x3_1, x11_1, rfl, HA, HK1, HO_3, HB⟩ := hrel
   cases gk with
   | zero => exact absurd HA.out (by simp [diff_Text.l0])
   | succ k1 =>
    have H := HA.out
    clear HA
    simp only [diff_Text.l0] at H
    by_cases c3 : x11_1 < (l0.length : Int)
    ·
     rw [if_pos c3] at H
     have c3b0 : decide (x11_1 < (l0.length : Int)) = true := decide_eq_true c3
     clear c3
     obtain ⟨c4b0, H⟩ := gdd H
     obtain ⟨c5b0, H⟩ := gdd H
     obtain ⟨bq6, hbq6⟩ : ∃ b_ : Bool, b_ = ((rd_T48 l0 x11_1).f1) := ⟨_, rfl⟩
     replace H : (if bq6 = true then ((sat_Number.f ((rd_T48 l0 x11_1).f0.f0)).bind fun t281 => ((word_Join.f (⟨#[124]⟩ : ByteArray) (([t281, (rd_T48 l0 x11_1).f0.f1] : List ByteArray))).bind fun t285 => (if 1 + t285.size ≤ 9223372036854775807 then (if x3_1.length < 8796093022208 then (diff_Text.l0 k1 (x3_1 ++ [(⟨#[33]⟩ : ByteArray) ++ t285]) l0 (l0.length : Int) (wrap64 (x11_1 + 1))) else (none)) else (none)))) else ((row_Text.f k1 (([(⟨(rd_T48 l0 x11_1).f0.f0, (rd_T48 l0 x11_1).f0.f1, (⟨(rd_T48 l0 x11_1).f0.f2.f0, (rd_T48 l0 x11_1).f0.f2.f1⟩ : S43)⟩ : S45)] : List (S45)))).bind fun t292 => (if x3_1.length < 8796093022208 then (diff_Text.l0 k1 (x3_1 ++ [t292]) l0 (l0.length : Int) (wrap64 (x11_1 + 1))) else (none)))) = some r := by rw [← hbq6] at H; exact H
     have Nbq6 := Aside0.mk hbq6
     clear hbq6
     by_cases c7 : bq6 = true
     ·
      subst c7
      rw [if_pos rfl] at H
      obtain ⟨t281, A8, H⟩ := bs H
      try dsimp only at H
      obtain ⟨y282, hy282⟩ : ∃ y_ : List ByteArray, y_ = (([t281, (rd_T48 l0 x11_1).f0.f1] : List ByteArray)) := ⟨_, rfl⟩
      replace H : ((word_Join.f (⟨#[124]⟩ : ByteArray) y282).bind fun t285 => (if 1 + t285.size ≤ 9223372036854775807 then (if x3_1.length < 8796093022208 then (diff_Text.l0 k1 (x3_1 ++ [(⟨#[33]⟩ : ByteArray) ++ t285]) l0 (l0.length : Int) (wrap64 (x11_1 + 1))) else (none)) else (none))) = some r := by first | (rw [hy282]; with_reducible exact H) | (have H2_ := (Option.bind_some _ _).symm.trans H; rw [hy282]; with_reducible exact H2_) | (have H2_ := (Option.bind_some _ _).symm.trans H; with_reducible exact H2_) | with_reducible exact H | (rw [hy282]; exact H) | exact H
      have Ny282 := Aside0.mk hy282
      clear hy282
      obtain ⟨t285, A9, H⟩ := bs H
      try dsimp only at H
      obtain ⟨c10, H⟩ := gd H
      have c10b0 := eq_true c10
      have c10b1 : decide (1 + t285.size ≤ 9223372036854775807) = true := decide_eq_true c10
      try have c10b2 : (9223372036854775807 < 1 + t285.size) = False := eq_false (Nat.not_lt.2 c10)
      obtain ⟨c11, H⟩ := gd H
      have LMc11 := Aside0.mk c11
      clear c11
      obtain ⟨y286, hy286⟩ : ∃ y_ : List ByteArray, y_ = (x3_1 ++ [(⟨#[33]⟩ : ByteArray) ++ t285]) := ⟨_, rfl⟩
      replace H : (diff_Text.l0 k1 y286 l0 (l0.length : Int) (wrap64 (x11_1 + 1))) = some r := by first | (rw [hy286]; with_reducible exact H) | (have H2_ := (Option.bind_some _ _).symm.trans H; rw [hy286]; with_reducible exact H2_) | (have H2_ := (Option.bind_some _ _).symm.trans H; with_reducible exact H2_) | with_reducible exact H | (rw [hy286]; exact H) | exact H
      have Ny286 := Aside0.mk hy286
      clear hy286
      have H' := Aside0.mk H
      clear H
      have p279 : 0 ≤ (x11_1 : Int) := od
      have q279 : x11_1 < (l0.length : Int) := od
      obtain ⟨ad279, e279, hx279_0, hx279_1, hx279_2, hx279_3, hx279_4⟩ := at_T48 HR0.out x11_1 p279 q279
      (try rw [← Nbq6.out] at hx279_3)
      (try rw [← Nbq6.out] at hx279_4)
      cases e279
      replace hx279_0 := kc HB hx279_0
      replace hx279_1 := kc HB hx279_1
      replace hx279_2 := kc HB hx279_2
      replace hx279_3 := kc HB hx279_3
      replace hx279_4 := kc HB hx279_4
      replace p279 := eq_true p279
      replace q279 := eq_true q279
      try go_wp2_with (first | ((with_reducible refine gate_dst (N := 5) rfl ?_); refine bx (N := 5) #[.int .i64 0, .string (⟨#[]⟩ : ByteArray), .int .i64 0, .bool false, .bool false] 48 ?_; intro gb280 hg w12 hbox hb; replace HO_3 := cR HO_3 hb; have BK280 := Aside0.mk (hbox); have GW280 := gw hg (uW HB.out); have GE280 := GW280; replace HB := cW HB hb; clear hb hbox hg; obtain ⟨hcz13_0, hcz13_1, hcz13_2, hcz13_3, hcz13_4, hfz13_0, hfz13_1, hfz13_2, hfz13_3, hfz13_4⟩ := z5 BK280) | ((with_reducible refine gate_store (t := 48) (p := 5) rfl ?_); refine store_event (t := 48) (p := 5) (v := ?vo_w14) (w1 := (((((w12.setCell ⟨gb280, 0, none⟩ (.int .i64 ((rd_T48 l0 x11_1).f0.f0))).setCell ⟨gb280, 1, none⟩ (.string ((rd_T48 l0 x11_1).f0.f1))).setCell ⟨gb280, 2, none⟩ (.int .i64 ((rd_T48 l0 x11_1).f0.f2.f0))).setCell ⟨gb280, 3, none⟩ (.bool ((rd_T48 l0 x11_1).f0.f2.f1))).setCell ⟨gb280, 4, none⟩ (.bool true))) ?hg ?ho ?hn ?hr ?_; (case ho => rfl); (case hg => rfl); (case hn => rfl); (case hr => first | (go_simp; done) | (go_simp; rfl)); intro w14 hw; have n0_ : Aside0 (Kd.R Kd.string 9 w14 w.heap.size (fun _ => True) u3 x3_1) := ⟨(by rw [hw]; exact (by exact uR <| Kd.R_mono (Kd.R_far (p := ⟨gb280, 4, none⟩) (Kd.R_far (p := ⟨gb280, 3, none⟩) (Kd.R_far (p := ⟨gb280, 2, none⟩) (Kd.R_far (p := ⟨gb280, 1, none⟩) (Kd.R_far (p := ⟨gb280, 0, none⟩) (Kd.R_types HO_3.out BK280.out (by decide)) (fun _ hk => hk.2) (.int .i64 ((rd_T48 l0 x11_1).f0.f0))) (fun _ hk => hk.2) (.string ((rd_T48 l0 x11_1).f0.f1))) (fun _ hk => hk.2) (.int .i64 ((rd_T48 l0 x11_1).f0.f2.f0))) (fun _ hk => hk.2) (.bool ((rd_T48 l0 x11_1).f0.f2.f1))) (fun _ hk => hk.2) (.bool true)) (fun _ hk => trivial)))⟩; have n1_ : Aside0 (w14.heap[gb280]? = some (.cells #[.int .i64 ((rd_T48 l0 x11_1).f0.f0), .string ((rd_T48 l0 x11_1).f0.f1), .int .i64 ((rd_T48 l0 x11_1).f0.f2.f0), .bool ((rd_T48 l0 x11_1).f0.f2.f1), .bool true] 48 (0, 0))) := ⟨(by rw [hw]; exact (by (with_reducible repeat (first | refine blk_drewN ?_ _ | refine blk_drew ?_ | refine blk_alloc ?_ _)); refine blk_put (cs := #[.int .i64 ((rd_T48 l0 x11_1).f0.f0), .string ((rd_T48 l0 x11_1).f0.f1), .int .i64 ((rd_T48 l0 x11_1).f0.f2.f0), .bool ((rd_T48 l0 x11_1).f0.f2.f1), .bool false]) ?_ 4 _ rfl; (with_reducible repeat (first | refine blk_drewN ?_ _ | refine blk_drew ?_ | refine blk_alloc ?_ _)); refine blk_put (cs := #[.int .i64 ((rd_T48 l0 x11_1).f0.f0), .string ((rd_T48 l0 x11_1).f0.f1), .int .i64 ((rd_T48 l0 x11_1).f0.f2.f0), .bool false, .bool false]) ?_ 3 _ rfl; (with_reducible repeat (first | refine blk_drewN ?_ _ | refine blk_drew ?_ | refine blk_alloc ?_ _)); refine blk_put (cs := #[.int .i64 ((rd_T48 l0 x11_1).f0.f0), .string ((rd_T48 l0 x11_1).f0.f1), .int .i64 0, .bool false, .bool false]) ?_ 2 _ rfl; (with_reducible repeat (first | refine blk_drewN ?_ _ | refine blk_drew ?_ | refine blk_alloc ?_ _)); refine blk_put (cs := #[.int .i64 ((rd_T48 l0 x11_1).f0.f0), .string (⟨#[]⟩ : ByteArray), .int .i64 0, .bool false, .bool false]) ?_ 1 _ rfl; (with_reducible repeat (first | refine blk_drewN ?_ _ | refine blk_drew ?_ | refine blk_alloc ?_ _)); refine blk_put (cs := #[.int .i64 0, .string (⟨#[]⟩ : ByteArray), .int .i64 0, .bool false, .bool false]) ?_ 0 _ rfl; exact uB <| BK280.out))⟩; have n2_ : Aside0 (Below w.heap.size w w14) := ⟨(by rw [hw]; exact bl)⟩; clear hw; clear HO_3; clear BK280; clear HB; have HO_3 := n0_; have BK280 := n1_; have HB := n2_; clear n0_ n1_ n2_; obtain ⟨hcz15_0, hcz15_1, hcz15_2, hcz15_3, hcz15_4, hfz15_0, hfz15_1, hfz15_2, hfz15_3, hfz15_4⟩ := z5 BK280))
      have n0_ := Aside0.mk (Kd.R_drew HO_3.out)
      have n1_ := Aside0.mk (blk_drew BK280.out)
      have n2_ := Aside0.mk (below_drew1 HB.out)
      clear HO_3
      clear BK280
      clear HB
      have HO_3 := n0_
      have BK280 := n1_
      have HB := n2_
      clear n0_ n1_ n2_
      refine start_ (n := 14) (S := fun w' => w'.cell? ⟨gb280, 0, none⟩ = some (.int .i64 ((rd_T48 l0 x11_1).f0.f0)) ∧ w'.cell? ⟨gb280, 1, none⟩ = some (.string ((rd_T48 l0 x11_1).f0.f1)) ∧ w'.cell? ⟨gb280, 2, none⟩ = some (.int .i64 ((rd_T48 l0 x11_1).f0.f2.f0)) ∧ w'.cell? ⟨gb280, 3, none⟩ = some (.bool ((rd_T48 l0 x11_1).f0.f2.f1)) ∧ w'.cell? ⟨gb280, 4, none⟩ = some (.bool true)) (ds := []) #[false, false, false, false, false, false, false, false, false, false, false, false, false, false] (by kernel_rfl) rfl rfl ⟨(blk_cell BK280.out 0).trans rfl, (blk_cell BK280.out 1).trans rfl, (blk_cell BK280.out 2).trans rfl, (blk_cell BK280.out 3).trans rfl, (blk_cell BK280.out 4).trans rfl⟩ (fun hHeld => ?_); refine with_tabW diff_Text.tab8 diff_Text.bits8 (fun HT_ HW_ => ?_)
      generalize w14.drew = w16 at HO_3 BK280 HB hHeld ⊢
      refine p1 0 (some 17) ?_
      refine p1 1 (some 18) ?_
      refine p1 2 (some 19) ?_
      refine p1 5 (some 22) ?_
      refine p1 6 (some 23) ?_
      refine t1 3 (some 20) rfl rfl hHeld (Or.inl ⟨by rfl, by rintro w' ⟨s0, s1, s2, s3, s4⟩; go_simp; with_reducible rfl⟩) ?_
      refine t1 7 (some 24) rfl rfl hHeld (Or.inl ⟨by rfl, by rintro w' ⟨s0, s1, s2, s3, s4⟩; go_simp; with_reducible rfl⟩) ?_
      refine one_ (i := 4) (N := some 21) #[true, true, true, true, true, true, true, true, false, false, false, false, false, false] rfl rfl (one_of HT_.out (by kernel_rfl)) (by decide) (fun K hK => ?_)
      refine goes_ Tryz.func31 (by kernel_rfl) rfl #[.int .i64 ((rd_T48 l0 x11_1).f0.f0)] (by rfl) rfl rfl (by (try simp only [List.map_toArray, List.map_cons, List.map_nil]); first | done | rfl | (simp only [List.length_drop, List.length_take]; rfl)) ?_
      with_reducible refine (sat_Number.calls (hL := (by first | exact HL0.out | exact LD.below HL0.out bl)) ((rd_T48 l0 x11_1).f0.f0) t281 _ A8.out).mono ?_
      rintro e w17 ⟨rfl, hb⟩
      refine ⟨_, rfl, ?_⟩
      have n0_ := cR HO_3 hb
      have n1_ := cB BK280 hb
      have n2_ := Aside0.mk (below_step bl hb)
      clear HO_3
      clear BK280
      clear HB
      have HO_3 := n0_
      have BK280 := n1_
      have HB := n2_
      clear n0_ n1_ n2_
      (try clear hb)
      (try clear hb2)
      (try clear hk)
      (try clear hi)
      refine hK.out _ _ ⟨(blk_cell BK280.out 0).trans rfl, (blk_cell BK280.out 1).trans rfl, (blk_cell BK280.out 2).trans rfl, (blk_cell BK280.out 3).trans rfl, (blk_cell BK280.out 4).trans rfl⟩ (fun hHeld => ?_)
      clear hK K
      refine norm_ (a' := ?_) ?_ ?_
      rotate_left
      ·
       show Act.put _ (some 21) _ = _
       simp only [Act.put, List.setIfInBounds_toArray, List.set_cons_zero, List.set_cons_succ, i64_w, i32_w]
       rfl
      refine one_ (i := 8) (N := some 25) #[true, true, true, true, true, true, true, true, true, false, false, false, false, false] rfl rfl (one_of HT_.out (by kernel_rfl)) (by decide) (fun K hK => ?_)
      refine Kd.R_lit_step Kd.string _ 9 ?hg (N := 25) ?hd (xs := ([t281, (rd_T48 l0 x11_1).f0.f1] : List ByteArray)) (inner := [.string t281, .string ((rd_T48 l0 x11_1).f0.f1)]) (ok := fun _ => True) (okp := fun _ => True) ?hr ?hp (fun _ hk => hk) trivial (Below.refl _ _) (Nat.le_refl _) (by simp) ?_; (case hd => rfl); (case hg => rfl); (case hr => first | (go_simp; done) | (go_simp; rfl)); (case hp => exact (Reps.one (show Kd.M Kd.string _ _ _ t281 [.string t281] from rfl) (Reps.one (show Kd.M Kd.string _ _ _ ((rd_T48 l0 x11_1).f0.f1) [.string ((rd_T48 l0 x11_1).f0.f1)] from rfl) (Reps.none _ _))))
      intro v283 w18 ho19 hb hg_ hnew_
      clear hg_ hnew_
      (first | rw [← Ny282.out] at ho19 | (simp only [Int.reduceToNat] at ho19; rw [← Ny282.out] at ho19))
      have n0_ := Aside0.mk (Kd.R_elder' (uR HO_3.out) (Kd.R_base ho19) hb)
      have n1_ := Aside0.mk (Kd.R_lower (Kd.R_new' ho19 (Kd.R_lt (uR HO_3.out))) (below_size bl))
      have n2_ := cB BK280 hb
      have n3_ := Aside0.mk (below_step bl hb)
      clear HO_3
      clear BK280
      clear HB
      have HO_3 := n0_
      have HO284 := n1_
      have BK280 := n2_
      have HB := n3_
      clear n0_ n1_ n2_ n3_
      clear hb ho19
      obtain ⟨Ao20, co20, eo20⟩ := Kd.R_slice HO284.out
      (first | subst eo20 | (injection eo20 with f1_ f2_ f3_; have f4_ := f1_.symm; have f5_ := f3_.symm; clear f1_ f2_ f3_; subst f4_; subst f5_))
      refine hK.out _ _ ⟨(blk_cell BK280.out 0).trans rfl, (blk_cell BK280.out 1).trans rfl, (blk_cell BK280.out 2).trans rfl, (blk_cell BK280.out 3).trans rfl, (blk_cell BK280.out 4).trans rfl⟩ (fun hHeld => ?_)
      clear hK K
      refine norm_ (a' := ?_) ?_ ?_
      rotate_left
      ·
       show Act.put _ (some 25) _ = _
       simp only [Act.put, List.setIfInBounds_toArray, List.set_cons_zero, List.set_cons_succ, i64_w, i32_w]
       rfl
      refine one_ (i := 9) (N := some 26) #[true, true, true, true, true, true, true, true, true, true, false, false, false, false] rfl rfl (one_of HT_.out (by kernel_rfl)) (by decide) (fun K hK => ?_)
      refine goes_ Tryz.func30 (by kernel_rfl) rfl #[.string (⟨#[124]⟩ : ByteArray), .slice Ao20 y282.length co20] (by rfl) rfl rfl (by (try simp only [List.map_toArray, List.map_cons, List.map_nil]); first | done | rfl | (simp only [List.length_drop, List.length_take]; rfl)) ?_
      with_reducible refine (word_Join.calls (⟨#[124]⟩ : ByteArray) _ _ y282 t285 _ ?side1 ?side2 A9.out).mono ?_
      (case side1 => exact uC <| (Kd.R_reads' HO284.out).2.2)
      (case side2 => exact (Kd.R_reads' HO284.out).2.1)
      rintro e w21 ⟨rfl, hb⟩
      refine ⟨_, rfl, ?_⟩
      have n0_ := cR HO_3 hb
      have n1_ := cR HO284 hb
      have n2_ := cB BK280 hb
      have n3_ := Aside0.mk (below_step bl hb)
      clear HO_3
      clear HO284
      clear BK280
      clear HB
      have HO_3 := n0_
      have HO284 := n1_
      have BK280 := n2_
      have HB := n3_
      clear n0_ n1_ n2_ n3_
      (try clear hb)
      (try clear hb2)
      (try clear hk)
      (try clear hi)
      refine hK.out _ _ ⟨(blk_cell BK280.out 0).trans rfl, (blk_cell BK280.out 1).trans rfl, (blk_cell BK280.out 2).trans rfl, (blk_cell BK280.out 3).trans rfl, (blk_cell BK280.out 4).trans rfl⟩ (fun hHeld => ?_)
      clear hK K
      refine norm_ (a' := ?_) ?_ ?_
      rotate_left
      ·
       show Act.put _ (some 26) _ = _
       simp only [Act.put, List.setIfInBounds_toArray, List.set_cons_zero, List.set_cons_succ, i64_w, i32_w]
       rfl
      refine p1 10 (some 27) ?_
      refine one_ (i := 11) (N := some 28) #[true, true, true, true, true, true, true, true, true, true, true, true, false, false] rfl rfl (one_of HT_.out (by kernel_rfl)) (by decide) (fun K hK => ?_)
      refine value_ (w1 := ?_) (v := ?_) (by rfl) rfl ?_ ?_
      rotate_left 2
      ·
       go_simp
       constructor
       ·
        rfl
       ·
        rfl
      refine hK.out _ _ ⟨(blk_cell (blk_alloc BK280.out _) 0).trans rfl, (blk_cell (blk_alloc BK280.out _) 1).trans rfl, (blk_cell (blk_alloc BK280.out _) 2).trans rfl, (blk_cell (blk_alloc BK280.out _) 3).trans rfl, (blk_cell (blk_alloc BK280.out _) 4).trans rfl⟩ (fun hHeld => ?_)
      clear hK K
      refine norm_ (a' := ?_) ?_ ?_
      rotate_left
      ·
       show Act.put _ (some 28) _ = _
       simp only [Act.put, List.setIfInBounds_toArray, List.set_cons_zero, List.set_cons_succ, i64_w, i32_w]
       rfl
      refine one_ (i := 12) (N := some 29) #[true, true, true, true, true, true, true, true, true, true, true, true, true, false] rfl rfl (one_of HT_.out (by kernel_rfl)) (by decide) (fun K hK => ?_)
      refine Kd.R_append_step Kd.string (w0 := w) w.heap.size (by rfl) (.tmp 17) (.tmp 28) 52 9 (.string ⟨#[]⟩) 16 rfl Tryz.underlying52 info9 rfl (by decide) (by omega) u3 x3_1 ((⟨#[33]⟩ : ByteArray) ++ t285) [.string ((⟨#[33]⟩ : ByteArray) ++ t285)] (fun k_ => some k_ ≠ (.slice Ao20 y282.length co20 : Value).ownBlock) (fun _ => False) rfl rfl ?aP (fun _ hk => hk.elim) ?aF ?aO ?aB ?aS ?aL ?_
      (case aP => exact rfl)
      (case aB => exact bl)
      (case aF => exact (fun k_ hk => Kd.fresh' (Kd.R_lt (uR HO284.out)) k_ hk))
      (case aO => exact (by exact uR <| Kd.R_mono HO_3.out (fun _ hk => hk.2)))
      (case aS => exact (below_size bl))
      (case aL => have := LMc11.out; omega)
      intro v287 w22 ho hb hg hat
      rw [← Ny286.out] at ho
      have n0_ := Aside0.mk (blk_grown (g := gb280) (o := .cells #[.int .i64 ((rd_T48 l0 x11_1).f0.f0), .string ((rd_T48 l0 x11_1).f0.f1), .int .i64 ((rd_T48 l0 x11_1).f0.f2.f0), .bool ((rd_T48 l0 x11_1).f0.f2.f1), .bool true] 48 (0, 0)) (uB BK280.out) hg (Kd.R_ne HO_3.out BK280.out (by decide)))
      have n1_ := Aside0.mk (Kd.R_after (ok := (fun _ => True)) (uR HO284.out) hg hat)
      have n2_ := Aside0.mk (hb)
      have n3_ := Aside0.mk (ho)
      clear BK280
      clear HO284
      clear HB
      clear HO_3
      have BK280 := n0_
      have HO284 := n1_
      have HB := n2_
      have HO288 := n3_
      clear n0_ n1_ n2_ n3_
      clear ho hb hg hat
      refine hK.out _ _ ⟨(blk_cell BK280.out 0).trans rfl, (blk_cell BK280.out 1).trans rfl, (blk_cell BK280.out 2).trans rfl, (blk_cell BK280.out 3).trans rfl, (blk_cell BK280.out 4).trans rfl⟩ (fun hHeld => ?_)
      clear hK K
      refine norm_ (a' := ?_) ?_ ?_
      rotate_left
      ·
       show Act.put _ (some 29) _ = _
       simp only [Act.put, List.setIfInBounds_toArray, List.set_cons_zero, List.set_cons_succ, i64_w, i32_w]
       rfl
      refine p1 13 (some 3) ?_
      refine done_ (done_of HT_.out (by kernel_rfl)) ?_
      try go_wp2
      go_roundg k1
      case measure => have := HK1.out; omega
      case rel => exact ⟨(y286), (wrap64 (x11_1 + 1)), rs_, (by first | exact H' | (rw [← Nbq6.out]; exact H')), ⟨by have := HK1.out; omega⟩, ⟨by exact uR <| Kd.R_mono HO288.out (fun _ hk => trivial)⟩, ⟨bl⟩⟩
     ·
      replace c7 := Bool.eq_false_iff.mpr c7
      subst c7
      rw [if_neg (show ¬ (false = true) by decide)] at H
      obtain ⟨y289, hy289⟩ : ∃ y_ : List (S45), y_ = (([(⟨(rd_T48 l0 x11_1).f0.f0, (rd_T48 l0 x11_1).f0.f1, (⟨(rd_T48 l0 x11_1).f0.f2.f0, (rd_T48 l0 x11_1).f0.f2.f1⟩ : S43)⟩ : S45)] : List (S45))) := ⟨_, rfl⟩
      replace H : ((row_Text.f k1 y289).bind fun t292 => (if x3_1.length < 8796093022208 then (diff_Text.l0 k1 (x3_1 ++ [t292]) l0 (l0.length : Int) (wrap64 (x11_1 + 1))) else (none))) = some r := by first | (rw [hy289]; with_reducible exact H) | (have H2_ := (Option.bind_some _ _).symm.trans H; rw [hy289]; with_reducible exact H2_) | (have H2_ := (Option.bind_some _ _).symm.trans H; with_reducible exact H2_) | with_reducible exact H | (rw [hy289]; exact H) | exact H
      have Ny289 := Aside0.mk hy289
      clear hy289
      obtain ⟨t292, A23, H⟩ := bs H
      try dsimp only at H
      obtain ⟨c24, H⟩ := gd H
      have LMc24 := Aside0.mk c24
      clear c24
      obtain ⟨y293, hy293⟩ : ∃ y_ : List ByteArray, y_ = (x3_1 ++ [t292]) := ⟨_, rfl⟩
      replace H : (diff_Text.l0 k1 y293 l0 (l0.length : Int) (wrap64 (x11_1 + 1))) = some r := by first | (rw [hy293]; with_reducible exact H) | (have H2_ := (Option.bind_some _ _).symm.trans H; rw [hy293]; with_reducible exact H2_) | (have H2_ := (Option.bind_some _ _).symm.trans H; with_reducible exact H2_) | with_reducible exact H | (rw [hy293]; exact H) | exact H
      have Ny293 := Aside0.mk hy293
      clear hy293
      have H' := Aside0.mk H
      clear H
      have p279 : 0 ≤ (x11_1 : Int) := od
      have q279 : x11_1 < (l0.length : Int) := od
      obtain ⟨ad279, e279, hx279_0, hx279_1, hx279_2, hx279_3, hx279_4⟩ := at_T48 HR0.out x11_1 p279 q279
      (try rw [← Nbq6.out] at hx279_3)
      (try rw [← Nbq6.out] at hx279_4)
      cases e279
      replace hx279_0 := kc HB hx279_0
      replace hx279_1 := kc HB hx279_1
      replace hx279_2 := kc HB hx279_2
      replace hx279_3 := kc HB hx279_3
      replace hx279_4 := kc HB hx279_4
      replace p279 := eq_true p279
      replace q279 := eq_true q279
      go_wp2_with (first | ((with_reducible refine gate_dst (N := 5) rfl ?_); refine bx (N := 5) #[.int .i64 0, .string (⟨#[]⟩ : ByteArray), .int .i64 0, .bool false, .bool false] 48 ?_; intro gb280 hg w25 hbox hb; replace HO_3 := cR HO_3 hb; have BK280 := Aside0.mk (hbox); have GW280 := gw hg (uW HB.out); have GE280 := GW280; replace HB := cW HB hb; clear hb hbox hg; obtain ⟨hcz26_0, hcz26_1, hcz26_2, hcz26_3, hcz26_4, hfz26_0, hfz26_1, hfz26_2, hfz26_3, hfz26_4⟩ := z5 BK280) | ((with_reducible refine gate_store (t := 48) (p := 5) rfl ?_); refine store_event (t := 48) (p := 5) (v := ?vo_w27) (w1 := (((((w25.setCell ⟨gb280, 0, none⟩ (.int .i64 ((rd_T48 l0 x11_1).f0.f0))).setCell ⟨gb280, 1, none⟩ (.string ((rd_T48 l0 x11_1).f0.f1))).setCell ⟨gb280, 2, none⟩ (.int .i64 ((rd_T48 l0 x11_1).f0.f2.f0))).setCell ⟨gb280, 3, none⟩ (.bool ((rd_T48 l0 x11_1).f0.f2.f1))).setCell ⟨gb280, 4, none⟩ (.bool false))) ?hg ?ho ?hn ?hr ?_; (case ho => rfl); (case hg => rfl); (case hn => rfl); (case hr => first | (go_simp; done) | (go_simp; rfl)); intro w27 hw; have n0_ : Aside0 (Kd.R Kd.string 9 w27 w.heap.size (fun _ => True) u3 x3_1) := ⟨(by rw [hw]; exact (by exact uR <| Kd.R_mono (Kd.R_far (p := ⟨gb280, 4, none⟩) (Kd.R_far (p := ⟨gb280, 3, none⟩) (Kd.R_far (p := ⟨gb280, 2, none⟩) (Kd.R_far (p := ⟨gb280, 1, none⟩) (Kd.R_far (p := ⟨gb280, 0, none⟩) (Kd.R_types HO_3.out BK280.out (by decide)) (fun _ hk => hk.2) (.int .i64 ((rd_T48 l0 x11_1).f0.f0))) (fun _ hk => hk.2) (.string ((rd_T48 l0 x11_1).f0.f1))) (fun _ hk => hk.2) (.int .i64 ((rd_T48 l0 x11_1).f0.f2.f0))) (fun _ hk => hk.2) (.bool ((rd_T48 l0 x11_1).f0.f2.f1))) (fun _ hk => hk.2) (.bool false)) (fun _ hk => trivial)))⟩; have n1_ : Aside0 (w27.heap[gb280]? = some (.cells #[.int .i64 ((rd_T48 l0 x11_1).f0.f0), .string ((rd_T48 l0 x11_1).f0.f1), .int .i64 ((rd_T48 l0 x11_1).f0.f2.f0), .bool ((rd_T48 l0 x11_1).f0.f2.f1), .bool false] 48 (0, 0))) := ⟨(by rw [hw]; exact (by (with_reducible repeat (first | refine blk_drewN ?_ _ | refine blk_drew ?_ | refine blk_alloc ?_ _)); refine blk_put (cs := #[.int .i64 ((rd_T48 l0 x11_1).f0.f0), .string ((rd_T48 l0 x11_1).f0.f1), .int .i64 ((rd_T48 l0 x11_1).f0.f2.f0), .bool ((rd_T48 l0 x11_1).f0.f2.f1), .bool false]) ?_ 4 _ rfl; (with_reducible repeat (first | refine blk_drewN ?_ _ | refine blk_drew ?_ | refine blk_alloc ?_ _)); refine blk_put (cs := #[.int .i64 ((rd_T48 l0 x11_1).f0.f0), .string ((rd_T48 l0 x11_1).f0.f1), .int .i64 ((rd_T48 l0 x11_1).f0.f2.f0), .bool false, .bool false]) ?_ 3 _ rfl; (with_reducible repeat (first | refine blk_drewN ?_ _ | refine blk_drew ?_ | refine blk_alloc ?_ _)); refine blk_put (cs := #[.int .i64 ((rd_T48 l0 x11_1).f0.f0), .string ((rd_T48 l0 x11_1).f0.f1), .int .i64 0, .bool false, .bool false]) ?_ 2 _ rfl; (with_reducible repeat (first | refine blk_drewN ?_ _ | refine blk_drew ?_ | refine blk_alloc ?_ _)); refine blk_put (cs := #[.int .i64 ((rd_T48 l0 x11_1).f0.f0), .string (⟨#[]⟩ : ByteArray), .int .i64 0, .bool false, .bool false]) ?_ 1 _ rfl; (with_reducible repeat (first | refine blk_drewN ?_ _ | refine blk_drew ?_ | refine blk_alloc ?_ _)); refine blk_put (cs := #[.int .i64 0, .string (⟨#[]⟩ : ByteArray), .int .i64 0, .bool false, .bool false]) ?_ 0 _ rfl; exact uB <| BK280.out))⟩; have n2_ : Aside0 (Below w.heap.size w w27) := ⟨(by rw [hw]; exact bl)⟩; clear hw; clear HO_3; clear BK280; clear HB; have HO_3 := n0_; have BK280 := n1_; have HB := n2_; clear n0_ n1_ n2_; obtain ⟨hcz28_0, hcz28_1, hcz28_2, hcz28_3, hcz28_4, hfz28_0, hfz28_1, hfz28_2, hfz28_3, hfz28_4⟩ := z5 BK280) | ((with_reducible refine gate_dst (N := 33) rfl ?_); refine Kd.R_lit k45 _ 45 ?hg (N := 33) ?hd (xs := ([(⟨(rd_T48 l0 x11_1).f0.f0, (rd_T48 l0 x11_1).f0.f1, (⟨(rd_T48 l0 x11_1).f0.f2.f0, (rd_T48 l0 x11_1).f0.f2.f1⟩ : S43)⟩ : S45)] : List (S45))) (inner := [.int .i64 ((rd_T48 l0 x11_1).f0.f0), .string ((rd_T48 l0 x11_1).f0.f1), .int .i64 ((rd_T48 l0 x11_1).f0.f2.f0), .bool ((rd_T48 l0 x11_1).f0.f2.f1)]) (ok := fun _ => True) (okp := fun _ => True) ?hr ?hp (fun _ hk => hk) trivial (Below.refl _ _) (Nat.le_refl _) (by simp) ?_; (case hd => rfl); (case hg => rfl); (case hr => first | (go_simp; done) | (go_simp; rfl)); (case hp => exact (Reps.c4 (show Kd.M k45 _ _ _ (⟨(rd_T48 l0 x11_1).f0.f0, (rd_T48 l0 x11_1).f0.f1, (⟨(rd_T48 l0 x11_1).f0.f2.f0, (rd_T48 l0 x11_1).f0.f2.f1⟩ : S43)⟩ : S45) [.int .i64 ((rd_T48 l0 x11_1).f0.f0), .string ((rd_T48 l0 x11_1).f0.f1), .int .i64 ((rd_T48 l0 x11_1).f0.f2.f0), .bool ((rd_T48 l0 x11_1).f0.f2.f1)] from (k45_mkM _ _ _ (⟨(rd_T48 l0 x11_1).f0.f0, (rd_T48 l0 x11_1).f0.f1, (⟨(rd_T48 l0 x11_1).f0.f2.f0, (rd_T48 l0 x11_1).f0.f2.f1⟩ : S43)⟩ : S45) )) (Reps.none _ _))); intro v290 w29 ho30 hb hg_ hnew_; clear hg_ hnew_; (first | rw [← Ny289.out] at ho30 | (simp only [Int.reduceToNat] at ho30; rw [← Ny289.out] at ho30)); replace HO_3 := cR HO_3 hb; have HO291 := Aside0.mk (Kd.R_lower ho30 (below_size bl)); replace BK280 := cB BK280 hb; replace HB := Aside0.mk (below_step bl hb); clear hb ho30; obtain ⟨Ao31, co31, eo31⟩ := Kd.R_slice HO291.out; subst eo31) | (refine gL (some 34) rfl Tryz.func32 #[.slice Ao31 y289.length co31] ?_; (with_reducible refine (row_Text.calls (hL := (by first | exact HL0.out | exact LD.below HL0.out bl)) k1 _ _ y289 t292 _ ?side1 ?side2 A23.out).mono ?_); (case side1 => exact uC <| (Kd.R_reads' HO291.out).2.2); (case side2 => exact (Kd.R_reads' HO291.out).2.1); rintro e w32 ⟨rfl, hb⟩; refine ⟨_, rfl, ?_⟩; replace HO_3 := cR HO_3 hb; replace HO291 := cR HO291 hb; replace BK280 := cB BK280 hb; replace HB := Aside0.mk (below_step bl hb); (try clear hb)) | ((with_reducible refine gate_builtin (b := .append) (xs := #[.tmp 30, .tmp 35]) rfl ?_); at_builtin; refine Kd.R_append Kd.string (w0 := w) w.heap.size rfl (.tmp 30) (.tmp 35) 52 9 (.string ⟨#[]⟩) 16 rfl Tryz.underlying52 info9 rfl (by decide) (by omega) u3 x3_1 t292 [.string t292] (fun _ => True) (fun _ => False) rfl rfl ?aP (fun _ hk => hk.elim) ?aF ?aO ?aB ?aS ?aL ?_; (case aP => exact rfl); (case aB => exact bl); (case aF => exact (fun _ _ => trivial)); (case aO => exact (uR HO_3.out)); (case aS => exact (below_size bl)); (case aL => have := LMc24.out; omega); intro v294 w33 ho hb hg hat; rw [← Ny293.out] at ho; replace BK280 := Aside0.mk (blk_grown (g := gb280) (o := .cells #[.int .i64 ((rd_T48 l0 x11_1).f0.f0), .string ((rd_T48 l0 x11_1).f0.f1), .int .i64 ((rd_T48 l0 x11_1).f0.f2.f0), .bool ((rd_T48 l0 x11_1).f0.f2.f1), .bool false] 48 (0, 0)) (uB BK280.out) hg (Kd.R_ne HO_3.out BK280.out (by decide))); replace HO291 := Aside0.mk (Kd.R_over' (uR HO291.out) (Kd.R_typed (uR HO_3.out)) (by decide) hg); replace HB := Aside0.mk (hb); have HO295 := Aside0.mk (ho); clear HO_3; clear ho hb hg hat))
      go_roundg k1
      case measure => have := HK1.out; omega
      case rel => exact ⟨(y293), (wrap64 (x11_1 + 1)), rs_, (by first | exact H' | (rw [← Nbq6.out]; exact H')), ⟨by have := HK1.out; omega⟩, ⟨uR HO295.out⟩, ⟨bl⟩⟩
    ·
     rw [if_neg c3] at H
     have c3b0 : decide (x11_1 < (l0.length : Int)) = false := decide_eq_false c3
     clear c3
     obtain ⟨t278, A34, H⟩ := bs H
     try dsimp only at H
     obtain rfl := Option.some.inj H
     obtain ⟨Ao35, co35, eo35⟩ := Kd.R_slice HO_3.out
     subst eo35
     go_wp2_with (first | (refine gL (some 39) rfl Tryz.func30 #[.string (⟨#[59]⟩ : ByteArray), .slice Ao35 x3_1.length co35] ?_; (with_reducible refine (word_Join.calls (⟨#[59]⟩ : ByteArray) _ _ x3_1 t278 _ ?side1 ?side2 A34.out).mono ?_); (case side1 => exact uC <| (Kd.R_reads' HO_3.out).2.2); (case side2 => exact (Kd.R_reads' HO_3.out).2.1); rintro e w36 ⟨rfl, hb⟩; refine ⟨_, rfl, ?_⟩; replace HO_3 := cR HO_3 hb; replace HB := cW HB hb; (try clear hb)))
     go_ret
     exact ⟨re_, uW HB.out⟩
def diff_right.l0 : Nat → List (S45) → List (S48) → Int → Int → Option (Bool)
 | 0, _, _, _, _ => none
 | k + 1, x3, x6, x7, x8 => if x8 < x7 then (if 0 ≤ x8 then (if x8 < (x6.length : Int) then (if (rd_T48 x6 x8).f1 = true then ((diff_gone.f ((rd_T48 x6 x8).f0.f0) ((rd_T48 x6 x8).f0.f1) ((rd_T48 x6 x8).f0.f2.f0) ((rd_T48 x6 x8).f0.f2.f1)).bind fun bt298 => (if ((!(((rd_T48 x6 x8).f0.f0) == bt298.1) || (!((((rd_T48 x6 x8).f0.f1).toList) == bt298.2.1.toList) || ((!(((rd_T48 x6 x8).f0.f2.f0) == bt298.2.2.1) || (!(((rd_T48 x6 x8).f0.f2.f1) == bt298.2.2.2.1)))))) || (!(((rd_T48 x6 x8).f1) == bt298.2.2.2.2))) = true then (none) else (if x3.length < 3518437208883 then (diff_right.l0 k (x3 ++ [(⟨(rd_T48 x6 x8).f0.f0, (rd_T48 x6 x8).f0.f1, (⟨(rd_T48 x6 x8).f0.f2.f0, (rd_T48 x6 x8).f0.f2.f1⟩ : S43)⟩ : S45)]) x6 x7 (wrap64 (x8 + 1))) else (none)))) else (if x3.length < 3518437208883 then (diff_right.l0 k (x3 ++ [(⟨(rd_T48 x6 x8).f0.f0, (rd_T48 x6 x8).f0.f1, (⟨(rd_T48 x6 x8).f0.f2.f0, (rd_T48 x6 x8).f0.f2.f1⟩ : S43)⟩ : S45)]) x6 x7 (wrap64 (x8 + 1))) else (none))) else (none)) else (none)) else ((row_Right.f k x3).bind fun t309 => (some t309))
def diff_right.f (k : Nat) (l0 : List (S48)) : Option (Bool) := diff_right.l0 k ([] : List (S45)) l0 (l0.length : Int) 0
theorem diff_right.mono_l : ∀ k, (∀ y0 y1 y2 y3, LeC (diff_right.l0 k y0 y1 y2 y3) (diff_right.l0 (k + 1) y0 y1 y2 y3))
 | 0 => fun _ _ _ _ => ⟨fun r h => by simp [diff_right.l0] at h⟩
 | k + 1 => by have ih0 := diff_right.mono_l k; exact fun _ _ _ _ => by unfold diff_right.l0; exact lm
theorem diff_right.mono : ∀ a0 k, LeO (diff_right.f k a0) (diff_right.f (k + 1) a0) := by
 intro a0 k
 have ih0 := diff_right.mono_l k
 unfold diff_right.f
 exact lo
instance diff_right.mI {a0 k} : LeC (diff_right.f k a0) (diff_right.f (k + 1) a0) := ⟨diff_right.mono _ _⟩
def diff_right.T5 : Bool × List (List Nat × List Nat) := (true, [([], []), ([0], [0]), ([1], [1]), ([2], [2]), ([2], [2]), ([4, 2], [2, 4]), ([5, 2, 2], [2, 5]), ([3, 6, 2], [2, 3, 6]), ([2, 7], [2, 7])])
def diff_right.B5 : List Nat := [0, 1, 3, 7, 7, 23, 55, 127, 255]
theorem diff_right.tab5 : rtab .any (opsOf Tryz.f36 5) = diff_right.T5 := by kernel_rfl
theorem diff_right.bits5 : waitsOk diff_right.T5.2 diff_right.B5 = true := by kernel_rfl
theorem diff_right.calls (k : Nat) (A0 : Option Addr) (c0 : Nat) (l0 : List (S48)) (r : Bool) (w : World) (hr0 : Kd.C k48 w A0 l0.length l0) (hc0 : l0.length ≤ c0) (hL : LD w) (h : diff_right.f k l0 = some r) :
 Calls Tryz.prog 36 #[.slice A0 l0.length c0] w fun e w' => e = .returned (.bool r) ∧ Below w.heap.size w w' := by
 have HL0 := Aside0.mk hL
 clear hL
 have hu48 := Tryz.underlying48
 have hu45 := Tryz.underlying45
 have HR0 := Aside0.mk hr0
 have HC0 := Aside0.mk hc0
 clear hr0 hc0
 have HB := Aside0.mk (Below.refl w.heap.size w)
 have H : (diff_right.l0 k ([] : List (S45)) l0 (l0.length : Int) 0) = some r := h
 clear h
 have H' := Aside0.mk H
 clear H
 go_enter Tryz.func36, Tryz.ntmps36
 go_wp2
 go_loopg [3, 8] k (fun kq v3 v8 w' => ∃ (x3_1 : List (S45)) (x8_1 : Int), v8 = .int .i64 x8_1 ∧ Aside0 (diff_right.l0 kq x3_1 l0 (l0.length : Int) x8_1 = some r) ∧ Aside0 (kq ≤ k) ∧ Aside0 (Kd.R k45 45 w' w.heap.size (fun _ => True) v3 x3_1) ∧ Aside0 (Below w.heap.size w w'))
 case atStart => exact ⟨(([] : List (S45))), (0), rs_, H', ⟨Nat.le_refl _⟩, ⟨nl_⟩, ⟨uW HB.out⟩⟩
 case round =>
  clear H'
  obtain ⟨x3_1, x8_1, rfl, HA, HK1, HO_3, HB⟩ := hrel
  cases gk with
  | zero => exact absurd HA.out (by simp [diff_right.l0])
  | succ k1 =>
   have H := HA.out
   clear HA
   simp only [diff_right.l0] at H
   by_cases c2 : x8_1 < (l0.length : Int)
   ·
    rw [if_pos c2] at H
    have c2b0 : decide (x8_1 < (l0.length : Int)) = true := decide_eq_true c2
    clear c2
    obtain ⟨c3b0, H⟩ := gdd H
    obtain ⟨c4b0, H⟩ := gdd H
    obtain ⟨bq5, hbq5⟩ : ∃ b_ : Bool, b_ = ((rd_T48 l0 x8_1).f1) := ⟨_, rfl⟩
    replace H : (if bq5 = true then ((diff_gone.f ((rd_T48 l0 x8_1).f0.f0) ((rd_T48 l0 x8_1).f0.f1) ((rd_T48 l0 x8_1).f0.f2.f0) ((rd_T48 l0 x8_1).f0.f2.f1)).bind fun bt298 => (if ((!(((rd_T48 l0 x8_1).f0.f0) == bt298.1) || (!((((rd_T48 l0 x8_1).f0.f1).toList) == bt298.2.1.toList) || ((!(((rd_T48 l0 x8_1).f0.f2.f0) == bt298.2.2.1) || (!(((rd_T48 l0 x8_1).f0.f2.f1) == bt298.2.2.2.1)))))) || (!((bq5) == bt298.2.2.2.2))) = true then (none) else (if x3_1.length < 3518437208883 then (diff_right.l0 k1 (x3_1 ++ [(⟨(rd_T48 l0 x8_1).f0.f0, (rd_T48 l0 x8_1).f0.f1, (⟨(rd_T48 l0 x8_1).f0.f2.f0, (rd_T48 l0 x8_1).f0.f2.f1⟩ : S43)⟩ : S45)]) l0 (l0.length : Int) (wrap64 (x8_1 + 1))) else (none)))) else (if x3_1.length < 3518437208883 then (diff_right.l0 k1 (x3_1 ++ [(⟨(rd_T48 l0 x8_1).f0.f0, (rd_T48 l0 x8_1).f0.f1, (⟨(rd_T48 l0 x8_1).f0.f2.f0, (rd_T48 l0 x8_1).f0.f2.f1⟩ : S43)⟩ : S45)]) l0 (l0.length : Int) (wrap64 (x8_1 + 1))) else (none))) = some r := by rw [← hbq5] at H; exact H
    have Nbq5 := Aside0.mk hbq5
    clear hbq5
    by_cases c6 : bq5 = true
    ·
     subst c6
     rw [if_pos rfl] at H
     obtain ⟨⟨t298, t299, t300, t301, t302⟩, A7, H⟩ := bs H
     try dsimp only at H
     obtain ⟨c8, H⟩ := gn H
     have c8b0 : ((!(((rd_T48 l0 x8_1).f0.f0) == t298) || (!((((rd_T48 l0 x8_1).f0.f1).toList) == t299.toList) || ((!(((rd_T48 l0 x8_1).f0.f2.f0) == t300) || (!(((rd_T48 l0 x8_1).f0.f2.f1) == t301)))))) || (!((true) == t302))) = false := by simpa using c8
     (try simp only [Bool.true_beq, Bool.false_beq, beq_true, beq_false] at c8b0)
     clear c8
     obtain ⟨c9, H⟩ := gd H
     have LMc9 := Aside0.mk c9
     clear c9
     obtain ⟨y303, hy303⟩ : ∃ y_ : List (S45), y_ = (x3_1 ++ [(⟨(rd_T48 l0 x8_1).f0.f0, (rd_T48 l0 x8_1).f0.f1, (⟨(rd_T48 l0 x8_1).f0.f2.f0, (rd_T48 l0 x8_1).f0.f2.f1⟩ : S43)⟩ : S45)]) := ⟨_, rfl⟩
     replace H : (diff_right.l0 k1 y303 l0 (l0.length : Int) (wrap64 (x8_1 + 1))) = some r := by first | (rw [hy303]; with_reducible exact H) | (have H2_ := (Option.bind_some _ _).symm.trans H; rw [hy303]; with_reducible exact H2_) | (have H2_ := (Option.bind_some _ _).symm.trans H; with_reducible exact H2_) | with_reducible exact H | (rw [hy303]; exact H) | exact H
     have Ny303 := Aside0.mk hy303
     clear hy303
     have H' := Aside0.mk H
     clear H
     have p296 : 0 ≤ (x8_1 : Int) := od
     have q296 : x8_1 < (l0.length : Int) := od
     obtain ⟨ad296, e296, hx296_0, hx296_1, hx296_2, hx296_3, hx296_4⟩ := at_T48 HR0.out x8_1 p296 q296
     (try rw [← Nbq5.out] at hx296_3)
     (try rw [← Nbq5.out] at hx296_4)
     cases e296
     replace hx296_0 := kc HB hx296_0
     replace hx296_1 := kc HB hx296_1
     replace hx296_2 := kc HB hx296_2
     replace hx296_3 := kc HB hx296_3
     replace hx296_4 := kc HB hx296_4
     replace p296 := eq_true p296
     replace q296 := eq_true q296
     try go_wp2_with (first | ((with_reducible refine gate_dst (N := 5) rfl ?_); refine bx (N := 5) #[.int .i64 0, .string (⟨#[]⟩ : ByteArray), .int .i64 0, .bool false, .bool false] 48 ?_; intro gb297 hg w10 hbox hb; replace HO_3 := cR HO_3 hb; have BK297 := Aside0.mk (hbox); have GW297 := gw hg (uW HB.out); have GE297 := GW297; replace HB := cW HB hb; clear hb hbox hg; obtain ⟨hcz11_0, hcz11_1, hcz11_2, hcz11_3, hcz11_4, hfz11_0, hfz11_1, hfz11_2, hfz11_3, hfz11_4⟩ := z5 BK297) | ((with_reducible refine gate_store (t := 48) (p := 5) rfl ?_); refine store_event (t := 48) (p := 5) (v := ?vo_w12) (w1 := (((((w10.setCell ⟨gb297, 0, none⟩ (.int .i64 ((rd_T48 l0 x8_1).f0.f0))).setCell ⟨gb297, 1, none⟩ (.string ((rd_T48 l0 x8_1).f0.f1))).setCell ⟨gb297, 2, none⟩ (.int .i64 ((rd_T48 l0 x8_1).f0.f2.f0))).setCell ⟨gb297, 3, none⟩ (.bool ((rd_T48 l0 x8_1).f0.f2.f1))).setCell ⟨gb297, 4, none⟩ (.bool true))) ?hg ?ho ?hn ?hr ?_; (case ho => rfl); (case hg => rfl); (case hn => rfl); (case hr => first | (go_simp; done) | (go_simp; rfl)); intro w12 hw; have n0_ : Aside0 (Kd.R k45 45 w12 w.heap.size (fun _ => True) u3 x3_1) := ⟨(by rw [hw]; exact (by exact uR <| Kd.R_mono (Kd.R_far (p := ⟨gb297, 4, none⟩) (Kd.R_far (p := ⟨gb297, 3, none⟩) (Kd.R_far (p := ⟨gb297, 2, none⟩) (Kd.R_far (p := ⟨gb297, 1, none⟩) (Kd.R_far (p := ⟨gb297, 0, none⟩) (Kd.R_types HO_3.out BK297.out (by decide)) (fun _ hk => hk.2) (.int .i64 ((rd_T48 l0 x8_1).f0.f0))) (fun _ hk => hk.2) (.string ((rd_T48 l0 x8_1).f0.f1))) (fun _ hk => hk.2) (.int .i64 ((rd_T48 l0 x8_1).f0.f2.f0))) (fun _ hk => hk.2) (.bool ((rd_T48 l0 x8_1).f0.f2.f1))) (fun _ hk => hk.2) (.bool true)) (fun _ hk => trivial)))⟩; have n1_ : Aside0 (w12.heap[gb297]? = some (.cells #[.int .i64 ((rd_T48 l0 x8_1).f0.f0), .string ((rd_T48 l0 x8_1).f0.f1), .int .i64 ((rd_T48 l0 x8_1).f0.f2.f0), .bool ((rd_T48 l0 x8_1).f0.f2.f1), .bool true] 48 (0, 0))) := ⟨(by rw [hw]; exact (by (with_reducible repeat (first | refine blk_drewN ?_ _ | refine blk_drew ?_ | refine blk_alloc ?_ _)); refine blk_put (cs := #[.int .i64 ((rd_T48 l0 x8_1).f0.f0), .string ((rd_T48 l0 x8_1).f0.f1), .int .i64 ((rd_T48 l0 x8_1).f0.f2.f0), .bool ((rd_T48 l0 x8_1).f0.f2.f1), .bool false]) ?_ 4 _ rfl; (with_reducible repeat (first | refine blk_drewN ?_ _ | refine blk_drew ?_ | refine blk_alloc ?_ _)); refine blk_put (cs := #[.int .i64 ((rd_T48 l0 x8_1).f0.f0), .string ((rd_T48 l0 x8_1).f0.f1), .int .i64 ((rd_T48 l0 x8_1).f0.f2.f0), .bool false, .bool false]) ?_ 3 _ rfl; (with_reducible repeat (first | refine blk_drewN ?_ _ | refine blk_drew ?_ | refine blk_alloc ?_ _)); refine blk_put (cs := #[.int .i64 ((rd_T48 l0 x8_1).f0.f0), .string ((rd_T48 l0 x8_1).f0.f1), .int .i64 0, .bool false, .bool false]) ?_ 2 _ rfl; (with_reducible repeat (first | refine blk_drewN ?_ _ | refine blk_drew ?_ | refine blk_alloc ?_ _)); refine blk_put (cs := #[.int .i64 ((rd_T48 l0 x8_1).f0.f0), .string (⟨#[]⟩ : ByteArray), .int .i64 0, .bool false, .bool false]) ?_ 1 _ rfl; (with_reducible repeat (first | refine blk_drewN ?_ _ | refine blk_drew ?_ | refine blk_alloc ?_ _)); refine blk_put (cs := #[.int .i64 0, .string (⟨#[]⟩ : ByteArray), .int .i64 0, .bool false, .bool false]) ?_ 0 _ rfl; exact uB <| BK297.out))⟩; have n2_ : Aside0 (Below w.heap.size w w12) := ⟨(by rw [hw]; exact bl)⟩; clear hw; clear HO_3; clear BK297; clear HB; have HO_3 := n0_; have BK297 := n1_; have HB := n2_; clear n0_ n1_ n2_))
     have n0_ := Aside0.mk (Kd.R_drew HO_3.out)
     have n1_ := Aside0.mk (blk_drew BK297.out)
     have n2_ := Aside0.mk (below_drew1 HB.out)
     clear HO_3
     clear BK297
     clear HB
     have HO_3 := n0_
     have BK297 := n1_
     have HB := n2_
     clear n0_ n1_ n2_
     refine start_ (n := 9) (S := fun w' => w'.cell? ⟨gb297, 0, none⟩ = some (.int .i64 ((rd_T48 l0 x8_1).f0.f0)) ∧ w'.cell? ⟨gb297, 1, none⟩ = some (.string ((rd_T48 l0 x8_1).f0.f1)) ∧ w'.cell? ⟨gb297, 2, none⟩ = some (.int .i64 ((rd_T48 l0 x8_1).f0.f2.f0)) ∧ w'.cell? ⟨gb297, 3, none⟩ = some (.bool ((rd_T48 l0 x8_1).f0.f2.f1)) ∧ w'.cell? ⟨gb297, 4, none⟩ = some (.bool true)) (ds := []) #[false, false, false, false, false, false, false, false, false] (by kernel_rfl) rfl rfl ⟨(blk_cell BK297.out 0).trans rfl, (blk_cell BK297.out 1).trans rfl, (blk_cell BK297.out 2).trans rfl, (blk_cell BK297.out 3).trans rfl, (blk_cell BK297.out 4).trans rfl⟩ (fun hHeld => ?_); refine with_tabW diff_right.tab5 diff_right.bits5 (fun HT_ HW_ => ?_)
     generalize w12.drew = w13 at HO_3 BK297 HB hHeld ⊢
     refine p1 0 (some 12) ?_
     refine t1 1 (some 13) rfl rfl hHeld (Or.inl ⟨by rfl, by rintro w' ⟨s0, s1, s2, s3, s4⟩; go_simp; with_reducible rfl⟩) ?_
     refine p1 2 (some 14) ?_
     refine p1 4 (some 16) ?_
     refine t1 3 (some 15) rfl rfl hHeld (Or.inl ⟨by rfl, by rintro w' ⟨s0, s1, s2, s3, s4⟩; go_simp; with_reducible rfl⟩) ?_
     refine t1 5 (some 17) rfl rfl hHeld (Or.inl ⟨by rfl, by rintro w' ⟨s0, s1, s2, s3, s4⟩; go_simp; with_reducible rfl⟩) ?_
     refine one_ (i := 6) (N := some 18) #[true, true, true, true, true, true, true, false, false] rfl rfl (one_of HT_.out (by kernel_rfl)) (by decide) (fun K hK => ?_)
     refine goes_ Tryz.func26 (by kernel_rfl) rfl #[.agg #[.int .i64 ((rd_T48 l0 x8_1).f0.f0), .string ((rd_T48 l0 x8_1).f0.f1), .int .i64 ((rd_T48 l0 x8_1).f0.f2.f0), .bool ((rd_T48 l0 x8_1).f0.f2.f1)]] (by rfl) rfl rfl (by (try simp only [List.map_toArray, List.map_cons, List.map_nil]); first | done | rfl | (simp only [List.length_drop, List.length_take]; rfl)) ?_
     with_reducible refine (diff_gone.calls ((rd_T48 l0 x8_1).f0.f0) ((rd_T48 l0 x8_1).f0.f1) ((rd_T48 l0 x8_1).f0.f2.f0) ((rd_T48 l0 x8_1).f0.f2.f1) t298 t299 t300 t301 t302 _ A7.out).mono ?_
     rintro e w14 ⟨rfl, hb⟩
     refine ⟨_, rfl, ?_⟩
     have n0_ := cR HO_3 hb
     have n1_ := cB BK297 hb
     have n2_ := Aside0.mk (below_step bl hb)
     clear HO_3
     clear BK297
     clear HB
     have HO_3 := n0_
     have BK297 := n1_
     have HB := n2_
     clear n0_ n1_ n2_
     (try clear hb)
     (try clear hb2)
     (try clear hk)
     (try clear hi)
     refine hK.out _ _ ⟨(blk_cell BK297.out 0).trans rfl, (blk_cell BK297.out 1).trans rfl, (blk_cell BK297.out 2).trans rfl, (blk_cell BK297.out 3).trans rfl, (blk_cell BK297.out 4).trans rfl⟩ (fun hHeld => ?_)
     clear hK K
     refine norm_ (a' := ?_) ?_ ?_
     rotate_left
     ·
      show Act.put _ (some 18) _ = _
      simp only [Act.put, List.setIfInBounds_toArray, List.set_cons_zero, List.set_cons_succ, i64_w, i32_w]
      rfl
     refine p1 7 (some 19) ?_
     refine p1 8 (some 20) ?_
     refine done_ (done_of HT_.out (by kernel_rfl)) ?_
     have hcz15_0 : w14.cell? ⟨gb297, 0, none⟩ = some (.int .i64 ((rd_T48 l0 x8_1).f0.f0)) := (blk_cell BK297.out 0).trans rfl
     have hcz15_1 : w14.cell? ⟨gb297, 1, none⟩ = some (.string ((rd_T48 l0 x8_1).f0.f1)) := (blk_cell BK297.out 1).trans rfl
     have hcz15_2 : w14.cell? ⟨gb297, 2, none⟩ = some (.int .i64 ((rd_T48 l0 x8_1).f0.f2.f0)) := (blk_cell BK297.out 2).trans rfl
     have hcz15_3 : w14.cell? ⟨gb297, 3, none⟩ = some (.bool ((rd_T48 l0 x8_1).f0.f2.f1)) := (blk_cell BK297.out 3).trans rfl
     have hcz15_4 : w14.cell? ⟨gb297, 4, none⟩ = some (.bool true) := (blk_cell BK297.out 4).trans (by first | rfl | (rw [← Nbq5.out]; rfl))
     have hfz15_0 := blk_frozen BK297.out 0
     have hfz15_1 := blk_frozen BK297.out 1
     have hfz15_2 := blk_frozen BK297.out 2
     have hfz15_3 := blk_frozen BK297.out 3
     have hfz15_4 := blk_frozen BK297.out 4
     try go_wp2_with (first | ((with_reducible refine gate_builtin (b := .append) (xs := #[.tmp 21, .tmp 24]) rfl ?_); at_builtin; refine Kd.R_append k45 (w0 := w) w.heap.size rfl (.tmp 21) (.tmp 24) 22 45 (.agg #[(.int .i64 0), (.string ⟨#[]⟩), (.int .i64 0), (.bool false)]) 40 rfl Tryz.underlying22 info45 rfl (by decide) (by omega) u3 x3_1 (⟨(rd_T48 l0 x8_1).f0.f0, (rd_T48 l0 x8_1).f0.f1, (⟨(rd_T48 l0 x8_1).f0.f2.f0, (rd_T48 l0 x8_1).f0.f2.f1⟩ : S43)⟩ : S45) [.int .i64 ((rd_T48 l0 x8_1).f0.f0), .string ((rd_T48 l0 x8_1).f0.f1), .int .i64 ((rd_T48 l0 x8_1).f0.f2.f0), .bool ((rd_T48 l0 x8_1).f0.f2.f1)] (fun _ => True) (fun _ => False) rfl rfl ?aP (fun _ hk => hk.elim) ?aF ?aO ?aB ?aS ?aL ?_; (case aP => exact k45_mkM _ _ _ (⟨(rd_T48 l0 x8_1).f0.f0, (rd_T48 l0 x8_1).f0.f1, (⟨(rd_T48 l0 x8_1).f0.f2.f0, (rd_T48 l0 x8_1).f0.f2.f1⟩ : S43)⟩ : S45)); (case aB => exact bl); (case aF => exact (fun _ _ => trivial)); (case aO => exact (uR HO_3.out)); (case aS => exact (below_size bl)); (case aL => have := LMc9.out; omega); intro v304 w16 ho hb hg hat; rw [← Ny303.out] at ho; replace BK297 := Aside0.mk (blk_grown (g := gb297) (o := .cells #[.int .i64 ((rd_T48 l0 x8_1).f0.f0), .string ((rd_T48 l0 x8_1).f0.f1), .int .i64 ((rd_T48 l0 x8_1).f0.f2.f0), .bool ((rd_T48 l0 x8_1).f0.f2.f1), .bool true] 48 (0, 0)) (uB BK297.out) hg (Kd.R_ne HO_3.out BK297.out (by decide))); replace HB := Aside0.mk (hb); have HO305 := Aside0.mk (ho); clear HO_3; clear ho hb hg hat))
     go_roundg k1
     case measure => have := HK1.out; omega
     case rel => exact ⟨(y303), (wrap64 (x8_1 + 1)), rs_, (by first | exact H' | (rw [← Nbq5.out]; exact H')), ⟨by have := HK1.out; omega⟩, ⟨uR HO305.out⟩, ⟨bl⟩⟩
    ·
     replace c6 := Bool.eq_false_iff.mpr c6
     subst c6
     rw [if_neg (show ¬ (false = true) by decide)] at H
     obtain ⟨c17, H⟩ := gd H
     have LMc17 := Aside0.mk c17
     clear c17
     obtain ⟨y306, hy306⟩ : ∃ y_ : List (S45), y_ = (x3_1 ++ [(⟨(rd_T48 l0 x8_1).f0.f0, (rd_T48 l0 x8_1).f0.f1, (⟨(rd_T48 l0 x8_1).f0.f2.f0, (rd_T48 l0 x8_1).f0.f2.f1⟩ : S43)⟩ : S45)]) := ⟨_, rfl⟩
     replace H : (diff_right.l0 k1 y306 l0 (l0.length : Int) (wrap64 (x8_1 + 1))) = some r := by first | (rw [hy306]; with_reducible exact H) | (have H2_ := (Option.bind_some _ _).symm.trans H; rw [hy306]; with_reducible exact H2_) | (have H2_ := (Option.bind_some _ _).symm.trans H; with_reducible exact H2_) | with_reducible exact H | (rw [hy306]; exact H) | exact H
     have Ny306 := Aside0.mk hy306
     clear hy306
     have H' := Aside0.mk H
     clear H
     have p296 : 0 ≤ (x8_1 : Int) := od
     have q296 : x8_1 < (l0.length : Int) := od
     obtain ⟨ad296, e296, hx296_0, hx296_1, hx296_2, hx296_3, hx296_4⟩ := at_T48 HR0.out x8_1 p296 q296
     (try rw [← Nbq5.out] at hx296_3)
     (try rw [← Nbq5.out] at hx296_4)
     cases e296
     replace hx296_0 := kc HB hx296_0
     replace hx296_1 := kc HB hx296_1
     replace hx296_2 := kc HB hx296_2
     replace hx296_3 := kc HB hx296_3
     replace hx296_4 := kc HB hx296_4
     replace p296 := eq_true p296
     replace q296 := eq_true q296
     try go_wp2_with (first | ((with_reducible refine gate_dst (N := 5) rfl ?_); refine bx (N := 5) #[.int .i64 0, .string (⟨#[]⟩ : ByteArray), .int .i64 0, .bool false, .bool false] 48 ?_; intro gb297 hg w18 hbox hb; replace HO_3 := cR HO_3 hb; have BK297 := Aside0.mk (hbox); have GW297 := gw hg (uW HB.out); have GE297 := GW297; replace HB := cW HB hb; clear hb hbox hg; obtain ⟨hcz19_0, hcz19_1, hcz19_2, hcz19_3, hcz19_4, hfz19_0, hfz19_1, hfz19_2, hfz19_3, hfz19_4⟩ := z5 BK297) | ((with_reducible refine gate_store (t := 48) (p := 5) rfl ?_); refine store_event (t := 48) (p := 5) (v := ?vo_w20) (w1 := (((((w18.setCell ⟨gb297, 0, none⟩ (.int .i64 ((rd_T48 l0 x8_1).f0.f0))).setCell ⟨gb297, 1, none⟩ (.string ((rd_T48 l0 x8_1).f0.f1))).setCell ⟨gb297, 2, none⟩ (.int .i64 ((rd_T48 l0 x8_1).f0.f2.f0))).setCell ⟨gb297, 3, none⟩ (.bool ((rd_T48 l0 x8_1).f0.f2.f1))).setCell ⟨gb297, 4, none⟩ (.bool false))) ?hg ?ho ?hn ?hr ?_; (case ho => rfl); (case hg => rfl); (case hn => rfl); (case hr => first | (go_simp; done) | (go_simp; rfl)); intro w20 hw; have n0_ : Aside0 (Kd.R k45 45 w20 w.heap.size (fun _ => True) u3 x3_1) := ⟨(by rw [hw]; exact (by exact uR <| Kd.R_mono (Kd.R_far (p := ⟨gb297, 4, none⟩) (Kd.R_far (p := ⟨gb297, 3, none⟩) (Kd.R_far (p := ⟨gb297, 2, none⟩) (Kd.R_far (p := ⟨gb297, 1, none⟩) (Kd.R_far (p := ⟨gb297, 0, none⟩) (Kd.R_types HO_3.out BK297.out (by decide)) (fun _ hk => hk.2) (.int .i64 ((rd_T48 l0 x8_1).f0.f0))) (fun _ hk => hk.2) (.string ((rd_T48 l0 x8_1).f0.f1))) (fun _ hk => hk.2) (.int .i64 ((rd_T48 l0 x8_1).f0.f2.f0))) (fun _ hk => hk.2) (.bool ((rd_T48 l0 x8_1).f0.f2.f1))) (fun _ hk => hk.2) (.bool false)) (fun _ hk => trivial)))⟩; have n1_ : Aside0 (w20.heap[gb297]? = some (.cells #[.int .i64 ((rd_T48 l0 x8_1).f0.f0), .string ((rd_T48 l0 x8_1).f0.f1), .int .i64 ((rd_T48 l0 x8_1).f0.f2.f0), .bool ((rd_T48 l0 x8_1).f0.f2.f1), .bool false] 48 (0, 0))) := ⟨(by rw [hw]; exact (by (with_reducible repeat (first | refine blk_drewN ?_ _ | refine blk_drew ?_ | refine blk_alloc ?_ _)); refine blk_put (cs := #[.int .i64 ((rd_T48 l0 x8_1).f0.f0), .string ((rd_T48 l0 x8_1).f0.f1), .int .i64 ((rd_T48 l0 x8_1).f0.f2.f0), .bool ((rd_T48 l0 x8_1).f0.f2.f1), .bool false]) ?_ 4 _ rfl; (with_reducible repeat (first | refine blk_drewN ?_ _ | refine blk_drew ?_ | refine blk_alloc ?_ _)); refine blk_put (cs := #[.int .i64 ((rd_T48 l0 x8_1).f0.f0), .string ((rd_T48 l0 x8_1).f0.f1), .int .i64 ((rd_T48 l0 x8_1).f0.f2.f0), .bool false, .bool false]) ?_ 3 _ rfl; (with_reducible repeat (first | refine blk_drewN ?_ _ | refine blk_drew ?_ | refine blk_alloc ?_ _)); refine blk_put (cs := #[.int .i64 ((rd_T48 l0 x8_1).f0.f0), .string ((rd_T48 l0 x8_1).f0.f1), .int .i64 0, .bool false, .bool false]) ?_ 2 _ rfl; (with_reducible repeat (first | refine blk_drewN ?_ _ | refine blk_drew ?_ | refine blk_alloc ?_ _)); refine blk_put (cs := #[.int .i64 ((rd_T48 l0 x8_1).f0.f0), .string (⟨#[]⟩ : ByteArray), .int .i64 0, .bool false, .bool false]) ?_ 1 _ rfl; (with_reducible repeat (first | refine blk_drewN ?_ _ | refine blk_drew ?_ | refine blk_alloc ?_ _)); refine blk_put (cs := #[.int .i64 0, .string (⟨#[]⟩ : ByteArray), .int .i64 0, .bool false, .bool false]) ?_ 0 _ rfl; exact uB <| BK297.out))⟩; have n2_ : Aside0 (Below w.heap.size w w20) := ⟨(by rw [hw]; exact bl)⟩; clear hw; clear HO_3; clear BK297; clear HB; have HO_3 := n0_; have BK297 := n1_; have HB := n2_; clear n0_ n1_ n2_))
     have n0_ := Aside0.mk (Kd.R_drew HO_3.out)
     have n1_ := Aside0.mk (blk_drew BK297.out)
     have n2_ := Aside0.mk (below_drew1 HB.out)
     clear HO_3
     clear BK297
     clear HB
     have HO_3 := n0_
     have BK297 := n1_
     have HB := n2_
     clear n0_ n1_ n2_
     refine start_ (n := 9) (S := fun w' => w'.cell? ⟨gb297, 0, none⟩ = some (.int .i64 ((rd_T48 l0 x8_1).f0.f0)) ∧ w'.cell? ⟨gb297, 1, none⟩ = some (.string ((rd_T48 l0 x8_1).f0.f1)) ∧ w'.cell? ⟨gb297, 2, none⟩ = some (.int .i64 ((rd_T48 l0 x8_1).f0.f2.f0)) ∧ w'.cell? ⟨gb297, 3, none⟩ = some (.bool ((rd_T48 l0 x8_1).f0.f2.f1)) ∧ w'.cell? ⟨gb297, 4, none⟩ = some (.bool false)) (ds := []) #[false, false, false, false, false, false, false, false, false] (by kernel_rfl) rfl rfl ⟨(blk_cell BK297.out 0).trans rfl, (blk_cell BK297.out 1).trans rfl, (blk_cell BK297.out 2).trans rfl, (blk_cell BK297.out 3).trans rfl, (blk_cell BK297.out 4).trans rfl⟩ (fun hHeld => ?_); refine with_tabW diff_right.tab5 diff_right.bits5 (fun HT_ HW_ => ?_)
     generalize w20.drew = w21 at HO_3 BK297 HB hHeld ⊢
     refine p1 0 (some 12) ?_
     refine t1 1 (some 13) rfl rfl hHeld (Or.inl ⟨by rfl, by rintro w' ⟨s0, s1, s2, s3, s4⟩; go_simp; with_reducible rfl⟩) ?_
     refine p1 2 (some 14) ?_
     refine p2 3 (some 15) ?_
     refine p2 4 (some 16) ?_
     refine p2 5 (some 17) ?_
     refine p2 6 (some 18) ?_
     refine p2 7 (some 19) ?_
     refine p1 8 (some 20) ?_
     refine done_ (done_of HT_.out (by kernel_rfl)) ?_
     have hcz22_0 : w21.cell? ⟨gb297, 0, none⟩ = some (.int .i64 ((rd_T48 l0 x8_1).f0.f0)) := (blk_cell BK297.out 0).trans rfl
     have hcz22_1 : w21.cell? ⟨gb297, 1, none⟩ = some (.string ((rd_T48 l0 x8_1).f0.f1)) := (blk_cell BK297.out 1).trans rfl
     have hcz22_2 : w21.cell? ⟨gb297, 2, none⟩ = some (.int .i64 ((rd_T48 l0 x8_1).f0.f2.f0)) := (blk_cell BK297.out 2).trans rfl
     have hcz22_3 : w21.cell? ⟨gb297, 3, none⟩ = some (.bool ((rd_T48 l0 x8_1).f0.f2.f1)) := (blk_cell BK297.out 3).trans rfl
     have hcz22_4 : w21.cell? ⟨gb297, 4, none⟩ = some (.bool false) := (blk_cell BK297.out 4).trans (by first | rfl | (rw [← Nbq5.out]; rfl))
     have hfz22_0 := blk_frozen BK297.out 0
     have hfz22_1 := blk_frozen BK297.out 1
     have hfz22_2 := blk_frozen BK297.out 2
     have hfz22_3 := blk_frozen BK297.out 3
     have hfz22_4 := blk_frozen BK297.out 4
     try go_wp2_with (first | ((with_reducible refine gate_builtin (b := .append) (xs := #[.tmp 21, .tmp 24]) rfl ?_); at_builtin; refine Kd.R_append k45 (w0 := w) w.heap.size rfl (.tmp 21) (.tmp 24) 22 45 (.agg #[(.int .i64 0), (.string ⟨#[]⟩), (.int .i64 0), (.bool false)]) 40 rfl Tryz.underlying22 info45 rfl (by decide) (by omega) u3 x3_1 (⟨(rd_T48 l0 x8_1).f0.f0, (rd_T48 l0 x8_1).f0.f1, (⟨(rd_T48 l0 x8_1).f0.f2.f0, (rd_T48 l0 x8_1).f0.f2.f1⟩ : S43)⟩ : S45) [.int .i64 ((rd_T48 l0 x8_1).f0.f0), .string ((rd_T48 l0 x8_1).f0.f1), .int .i64 ((rd_T48 l0 x8_1).f0.f2.f0), .bool ((rd_T48 l0 x8_1).f0.f2.f1)] (fun _ => True) (fun _ => False) rfl rfl ?aP (fun _ hk => hk.elim) ?aF ?aO ?aB ?aS ?aL ?_; (case aP => exact k45_mkM _ _ _ (⟨(rd_T48 l0 x8_1).f0.f0, (rd_T48 l0 x8_1).f0.f1, (⟨(rd_T48 l0 x8_1).f0.f2.f0, (rd_T48 l0 x8_1).f0.f2.f1⟩ : S43)⟩ : S45)); (case aB => exact bl); (case aF => exact (fun _ _ => trivial)); (case aO => exact (uR HO_3.out)); (case aS => exact (below_size bl)); (case aL => have := LMc17.out; omega); intro v307 w23 ho hb hg hat; rw [← Ny306.out] at ho; replace BK297 := Aside0.mk (blk_grown (g := gb297) (o := .cells #[.int .i64 ((rd_T48 l0 x8_1).f0.f0), .string ((rd_T48 l0 x8_1).f0.f1), .int .i64 ((rd_T48 l0 x8_1).f0.f2.f0), .bool ((rd_T48 l0 x8_1).f0.f2.f1), .bool false] 48 (0, 0)) (uB BK297.out) hg (Kd.R_ne HO_3.out BK297.out (by decide))); replace HB := Aside0.mk (hb); have HO308 := Aside0.mk (ho); clear HO_3; clear ho hb hg hat))
     go_roundg k1
     case measure => have := HK1.out; omega
     case rel => exact ⟨(y306), (wrap64 (x8_1 + 1)), rs_, (by first | exact H' | (rw [← Nbq5.out]; exact H')), ⟨by have := HK1.out; omega⟩, ⟨uR HO308.out⟩, ⟨bl⟩⟩
   ·
    rw [if_neg c2] at H
    have c2b0 : decide (x8_1 < (l0.length : Int)) = false := decide_eq_false c2
    clear c2
    obtain ⟨t309, A24, H⟩ := bs H
    try dsimp only at H
    obtain rfl := Option.some.inj H
    obtain ⟨Ao25, co25, eo25⟩ := Kd.R_slice HO_3.out
    subst eo25
    go_wp2_with (first | (refine gL (some 28) rfl Tryz.func24 #[.slice Ao25 x3_1.length co25] ?_; (with_reducible refine (row_Right.calls (hL := (by first | exact HL0.out | exact LD.below HL0.out (uW HB.out))) k1 _ _ x3_1 t309 _ ?side1 ?side2 A24.out).mono ?_); (case side1 => exact uC <| (Kd.R_reads' HO_3.out).2.2); (case side2 => exact (Kd.R_reads' HO_3.out).2.1); rintro e w26 ⟨rfl, hb⟩; refine ⟨_, rfl, ?_⟩; replace HO_3 := cR HO_3 hb; replace HB := cW HB hb; (try clear hb)))
    go_ret
    exact ⟨re_, uW HB.out⟩
attribute [local go_sem high] eqA48
def api_Change.l0 : Nat → List (S48) → List (S48) → Int → Int → Option (Bool)
 | 0, _, _, _, _ => none
 | k + 1, x0, x1, x12, x13 => if x13 < x12 then (if 0 ≤ x13 then (if x13 < (x0.length : Int) then (if x13 < (x1.length : Int) then (if ((!(((rd_T48 x0 x13).f0.f0) == ((rd_T48 x1 x13).f0.f0)) || (!((((rd_T48 x0 x13).f0.f1).toList) == (((rd_T48 x1 x13).f0.f1).toList)) || ((!(((rd_T48 x0 x13).f0.f2.f0) == ((rd_T48 x1 x13).f0.f2.f0)) || (!(((rd_T48 x0 x13).f0.f2.f1) == ((rd_T48 x1 x13).f0.f2.f1))))))) || (!(((rd_T48 x0 x13).f1) == ((rd_T48 x1 x13).f1)))) = true then (some false) else (api_Change.l0 k x0 x1 x12 (wrap64 (x13 + 1)))) else (none)) else (none)) else (none)) else (some true)
def api_Change.f (k : Nat) (l0 : List (S48)) (l1 : List (S48)) : Option (Bool) := if (l0.length : Int) = (l1.length : Int) then (api_Change.l0 k l0 l1 (l0.length : Int) 0) else (some false)
theorem api_Change.mono_l : ∀ k, (∀ y0 y1 y2 y3, LeC (api_Change.l0 k y0 y1 y2 y3) (api_Change.l0 (k + 1) y0 y1 y2 y3))
 | 0 => fun _ _ _ _ => ⟨fun r h => by simp [api_Change.l0] at h⟩
 | k + 1 => by have ih0 := api_Change.mono_l k; exact fun _ _ _ _ => by unfold api_Change.l0; exact lm
theorem api_Change.mono : ∀ a0 a1 k, LeO (api_Change.f k a0 a1) (api_Change.f (k + 1) a0 a1) := by
 intro a0 a1 k
 have ih0 := api_Change.mono_l k
 unfold api_Change.f
 exact lo
instance api_Change.mI {a0 a1 k} : LeC (api_Change.f k a0 a1) (api_Change.f (k + 1) a0 a1) := ⟨api_Change.mono _ _ _⟩
theorem api_Change.calls (k : Nat) (A0 : Option Addr) (c0 : Nat) (l0 : List (S48)) (A1 : Option Addr) (c1 : Nat) (l1 : List (S48)) (r : Bool) (w : World) (hr0 : Kd.C k48 w A0 l0.length l0) (hc0 : l0.length ≤ c0) (hr1 : Kd.C k48 w A1 l1.length l1) (hc1 : l1.length ≤ c1) (h : api_Change.f k l0 l1 = some r) :
 Calls Tryz.prog 38 #[.slice A0 l0.length c0, .slice A1 l1.length c1] w fun e w' => e = .returned (.bool r) ∧ Drawn0 w w' := by
 have hu48 := Tryz.underlying48
 have HR0 := Aside0.mk hr0
 have HC0 := Aside0.mk hc0
 clear hr0 hc0
 have HR1 := Aside0.mk hr1
 have HC1 := Aside0.mk hc1
 clear hr1 hc1
 have H : (if (l0.length : Int) = (l1.length : Int) then (api_Change.l0 k l0 l1 (l0.length : Int) 0) else (some false)) = some r := h
 clear h
 by_cases c3 : (l0.length : Int) = (l1.length : Int)
 ·
  rw [if_pos c3] at H
  have c3b0 : ((l0.length : Int) == (l1.length : Int)) = true := beq_iff_eq.mpr c3
  have c3b1 : ((l0.length : Int) != (l1.length : Int)) = false := bne_eq_false_iff_eq.mpr c3
  have c3b2 : (l0.length == l1.length) = true := by first | simpa using c3 | (simp at c3 ⊢; omega)
  clear c3
  have H' := Aside0.mk H
  clear H
  go_enter Tryz.func38, Tryz.ntmps38
  go_wp2
  repeat (go_quiet (fail); try go_wp2)
  go_loopg [13] k (fun kq v13 w' => ∃ (x13_1 : Int), v13 = .int .i64 x13_1 ∧ Aside0 (api_Change.l0 kq l0 l1 (l0.length : Int) x13_1 = some r) ∧ Aside0 (kq ≤ k) ∧ Drawn0 w w')
  case atStart => exact ⟨(0), rs_, H', ⟨Nat.le_refl _⟩, dr_⟩
  case round =>
   clear H'
   try clear c1
   try clear p2
   try clear c3
   try clear c3b0
   try clear c3b1
   try clear c3b2
   obtain ⟨x13_1, rfl, HA, HK1, ⟨m1, rfl⟩⟩ := hrel
   cases gk with
   | zero => exact absurd HA.out (by simp [api_Change.l0])
   | succ k1 =>
    have H := HA.out
    clear HA
    simp only [api_Change.l0] at H
    by_cases c4 : x13_1 < (l0.length : Int)
    ·
     rw [if_pos c4] at H
     have c4b0 : decide (x13_1 < (l0.length : Int)) = true := decide_eq_true c4
     clear c4
     obtain ⟨c5b0, H⟩ := gdd H
     obtain ⟨c6b0, H⟩ := gdd H
     obtain ⟨c7b0, H⟩ := gdd H
     by_cases c8 : ((!(((rd_T48 l0 x13_1).f0.f0) == ((rd_T48 l1 x13_1).f0.f0)) || (!((((rd_T48 l0 x13_1).f0.f1).toList) == (((rd_T48 l1 x13_1).f0.f1).toList)) || ((!(((rd_T48 l0 x13_1).f0.f2.f0) == ((rd_T48 l1 x13_1).f0.f2.f0)) || (!(((rd_T48 l0 x13_1).f0.f2.f1) == ((rd_T48 l1 x13_1).f0.f2.f1))))))) || (!(((rd_T48 l0 x13_1).f1) == ((rd_T48 l1 x13_1).f1)))) = true
     ·
      rw [if_pos c8] at H
      have c8b0 : ((!(((rd_T48 l0 x13_1).f0.f0) == ((rd_T48 l1 x13_1).f0.f0)) || (!((((rd_T48 l0 x13_1).f0.f1).toList) == (((rd_T48 l1 x13_1).f0.f1).toList)) || ((!(((rd_T48 l0 x13_1).f0.f2.f0) == ((rd_T48 l1 x13_1).f0.f2.f0)) || (!(((rd_T48 l0 x13_1).f0.f2.f1) == ((rd_T48 l1 x13_1).f0.f2.f1))))))) || (!(((rd_T48 l0 x13_1).f1) == ((rd_T48 l1 x13_1).f1)))) = true := c8
      clear c8
      obtain rfl := Option.some.inj H
      have p329 : 0 ≤ (x13_1 : Int) := od
      have q329 : x13_1 < (l0.length : Int) := od
      obtain ⟨ad329, e329, hx329_0, hx329_1, hx329_2, hx329_3, hx329_4⟩ := at_T48 HR0.out x13_1 p329 q329
      cases e329
      replace p329 := eq_true p329
      replace q329 := eq_true q329
      have p330 : 0 ≤ (x13_1 : Int) := od
      have q330 : x13_1 < (l1.length : Int) := od
      obtain ⟨ad330, e330, hx330_0, hx330_1, hx330_2, hx330_3, hx330_4⟩ := at_T48 HR1.out x13_1 p330 q330
      cases e330
      replace p330 := eq_true p330
      replace q330 := eq_true q330
      go_wp2
      repeat (go_quiet (fail); try go_wp2)
      go_ret
      exact ⟨rs_, dr_⟩
     ·
      rw [if_neg c8] at H
      have c8b0 : ((!(((rd_T48 l0 x13_1).f0.f0) == ((rd_T48 l1 x13_1).f0.f0)) || (!((((rd_T48 l0 x13_1).f0.f1).toList) == (((rd_T48 l1 x13_1).f0.f1).toList)) || ((!(((rd_T48 l0 x13_1).f0.f2.f0) == ((rd_T48 l1 x13_1).f0.f2.f0)) || (!(((rd_T48 l0 x13_1).f0.f2.f1) == ((rd_T48 l1 x13_1).f0.f2.f1))))))) || (!(((rd_T48 l0 x13_1).f1) == ((rd_T48 l1 x13_1).f1)))) = false := by simpa using c8
      clear c8
      have H' := Aside0.mk H
      clear H
      have p329 : 0 ≤ (x13_1 : Int) := od
      have q329 : x13_1 < (l0.length : Int) := od
      obtain ⟨ad329, e329, hx329_0, hx329_1, hx329_2, hx329_3, hx329_4⟩ := at_T48 HR0.out x13_1 p329 q329
      cases e329
      replace p329 := eq_true p329
      replace q329 := eq_true q329
      have p330 : 0 ≤ (x13_1 : Int) := od
      have q330 : x13_1 < (l1.length : Int) := od
      obtain ⟨ad330, e330, hx330_0, hx330_1, hx330_2, hx330_3, hx330_4⟩ := at_T48 HR1.out x13_1 p330 q330
      cases e330
      replace p330 := eq_true p330
      replace q330 := eq_true q330
      go_wp2
      repeat (go_quiet (fail); try go_wp2)
      go_roundg k1
      case measure => have := HK1.out; omega
      case rel => exact ⟨(wrap64 (x13_1 + 1)), rs_, H', ⟨by have := HK1.out; omega⟩, dr_⟩
    ·
     rw [if_neg c4] at H
     have c4b0 : decide (x13_1 < (l0.length : Int)) = false := decide_eq_false c4
     clear c4
     obtain rfl := Option.some.inj H
     go_wp2
     repeat (go_quiet (fail); try go_wp2)
     go_ret
     exact ⟨rs_, dr_⟩
 ·
  rw [if_neg c3] at H
  have c3b0 : ((l0.length : Int) == (l1.length : Int)) = false := beq_eq_false_iff_ne.mpr c3
  have c3b1 : ((l0.length : Int) != (l1.length : Int)) = true := bne_iff_ne.mpr c3
  have c3b2 : (l0.length == l1.length) = false := by first | simpa using c3 | (simp at c3 ⊢; omega)
  obtain rfl := Option.some.inj H
  go_enter Tryz.func38, Tryz.ntmps38
  go_wp2
  repeat (go_quiet (fail); try go_wp2)
  go_ret
  exact ⟨rs_, dr_⟩
def diff_Same.f (k : Nat) (l0 : List (S48)) (l1 : List (S48)) : Option (Bool) := (api_Change.f k l0 l1).bind fun t331 => (some t331)
theorem diff_Same.mono : ∀ a0 a1 k, LeO (diff_Same.f k a0 a1) (diff_Same.f (k + 1) a0 a1) := by
 intro a0 a1 k
 unfold diff_Same.f
 exact lo
instance diff_Same.mI {a0 a1 k} : LeC (diff_Same.f k a0 a1) (diff_Same.f (k + 1) a0 a1) := ⟨diff_Same.mono _ _ _⟩
theorem diff_Same.calls (k : Nat) (A0 : Option Addr) (c0 : Nat) (l0 : List (S48)) (A1 : Option Addr) (c1 : Nat) (l1 : List (S48)) (r : Bool) (w : World) (hr0 : Kd.C k48 w A0 l0.length l0) (hc0 : l0.length ≤ c0) (hr1 : Kd.C k48 w A1 l1.length l1) (hc1 : l1.length ≤ c1) (h : diff_Same.f k l0 l1 = some r) :
 Calls Tryz.prog 19 #[.slice A0 l0.length c0, .slice A1 l1.length c1] w fun e w' => e = .returned (.bool r) ∧ Drawn0 w w' := by
 have HR0 := Aside0.mk hr0
 have HC0 := Aside0.mk hc0
 clear hr0 hc0
 have HR1 := Aside0.mk hr1
 have HC1 := Aside0.mk hc1
 clear hr1 hc1
 have H : ((api_Change.f k l0 l1).bind fun t331 => (some t331)) = some r := h
 clear h
 obtain ⟨t331, A3, H⟩ := bs H
 try dsimp only at H
 obtain rfl := Option.some.inj H
 go_enter Tryz.func19, Tryz.ntmps19
 go_wp2_with (first | (refine gL (some 7) rfl Tryz.func38 #[.slice A0 l0.length c0, .slice A1 l1.length c1] ?_; (with_reducible refine (api_Change.calls k _ _ l0 _ _ l1 t331 _ ?side1 ?side2 ?side3 ?side4 A3.out).mono ?_); (case side1 => exact uC <| HR0.out); (case side2 => exact HC0.out); (case side3 => exact uC <| HR1.out); (case side4 => exact HC1.out); rintro e w' ⟨rfl, ⟨nd, rfl⟩⟩; refine ⟨_, rfl, ?_⟩))
 go_ret
 exact ⟨rs_, dr_⟩
def stringslite_HasPrefix.f (a0 : ByteArray) (a1 : ByteArray) : Option (Bool) := if (a0.size : Int) ≥ (a1.size : Int) then (if 0 ≤ (a1.size : Int) then (if (a1.size : Int) ≤ (a0.size : Int) then (some ((a0.extract 0 ((a1.size : Int) : Int).toNat).toList == a1.toList)) else (none)) else (none)) else (some false)
theorem stringslite_HasPrefix.calls (a0 : ByteArray) (a1 : ByteArray) (r : Bool) (w : World) (h : stringslite_HasPrefix.f a0 a1 = some r) :
 Calls Tryz.prog 90 #[.string a0, .string a1] w fun e w' => e = .returned (.bool r) ∧ Drawn0 w w' := by
 have H : (if (a0.size : Int) ≥ (a1.size : Int) then (if 0 ≤ (a1.size : Int) then (if (a1.size : Int) ≤ (a0.size : Int) then (some ((a0.extract 0 ((a1.size : Int) : Int).toNat).toList == a1.toList)) else (none)) else (none)) else (some false)) = some r := h
 clear h
 by_cases c3 : (a0.size : Int) ≥ (a1.size : Int)
 ·
  rw [if_pos c3] at H
  have c3b0 : decide ((a1.size : Int) ≤ (a0.size : Int)) = true := decide_eq_true c3
  have c3b1 : decide (a1.size ≤ a0.size) = true := decide_eq_true (Int.ofNat_le.mp c3)
  clear c3
  obtain ⟨c4, H⟩ := gd H
  have c4b0 := eq_true c4
  have c4b1 : decide (0 ≤ (a1.size : Int)) = true := decide_eq_true c4
  clear c4
  obtain ⟨c5, H⟩ := gd H
  have c5b0 := eq_true c5
  have c5b1 : decide ((a1.size : Int) ≤ (a0.size : Int)) = true := decide_eq_true c5
  clear c5
  obtain rfl := Option.some.inj H
  go_enter Tryz.func90, Tryz.ntmps90
  go_wp2
  go_ret
  exact ⟨rs_, dr_⟩
 ·
  rw [if_neg c3] at H
  have c3b0 : decide ((a1.size : Int) ≤ (a0.size : Int)) = false := decide_eq_false c3
  have c3b1 : decide (a1.size ≤ a0.size) = false := decide_eq_false (fun h => c3 (Int.ofNat_le.mpr h))
  clear c3
  obtain rfl := Option.some.inj H
  go_enter Tryz.func90, Tryz.ntmps90
  go_wp2
  go_ret
  exact ⟨rs_, dr_⟩
def stringslite_CutPrefix.f (a0 : ByteArray) (a1 : ByteArray) : Option (ByteArray × Bool) := (stringslite_HasPrefix.f a0 a1).bind fun t332 => (if t332 = true then (if 0 ≤ (a1.size : Int) then (if (a1.size : Int) ≤ (a0.size : Int) then (some (a0.extract ((a1.size : Int) : Int).toNat a0.size, true)) else (none)) else (none)) else (some (a0, false)))
theorem stringslite_CutPrefix.calls (a0 : ByteArray) (a1 : ByteArray) (r1 : ByteArray) (r2 : Bool) (w : World) (h : stringslite_CutPrefix.f a0 a1 = some (r1, r2)) :
 Calls Tryz.prog 75 #[.string a0, .string a1] w fun e w' => e = .returned (.tuple #[.string r1, .bool r2]) ∧ Drawn0 w w' := by
 have H : ((stringslite_HasPrefix.f a0 a1).bind fun t332 => (if t332 = true then (if 0 ≤ (a1.size : Int) then (if (a1.size : Int) ≤ (a0.size : Int) then (some (a0.extract ((a1.size : Int) : Int).toNat a0.size, true)) else (none)) else (none)) else (some (a0, false)))) = some (r1, r2) := h
 clear h
 obtain ⟨t332, A3, H⟩ := bs H
 try dsimp only at H
 by_cases c4 : t332 = true
 ·
  subst c4
  rw [if_pos rfl] at H
  obtain ⟨c5, H⟩ := gd H
  have c5b0 := eq_true c5
  have c5b1 : decide (0 ≤ (a1.size : Int)) = true := decide_eq_true c5
  clear c5
  obtain ⟨c6, H⟩ := gd H
  have c6b0 := eq_true c6
  have c6b1 : decide ((a1.size : Int) ≤ (a0.size : Int)) = true := decide_eq_true c6
  clear c6
  simp only [Option.some.injEq, Prod.mk.injEq] at H
  obtain ⟨rfl, rfl⟩ := H
  go_enter Tryz.func75, Tryz.ntmps75
  go_wp2_with (first | (refine gL (some 8) rfl Tryz.func90 #[.string a0, .string a1] ?_; (with_reducible refine (stringslite_HasPrefix.calls a0 a1 true _ A3.out).mono ?_); rintro e w' ⟨rfl, ⟨nd, rfl⟩⟩; refine ⟨_, rfl, ?_⟩))
  go_ret2
  exact ⟨rs_, dr_⟩
 ·
  replace c4 := Bool.eq_false_iff.mpr c4
  subst c4
  rw [if_neg (show ¬ (false = true) by decide)] at H
  simp only [Option.some.injEq, Prod.mk.injEq] at H
  obtain ⟨rfl, rfl⟩ := H
  go_enter Tryz.func75, Tryz.ntmps75
  go_wp2_with (first | (refine gL (some 8) rfl Tryz.func90 #[.string a0, .string a1] ?_; (with_reducible refine (stringslite_HasPrefix.calls a0 a1 false _ A3.out).mono ?_); rintro e w' ⟨rfl, ⟨nd, rfl⟩⟩; refine ⟨_, rfl, ?_⟩))
  go_ret2
  exact ⟨rs_, dr_⟩
def strings_CutPrefix.f (a0 : ByteArray) (a1 : ByteArray) : Option (ByteArray × Bool) := (stringslite_CutPrefix.f a0 a1).bind fun bt333 => (some (bt333.1, bt333.2))
theorem strings_CutPrefix.calls (a0 : ByteArray) (a1 : ByteArray) (r1 : ByteArray) (r2 : Bool) (w : World) (h : strings_CutPrefix.f a0 a1 = some (r1, r2)) :
 Calls Tryz.prog 57 #[.string a0, .string a1] w fun e w' => e = .returned (.tuple #[.string r1, .bool r2]) ∧ Drawn0 w w' := by
 have H : ((stringslite_CutPrefix.f a0 a1).bind fun bt333 => (some (bt333.1, bt333.2))) = some (r1, r2) := h
 clear h
 obtain ⟨⟨t333, t334⟩, A3, H⟩ := bs H
 try dsimp only at H
 simp only [Option.some.injEq, Prod.mk.injEq] at H
 obtain ⟨rfl, rfl⟩ := H
 go_enter Tryz.func57, Tryz.ntmps57
 go_wp2_with (first | (refine gL (some 8) rfl Tryz.func75 #[.string a0, .string a1] ?_; (with_reducible refine (stringslite_CutPrefix.calls a0 a1 t333 t334 _ A3.out).mono ?_); rintro e w' ⟨rfl, ⟨nd, rfl⟩⟩; refine ⟨_, rfl, ?_⟩))
 go_ret2
 exact ⟨rs_, dr_⟩
def stringslite_TrimPrefix.f (a0 : ByteArray) (a1 : ByteArray) : Option (ByteArray) := (stringslite_HasPrefix.f a0 a1).bind fun t335 => (if t335 = true then (if 0 ≤ (a1.size : Int) then (if (a1.size : Int) ≤ (a0.size : Int) then (some (a0.extract ((a1.size : Int) : Int).toNat a0.size)) else (none)) else (none)) else (some a0))
theorem stringslite_TrimPrefix.calls (a0 : ByteArray) (a1 : ByteArray) (r : ByteArray) (w : World) (h : stringslite_TrimPrefix.f a0 a1 = some r) :
 Calls Tryz.prog 111 #[.string a0, .string a1] w fun e w' => e = .returned (.string r) ∧ Drawn0 w w' := by
 have H : ((stringslite_HasPrefix.f a0 a1).bind fun t335 => (if t335 = true then (if 0 ≤ (a1.size : Int) then (if (a1.size : Int) ≤ (a0.size : Int) then (some (a0.extract ((a1.size : Int) : Int).toNat a0.size)) else (none)) else (none)) else (some a0))) = some r := h
 clear h
 obtain ⟨t335, A3, H⟩ := bs H
 try dsimp only at H
 by_cases c4 : t335 = true
 ·
  subst c4
  rw [if_pos rfl] at H
  obtain ⟨c5, H⟩ := gd H
  have c5b0 := eq_true c5
  have c5b1 : decide (0 ≤ (a1.size : Int)) = true := decide_eq_true c5
  clear c5
  obtain ⟨c6, H⟩ := gd H
  have c6b0 := eq_true c6
  have c6b1 : decide ((a1.size : Int) ≤ (a0.size : Int)) = true := decide_eq_true c6
  clear c6
  obtain rfl := Option.some.inj H
  go_enter Tryz.func111, Tryz.ntmps111
  go_wp2_with (first | (refine gL (some 7) rfl Tryz.func90 #[.string a0, .string a1] ?_; (with_reducible refine (stringslite_HasPrefix.calls a0 a1 true _ A3.out).mono ?_); rintro e w' ⟨rfl, ⟨nd, rfl⟩⟩; refine ⟨_, rfl, ?_⟩))
  go_ret
  exact ⟨rs_, dr_⟩
 ·
  replace c4 := Bool.eq_false_iff.mpr c4
  subst c4
  rw [if_neg (show ¬ (false = true) by decide)] at H
  obtain rfl := Option.some.inj H
  go_enter Tryz.func111, Tryz.ntmps111
  go_wp2_with (first | (refine gL (some 7) rfl Tryz.func90 #[.string a0, .string a1] ?_; (with_reducible refine (stringslite_HasPrefix.calls a0 a1 false _ A3.out).mono ?_); rintro e w' ⟨rfl, ⟨nd, rfl⟩⟩; refine ⟨_, rfl, ?_⟩))
  go_ret
  exact ⟨rs_, dr_⟩
def strings_TrimPrefix.f (a0 : ByteArray) (a1 : ByteArray) : Option (ByteArray) := (stringslite_TrimPrefix.f a0 a1).bind fun t336 => (some t336)
theorem strings_TrimPrefix.calls (a0 : ByteArray) (a1 : ByteArray) (r : ByteArray) (w : World) (h : strings_TrimPrefix.f a0 a1 = some r) :
 Calls Tryz.prog 91 #[.string a0, .string a1] w fun e w' => e = .returned (.string r) ∧ Drawn0 w w' := by
 have H : ((stringslite_TrimPrefix.f a0 a1).bind fun t336 => (some t336)) = some r := h
 clear h
 obtain ⟨t336, A3, H⟩ := bs H
 try dsimp only at H
 obtain rfl := Option.some.inj H
 go_enter Tryz.func91, Tryz.ntmps91
 go_wp2_with (first | (refine gL (some 7) rfl Tryz.func111 #[.string a0, .string a1] ?_; (with_reducible refine (stringslite_TrimPrefix.calls a0 a1 t336 _ A3.out).mono ?_); rintro e w' ⟨rfl, ⟨nd, rfl⟩⟩; refine ⟨_, rfl, ?_⟩))
 go_ret
 exact ⟨rs_, dr_⟩
def sat_digits.f (a0 : ByteArray) : Option (Bool) := if a0.toList = ([] : List UInt8) then (none) else (if 0 < (a0.size : Int) then (if (bt a0 0) = 48 then (if a0.toList = ([48] : List UInt8) then ((strings_Trim.f a0 (⟨#[48, 49, 50, 51, 52, 53, 54, 55, 56, 57]⟩ : ByteArray)).bind fun t337 => (some (t337.toList == ([] : List UInt8)))) else (none)) else ((strings_Trim.f a0 (⟨#[48, 49, 50, 51, 52, 53, 54, 55, 56, 57]⟩ : ByteArray)).bind fun t338 => (some (t338.toList == ([] : List UInt8))))) else (none))
theorem sat_digits.calls (a0 : ByteArray) (r : Bool) (w : World) (h : sat_digits.f a0 = some r) :
 Calls Tryz.prog 92 #[.string a0] w fun e w' => e = .returned (.bool r) ∧ Below w.heap.size w w' := by
 have HB := Aside0.mk (Below.refl w.heap.size w)
 have H : (if a0.toList = ([] : List UInt8) then (none) else (if 0 < (a0.size : Int) then (if (bt a0 0) = 48 then (if a0.toList = ([48] : List UInt8) then ((strings_Trim.f a0 (⟨#[48, 49, 50, 51, 52, 53, 54, 55, 56, 57]⟩ : ByteArray)).bind fun t337 => (some (t337.toList == ([] : List UInt8)))) else (none)) else ((strings_Trim.f a0 (⟨#[48, 49, 50, 51, 52, 53, 54, 55, 56, 57]⟩ : ByteArray)).bind fun t338 => (some (t338.toList == ([] : List UInt8))))) else (none))) = some r := h
 clear h
 obtain ⟨c2, H⟩ := gn H
 have c2b0 : (a0.toList == ([] : List UInt8)) = false := beq_eq_false_iff_ne.mpr c2
 have c2b1 : (a0.toList != ([] : List UInt8)) = true := bne_iff_ne.mpr c2
 by_cases c3 : 0 < (a0.size : Int)
 ·
  rw [if_pos c3] at H
  have c3b0 : decide (0 < (a0.size : Int)) = true := decide_eq_true c3
  have c3b1 : decide (0 < a0.size) = true := decide_eq_true (by omega)
  clear c3
  by_cases c5 : (bt a0 0) = 48
  ·
   rw [if_pos c5] at H
   have c5b0 : ((bt a0 0) == 48) = true := beq_iff_eq.mpr c5
   have c5b1 : ((bt a0 0) != 48) = false := bne_eq_false_iff_eq.mpr c5
   clear c5
   obtain ⟨c6, H⟩ := gd H
   have c6b0 : (a0.toList == ([48] : List UInt8)) = true := beq_iff_eq.mpr c6
   have c6b1 : (a0.toList != ([48] : List UInt8)) = false := bne_eq_false_iff_eq.mpr c6
   clear c6
   obtain ⟨t337, A7, H⟩ := bs H
   try dsimp only at H
   obtain rfl := Option.some.inj H
   have p4 : 0 ≤ (0 : Int) := (by omega)
   have q4 : 0 < a0.size := (by have : (0 : Int) < (a0.size : Int) := od; omega)
   have hx4 : ∀ h : 0 < a0.size, ((a0[0]'h).toNat : Int) = bt a0 0 := bt_at a0 0
   clear p4
   have qi4 : (0 < (a0.size : Int)) = True := eq_true (od)
   replace q4 := eq_true q4
   go_enter Tryz.func92, Tryz.ntmps92
   go_wp2_with (first | (refine gL (some 15) rfl Tryz.func112 #[.string a0, .string (⟨#[48, 49, 50, 51, 52, 53, 54, 55, 56, 57]⟩ : ByteArray)] ?_; (with_reducible refine (strings_Trim.calls a0 (⟨#[48, 49, 50, 51, 52, 53, 54, 55, 56, 57]⟩ : ByteArray) t337 _ A7.out).mono ?_); rintro e w8 ⟨rfl, hb⟩; refine ⟨_, rfl, ?_⟩; replace HB := cW HB hb; (try clear hb)))
   go_ret
   exact ⟨re_, uW HB.out⟩
  ·
   rw [if_neg c5] at H
   have c5b0 : ((bt a0 0) == 48) = false := beq_eq_false_iff_ne.mpr c5
   have c5b1 : ((bt a0 0) != 48) = true := bne_iff_ne.mpr c5
   obtain ⟨t338, A9, H⟩ := bs H
   try dsimp only at H
   obtain rfl := Option.some.inj H
   have p4 : 0 ≤ (0 : Int) := (by omega)
   have q4 : 0 < a0.size := (by have : (0 : Int) < (a0.size : Int) := od; omega)
   have hx4 : ∀ h : 0 < a0.size, ((a0[0]'h).toNat : Int) = bt a0 0 := bt_at a0 0
   clear p4
   have qi4 : (0 < (a0.size : Int)) = True := eq_true (od)
   replace q4 := eq_true q4
   go_enter Tryz.func92, Tryz.ntmps92
   go_wp2_with (first | (refine gL (some 15) rfl Tryz.func112 #[.string a0, .string (⟨#[48, 49, 50, 51, 52, 53, 54, 55, 56, 57]⟩ : ByteArray)] ?_; (with_reducible refine (strings_Trim.calls a0 (⟨#[48, 49, 50, 51, 52, 53, 54, 55, 56, 57]⟩ : ByteArray) t338 _ A9.out).mono ?_); rintro e w10 ⟨rfl, hb⟩; refine ⟨_, rfl, ?_⟩; replace HB := cW HB hb; (try clear hb)))
   go_ret
   exact ⟨re_, uW HB.out⟩
 ·
  rw [if_neg c3] at H
  exact absurd H (by simp)
def sat_Read.f (a0 : ByteArray) : Option (Int × Int) := (strings_TrimPrefix.f a0 (⟨#[45]⟩ : ByteArray)).bind fun t => ((sat_digits.f t).bind fun d => (if d = true then (if a0.toList = ([45, 48] : List UInt8) then (some (0, 2)) else (if a0.size ≤ 140737488355328 then (some (match Lib.parseIntB 64 a0.data.toList with | .ok v => (v, 0) | _ => (0, 3))) else (none))) else (some (0, 2))))
theorem sat_Read.calls (a0 : ByteArray) (r1 : Int) (r2 : Int) (w : World) (hL : LD w) (h : sat_Read.f a0 = some (r1, r2)) :
 Calls Tryz.prog 76 #[.string a0] w fun e w' => e = .returned (.tuple #[.int .i64 r1, .int .i64 r2]) ∧ Below w.heap.size w w' := by
 unfold sat_Read.f at h
 obtain ⟨t, h1, h⟩ := Option.bind_eq_some_iff.mp h
 obtain ⟨d, h2, h⟩ := Option.bind_eq_some_iff.mp h
 have H1 := Aside0.mk h1
 have H2 := Aside0.mk h2
 have HL0 := Aside0.mk hL
 clear h1 h2 hL
 cases d with
 | false =>
  rw [if_neg (by decide)] at h
  have h := Option.some.inj h
  injection h with h3 h4
  subst h3 h4
  go_enter Tryz.func76, Tryz.ntmps76
  go_wp2_with (first | (go_at_call 91; (with_reducible refine (strings_TrimPrefix.calls _ _ t _ H1.out).mono ?_); rintro e w1 ⟨rfl, ⟨n1, rfl⟩⟩) | (go_at_call 92; (with_reducible refine (sat_digits.calls _ false _ H2.out).mono ?_); rintro e w2 ⟨rfl, hb⟩; have HB := Aside0.mk (show Below w.heap.size w w2 from Below.trans (pw_below_drewN (Below.refl w.heap.size w) _) hb); clear hb))
  go_ret2
  exact ⟨rfl, HB.out⟩
 | true =>
  rw [if_pos rfl] at h
  by_cases hz : a0.toList = ([45, 48] : List UInt8)
  ·
   rw [if_pos hz] at h
   have h := Option.some.inj h
   injection h with h3 h4
   subst h3 h4
   have c6b0 : (a0.toList == ([45, 48] : List UInt8)) = true := beq_iff_eq.mpr hz
   clear hz
   go_enter Tryz.func76, Tryz.ntmps76
   go_wp2_with (first | (go_at_call 91; (with_reducible refine (strings_TrimPrefix.calls _ _ t _ H1.out).mono ?_); rintro e w1 ⟨rfl, ⟨n1, rfl⟩⟩) | (go_at_call 92; (with_reducible refine (sat_digits.calls _ true _ H2.out).mono ?_); rintro e w2 ⟨rfl, hb⟩; have HB := Aside0.mk (show Below w.heap.size w w2 from Below.trans (pw_below_drewN (Below.refl w.heap.size w) _) hb); clear hb))
   go_ret2
   exact ⟨rfl, HB.out⟩
  ·
   rw [if_neg hz] at h
   by_cases hs : a0.size ≤ 140737488355328
   ·
    rw [if_pos hs] at h
    have h := Option.some.inj h
    have c6b0 : (a0.toList == ([45, 48] : List UInt8)) = false := beq_eq_false_iff_ne.mpr hz
    have HS := Aside0.mk hs
    clear hz hs
    cases hp : Lib.parseIntB 64 a0.data.toList with
    | ok v =>
     rw [hp] at h
     injection h with h3 h4
     subst h3 h4
     have HP := Aside0.mk hp
     clear hp
     go_enter Tryz.func76, Tryz.ntmps76
     go_wp2_with (first | (go_at_call 91; (with_reducible refine (strings_TrimPrefix.calls _ _ t _ H1.out).mono ?_); rintro e w1 ⟨rfl, ⟨n1, rfl⟩⟩) | (go_at_call 92; (with_reducible refine (sat_digits.calls _ true _ H2.out).mono ?_); rintro e w2 ⟨rfl, hb⟩; have HB := Aside0.mk (show Below w.heap.size w w2 from Below.trans (pw_below_drewN (Below.refl w.heap.size w) _) hb); clear hb) | (go_at_call 93; refine (Tryz.strconv_ParseInt_10_at64_ok a0 (by have := HS.out; omega) _ HP.out _).mono ?_; rintro e w3 ⟨rfl, hw⟩; have HB3 := Aside0.mk (show Below w.heap.size w w3 from by rcases hw with rfl | ⟨t3, rfl⟩; exact HB.out; exact bytes_below HB.out HB.out.size _ t3); clear hw))
     go_ret2
     exact ⟨rfl, HB3.out⟩
    | range =>
     rw [hp] at h
     injection h with h3 h4
     subst h3 h4
     have HP := Aside0.mk hp
     clear hp
     go_enter Tryz.func76, Tryz.ntmps76
     go_wp2_with (first | (go_at_call 91; (with_reducible refine (strings_TrimPrefix.calls _ _ t _ H1.out).mono ?_); rintro e w1 ⟨rfl, ⟨n1, rfl⟩⟩) | (go_at_call 92; (with_reducible refine (sat_digits.calls _ true _ H2.out).mono ?_); rintro e w2 ⟨rfl, hb⟩; have HB := Aside0.mk (show Below w.heap.size w w2 from Below.trans (pw_below_drewN (Below.refl w.heap.size w) _) hb); clear hb) | (go_at_call 93; (obtain ⟨tp, p, hv⟩ := (LD.below HL0.out HB.out).ErrRange); refine (Tryz.strconv_ParseInt_10_at64_range_var a0 (by have := HS.out; omega) HP.out tp p _ hv).mono ?_; rintro e w3 ⟨N, rfl, hN, hc3, hb3⟩; have HB3 := Aside0.mk (show Below w.heap.size w w3 from HB.out.trans (hb3.mono HB.out.size)); clear hN hc3 hb3 hv))
     go_ret2
     exact ⟨rfl, HB3.out⟩
    | _ =>
     rw [hp] at h
     injection h with h3 h4
     subst h3 h4
     have HP := Aside0.mk hp
     clear hp
     go_enter Tryz.func76, Tryz.ntmps76
     go_wp2_with (first | (go_at_call 91; (with_reducible refine (strings_TrimPrefix.calls _ _ t _ H1.out).mono ?_); rintro e w1 ⟨rfl, ⟨n1, rfl⟩⟩) | (go_at_call 92; (with_reducible refine (sat_digits.calls _ true _ H2.out).mono ?_); rintro e w2 ⟨rfl, hb⟩; have HB := Aside0.mk (show Below w.heap.size w w2 from Below.trans (pw_below_drewN (Below.refl w.heap.size w) _) hb); clear hb) | (go_at_call 93; (obtain ⟨tp, p, hv⟩ := (LD.below HL0.out HB.out).ErrSyntax); refine (Tryz.strconv_ParseInt_10_at64_syntax_var a0 (by have := HS.out; omega) HP.out tp p _ hv).mono ?_; rintro e w3 ⟨N, rfl, hN, hc3, hb3⟩; have HB3 := Aside0.mk (show Below w.heap.size w w3 from HB.out.trans (hb3.mono HB.out.size)); clear hN hc3 hb3 hv))
     go_ret2
     exact ⟨rfl, HB3.out⟩
   ·
    rw [if_neg hs] at h
    exact absurd h (by simp)
end Go.Proofs.YtgcbejidponoaaaGreatDoor.X
