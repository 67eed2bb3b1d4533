/- Printed by a program of this session's own: what functions of the program compute, and that the machine computes it. No condition of its own. -/
import Derived.Test.YtklhjponikgkkaaM3
import Derived.Test.YtklhjponikgkkaaM4
namespace Go.Proofs.Ytklhjponikgkkaa.X
open Go.RowKit Go.Proofs.YtklhjponikgkkaaW.PrintWords Go.Proofs.YtklhjponikgkkaaW.PrintLast Go.Proofs.YtklhjponikgkkaaW.PrintMore
attribute [local go_sem] max2_int min2_int max_two min_two max_three min_three max_four min_four
set_option linter.unusedVariables false
set_option linter.unusedSimpArgs false
set_option maxHeartbeats 8000000
set_option maxRecDepth 100000
attribute [local go_sem high] eqA56
def api_Item_37.l0 : Nat → List (S56) → List (S56) → Int → Int → Option (Bool)
 | 0, _, _, _, _ => none
 | k + 1, x0, x1, x12, x13 => if x13 < x12 then (if 0 ≤ x13 then (if x13 < (x0.length : Int) then (if x13 < (x1.length : Int) then (if (!(((rd_T56 x0 x13).f0) == ((rd_T56 x1 x13).f0)) || (!((((rd_T56 x0 x13).f1).toList) == (((rd_T56 x1 x13).f1).toList)) || ((!(((rd_T56 x0 x13).f2.f0) == ((rd_T56 x1 x13).f2.f0)) || ((!(((rd_T56 x0 x13).f2.f1.f0) == ((rd_T56 x1 x13).f2.f1.f0)) || (!(((rd_T56 x0 x13).f2.f1.f1) == ((rd_T56 x1 x13).f2.f1.f1)))) || (!(((rd_T56 x0 x13).f2.f2) == ((rd_T56 x1 x13).f2.f2)) || (!(((rd_T56 x0 x13).f2.f3) == ((rd_T56 x1 x13).f2.f3))))))))) = true then (some false) else (api_Item_37.l0 k x0 x1 x12 (wrap64 (x13 + 1)))) else (none)) else (none)) else (none)) else (some true)
def api_Item_37.f (k : Nat) (l0 : List (S56)) (l1 : List (S56)) : Option (Bool) := if (l0.length : Int) = (l1.length : Int) then (api_Item_37.l0 k l0 l1 (l0.length : Int) 0) else (some false)
theorem api_Item_37.mono_l : ∀ k, (∀ y0 y1 y2 y3, LeC (api_Item_37.l0 k y0 y1 y2 y3) (api_Item_37.l0 (k + 1) y0 y1 y2 y3))
 | 0 => fun _ _ _ _ => ⟨fun r h => by simp [api_Item_37.l0] at h⟩
 | k + 1 => by have ih0 := api_Item_37.mono_l k; exact fun _ _ _ _ => by unfold api_Item_37.l0; exact lm
theorem api_Item_37.mono : ∀ a0 a1 k, LeO (api_Item_37.f k a0 a1) (api_Item_37.f (k + 1) a0 a1) := by
 intro a0 a1 k
 have ih0 := api_Item_37.mono_l k
 unfold api_Item_37.f
 exact lo
instance api_Item_37.mI {a0 a1 k} : LeC (api_Item_37.f k a0 a1) (api_Item_37.f (k + 1) a0 a1) := ⟨api_Item_37.mono _ _ _⟩
theorem api_Item_37.calls (k : Nat) (A0 : Option Addr) (c0 : Nat) (l0 : List (S56)) (A1 : Option Addr) (c1 : Nat) (l1 : List (S56)) (r : Bool) (w : World) (hr0 : Kd.C k56 w A0 l0.length l0) (hc0 : l0.length ≤ c0) (hr1 : Kd.C k56 w A1 l1.length l1) (hc1 : l1.length ≤ c1) (h : api_Item_37.f k l0 l1 = some r) :
 Calls Try.prog 37 #[.slice A0 l0.length c0, .slice A1 l1.length c1] w fun e w' => e = .returned (.bool r) ∧ Drawn0 w w' := by
 have hu56 := Try.underlying56
 have HR0 := Aside0.mk hr0
 have HC0 := Aside0.mk hc0
 clear hr0 hc0
 have HR1 := Aside0.mk hr1
 have HC1 := Aside0.mk hc1
 clear hr1 hc1
 have H : (if (l0.length : Int) = (l1.length : Int) then (api_Item_37.l0 k l0 l1 (l0.length : Int) 0) else (some false)) = some r := h
 clear h
 by_cases c3 : (l0.length : Int) = (l1.length : Int)
 ·
  rw [if_pos c3] at H
  have c3b0 : ((l0.length : Int) == (l1.length : Int)) = true := beq_iff_eq.mpr c3
  have c3b1 : ((l0.length : Int) != (l1.length : Int)) = false := bne_eq_false_iff_eq.mpr c3
  have c3b2 : (l0.length == l1.length) = true := by first | simpa using c3 | (simp at c3 ⊢; omega)
  clear c3
  have H' := Aside0.mk H
  clear H
  go_enter Try.func37, Try.ntmps37
  go_wp2
  repeat (go_quiet (fail); try go_wp2)
  go_loopg [13] k (fun kq v13 w' => ∃ (x13_1 : Int), v13 = .int .i64 x13_1 ∧ Aside0 (api_Item_37.l0 kq l0 l1 (l0.length : Int) x13_1 = some r) ∧ Aside0 (kq ≤ k) ∧ Drawn0 w w')
  case atStart => exact ⟨(0), rs_, H', ⟨Nat.le_refl _⟩, dr_⟩
  case round =>
   clear H'
   try clear c1
   try clear c3
   try clear c3b0
   try clear c3b1
   try clear c3b2
   obtain ⟨x13_1, rfl, HA, HK1, ⟨m1, rfl⟩⟩ := hrel
   cases gk with
   | zero => exact absurd HA.out (by simp [api_Item_37.l0])
   | succ k1 =>
    have H := HA.out
    clear HA
    simp only [api_Item_37.l0] at H
    by_cases c4 : x13_1 < (l0.length : Int)
    ·
     rw [if_pos c4] at H
     have c4b0 : decide (x13_1 < (l0.length : Int)) = true := decide_eq_true c4
     clear c4
     obtain ⟨c5b0, H⟩ := gdd H
     obtain ⟨c6b0, H⟩ := gdd H
     obtain ⟨c7b0, H⟩ := gdd H
     by_cases c8 : (!(((rd_T56 l0 x13_1).f0) == ((rd_T56 l1 x13_1).f0)) || (!((((rd_T56 l0 x13_1).f1).toList) == (((rd_T56 l1 x13_1).f1).toList)) || ((!(((rd_T56 l0 x13_1).f2.f0) == ((rd_T56 l1 x13_1).f2.f0)) || ((!(((rd_T56 l0 x13_1).f2.f1.f0) == ((rd_T56 l1 x13_1).f2.f1.f0)) || (!(((rd_T56 l0 x13_1).f2.f1.f1) == ((rd_T56 l1 x13_1).f2.f1.f1)))) || (!(((rd_T56 l0 x13_1).f2.f2) == ((rd_T56 l1 x13_1).f2.f2)) || (!(((rd_T56 l0 x13_1).f2.f3) == ((rd_T56 l1 x13_1).f2.f3))))))))) = true
     ·
      rw [if_pos c8] at H
      have c8b0 : (!(((rd_T56 l0 x13_1).f0) == ((rd_T56 l1 x13_1).f0)) || (!((((rd_T56 l0 x13_1).f1).toList) == (((rd_T56 l1 x13_1).f1).toList)) || ((!(((rd_T56 l0 x13_1).f2.f0) == ((rd_T56 l1 x13_1).f2.f0)) || ((!(((rd_T56 l0 x13_1).f2.f1.f0) == ((rd_T56 l1 x13_1).f2.f1.f0)) || (!(((rd_T56 l0 x13_1).f2.f1.f1) == ((rd_T56 l1 x13_1).f2.f1.f1)))) || (!(((rd_T56 l0 x13_1).f2.f2) == ((rd_T56 l1 x13_1).f2.f2)) || (!(((rd_T56 l0 x13_1).f2.f3) == ((rd_T56 l1 x13_1).f2.f3))))))))) = true := c8
      clear c8
      obtain rfl := Option.some.inj H
      have p201 : 0 ≤ (x13_1 : Int) := od
      have q201 : x13_1 < (l0.length : Int) := od
      obtain ⟨ad201, e201, hx201_0, hx201_1, hx201_2, hx201_3, hx201_4, hx201_5, hx201_6⟩ := at_T56 HR0.out x13_1 p201 q201
      cases e201
      replace p201 := eq_true p201
      replace q201 := eq_true q201
      have p202 : 0 ≤ (x13_1 : Int) := od
      have q202 : x13_1 < (l1.length : Int) := od
      obtain ⟨ad202, e202, hx202_0, hx202_1, hx202_2, hx202_3, hx202_4, hx202_5, hx202_6⟩ := at_T56 HR1.out x13_1 p202 q202
      cases e202
      replace p202 := eq_true p202
      replace q202 := eq_true q202
      go_wp2
      repeat (go_quiet (fail); try go_wp2)
      go_ret
      exact ⟨rs_, dr_⟩
     ·
      rw [if_neg c8] at H
      have c8b0 : (!(((rd_T56 l0 x13_1).f0) == ((rd_T56 l1 x13_1).f0)) || (!((((rd_T56 l0 x13_1).f1).toList) == (((rd_T56 l1 x13_1).f1).toList)) || ((!(((rd_T56 l0 x13_1).f2.f0) == ((rd_T56 l1 x13_1).f2.f0)) || ((!(((rd_T56 l0 x13_1).f2.f1.f0) == ((rd_T56 l1 x13_1).f2.f1.f0)) || (!(((rd_T56 l0 x13_1).f2.f1.f1) == ((rd_T56 l1 x13_1).f2.f1.f1)))) || (!(((rd_T56 l0 x13_1).f2.f2) == ((rd_T56 l1 x13_1).f2.f2)) || (!(((rd_T56 l0 x13_1).f2.f3) == ((rd_T56 l1 x13_1).f2.f3))))))))) = false := by simpa using c8
      clear c8
      have H' := Aside0.mk H
      clear H
      have p201 : 0 ≤ (x13_1 : Int) := od
      have q201 : x13_1 < (l0.length : Int) := od
      obtain ⟨ad201, e201, hx201_0, hx201_1, hx201_2, hx201_3, hx201_4, hx201_5, hx201_6⟩ := at_T56 HR0.out x13_1 p201 q201
      cases e201
      replace p201 := eq_true p201
      replace q201 := eq_true q201
      have p202 : 0 ≤ (x13_1 : Int) := od
      have q202 : x13_1 < (l1.length : Int) := od
      obtain ⟨ad202, e202, hx202_0, hx202_1, hx202_2, hx202_3, hx202_4, hx202_5, hx202_6⟩ := at_T56 HR1.out x13_1 p202 q202
      cases e202
      replace p202 := eq_true p202
      replace q202 := eq_true q202
      go_wp2
      repeat (go_quiet (fail); try go_wp2)
      go_roundg k1
      case measure => have := HK1.out; omega
      case rel => exact ⟨(wrap64 (x13_1 + 1)), rs_, H', ⟨by have := HK1.out; omega⟩, dr_⟩
    ·
     rw [if_neg c4] at H
     have c4b0 : decide (x13_1 < (l0.length : Int)) = false := decide_eq_false c4
     clear c4
     obtain rfl := Option.some.inj H
     go_wp2
     repeat (go_quiet (fail); try go_wp2)
     go_ret
     exact ⟨rs_, dr_⟩
 ·
  rw [if_neg c3] at H
  have c3b0 : ((l0.length : Int) == (l1.length : Int)) = false := beq_eq_false_iff_ne.mpr c3
  have c3b1 : ((l0.length : Int) != (l1.length : Int)) = true := bne_iff_ne.mpr c3
  have c3b2 : (l0.length == l1.length) = false := by first | simpa using c3 | (simp at c3 ⊢; omega)
  obtain rfl := Option.some.inj H
  go_enter Try.func37, Try.ntmps37
  go_wp2
  repeat (go_quiet (fail); try go_wp2)
  go_ret
  exact ⟨rs_, dr_⟩
def emit_Same.f (k : Nat) (a0_0 : Int) (a0_1 : Int) (l0_2 : List (S56)) (a1_0 : Int) (a1_1 : Int) (l1_2 : List (S56)) : Option (Bool) := if a0_0 = a1_0 then (if a0_1 = a1_1 then ((api_Item_37.f k l0_2 l1_2).bind fun t205 => (some t205)) else (some false)) else (some false)
theorem emit_Same.mono : ∀ a0 a1 a2 a3 a4 a5 k, LeO (emit_Same.f k a0 a1 a2 a3 a4 a5) (emit_Same.f (k + 1) a0 a1 a2 a3 a4 a5) := by
 intro a0 a1 a2 a3 a4 a5 k
 unfold emit_Same.f
 exact lo
instance emit_Same.mI {a0 a1 a2 a3 a4 a5 k} : LeC (emit_Same.f k a0 a1 a2 a3 a4 a5) (emit_Same.f (k + 1) a0 a1 a2 a3 a4 a5) := ⟨emit_Same.mono _ _ _ _ _ _ _⟩
theorem emit_Same.calls (k : Nat) (a0_0 : Int) (a0_1 : Int) (A0_2 : Option Addr) (c0_2 : Nat) (l0_2 : List (S56)) (a1_0 : Int) (a1_1 : Int) (A1_2 : Option Addr) (c1_2 : Nat) (l1_2 : List (S56)) (r : Bool) (w : World) (hr0_2 : Kd.C k56 w A0_2 l0_2.length l0_2) (hc0_2 : l0_2.length ≤ c0_2) (hr1_2 : Kd.C k56 w A1_2 l1_2.length l1_2) (hc1_2 : l1_2.length ≤ c1_2) (h : emit_Same.f k a0_0 a0_1 l0_2 a1_0 a1_1 l1_2 = some r) :
 Calls Try.prog 15 #[.agg #[.int .i64 a0_0, .int .i64 a0_1, .slice A0_2 l0_2.length c0_2], .agg #[.int .i64 a1_0, .int .i64 a1_1, .slice A1_2 l1_2.length c1_2]] w fun e w' => e = .returned (.bool r) ∧ Below w.heap.size w w' := by
 have hu38 := Try.underlying38
 have HR0_2 := Aside0.mk hr0_2
 have HC0_2 := Aside0.mk hc0_2
 clear hr0_2 hc0_2
 have HR1_2 := Aside0.mk hr1_2
 have HC1_2 := Aside0.mk hc1_2
 clear hr1_2 hc1_2
 have HB := Aside0.mk (Below.refl w.heap.size w)
 have H : (if a0_0 = a1_0 then (if a0_1 = a1_1 then ((api_Item_37.f k l0_2 l1_2).bind fun t205 => (some t205)) else (some false)) else (some false)) = some r := h
 clear h
 by_cases c3 : a0_0 = a1_0
 ·
  rw [if_pos c3] at H
  have c3b0 : (a0_0 == a1_0) = true := beq_iff_eq.mpr c3
  have c3b1 : (a0_0 != a1_0) = false := bne_eq_false_iff_eq.mpr c3
  clear c3
  by_cases c4 : a0_1 = a1_1
  ·
   rw [if_pos c4] at H
   have c4b0 : (a0_1 == a1_1) = true := beq_iff_eq.mpr c4
   have c4b1 : (a0_1 != a1_1) = false := bne_eq_false_iff_eq.mpr c4
   clear c4
   obtain ⟨t205, A5, H⟩ := bs H
   try dsimp only at H
   obtain rfl := Option.some.inj H
   go_enter Try.func15, Try.ntmps15
   go_wp2_with (first | ((with_reducible refine gate_dst (N := 2) rfl ?_); refine bx (N := 2) #[.int .i64 a0_0, .int .i64 a0_1, .slice A0_2 l0_2.length c0_2] 38 ?_; intro gb203 hg w6 hbox hb; have BK203 := Aside0.mk (hbox); have GW203 := gw hg (uW HB.out); have GE203 := GW203; replace HB := cW HB hb; clear hb hbox hg) | ((with_reducible refine gate_dst (N := 3) rfl ?_); refine bx (N := 3) #[.int .i64 a1_0, .int .i64 a1_1, .slice A1_2 l1_2.length c1_2] 38 ?_; intro gb204 hg w7 hbox hb; have BK204 := Aside0.mk (hbox); have GW204 := gw hg bl; have GE204 := GW204; replace HB := Aside0.mk (below_step bl hb); have NB203_204 := nl BK203 hg; have NB204_203 := nr BK203 hg; replace BK203 := cB BK203 hb; clear hb hbox hg; have hnb8 := NB203_204.out; have hnc8 := NB204_203.out; obtain ⟨hcz9_0, hcz9_1, hcz9_2, hfz9_0, hfz9_1, hfz9_2⟩ := z3 BK203; obtain ⟨hcz10_0, hcz10_1, hcz10_2, hfz10_0, hfz10_1, hfz10_2⟩ := z3 BK204) | (go_at_call 37; (with_reducible refine (api_Item_37.calls k _ _ l0_2 _ _ l1_2 t205 _ ?side1 ?side2 ?side3 ?side4 A5.out).mono ?_); (case side1 => exact uC <| (Kd.C_below HR0_2.out HB.out)); (case side2 => exact HC0_2.out); (case side3 => exact uC <| (Kd.C_below HR1_2.out HB.out)); (case side4 => exact HC1_2.out); rintro e w' ⟨rfl, ⟨nd, rfl⟩⟩))
   go_ret
   exact ⟨re_, bl⟩
  ·
   rw [if_neg c4] at H
   have c4b0 : (a0_1 == a1_1) = false := beq_eq_false_iff_ne.mpr c4
   have c4b1 : (a0_1 != a1_1) = true := bne_iff_ne.mpr c4
   obtain rfl := Option.some.inj H
   go_enter Try.func15, Try.ntmps15
   go_wp2_with (first | ((with_reducible refine gate_dst (N := 2) rfl ?_); refine bx (N := 2) #[.int .i64 a0_0, .int .i64 a0_1, .slice A0_2 l0_2.length c0_2] 38 ?_; intro gb203 hg w11 hbox hb; have BK203 := Aside0.mk (hbox); have GW203 := gw hg (uW HB.out); have GE203 := GW203; replace HB := cW HB hb; clear hb hbox hg) | ((with_reducible refine gate_dst (N := 3) rfl ?_); refine bx (N := 3) #[.int .i64 a1_0, .int .i64 a1_1, .slice A1_2 l1_2.length c1_2] 38 ?_; intro gb204 hg w12 hbox hb; have BK204 := Aside0.mk (hbox); have GW204 := gw hg bl; have GE204 := GW204; replace HB := Aside0.mk (below_step bl hb); have NB203_204 := nl BK203 hg; have NB204_203 := nr BK203 hg; replace BK203 := cB BK203 hb; clear hb hbox hg; have hnb13 := NB203_204.out; have hnc13 := NB204_203.out; obtain ⟨hcz14_0, hcz14_1, hcz14_2, hfz14_0, hfz14_1, hfz14_2⟩ := z3 BK203; obtain ⟨hcz15_0, hcz15_1, hcz15_2, hfz15_0, hfz15_1, hfz15_2⟩ := z3 BK204))
   go_ret
   exact ⟨re_, bl⟩
 ·
  rw [if_neg c3] at H
  have c3b0 : (a0_0 == a1_0) = false := beq_eq_false_iff_ne.mpr c3
  have c3b1 : (a0_0 != a1_0) = true := bne_iff_ne.mpr c3
  obtain rfl := Option.some.inj H
  go_enter Try.func15, Try.ntmps15
  go_wp2_with (first | ((with_reducible refine gate_dst (N := 2) rfl ?_); refine bx (N := 2) #[.int .i64 a0_0, .int .i64 a0_1, .slice A0_2 l0_2.length c0_2] 38 ?_; intro gb203 hg w16 hbox hb; have BK203 := Aside0.mk (hbox); have GW203 := gw hg (uW HB.out); have GE203 := GW203; replace HB := cW HB hb; clear hb hbox hg) | ((with_reducible refine gate_dst (N := 3) rfl ?_); refine bx (N := 3) #[.int .i64 a1_0, .int .i64 a1_1, .slice A1_2 l1_2.length c1_2] 38 ?_; intro gb204 hg w17 hbox hb; have BK204 := Aside0.mk (hbox); have GW204 := gw hg bl; have GE204 := GW204; replace HB := Aside0.mk (below_step bl hb); have NB203_204 := nl BK203 hg; have NB204_203 := nr BK203 hg; replace BK203 := cB BK203 hb; clear hb hbox hg; have hnb18 := NB203_204.out; have hnc18 := NB204_203.out; obtain ⟨hcz19_0, hcz19_1, hcz19_2, hfz19_0, hfz19_1, hfz19_2⟩ := z3 BK203; obtain ⟨hcz20_0, hcz20_1, hcz20_2, hfz20_0, hfz20_1, hfz20_2⟩ := z3 BK204))
  go_ret
  exact ⟨re_, bl⟩
def r11_Right.l0 : Nat → Int → List (S70) → Option (Bool)
 | 0, _, _ => none
 | k + 1, x3, x207000 => if x3 < (x207000.length : Int) then (none) else (some true)
def r11_Right.f (k : Nat) (l0_0 : List (S70)) : Option (Bool) := r11_Right.l0 k 0 l0_0
theorem r11_Right.mono_l : ∀ k, (∀ y0 y1, LeC (r11_Right.l0 k y0 y1) (r11_Right.l0 (k + 1) y0 y1))
 | 0 => fun _ _ => ⟨fun r h => by simp [r11_Right.l0] at h⟩
 | k + 1 => by have ih0 := r11_Right.mono_l k; exact fun _ _ => by unfold r11_Right.l0; exact lm
theorem r11_Right.mono : ∀ a0 k, LeO (r11_Right.f k a0) (r11_Right.f (k + 1) a0) := by
 intro a0 k
 have ih0 := r11_Right.mono_l k
 unfold r11_Right.f
 exact lo
instance r11_Right.mI {a0 k} : LeC (r11_Right.f k a0) (r11_Right.f (k + 1) a0) := ⟨r11_Right.mono _ _⟩
theorem r11_Right.calls (k : Nat) (A0_0 : Option Addr) (c0_0 : Nat) (l0_0 : List (S70)) (r : Bool) (w : World) (hr0_0 : Kd.C k70 w A0_0 l0_0.length l0_0) (hc0_0 : l0_0.length ≤ c0_0) (h : r11_Right.f k l0_0 = some r) :
 Calls Try.prog 40 #[.agg #[.slice A0_0 l0_0.length c0_0]] w fun e w' => e = .returned (.bool r) ∧ Below w.heap.size w w' := by
 have hu50 := Try.underlying50
 have hu70 := Try.underlying70
 have HR0_0 := Aside0.mk hr0_0
 have HC0_0 := Aside0.mk hc0_0
 clear hr0_0 hc0_0
 have HB := Aside0.mk (Below.refl w.heap.size w)
 have H : (r11_Right.l0 k 0 l0_0) = some r := h
 clear h
 have H' := Aside0.mk H
 clear H
 go_enter Try.func40, Try.ntmps40
 go_wp2_with (first | ((with_reducible refine gate_dst (N := 1) rfl ?_); refine bx (N := 1) #[.slice A0_0 l0_0.length c0_0] 50 ?_; intro gb206 hg w2 hbox hb; have BK206 := Aside0.mk (hbox); have GW206 := gw hg (uW HB.out); have GE206 := GW206; replace HB := cW HB hb; clear hb hbox hg))
 go_loopg [3] k (fun kq v3 w' => ∃ (x3_1 : Int), v3 = .int .i64 x3_1 ∧ Aside0 (r11_Right.l0 kq x3_1 l0_0 = some r) ∧ Aside0 (kq ≤ k) ∧ Aside0 (w'.heap[gb206]? = some (.cells #[(.slice A0_0 l0_0.length c0_0)] 50 (0, 0))) ∧ Aside0 (Below w.heap.size w w'))
 case atStart => exact ⟨(0), rs_, H', ⟨Nat.le_refl _⟩, ⟨uB BK206.out⟩, ⟨bl⟩⟩
 case round =>
  clear H'
  obtain ⟨x3_1, rfl, HA, HK1, BK206, HB⟩ := hrel
  cases gk with
  | zero => exact absurd HA.out (by simp [r11_Right.l0])
  | succ k1 =>
   have H := HA.out
   clear HA
   simp only [r11_Right.l0] at H
   obtain ⟨c3b0, H⟩ := gnn H
   obtain rfl := Option.some.inj H
   obtain ⟨hcz4_0, hfz4_0⟩ := z1 BK206
   go_wp2
   go_ret
   exact ⟨re_, bl⟩
def r11_less.f (a0_0 : Int) (a0_1 : ByteArray) (l0_2 : List (S96)) (a1 : Int) (a2 : ByteArray) : Option (Bool) := none
theorem r11_less.calls (a0_0 : Int) (a0_1 : ByteArray) (A0_2 : Option Addr) (c0_2 : Nat) (l0_2 : List (S96)) (a1 : Int) (a2 : ByteArray) (r : Bool) (w : World) (hr0_2 : Kd.C k96 w A0_2 l0_2.length l0_2) (hc0_2 : l0_2.length ≤ c0_2) (h : r11_less.f a0_0 a0_1 l0_2 a1 a2 = some r) :
 Calls Try.prog 41 #[.agg #[.int .i64 a0_0, .string a0_1, .slice A0_2 l0_2.length c0_2], .int .i64 a1, .string a2] w fun e w' => e = .returned (.bool r) ∧ Below w.heap.size w w' := by
 have hu70 := Try.underlying70
 have HR0_2 := Aside0.mk hr0_2
 have HC0_2 := Aside0.mk hc0_2
 clear hr0_2 hc0_2
 have HB := Aside0.mk (Below.refl w.heap.size w)
 have H : (none) = some r := h
 clear h
 exact absurd H (by simp)
def r06_Fold.f (a0_0 : Int) (a0_1 : Int) (a0_2 : Bool) (a0_3 : Int) (a0_4 : Int) (a1 : Int) : Option (Int × Int × Bool × Int × Int) := if a0_0 < 1 then (some (1, a1, false, a1, a1)) else (none)
theorem r06_Fold.calls (a0_0 : Int) (a0_1 : Int) (a0_2 : Bool) (a0_3 : Int) (a0_4 : Int) (a1 : Int) (r1 : Int) (r2 : Int) (r3 : Bool) (r4 : Int) (r5 : Int) (w : World) (h : r06_Fold.f a0_0 a0_1 a0_2 a0_3 a0_4 a1 = some (r1, r2, r3, r4, r5)) :
 Calls Try.prog 43 #[.agg #[.int .i64 a0_0, .int .i64 a0_1, .bool a0_2, .int .i64 a0_3, .int .i64 a0_4], .int .i64 a1] w fun e w' => e = .returned (.agg #[.int .i64 r1, .int .i64 r2, .bool r3, .int .i64 r4, .int .i64 r5]) ∧ Below w.heap.size w w' := by
 have hu54 := Try.underlying54
 have hu52 := Try.underlying52
 have HB := Aside0.mk (Below.refl w.heap.size w)
 have H : (if a0_0 < 1 then (some (1, a1, false, a1, a1)) else (none)) = some (r1, r2, r3, r4, r5) := h
 clear h
 by_cases c3 : a0_0 < 1
 ·
  rw [if_pos c3] at H
  have c3b0 : decide (a0_0 < 1) = true := decide_eq_true c3
  clear c3
  simp only [Option.some.injEq, Prod.mk.injEq] at H
  obtain ⟨rfl, rfl, rfl, rfl, rfl⟩ := H
  go_enter Try.func43, Try.ntmps43
  go_wp2_with (first | ((with_reducible refine gate_dst (N := 2) rfl ?_); refine bx (N := 2) #[.int .i64 a0_0, .int .i64 a0_1, .bool a0_2, .int .i64 a0_3, .int .i64 a0_4] 54 ?_; intro gb208 hg w4 hbox hb; have BK208 := Aside0.mk (hbox); have GW208 := gw hg (uW HB.out); have GE208 := GW208; replace HB := cW HB hb; clear hb hbox hg) | ((with_reducible refine gate_dst (N := 4) rfl ?_); refine bx (N := 4) #[.int .i64 0, .int .i64 0, .bool false, .int .i64 0, .int .i64 0] 54 ?_; intro gb209 hg w5 hbox hb; have BK209 := Aside0.mk (hbox); have GW209 := gw hg bl; have GE209 := GW209; replace HB := Aside0.mk (below_step bl hb); have NB208_209 := nl BK208 hg; have NB209_208 := nr BK208 hg; replace BK208 := cB BK208 hb; clear hb hbox hg; have hnb6 := NB208_209.out; have hnc6 := NB209_208.out; obtain ⟨hcz7_0, hcz7_1, hcz7_2, hcz7_3, hcz7_4, hfz7_0, hfz7_1, hfz7_2, hfz7_3, hfz7_4⟩ := z5 BK208; obtain ⟨hcz8_0, hcz8_1, hcz8_2, hcz8_3, hcz8_4, hfz8_0, hfz8_1, hfz8_2, hfz8_3, hfz8_4⟩ := z5 BK209) | ((with_reducible refine gate_store (t := 54) (p := 4) rfl ?_); refine store_event (t := 54) (p := 4) (v := ?vo_w9) (w1 := (((((w5.setCell ⟨gb209, 0, none⟩ (.int .i64 1)).setCell ⟨gb209, 1, none⟩ (.int .i64 a1)).setCell ⟨gb209, 2, none⟩ (.bool false)).setCell ⟨gb209, 3, none⟩ (.int .i64 a1)).setCell ⟨gb209, 4, none⟩ (.int .i64 a1))) ?hg ?ho ?hn ?hr ?_; (case ho => rfl); (case hg => rfl); (case hn => rfl); (case hr => first | (go_simp; done) | (go_simp; rfl)); intro w9 hw; replace BK208 := fgF hw BK208 NB208_209; replace HB : Aside0 (Below w.heap.size w w9) := fgW hw bl; replace BK209 := fgB hw BK209; clear hw))
  refine bodyPost_ret (results_cell_row rfl _ _ gb209 54 #[.int .i64 1, .int .i64 a1, .bool false, .int .i64 a1, .int .i64 a1] (0, 0) _ rfl (uB BK209.out) Try.underlying54 rfl (by kernel_rfl)) rfl ?_
  exact ⟨re_, bl⟩
 ·
  rw [if_neg c3] at H
  exact absurd H (by simp)
def r10_Right.l0 : Nat → List (S96) → Int → Option (Bool)
 | 0, _, _ => none
 | k + 1, x0, x3 => if x3 < (x0.length : Int) then (if 0 ≤ x3 then (if ((rd_T96 x0 x3).f0) < 1 then (none) else (if ((rd_T96 x0 x3).f0) > 1000000000000000 then (none) else (if x3 > 0 then (if 0 ≤ (wrap64 (x3 - 1)) then (if (wrap64 (x3 - 1)) < (x0.length : Int) then (if ((rd_T96 x0 (wrap64 (x3 - 1))).f0) ≥ ((rd_T96 x0 x3).f0) then (none) else (r10_Right.l0 k x0 (wrap64 (x3 + 1)))) else (none)) else (none)) else (r10_Right.l0 k x0 (wrap64 (x3 + 1)))))) else (none)) else (some true)
def r10_Right.f (k : Nat) (l0 : List (S96)) : Option (Bool) := r10_Right.l0 k l0 0
theorem r10_Right.mono_l : ∀ k, (∀ y0 y1, LeC (r10_Right.l0 k y0 y1) (r10_Right.l0 (k + 1) y0 y1))
 | 0 => fun _ _ => ⟨fun r h => by simp [r10_Right.l0] at h⟩
 | k + 1 => by have ih0 := r10_Right.mono_l k; exact fun _ _ => by unfold r10_Right.l0; exact lm
theorem r10_Right.mono : ∀ a0 k, LeO (r10_Right.f k a0) (r10_Right.f (k + 1) a0) := by
 intro a0 k
 have ih0 := r10_Right.mono_l k
 unfold r10_Right.f
 exact lo
instance r10_Right.mI {a0 k} : LeC (r10_Right.f k a0) (r10_Right.f (k + 1) a0) := ⟨r10_Right.mono _ _⟩
theorem r10_Right.calls (k : Nat) (A0 : Option Addr) (c0 : Nat) (l0 : List (S96)) (r : Bool) (w : World) (hr0 : Kd.C k96 w A0 l0.length l0) (hc0 : l0.length ≤ c0) (h : r10_Right.f k l0 = some r) :
 Calls Try.prog 54 #[.slice A0 l0.length c0] w fun e w' => e = .returned (.bool r) ∧ Drawn0 w w' := by
 have HR0 := Aside0.mk hr0
 have HC0 := Aside0.mk hc0
 clear hr0 hc0
 have H : (r10_Right.l0 k l0 0) = some r := h
 clear h
 have H' := Aside0.mk H
 clear H
 go_enter Try.func54, Try.ntmps54
 go_wp2
 repeat (go_quiet (fail); try go_wp2)
 go_loopg [3] k (fun kq v3 w' => ∃ (x3_1 : Int), v3 = .int .i64 x3_1 ∧ Aside0 (r10_Right.l0 kq l0 x3_1 = some r) ∧ Aside0 (kq ≤ k) ∧ Drawn0 w w')
 case atStart => exact ⟨(0), rs_, H', ⟨Nat.le_refl _⟩, dr_⟩
 case round =>
  clear H'
  obtain ⟨x3_1, rfl, HA, HK1, ⟨m1, rfl⟩⟩ := hrel
  cases gk with
  | zero => exact absurd HA.out (by simp [r10_Right.l0])
  | succ k1 =>
   have H := HA.out
   clear HA
   simp only [r10_Right.l0] at H
   by_cases c2 : x3_1 < (l0.length : Int)
   ·
    rw [if_pos c2] at H
    have c2b0 : decide (x3_1 < (l0.length : Int)) = true := decide_eq_true c2
    clear c2
    obtain ⟨c3b0, H⟩ := gdd H
    obtain ⟨c4b0, H⟩ := gnn H
    obtain ⟨c5b0, H⟩ := gnn H
    by_cases c6 : x3_1 > 0
    ·
     rw [if_pos c6] at H
     have c6b0 : decide (0 < x3_1) = true := decide_eq_true c6
     clear c6
     obtain ⟨ji7, hji7⟩ : ∃ j_ : Int, (wrap64 (x3_1 - 1)) = j_ := ⟨_, rfl⟩
     (first | rw [hji7] at H | simp only [hji7] at H)
     have hji7w : (IntKind.i64.wrap (x3_1 - 1)) = ji7 := (i64_w _).trans hji7
     obtain ⟨c8b0, H⟩ := gdd H
     obtain ⟨c9b0, H⟩ := gdd H
     obtain ⟨c10b0, H⟩ := gnn H
     have H' := Aside0.mk H
     clear H
     have p210 : 0 ≤ (x3_1 : Int) := od
     have q210 : x3_1 < (l0.length : Int) := od
     obtain ⟨ad210, e210, hx210_0, hx210_1, hx210_2, hx210_3, hx210_4, hx210_5⟩ := at_T96 HR0.out x3_1 p210 q210
     cases e210
     replace p210 := eq_true p210
     replace q210 := eq_true q210
     have p211 : 0 ≤ (x3_1 : Int) := od
     have q211 : x3_1 < (l0.length : Int) := od
     obtain ⟨ad211, e211, hx211_0, hx211_1, hx211_2, hx211_3, hx211_4, hx211_5⟩ := at_T96 HR0.out x3_1 p211 q211
     obtain rfl : ad210 = ad211 := (by injection e211)
     replace p211 := eq_true p211
     replace q211 := eq_true q211
     have p212 : 0 ≤ ((ji7) : Int) := od
     have q212 : (ji7) < (l0.length : Int) := od
     obtain ⟨ad212, e212, hx212_0, hx212_1, hx212_2, hx212_3, hx212_4, hx212_5⟩ := at_T96 HR0.out (ji7) p212 q212
     obtain rfl : ad210 = ad212 := (by injection e212)
     replace p212 := eq_true p212
     replace q212 := eq_true q212
     have p213 : 0 ≤ (x3_1 : Int) := od
     have q213 : x3_1 < (l0.length : Int) := od
     obtain ⟨ad213, e213, hx213_0, hx213_1, hx213_2, hx213_3, hx213_4, hx213_5⟩ := at_T96 HR0.out x3_1 p213 q213
     obtain rfl : ad210 = ad213 := (by injection e213)
     replace p213 := eq_true p213
     replace q213 := eq_true q213
     go_wp2
     repeat (go_quiet (fail); try go_wp2)
     go_roundg k1
     case measure => have := HK1.out; omega
     case rel => exact ⟨(wrap64 (x3_1 + 1)), rs_, H', ⟨by have := HK1.out; omega⟩, dr_⟩
    ·
     rw [if_neg c6] at H
     have c6b0 : decide (0 < x3_1) = false := decide_eq_false c6
     clear c6
     have H' := Aside0.mk H
     clear H
     have p210 : 0 ≤ (x3_1 : Int) := od
     have q210 : x3_1 < (l0.length : Int) := od
     obtain ⟨ad210, e210, hx210_0, hx210_1, hx210_2, hx210_3, hx210_4, hx210_5⟩ := at_T96 HR0.out x3_1 p210 q210
     cases e210
     replace p210 := eq_true p210
     replace q210 := eq_true q210
     have p211 : 0 ≤ (x3_1 : Int) := od
     have q211 : x3_1 < (l0.length : Int) := od
     obtain ⟨ad211, e211, hx211_0, hx211_1, hx211_2, hx211_3, hx211_4, hx211_5⟩ := at_T96 HR0.out x3_1 p211 q211
     obtain rfl : ad210 = ad211 := (by injection e211)
     replace p211 := eq_true p211
     replace q211 := eq_true q211
     go_wp2
     repeat (go_quiet (fail); try go_wp2)
     go_roundg k1
     case measure => have := HK1.out; omega
     case rel => exact ⟨(wrap64 (x3_1 + 1)), rs_, H', ⟨by have := HK1.out; omega⟩, dr_⟩
   ·
    rw [if_neg c2] at H
    have c2b0 : decide (x3_1 < (l0.length : Int)) = false := decide_eq_false c2
    clear c2
    obtain rfl := Option.some.inj H
    go_wp2
    repeat (go_quiet (fail); try go_wp2)
    go_ret
    exact ⟨rs_, dr_⟩
def r10_Put.f (k : Nat) (l0 : List (S96)) (l1 : List (S96)) : Option ((List (S96)) × Int) := (some (([] : List (S96)) : List (S96))).bind fun y214 => (if y214.length + l0.length < 2932031007402 then ((some (y214 ++ l0 : List (S96))).bind fun y217 => (if y217.length + l1.length < 2932031007402 then ((some (y217 ++ l1 : List (S96))).bind fun y220 => ((r10_Right.f k y220).bind fun t223 => (if t223 = true then (some (y220, 0)) else (none)))) else (none))) else (none))
theorem r10_Put.mono : ∀ a0 a1 k, LeO (r10_Put.f k a0 a1) (r10_Put.f (k + 1) a0 a1) := by
 intro a0 a1 k
 unfold r10_Put.f
 exact lo
instance r10_Put.mI {a0 a1 k} : LeC (r10_Put.f k a0 a1) (r10_Put.f (k + 1) a0 a1) := ⟨r10_Put.mono _ _ _⟩
theorem r10_Put.calls (k : Nat) (A0 : Option Addr) (c0 : Nat) (l0 : List (S96)) (A1 : Option Addr) (c1 : Nat) (l1 : List (S96)) (r1 : List (S96)) (r2 : Int) (w : World) (hr0 : Kd.C k96 w A0 l0.length l0) (hc0 : l0.length ≤ c0) (hr1 : Kd.C k96 w A1 l1.length l1) (hc1 : l1.length ≤ c1) (h : r10_Put.f k l0 l1 = some (r1, r2)) :
 Calls Try.prog 55 #[.slice A0 l0.length c0, .slice A1 l1.length c1] w fun e w' => ∃ v0_ : Value, e = .returned (.tuple #[v0_, .int .i64 r2]) ∧ Kd.R k96 96 w' w.heap.size (fun _ => True) v0_ r1 ∧ Below w.heap.size w w' := by
 have HR0 := Aside0.mk hr0
 have HC0 := Aside0.mk hc0
 clear hr0 hc0
 have HR1 := Aside0.mk hr1
 have HC1 := Aside0.mk hc1
 clear hr1 hc1
 have HB := Aside0.mk (Below.refl w.heap.size w)
 have H : ((some (([] : List (S96)) : List (S96))).bind fun y214 => (if y214.length + l0.length < 2932031007402 then ((some (y214 ++ l0 : List (S96))).bind fun y217 => (if y217.length + l1.length < 2932031007402 then ((some (y217 ++ l1 : List (S96))).bind fun y220 => ((r10_Right.f k y220).bind fun t223 => (if t223 = true then (some (y220, 0)) else (none)))) else (none))) else (none))) = some (r1, r2) := h
 clear h
 obtain ⟨y214, Ny214, H⟩ := ys H
 try dsimp only at H
 by_cases c3 : y214.length + l0.length < 2932031007402
 ·
  rw [if_pos c3] at H
  have LMc3 := Aside0.mk c3
  clear c3
  obtain ⟨y217, Ny217, H⟩ := ys H
  try dsimp only at H
  obtain ⟨c4, H⟩ := gd H
  have LMc4 := Aside0.mk c4
  clear c4
  obtain ⟨y220, Ny220, H⟩ := ys H
  try dsimp only at H
  obtain ⟨t223, A5, H⟩ := bs H
  try dsimp only at H
  by_cases c6 : t223 = true
  ·
   subst c6
   rw [if_pos rfl] at H
   simp only [Option.some.injEq, Prod.mk.injEq] at H
   obtain ⟨rfl, rfl⟩ := H
   go_enter Try.func55, Try.ntmps55
   go_wp2_with (first | ((with_reducible refine gate_dst (N := 7) rfl ?_); refine Kd.R_lit k96 _ 96 ?hg (N := 7) ?hd (xs := ([] : List (S96))) (inner := []) (ok := fun _ => True) (okp := fun _ => True) ?hr ?hp (fun _ hk => hk) trivial (Below.refl _ _) (Nat.le_refl _) (by simp) ?_; (case hd => rfl); (case hg => rfl); (case hr => first | (go_simp; done) | (go_simp; rfl)); (case hp => exact (Reps.none _ _)); intro v215 w7 ho8 hb hg_ hnew_; clear hg_ hnew_; (first | rw [← Ny214.out] at ho8 | (simp only [Int.reduceToNat] at ho8; rw [← Ny214.out] at ho8)); have HO216 := Aside0.mk (Kd.R_lower ho8 (below_size (uW HB.out))); replace HB := cW HB hb; clear hb ho8) | ((with_reducible refine gate_builtin (b := .append) (xs := #[.tmp 7, .tmp 8]) rfl ?_); at_builtin; refine Kd.R_append_rows k96 (w0 := w) w.heap.size rfl (.tmp 7) (.tmp 8) 68 96 (.agg #[(.int .i64 0), (.int .i64 0), (.int .i64 0), (.bool false), (.int .i64 0), (.int .i64 0)]) 48 rfl Try.underlying68 info96 rfl (by decide) (by omega) v215 y214 l0 _ _ _ (fun _ => True) (fun _ => False) rfl rfl ?aO ?aR (fun _ _ h => h) (fun _ h => h.elim) ?aF ?aB ?aS ?aL ?_; (case aR => exact uC <| (Kd.C_below HR0.out HB.out)); (case aB => exact (uW HB.out)); (case aF => exact (fun _ _ => trivial)); (case aO => exact (uR HO216.out)); (case aS => exact (below_size (uW HB.out))); (case aL => have := LMc3.out; omega); intro v218 w9 ho hb hg hat; rw [← Ny217.out] at ho; replace HB := Aside0.mk (hb); have HO219 := Aside0.mk (ho); clear HO216; clear ho hb hg hat) | ((with_reducible refine gate_builtin (b := .append) (xs := #[.tmp 9, .tmp 10]) rfl ?_); at_builtin; refine Kd.R_append_rows k96 (w0 := w) w.heap.size rfl (.tmp 9) (.tmp 10) 68 96 (.agg #[(.int .i64 0), (.int .i64 0), (.int .i64 0), (.bool false), (.int .i64 0), (.int .i64 0)]) 48 rfl Try.underlying68 info96 rfl (by decide) (by omega) v218 y217 l1 _ _ _ (fun _ => True) (fun _ => False) rfl rfl ?aO ?aR (fun _ _ h => h) (fun _ h => h.elim) ?aF ?aB ?aS ?aL ?_; (case aR => exact uC <| (Kd.C_below HR1.out HB.out)); (case aB => exact (uW HB.out)); (case aF => exact (fun _ _ => trivial)); (case aO => exact (uR HO219.out)); (case aS => exact (below_size (uW HB.out))); (case aL => have := LMc4.out; omega); intro v221 w10 ho hb hg hat; rw [← Ny220.out] at ho; replace HB := Aside0.mk (hb); have HO222 := Aside0.mk (ho); clear HO219; clear ho hb hg hat; obtain ⟨Ao11, co11, eo11⟩ := Kd.R_slice HO222.out; subst eo11) | (refine gL (some 13) rfl Try.func54 #[.slice Ao11 y220.length co11] ?_; (with_reducible refine (r10_Right.calls k _ _ y220 true _ ?side1 ?side2 A5.out).mono ?_); (case side1 => exact uC <| (Kd.R_reads' HO222.out).2.2); (case side2 => exact (Kd.R_reads' HO222.out).2.1); rintro e w' ⟨rfl, ⟨nd, rfl⟩⟩; refine ⟨_, rfl, ?_⟩))
   go_ret2
   exact ⟨_, re_, uR HO222.out, uW HB.out⟩
  ·
   replace c6 := Bool.eq_false_iff.mpr c6
   subst c6
   rw [if_neg (show ¬ (false = true) by decide)] at H
   exact absurd H (by simp)
 ·
  rw [if_neg c3] at H
  exact absurd H (by simp)
def r10_Fold.f (k : Nat) (l0 : List (S96)) (a1 : Int) (a2 : Int) : Option ((List (S96)) × Int) := if (l0.length : Int) > 0 then (none) else ((r06_Fold.f 0 0 false 0 0 a2).bind fun bt225 => ((r10_Put.f k l0 (([(⟨a1, (⟨bt225.1, (⟨bt225.2.1, bt225.2.2.1⟩ : S52), bt225.2.2.2.1, bt225.2.2.2.2⟩ : S54)⟩ : S96)] : List (S96)))).bind fun bt233 => (some (bt233.1, bt233.2))))
theorem r10_Fold.mono : ∀ a0 a1 a2 k, LeO (r10_Fold.f k a0 a1 a2) (r10_Fold.f (k + 1) a0 a1 a2) := by
 intro a0 a1 a2 k
 unfold r10_Fold.f
 exact lo
instance r10_Fold.mI {a0 a1 a2 k} : LeC (r10_Fold.f k a0 a1 a2) (r10_Fold.f (k + 1) a0 a1 a2) := ⟨r10_Fold.mono _ _ _ _⟩
theorem r10_Fold.calls (k : Nat) (A0 : Option Addr) (c0 : Nat) (l0 : List (S96)) (a1 : Int) (a2 : Int) (r1 : List (S96)) (r2 : Int) (w : World) (hr0 : Kd.C k96 w A0 l0.length l0) (hc0 : l0.length ≤ c0) (h : r10_Fold.f k l0 a1 a2 = some (r1, r2)) :
 Calls Try.prog 42 #[.slice A0 l0.length c0, .int .i64 a1, .int .i64 a2] w fun e w' => ∃ v0_ : Value, e = .returned (.tuple #[v0_, .int .i64 r2]) ∧ Kd.R k96 96 w' w.heap.size (fun _ => True) v0_ r1 ∧ Below w.heap.size w w' := by
 have hu54 := Try.underlying54
 have hu96 := Try.underlying96
 have HR0 := Aside0.mk hr0
 have HC0 := Aside0.mk hc0
 clear hr0 hc0
 have HB := Aside0.mk (Below.refl w.heap.size w)
 have H : (if (l0.length : Int) > 0 then (none) else ((r06_Fold.f 0 0 false 0 0 a2).bind fun bt225 => ((r10_Put.f k l0 (([(⟨a1, (⟨bt225.1, (⟨bt225.2.1, bt225.2.2.1⟩ : S52), bt225.2.2.2.1, bt225.2.2.2.2⟩ : S54)⟩ : S96)] : List (S96)))).bind fun bt233 => (some (bt233.1, bt233.2))))) = some (r1, r2) := h
 clear h
 obtain ⟨c4, H⟩ := gn H
 have c4b0 : decide (0 < (l0.length : Int)) = false := decide_eq_false c4
 have c4b1 : decide (0 < l0.length) = false := decide_eq_false (by omega)
 clear c4
 obtain ⟨⟨t225, t226, t227, t228, t229⟩, A5, H⟩ := bs H
 try dsimp only at H
 obtain ⟨y230, hy230⟩ : ∃ y_ : List (S96), y_ = (([(⟨a1, (⟨t225, (⟨t226, t227⟩ : S52), t228, t229⟩ : S54)⟩ : S96)] : List (S96))) := ⟨_, rfl⟩
 replace H : ((r10_Put.f k l0 y230).bind fun bt233 => (some (bt233.1, bt233.2))) = some (r1, r2) := by first | (rw [hy230]; with_reducible exact H) | (have H2_ := (Option.bind_some _ _).symm.trans H; rw [hy230]; with_reducible exact H2_) | (have H2_ := (Option.bind_some _ _).symm.trans H; with_reducible exact H2_) | with_reducible exact H | (rw [hy230]; exact H) | exact H
 have Ny230 := Aside0.mk hy230
 clear hy230
 obtain ⟨⟨t233, t234⟩, A6, H⟩ := bs H
 try dsimp only at H
 simp only [Option.some.injEq, Prod.mk.injEq] at H
 obtain ⟨rfl, rfl⟩ := H
 go_enter Try.func42, Try.ntmps42
 go_wp2_with (first | ((with_reducible refine gate_dst (N := 8) rfl ?_); refine bx (N := 8) #[.int .i64 0, .int .i64 0, .bool false, .int .i64 0, .int .i64 0] 54 ?_; intro gb224 hg w7 hbox hb; have BK224 := Aside0.mk (hbox); have GW224 := gw hg (uW HB.out); have GE224 := GW224; replace HB := cW HB hb; clear hb hbox hg; obtain ⟨hcz8_0, hcz8_1, hcz8_2, hcz8_3, hcz8_4, hfz8_0, hfz8_1, hfz8_2, hfz8_3, hfz8_4⟩ := z5 BK224) | ((with_reducible refine gate_store (t := 54) (p := 8) rfl ?_); refine store_event (t := 54) (p := 8) (v := ?vo_w9) (w1 := (((((w7.setCell ⟨gb224, 0, none⟩ (.int .i64 0)).setCell ⟨gb224, 1, none⟩ (.int .i64 0)).setCell ⟨gb224, 2, none⟩ (.bool false)).setCell ⟨gb224, 3, none⟩ (.int .i64 0)).setCell ⟨gb224, 4, none⟩ (.int .i64 0))) ?hg ?ho ?hn ?hr ?_; (case ho => rfl); (case hg => rfl); (case hn => rfl); (case hr => first | (go_simp; done) | (go_simp; rfl)); intro w9 hw; replace HB : Aside0 (Below w.heap.size w w9) := fgW hw bl; replace BK224 := fgB hw BK224; clear hw; obtain ⟨hcz10_0, hcz10_1, hcz10_2, hcz10_3, hcz10_4, hfz10_0, hfz10_1, hfz10_2, hfz10_3, hfz10_4⟩ := z5 BK224) | (refine gL (some 24) rfl Try.func43 #[.agg #[.int .i64 0, .int .i64 0, .bool false, .int .i64 0, .int .i64 0], .int .i64 a2] ?_; (with_reducible refine (r06_Fold.calls 0 0 false 0 0 a2 t225 t226 t227 t228 t229 _ A5.out).mono ?_); rintro e w11 ⟨rfl, hb⟩; refine ⟨_, rfl, ?_⟩; replace BK224 := cB BK224 hb; replace HB := Aside0.mk (below_step bl hb); (try clear hb)) | ((with_reducible refine gate_dst (N := 26) rfl ?_); refine Kd.R_lit k96 _ 96 ?hg (N := 26) ?hd (xs := ([(⟨a1, (⟨t225, (⟨t226, t227⟩ : S52), t228, t229⟩ : S54)⟩ : S96)] : List (S96))) (inner := [.int .i64 a1, .int .i64 t225, .int .i64 t226, .bool t227, .int .i64 t228, .int .i64 t229]) (ok := fun _ => True) (okp := fun _ => True) ?hr ?hp (fun _ hk => hk) trivial (Below.refl _ _) (Nat.le_refl _) (by simp) ?_; (case hd => rfl); (case hg => rfl); (case hr => first | (go_simp; done) | (go_simp; rfl)); (case hp => exact (Reps.c6 (show Kd.M k96 _ _ _ (⟨a1, (⟨t225, (⟨t226, t227⟩ : S52), t228, t229⟩ : S54)⟩ : S96) [.int .i64 a1, .int .i64 t225, .int .i64 t226, .bool t227, .int .i64 t228, .int .i64 t229] from (k96_mkM _ _ _ (⟨a1, (⟨t225, (⟨t226, t227⟩ : S52), t228, t229⟩ : S54)⟩ : S96) )) (Reps.none _ _))); intro v231 w12 ho13 hb hg_ hnew_; clear hg_ hnew_; (first | rw [← Ny230.out] at ho13 | (simp only [Int.reduceToNat] at ho13; rw [← Ny230.out] at ho13)); have HO232 := Aside0.mk (Kd.R_lower ho13 (below_size bl)); replace BK224 := cB BK224 hb; replace HB := Aside0.mk (below_step bl hb); clear hb ho13; obtain ⟨Ao14, co14, eo14⟩ := Kd.R_slice HO232.out; subst eo14) | (refine gL (some 27) rfl Try.func55 #[.slice A0 l0.length c0, .slice Ao14 y230.length co14] ?_; (with_reducible refine (r10_Put.calls k _ _ l0 _ _ y230 t233 t234 _ ?side1 ?side2 ?side3 ?side4 A6.out).mono ?_); (case side1 => exact uC <| (Kd.C_below HR0.out HB.out)); (case side2 => exact HC0.out); (case side3 => exact uC <| (Kd.R_reads' HO232.out).2.2); (case side4 => exact (Kd.R_reads' HO232.out).2.1); rintro e w15 ⟨v235, rfl, ho0, hb⟩; refine ⟨_, rfl, ?_⟩; have HO236 := Aside0.mk (Kd.R_lower (Kd.R_new' ho0 (Kd.R_lt (uR HO232.out))) (below_size bl)); replace HO232 := Aside0.mk (Kd.R_elder' (uR HO232.out) (Kd.R_base ho0) hb); replace BK224 := cB BK224 hb; replace HB := Aside0.mk (below_step bl hb); (try clear hb); (try clear ho0)))
 go_ret2
 exact ⟨_, re_, by exact uR <| Kd.R_mono HO236.out (fun _ hk => trivial), bl⟩
end Go.Proofs.Ytklhjponikgkkaa.X
