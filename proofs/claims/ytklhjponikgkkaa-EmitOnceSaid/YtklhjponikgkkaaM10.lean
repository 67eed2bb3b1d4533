/- Printed by a program of this session's own: what functions of the program compute, and that the machine computes it. No condition of its own. -/
import Derived.Test.YtklhjponikgkkaaM3
namespace Go.Proofs.Ytklhjponikgkkaa.X
open Go.RowKit Go.Proofs.YtklhjponikgkkaaW.PrintWords Go.Proofs.YtklhjponikgkkaaW.PrintLast Go.Proofs.YtklhjponikgkkaaW.PrintMore
attribute [local go_sem] max2_int min2_int max_two min_two max_three min_three max_four min_four
set_option linter.unusedVariables false
set_option linter.unusedSimpArgs false
set_option maxHeartbeats 8000000
set_option maxRecDepth 100000
def ebbtideref11_Great.l0 : Nat → Int → List (S70) → Option (Bool)
 | 0, _, _ => none
 | k + 1, x3, x310000 => if x3 < (x310000.length : Int) then (if 0 ≤ x3 then (if (((rd_T70 x310000 x3).f2).length : Int) > 100 then (some true) else (if (((rd_T70 x310000 x3).f1).size : Int) > 300 then (some true) else (ebbtideref11_Great.l0 k (wrap64 (x3 + 1)) x310000))) else (none)) else (some false)
def ebbtideref11_Great.f (k : Nat) (l0_0 : List (S70)) : Option (Bool) := if (l0_0.length : Int) > 100 then (some true) else (ebbtideref11_Great.l0 k 0 l0_0)
theorem ebbtideref11_Great.mono_l : ∀ k, (∀ y0 y1, LeC (ebbtideref11_Great.l0 k y0 y1) (ebbtideref11_Great.l0 (k + 1) y0 y1))
 | 0 => fun _ _ => ⟨fun r h => by simp [ebbtideref11_Great.l0] at h⟩
 | k + 1 => by have ih0 := ebbtideref11_Great.mono_l k; exact fun _ _ => by unfold ebbtideref11_Great.l0; exact lm
theorem ebbtideref11_Great.mono : ∀ a0 k, LeO (ebbtideref11_Great.f k a0) (ebbtideref11_Great.f (k + 1) a0) := by
 intro a0 k
 have ih0 := ebbtideref11_Great.mono_l k
 unfold ebbtideref11_Great.f
 exact lo
instance ebbtideref11_Great.mI {a0 k} : LeC (ebbtideref11_Great.f k a0) (ebbtideref11_Great.f (k + 1) a0) := ⟨ebbtideref11_Great.mono _ _⟩
theorem ebbtideref11_Great.calls (k : Nat) (A0_0 : Option Addr) (c0_0 : Nat) (l0_0 : List (S70)) (r : Bool) (w : World) (hr0_0 : Kd.C k70 w A0_0 l0_0.length l0_0) (hc0_0 : l0_0.length ≤ c0_0) (h : ebbtideref11_Great.f k l0_0 = some r) :
 Calls Try.prog 30 #[.agg #[.slice A0_0 l0_0.length c0_0]] w fun e w' => e = .returned (.bool r) ∧ Below w.heap.size w w' := by
 have hu50 := Try.underlying50
 have HR0_0 := Aside0.mk hr0_0
 have HC0_0 := Aside0.mk hc0_0
 clear hr0_0 hc0_0
 have HB := Aside0.mk (Below.refl w.heap.size w)
 have H : (if (l0_0.length : Int) > 100 then (some true) else (ebbtideref11_Great.l0 k 0 l0_0)) = some r := h
 clear h
 by_cases c2 : (l0_0.length : Int) > 100
 ·
  rw [if_pos c2] at H
  have c2b0 : decide (100 < (l0_0.length : Int)) = true := decide_eq_true c2
  have c2b1 : decide (100 < l0_0.length) = true := decide_eq_true (by omega)
  clear c2
  obtain rfl := Option.some.inj H
  go_enter Try.func30, Try.ntmps30
  go_wp2_with (first | ((with_reducible refine gate_dst (N := 1) rfl ?_); (try (refine gate_guard (by rfl) ?_; dsimp only)); refine bx (N := 1) #[.slice A0_0 l0_0.length c0_0] 50 ?_; intro gb309 hg w3 hbox hb; have BK309 := Aside0.mk (hbox); have GW309 := gw hg (uW HB.out); have GE309 := GW309; replace HB := cW HB hb; clear hb hbox hg; obtain ⟨hcz4_0, hfz4_0⟩ := z1 BK309))
  go_ret
  exact ⟨re_, bl⟩
 ·
  rw [if_neg c2] at H
  have c2b0 : decide (100 < (l0_0.length : Int)) = false := decide_eq_false c2
  have c2b1 : decide (100 < l0_0.length) = false := decide_eq_false (by omega)
  clear c2
  have H' := Aside0.mk H
  clear H
  go_enter Try.func30, Try.ntmps30
  go_wp2_with (first | ((with_reducible refine gate_dst (N := 1) rfl ?_); (try (refine gate_guard (by rfl) ?_; dsimp only)); refine bx (N := 1) #[.slice A0_0 l0_0.length c0_0] 50 ?_; intro gb309 hg w5 hbox hb; have BK309 := Aside0.mk (hbox); have GW309 := gw hg (uW HB.out); have GE309 := GW309; replace HB := cW HB hb; clear hb hbox hg; obtain ⟨hcz6_0, hfz6_0⟩ := z1 BK309))
  go_loopg [3] k (fun kq v3 w' => ∃ (x3_1 : Int), v3 = .int .i64 x3_1 ∧ Aside0 (ebbtideref11_Great.l0 kq x3_1 l0_0 = some r) ∧ Aside0 (kq ≤ k) ∧ Aside0 (w'.heap[gb309]? = some (.cells #[(.slice A0_0 l0_0.length c0_0)] 50 (0, 0))) ∧ Aside0 (Below w.heap.size w w'))
  case atStart => exact ⟨(0), rs_, H', ⟨Nat.le_refl _⟩, ⟨uB BK309.out⟩, ⟨bl⟩⟩
  case round =>
   clear H'
   try clear c2
   try clear c2b0
   try clear c2b1
   try clear p2
   try clear c3
   try clear hcz4_0
   try clear hcz6_0
   try clear hfz4_0
   try clear hfz6_0
   obtain ⟨x3_1, rfl, HA, HK1, BK309, HB⟩ := hrel
   cases gk with
   | zero => exact absurd HA.out (by simp [ebbtideref11_Great.l0])
   | succ k1 =>
    have H := HA.out
    clear HA
    simp only [ebbtideref11_Great.l0] at H
    by_cases c7 : x3_1 < (l0_0.length : Int)
    ·
     rw [if_pos c7] at H
     have c7b0 : decide (x3_1 < (l0_0.length : Int)) = true := decide_eq_true c7
     clear c7
     obtain ⟨c8b0, H⟩ := gdd H
     by_cases c9 : (((rd_T70 l0_0 x3_1).f2).length : Int) > 100
     ·
      rw [if_pos c9] at H
      have c9b0 : decide (100 < (((rd_T70 l0_0 x3_1).f2).length : Int)) = true := decide_eq_true c9
      have c9b1 : decide (100 < ((rd_T70 l0_0 x3_1).f2).length) = true := decide_eq_true (by omega)
      clear c9
      obtain rfl := Option.some.inj H
      obtain ⟨hcz10_0, hfz10_0⟩ := z1 BK309
      have p310 : 0 ≤ (x3_1 : Int) := od
      have q310 : x3_1 < (l0_0.length : Int) := od
      obtain ⟨ad310, A310_2, c310_2, e310, hx310_0, hx310_1, hx310_2, hl310_2, hi310_2⟩ := at_T70 HR0_0.out x3_1 p310 q310
      cases e310
      replace hx310_0 := kc HB hx310_0
      replace hx310_1 := kc HB hx310_1
      replace hx310_2 := kc HB hx310_2
      have HR310_2 := Aside0.mk hi310_2
      have HC310_2 := Aside0.mk hl310_2
      clear hi310_2 hl310_2
      replace p310 := eq_true p310
      replace q310 := eq_true q310
      go_wp2
      go_ret
      exact ⟨re_, bl⟩
     ·
      rw [if_neg c9] at H
      have c9b0 : decide (100 < (((rd_T70 l0_0 x3_1).f2).length : Int)) = false := decide_eq_false c9
      have c9b1 : decide (100 < ((rd_T70 l0_0 x3_1).f2).length) = false := decide_eq_false (by omega)
      clear c9
      by_cases c11 : (((rd_T70 l0_0 x3_1).f1).size : Int) > 300
      ·
       rw [if_pos c11] at H
       have c11b0 : decide (300 < (((rd_T70 l0_0 x3_1).f1).size : Int)) = true := decide_eq_true c11
       have c11b1 : decide (300 < ((rd_T70 l0_0 x3_1).f1).size) = true := decide_eq_true (by omega)
       clear c11
       obtain rfl := Option.some.inj H
       obtain ⟨hcz12_0, hfz12_0⟩ := z1 BK309
       have p310 : 0 ≤ (x3_1 : Int) := od
       have q310 : x3_1 < (l0_0.length : Int) := od
       obtain ⟨ad310, A310_2, c310_2, e310, hx310_0, hx310_1, hx310_2, hl310_2, hi310_2⟩ := at_T70 HR0_0.out x3_1 p310 q310
       cases e310
       replace hx310_0 := kc HB hx310_0
       replace hx310_1 := kc HB hx310_1
       replace hx310_2 := kc HB hx310_2
       have HR310_2 := Aside0.mk hi310_2
       have HC310_2 := Aside0.mk hl310_2
       clear hi310_2 hl310_2
       replace p310 := eq_true p310
       replace q310 := eq_true q310
       have p311 : 0 ≤ (x3_1 : Int) := od
       have q311 : x3_1 < (l0_0.length : Int) := od
       obtain ⟨ad311, A311_2, c311_2, e311, hx311_0, hx311_1, hx311_2, hl311_2, hi311_2⟩ := at_T70 HR0_0.out x3_1 p311 q311
       obtain rfl : ad310 = ad311 := (by injection e311)
       replace hx311_0 := kc HB hx311_0
       replace hx311_1 := kc HB hx311_1
       replace hx311_2 := kc HB hx311_2
       have HR311_2 := Aside0.mk hi311_2
       have HC311_2 := Aside0.mk hl311_2
       clear hi311_2 hl311_2
       replace p311 := eq_true p311
       replace q311 := eq_true q311
       have ea_ := Option.some.inj (hx310_2.symm.trans hx311_2)
       injection ea_ with ea_ en_ ec_
       subst ea_
       subst ec_
       clear en_
       go_wp2
       go_ret
       exact ⟨re_, bl⟩
      ·
       rw [if_neg c11] at H
       have c11b0 : decide (300 < (((rd_T70 l0_0 x3_1).f1).size : Int)) = false := decide_eq_false c11
       have c11b1 : decide (300 < ((rd_T70 l0_0 x3_1).f1).size) = false := decide_eq_false (by omega)
       clear c11
       have H' := Aside0.mk H
       clear H
       obtain ⟨hcz13_0, hfz13_0⟩ := z1 BK309
       have p310 : 0 ≤ (x3_1 : Int) := od
       have q310 : x3_1 < (l0_0.length : Int) := od
       obtain ⟨ad310, A310_2, c310_2, e310, hx310_0, hx310_1, hx310_2, hl310_2, hi310_2⟩ := at_T70 HR0_0.out x3_1 p310 q310
       cases e310
       replace hx310_0 := kc HB hx310_0
       replace hx310_1 := kc HB hx310_1
       replace hx310_2 := kc HB hx310_2
       have HR310_2 := Aside0.mk hi310_2
       have HC310_2 := Aside0.mk hl310_2
       clear hi310_2 hl310_2
       replace p310 := eq_true p310
       replace q310 := eq_true q310
       have p311 : 0 ≤ (x3_1 : Int) := od
       have q311 : x3_1 < (l0_0.length : Int) := od
       obtain ⟨ad311, A311_2, c311_2, e311, hx311_0, hx311_1, hx311_2, hl311_2, hi311_2⟩ := at_T70 HR0_0.out x3_1 p311 q311
       obtain rfl : ad310 = ad311 := (by injection e311)
       replace hx311_0 := kc HB hx311_0
       replace hx311_1 := kc HB hx311_1
       replace hx311_2 := kc HB hx311_2
       have HR311_2 := Aside0.mk hi311_2
       have HC311_2 := Aside0.mk hl311_2
       clear hi311_2 hl311_2
       replace p311 := eq_true p311
       replace q311 := eq_true q311
       have ea_ := Option.some.inj (hx310_2.symm.trans hx311_2)
       injection ea_ with ea_ en_ ec_
       subst ea_
       subst ec_
       clear en_
       go_wp2
       go_roundg k1
       case measure => have := HK1.out; omega
       case rel => exact ⟨(wrap64 (x3_1 + 1)), rs_, H', ⟨by have := HK1.out; omega⟩, ⟨uB BK309.out⟩, ⟨bl⟩⟩
    ·
     rw [if_neg c7] at H
     have c7b0 : decide (x3_1 < (l0_0.length : Int)) = false := decide_eq_false c7
     clear c7
     obtain rfl := Option.some.inj H
     obtain ⟨hcz14_0, hfz14_0⟩ := z1 BK309
     go_wp2
     go_ret
     exact ⟨re_, bl⟩
def ebbtideref16_Great.l0 : Nat → List (S50) → Int → Option (Bool)
 | 0, _, _ => none
 | k + 1, x0, x3 => if x3 < (x0.length : Int) then (if 0 ≤ x3 then ((ebbtideref11_Great.f k ((rd_T50 x0 x3).f0)).bind fun t313 => (if t313 = true then (some true) else (if (((rd_T50 x0 x3).f0).length : Int) > 30 then (some true) else (ebbtideref16_Great.l0 k x0 (wrap64 (x3 + 1)))))) else (none)) else (some false)
def ebbtideref16_Great.f (k : Nat) (l0 : List (S50)) : Option (Bool) := if (l0.length : Int) > 8 then (some true) else (ebbtideref16_Great.l0 k l0 0)
theorem ebbtideref16_Great.mono_l : ∀ k, (∀ y0 y1, LeC (ebbtideref16_Great.l0 k y0 y1) (ebbtideref16_Great.l0 (k + 1) y0 y1))
 | 0 => fun _ _ => ⟨fun r h => by simp [ebbtideref16_Great.l0] at h⟩
 | k + 1 => by have ih0 := ebbtideref16_Great.mono_l k; exact fun _ _ => by unfold ebbtideref16_Great.l0; exact lm
theorem ebbtideref16_Great.mono : ∀ a0 k, LeO (ebbtideref16_Great.f k a0) (ebbtideref16_Great.f (k + 1) a0) := by
 intro a0 k
 have ih0 := ebbtideref16_Great.mono_l k
 unfold ebbtideref16_Great.f
 exact lo
instance ebbtideref16_Great.mI {a0 k} : LeC (ebbtideref16_Great.f k a0) (ebbtideref16_Great.f (k + 1) a0) := ⟨ebbtideref16_Great.mono _ _⟩
theorem ebbtideref16_Great.calls (k : Nat) (A0 : Option Addr) (c0 : Nat) (l0 : List (S50)) (r : Bool) (w : World) (hr0 : Kd.C k50 w A0 l0.length l0) (hc0 : l0.length ≤ c0) (h : ebbtideref16_Great.f k l0 = some r) :
 Calls Try.prog 11 #[.slice A0 l0.length c0] w fun e w' => e = .returned (.bool r) ∧ Below w.heap.size w w' := by
 have hu50 := Try.underlying50
 have HR0 := Aside0.mk hr0
 have HC0 := Aside0.mk hc0
 clear hr0 hc0
 have HB := Aside0.mk (Below.refl w.heap.size w)
 have H : (if (l0.length : Int) > 8 then (some true) else (ebbtideref16_Great.l0 k l0 0)) = some r := h
 clear h
 by_cases c2 : (l0.length : Int) > 8
 ·
  rw [if_pos c2] at H
  have c2b0 : decide (8 < (l0.length : Int)) = true := decide_eq_true c2
  have c2b1 : decide (8 < l0.length) = true := decide_eq_true (by omega)
  clear c2
  obtain rfl := Option.some.inj H
  go_enter Try.func11, Try.ntmps11
  go_wp2
  go_ret
  exact ⟨re_, uW HB.out⟩
 ·
  rw [if_neg c2] at H
  have c2b0 : decide (8 < (l0.length : Int)) = false := decide_eq_false c2
  have c2b1 : decide (8 < l0.length) = false := decide_eq_false (by omega)
  clear c2
  have H' := Aside0.mk H
  clear H
  go_enter Try.func11, Try.ntmps11
  go_wp2
  go_loopg [3] k (fun kq v3 w' => ∃ (x3_1 : Int), v3 = .int .i64 x3_1 ∧ Aside0 (ebbtideref16_Great.l0 kq l0 x3_1 = some r) ∧ Aside0 (kq ≤ k) ∧ Aside0 (Below w.heap.size w w'))
  case atStart => exact ⟨(0), rs_, H', ⟨Nat.le_refl _⟩, ⟨uW HB.out⟩⟩
  case round =>
   clear H'
   try clear c1
   try clear c2
   try clear c2b0
   try clear c2b1
   try clear p2
   obtain ⟨x3_1, rfl, HA, HK1, HB⟩ := hrel
   cases gk with
   | zero => exact absurd HA.out (by simp [ebbtideref16_Great.l0])
   | succ k1 =>
    have H := HA.out
    clear HA
    simp only [ebbtideref16_Great.l0] at H
    by_cases c3 : x3_1 < (l0.length : Int)
    ·
     rw [if_pos c3] at H
     have c3b0 : decide (x3_1 < (l0.length : Int)) = true := decide_eq_true c3
     clear c3
     obtain ⟨c4b0, H⟩ := gdd H
     obtain ⟨t313, A5, H⟩ := bs H
     try dsimp only at H
     by_cases c6 : t313 = true
     ·
      subst c6
      rw [if_pos rfl] at H
      obtain rfl := Option.some.inj H
      have p312 : 0 ≤ (x3_1 : Int) := od
      have q312 : x3_1 < (l0.length : Int) := od
      obtain ⟨ad312, A312_0, c312_0, e312, hx312_0, hl312_0, hi312_0⟩ := at_T50 HR0.out x3_1 p312 q312
      cases e312
      replace hx312_0 := kc HB hx312_0
      have HR312_0 := Aside0.mk hi312_0
      have HC312_0 := Aside0.mk hl312_0
      clear hi312_0 hl312_0
      replace p312 := eq_true p312
      replace q312 := eq_true q312
      go_wp2_with (first | (refine gL (some 17) rfl Try.func30 #[.agg #[.slice A312_0 ((rd_T50 l0 x3_1).f0).length c312_0]] ?_; (with_reducible refine (ebbtideref11_Great.calls k1 _ _ ((rd_T50 l0 x3_1).f0) true _ ?side1 ?side2 A5.out).mono ?_); (case side1 => exact uC <| (Kd.C_below HR312_0.out HB.out)); (case side2 => exact HC312_0.out); rintro e w7 ⟨rfl, hb⟩; refine ⟨_, rfl, ?_⟩; replace HB := cW HB hb; (try clear hb)))
      go_ret
      exact ⟨re_, uW HB.out⟩
     ·
      replace c6 := Bool.eq_false_iff.mpr c6
      subst c6
      rw [if_neg (show ¬ (false = true) by decide)] at H
      by_cases c8 : (((rd_T50 l0 x3_1).f0).length : Int) > 30
      ·
       rw [if_pos c8] at H
       have c8b0 : decide (30 < (((rd_T50 l0 x3_1).f0).length : Int)) = true := decide_eq_true c8
       have c8b1 : decide (30 < ((rd_T50 l0 x3_1).f0).length) = true := decide_eq_true (by omega)
       clear c8
       obtain rfl := Option.some.inj H
       have p312 : 0 ≤ (x3_1 : Int) := od
       have q312 : x3_1 < (l0.length : Int) := od
       obtain ⟨ad312, A312_0, c312_0, e312, hx312_0, hl312_0, hi312_0⟩ := at_T50 HR0.out x3_1 p312 q312
       cases e312
       replace hx312_0 := kc HB hx312_0
       have HR312_0 := Aside0.mk hi312_0
       have HC312_0 := Aside0.mk hl312_0
       clear hi312_0 hl312_0
       replace p312 := eq_true p312
       replace q312 := eq_true q312
       go_wp2_with (first | (refine gL (some 17) rfl Try.func30 #[.agg #[.slice A312_0 ((rd_T50 l0 x3_1).f0).length c312_0]] ?_; (with_reducible refine (ebbtideref11_Great.calls k1 _ _ ((rd_T50 l0 x3_1).f0) false _ ?side1 ?side2 A5.out).mono ?_); (case side1 => exact uC <| (Kd.C_below HR312_0.out HB.out)); (case side2 => exact HC312_0.out); rintro e w9 ⟨rfl, hb⟩; refine ⟨_, rfl, ?_⟩; replace HB := cW HB hb; (try clear hb); have p314 : 0 ≤ (x3_1 : Int) := od; have q314 : x3_1 < (l0.length : Int) := od; obtain ⟨ad314, A314_0, c314_0, e314, hx314_0, hl314_0, hi314_0⟩ := at_T50 HR0.out x3_1 p314 q314; obtain rfl : ad312 = ad314 := (by injection e314); replace hx314_0 := kc HB hx314_0; have HR314_0 := Aside0.mk hi314_0; have HC314_0 := Aside0.mk hl314_0; clear hi314_0 hl314_0; replace p314 := eq_true p314; replace q314 := eq_true q314))
       go_ret
       exact ⟨re_, uW HB.out⟩
      ·
       rw [if_neg c8] at H
       have c8b0 : decide (30 < (((rd_T50 l0 x3_1).f0).length : Int)) = false := decide_eq_false c8
       have c8b1 : decide (30 < ((rd_T50 l0 x3_1).f0).length) = false := decide_eq_false (by omega)
       clear c8
       have H' := Aside0.mk H
       clear H
       have p312 : 0 ≤ (x3_1 : Int) := od
       have q312 : x3_1 < (l0.length : Int) := od
       obtain ⟨ad312, A312_0, c312_0, e312, hx312_0, hl312_0, hi312_0⟩ := at_T50 HR0.out x3_1 p312 q312
       cases e312
       replace hx312_0 := kc HB hx312_0
       have HR312_0 := Aside0.mk hi312_0
       have HC312_0 := Aside0.mk hl312_0
       clear hi312_0 hl312_0
       replace p312 := eq_true p312
       replace q312 := eq_true q312
       go_wp2_with (first | (refine gL (some 17) rfl Try.func30 #[.agg #[.slice A312_0 ((rd_T50 l0 x3_1).f0).length c312_0]] ?_; (with_reducible refine (ebbtideref11_Great.calls k1 _ _ ((rd_T50 l0 x3_1).f0) false _ ?side1 ?side2 A5.out).mono ?_); (case side1 => exact uC <| (Kd.C_below HR312_0.out HB.out)); (case side2 => exact HC312_0.out); rintro e w10 ⟨rfl, hb⟩; refine ⟨_, rfl, ?_⟩; replace HB := cW HB hb; (try clear hb); have p314 : 0 ≤ (x3_1 : Int) := od; have q314 : x3_1 < (l0.length : Int) := od; obtain ⟨ad314, A314_0, c314_0, e314, hx314_0, hl314_0, hi314_0⟩ := at_T50 HR0.out x3_1 p314 q314; obtain rfl : ad312 = ad314 := (by injection e314); replace hx314_0 := kc HB hx314_0; have HR314_0 := Aside0.mk hi314_0; have HC314_0 := Aside0.mk hl314_0; clear hi314_0 hl314_0; replace p314 := eq_true p314; replace q314 := eq_true q314))
       go_roundg k1
       case measure => have := HK1.out; omega
       case rel => exact ⟨(wrap64 (x3_1 + 1)), rs_, H', ⟨by have := HK1.out; omega⟩, ⟨uW HB.out⟩⟩
    ·
     rw [if_neg c3] at H
     have c3b0 : decide (x3_1 < (l0.length : Int)) = false := decide_eq_false c3
     clear c3
     obtain rfl := Option.some.inj H
     go_wp2
     go_ret
     exact ⟨re_, uW HB.out⟩
def ebbtideref14_Great.l0 : Nat → List (List (S61)) → Int → Option (Bool)
 | 0, _, _ => none
 | k + 1, x0, x3 => if x3 < (x0.length : Int) then (if 0 ≤ x3 then (if ((rd_L11 x0 x3).length : Int) > 100 then (some true) else (ebbtideref14_Great.l0 k x0 (wrap64 (x3 + 1)))) else (none)) else (some false)
def ebbtideref14_Great.f (k : Nat) (l0 : List (List (S61))) : Option (Bool) := if (l0.length : Int) > 20 then (some true) else (ebbtideref14_Great.l0 k l0 0)
theorem ebbtideref14_Great.mono_l : ∀ k, (∀ y0 y1, LeC (ebbtideref14_Great.l0 k y0 y1) (ebbtideref14_Great.l0 (k + 1) y0 y1))
 | 0 => fun _ _ => ⟨fun r h => by simp [ebbtideref14_Great.l0] at h⟩
 | k + 1 => by have ih0 := ebbtideref14_Great.mono_l k; exact fun _ _ => by unfold ebbtideref14_Great.l0; exact lm
theorem ebbtideref14_Great.mono : ∀ a0 k, LeO (ebbtideref14_Great.f k a0) (ebbtideref14_Great.f (k + 1) a0) := by
 intro a0 k
 have ih0 := ebbtideref14_Great.mono_l k
 unfold ebbtideref14_Great.f
 exact lo
instance ebbtideref14_Great.mI {a0 k} : LeC (ebbtideref14_Great.f k a0) (ebbtideref14_Great.f (k + 1) a0) := ⟨ebbtideref14_Great.mono _ _⟩
theorem ebbtideref14_Great.calls (k : Nat) (A0 : Option Addr) (c0 : Nat) (l0 : List (List (S61))) (r : Bool) (w : World) (hr0 : Kd.C (Kd.slice 61 k61) w A0 l0.length l0) (hc0 : l0.length ≤ c0) (h : ebbtideref14_Great.f k l0 = some r) :
 Calls Try.prog 22 #[.slice A0 l0.length c0] w fun e w' => e = .returned (.bool r) ∧ Drawn0 w w' := by
 have HR0 := Aside0.mk hr0
 have HC0 := Aside0.mk hc0
 clear hr0 hc0
 have H : (if (l0.length : Int) > 20 then (some true) else (ebbtideref14_Great.l0 k l0 0)) = some r := h
 clear h
 by_cases c2 : (l0.length : Int) > 20
 ·
  rw [if_pos c2] at H
  have c2b0 : decide (20 < (l0.length : Int)) = true := decide_eq_true c2
  have c2b1 : decide (20 < l0.length) = true := decide_eq_true (by omega)
  clear c2
  obtain rfl := Option.some.inj H
  go_enter Try.func22, Try.ntmps22
  go_wp2
  go_ret
  exact ⟨rs_, dr_⟩
 ·
  rw [if_neg c2] at H
  have c2b0 : decide (20 < (l0.length : Int)) = false := decide_eq_false c2
  have c2b1 : decide (20 < l0.length) = false := decide_eq_false (by omega)
  clear c2
  have H' := Aside0.mk H
  clear H
  go_enter Try.func22, Try.ntmps22
  go_wp2
  go_loopg [3] k (fun kq v3 w' => ∃ (x3_1 : Int), v3 = .int .i64 x3_1 ∧ Aside0 (ebbtideref14_Great.l0 kq l0 x3_1 = some r) ∧ Aside0 (kq ≤ k) ∧ Drawn0 w w')
  case atStart => exact ⟨(0), rs_, H', ⟨Nat.le_refl _⟩, dr_⟩
  case round =>
   clear H'
   try clear c2
   try clear c2b0
   try clear c2b1
   try clear p2
   obtain ⟨x3_1, rfl, HA, HK1, ⟨m1, rfl⟩⟩ := hrel
   cases gk with
   | zero => exact absurd HA.out (by simp [ebbtideref14_Great.l0])
   | succ k1 =>
    have H := HA.out
    clear HA
    simp only [ebbtideref14_Great.l0] at H
    by_cases c3 : x3_1 < (l0.length : Int)
    ·
     rw [if_pos c3] at H
     have c3b0 : decide (x3_1 < (l0.length : Int)) = true := decide_eq_true c3
     clear c3
     obtain ⟨c4b0, H⟩ := gdd H
     by_cases c5 : ((rd_L11 l0 x3_1).length : Int) > 100
     ·
      rw [if_pos c5] at H
      have c5b0 : decide (100 < ((rd_L11 l0 x3_1).length : Int)) = true := decide_eq_true c5
      have c5b1 : decide (100 < (rd_L11 l0 x3_1).length) = true := decide_eq_true (by omega)
      clear c5
      obtain rfl := Option.some.inj H
      have p315 : 0 ≤ (x3_1 : Int) := od
      have q315 : x3_1 < (l0.length : Int) := od
      obtain ⟨ad315, A315_0, c315_0, e315, hx315_0, hl315_0, hi315_0⟩ := at_L11 HR0.out x3_1 p315 q315
      cases e315
      have HR315_0 := Aside0.mk hi315_0
      have HC315_0 := Aside0.mk hl315_0
      clear hi315_0 hl315_0
      replace p315 := eq_true p315
      replace q315 := eq_true q315
      go_wp2
      go_ret
      exact ⟨rs_, dr_⟩
     ·
      rw [if_neg c5] at H
      have c5b0 : decide (100 < ((rd_L11 l0 x3_1).length : Int)) = false := decide_eq_false c5
      have c5b1 : decide (100 < (rd_L11 l0 x3_1).length) = false := decide_eq_false (by omega)
      clear c5
      have H' := Aside0.mk H
      clear H
      have p315 : 0 ≤ (x3_1 : Int) := od
      have q315 : x3_1 < (l0.length : Int) := od
      obtain ⟨ad315, A315_0, c315_0, e315, hx315_0, hl315_0, hi315_0⟩ := at_L11 HR0.out x3_1 p315 q315
      cases e315
      have HR315_0 := Aside0.mk hi315_0
      have HC315_0 := Aside0.mk hl315_0
      clear hi315_0 hl315_0
      replace p315 := eq_true p315
      replace q315 := eq_true q315
      go_wp2
      go_roundg k1
      case measure => have := HK1.out; omega
      case rel => exact ⟨(wrap64 (x3_1 + 1)), rs_, H', ⟨by have := HK1.out; omega⟩, dr_⟩
    ·
     rw [if_neg c3] at H
     have c3b0 : decide (x3_1 < (l0.length : Int)) = false := decide_eq_false c3
     clear c3
     obtain rfl := Option.some.inj H
     go_wp2
     go_ret
     exact ⟨rs_, dr_⟩
def ebbtidelaw17_great.f (k : Nat) (l0_0 : List (S46)) (l0_1 : List (List (S61))) (l0_2 : List (S50)) : Option (Bool) := if (l0_0.length : Int) > 20 then (some true) else ((ebbtideref14_Great.f k l0_1).bind fun t317 => (if t317 = true then (some true) else ((ebbtideref16_Great.f k l0_2).bind fun t318 => (some t318))))
theorem ebbtidelaw17_great.mono : ∀ a0 a1 a2 k, LeO (ebbtidelaw17_great.f k a0 a1 a2) (ebbtidelaw17_great.f (k + 1) a0 a1 a2) := by
 intro a0 a1 a2 k
 unfold ebbtidelaw17_great.f
 exact lo
instance ebbtidelaw17_great.mI {a0 a1 a2 k} : LeC (ebbtidelaw17_great.f k a0 a1 a2) (ebbtidelaw17_great.f (k + 1) a0 a1 a2) := ⟨ebbtidelaw17_great.mono _ _ _ _⟩
theorem ebbtidelaw17_great.calls (k : Nat) (A0_0 : Option Addr) (c0_0 : Nat) (l0_0 : List (S46)) (A0_1 : Option Addr) (c0_1 : Nat) (l0_1 : List (List (S61))) (A0_2 : Option Addr) (c0_2 : Nat) (l0_2 : List (S50)) (r : Bool) (w : World) (hr0_0 : Kd.C k46 w A0_0 l0_0.length l0_0) (hc0_0 : l0_0.length ≤ c0_0) (hr0_1 : Kd.C (Kd.slice 61 k61) w A0_1 l0_1.length l0_1) (hc0_1 : l0_1.length ≤ c0_1) (hr0_2 : Kd.C k50 w A0_2 l0_2.length l0_2) (hc0_2 : l0_2.length ≤ c0_2) (h : ebbtidelaw17_great.f k l0_0 l0_1 l0_2 = some r) :
 Calls Try.prog 8 #[.agg #[.slice A0_0 l0_0.length c0_0, .slice A0_1 l0_1.length c0_1, .slice A0_2 l0_2.length c0_2]] w fun e w' => e = .returned (.bool r) ∧ Below w.heap.size w w' := by
 have hu28 := Try.underlying28
 have HR0_0 := Aside0.mk hr0_0
 have HC0_0 := Aside0.mk hc0_0
 clear hr0_0 hc0_0
 have HR0_1 := Aside0.mk hr0_1
 have HC0_1 := Aside0.mk hc0_1
 clear hr0_1 hc0_1
 have HR0_2 := Aside0.mk hr0_2
 have HC0_2 := Aside0.mk hc0_2
 clear hr0_2 hc0_2
 have HB := Aside0.mk (Below.refl w.heap.size w)
 have H : (if (l0_0.length : Int) > 20 then (some true) else ((ebbtideref14_Great.f k l0_1).bind fun t317 => (if t317 = true then (some true) else ((ebbtideref16_Great.f k l0_2).bind fun t318 => (some t318))))) = some r := h
 clear h
 by_cases c2 : (l0_0.length : Int) > 20
 ·
  rw [if_pos c2] at H
  have c2b0 : decide (20 < (l0_0.length : Int)) = true := decide_eq_true c2
  have c2b1 : decide (20 < l0_0.length) = true := decide_eq_true (by omega)
  clear c2
  obtain rfl := Option.some.inj H
  go_enter Try.func8, Try.ntmps8
  go_wp2_with (first | ((with_reducible refine gate_dst (N := 1) rfl ?_); refine bx (N := 1) #[.slice A0_0 l0_0.length c0_0, .slice A0_1 l0_1.length c0_1, .slice A0_2 l0_2.length c0_2] 28 ?_; intro gb316 hg w3 hbox hb; have BK316 := Aside0.mk (hbox); have GW316 := gw hg (uW HB.out); have GE316 := GW316; replace HB := cW HB hb; clear hb hbox hg; obtain ⟨hcz4_0, hcz4_1, hcz4_2, hfz4_0, hfz4_1, hfz4_2⟩ := z3 BK316))
  go_ret
  exact ⟨re_, bl⟩
 ·
  rw [if_neg c2] at H
  have c2b0 : decide (20 < (l0_0.length : Int)) = false := decide_eq_false c2
  have c2b1 : decide (20 < l0_0.length) = false := decide_eq_false (by omega)
  clear c2
  obtain ⟨t317, A5, H⟩ := bs H
  try dsimp only at H
  by_cases c6 : t317 = true
  ·
   subst c6
   rw [if_pos rfl] at H
   obtain rfl := Option.some.inj H
   go_enter Try.func8, Try.ntmps8
   go_wp2_with (first | ((with_reducible refine gate_dst (N := 1) rfl ?_); refine bx (N := 1) #[.slice A0_0 l0_0.length c0_0, .slice A0_1 l0_1.length c0_1, .slice A0_2 l0_2.length c0_2] 28 ?_; intro gb316 hg w7 hbox hb; have BK316 := Aside0.mk (hbox); have GW316 := gw hg (uW HB.out); have GE316 := GW316; replace HB := cW HB hb; clear hb hbox hg; obtain ⟨hcz8_0, hcz8_1, hcz8_2, hfz8_0, hfz8_1, hfz8_2⟩ := z3 BK316) | (go_at_call 22; (with_reducible refine (ebbtideref14_Great.calls k _ _ l0_1 true _ ?side1 ?side2 A5.out).mono ?_); (case side1 => exact uC <| (Kd.C_below HR0_1.out HB.out)); (case side2 => exact HC0_1.out); rintro e w' ⟨rfl, ⟨nd, rfl⟩⟩))
   go_ret
   exact ⟨re_, bl⟩
  ·
   replace c6 := Bool.eq_false_iff.mpr c6
   subst c6
   rw [if_neg (show ¬ (false = true) by decide)] at H
   obtain ⟨t318, A9, H⟩ := bs H
   try dsimp only at H
   obtain rfl := Option.some.inj H
   go_enter Try.func8, Try.ntmps8
   go_wp2_with (first | ((with_reducible refine gate_dst (N := 1) rfl ?_); refine bx (N := 1) #[.slice A0_0 l0_0.length c0_0, .slice A0_1 l0_1.length c0_1, .slice A0_2 l0_2.length c0_2] 28 ?_; intro gb316 hg w10 hbox hb; have BK316 := Aside0.mk (hbox); have GW316 := gw hg (uW HB.out); have GE316 := GW316; replace HB := cW HB hb; clear hb hbox hg; obtain ⟨hcz11_0, hcz11_1, hcz11_2, hfz11_0, hfz11_1, hfz11_2⟩ := z3 BK316) | (go_at_call 22; (with_reducible refine (ebbtideref14_Great.calls k _ _ l0_1 false _ ?side1 ?side2 A5.out).mono ?_); (case side1 => exact uC <| (Kd.C_below HR0_1.out HB.out)); (case side2 => exact HC0_1.out); rintro e w' ⟨rfl, ⟨nd, rfl⟩⟩) | (go_at_call 11; (with_reducible refine (ebbtideref16_Great.calls k _ _ l0_2 t318 _ ?side1 ?side2 A9.out).mono ?_); (case side1 => exact (Kd.C_below HR0_2.out bl)); (case side2 => exact HC0_2.out); rintro e w12 ⟨rfl, hb⟩; replace BK316 := cB BK316 hb; replace HB := Aside0.mk (below_step bl hb); (try clear hb)))
   go_ret
   exact ⟨re_, bl⟩
def ebbtideref13_there.f (a0 : Int) (a1 : Int) : Option (Bool) := if a1 ≥ 1 then (if a1 ≤ 1000 then (if a0 ≥ 0 then (some (decide (a0 ≤ 1000000000000))) else (some false)) else (some false)) else (some false)
theorem ebbtideref13_there.calls (a0 : Int) (a1 : Int) (r : Bool) (w : World) (h : ebbtideref13_there.f a0 a1 = some r) :
 Calls Try.prog 38 #[.int .i64 a0, .int .i64 a1] w fun e w' => e = .returned (.bool r) ∧ Drawn0 w w' := by
 have H : (if a1 ≥ 1 then (if a1 ≤ 1000 then (if a0 ≥ 0 then (some (decide (a0 ≤ 1000000000000))) else (some false)) else (some false)) else (some false)) = some r := h
 clear h
 by_cases c3 : a1 ≥ 1
 ·
  rw [if_pos c3] at H
  have c3b0 : decide (1 ≤ a1) = true := decide_eq_true c3
  clear c3
  by_cases c4 : a1 ≤ 1000
  ·
   rw [if_pos c4] at H
   have c4b0 : decide (a1 ≤ 1000) = true := decide_eq_true c4
   clear c4
   by_cases c5 : a0 ≥ 0
   ·
    rw [if_pos c5] at H
    have c5b0 : decide (0 ≤ a0) = true := decide_eq_true c5
    clear c5
    obtain rfl := Option.some.inj H
    go_enter Try.func38, Try.ntmps38
    go_wp2
    go_ret
    exact ⟨rs_, dr_⟩
   ·
    rw [if_neg c5] at H
    have c5b0 : decide (0 ≤ a0) = false := decide_eq_false c5
    clear c5
    obtain rfl := Option.some.inj H
    go_enter Try.func38, Try.ntmps38
    go_wp2
    go_ret
    exact ⟨rs_, dr_⟩
  ·
   rw [if_neg c4] at H
   have c4b0 : decide (a1 ≤ 1000) = false := decide_eq_false c4
   clear c4
   obtain rfl := Option.some.inj H
   go_enter Try.func38, Try.ntmps38
   go_wp2
   go_ret
   exact ⟨rs_, dr_⟩
 ·
  rw [if_neg c3] at H
  have c3b0 : decide (1 ≤ a1) = false := decide_eq_false c3
  clear c3
  obtain rfl := Option.some.inj H
  go_enter Try.func38, Try.ntmps38
  go_wp2
  go_ret
  exact ⟨rs_, dr_⟩
def ebbtideref13_Closed.f (a0 : Int) (a1 : Int) (a2 : Int) (a3 : Int) : Option (Bool) := (ebbtideref13_there.f a0 a1).bind fun t319 => (if t319 = true then (if a2 ≥ 0 then (if a2 ≤ 1000 then (some (decide (a3 ≥ (wrap64 ((wrap64 ((wrap64 (a0 * a1)) + a1)) + a2))))) else (some false)) else (some false)) else (some false))
theorem ebbtideref13_Closed.calls (a0 : Int) (a1 : Int) (a2 : Int) (a3 : Int) (r : Bool) (w : World) (h : ebbtideref13_Closed.f a0 a1 a2 a3 = some r) :
 Calls Try.prog 16 #[.int .i64 a0, .int .i64 a1, .int .i64 a2, .int .i64 a3] w fun e w' => e = .returned (.bool r) ∧ Drawn0 w w' := by
 have H : ((ebbtideref13_there.f a0 a1).bind fun t319 => (if t319 = true then (if a2 ≥ 0 then (if a2 ≤ 1000 then (some (decide (a3 ≥ (wrap64 ((wrap64 ((wrap64 (a0 * a1)) + a1)) + a2))))) else (some false)) else (some false)) else (some false))) = some r := h
 clear h
 obtain ⟨t319, A5, H⟩ := bs H
 try dsimp only at H
 by_cases c6 : t319 = true
 ·
  subst c6
  rw [if_pos rfl] at H
  by_cases c7 : a2 ≥ 0
  ·
   rw [if_pos c7] at H
   have c7b0 : decide (0 ≤ a2) = true := decide_eq_true c7
   clear c7
   by_cases c8 : a2 ≤ 1000
   ·
    rw [if_pos c8] at H
    have c8b0 : decide (a2 ≤ 1000) = true := decide_eq_true c8
    clear c8
    obtain rfl := Option.some.inj H
    go_enter Try.func16, Try.ntmps16
    go_wp2_with (first | (refine gL (some 11) rfl Try.func38 #[.int .i64 a0, .int .i64 a1] ?_; (with_reducible refine (ebbtideref13_there.calls a0 a1 true _ A5.out).mono ?_); rintro e w' ⟨rfl, ⟨nd, rfl⟩⟩; refine ⟨_, rfl, ?_⟩))
    go_ret
    exact ⟨rs_, dr_⟩
   ·
    rw [if_neg c8] at H
    have c8b0 : decide (a2 ≤ 1000) = false := decide_eq_false c8
    clear c8
    obtain rfl := Option.some.inj H
    go_enter Try.func16, Try.ntmps16
    go_wp2_with (first | (refine gL (some 11) rfl Try.func38 #[.int .i64 a0, .int .i64 a1] ?_; (with_reducible refine (ebbtideref13_there.calls a0 a1 true _ A5.out).mono ?_); rintro e w' ⟨rfl, ⟨nd, rfl⟩⟩; refine ⟨_, rfl, ?_⟩))
    go_ret
    exact ⟨rs_, dr_⟩
  ·
   rw [if_neg c7] at H
   have c7b0 : decide (0 ≤ a2) = false := decide_eq_false c7
   clear c7
   obtain rfl := Option.some.inj H
   go_enter Try.func16, Try.ntmps16
   go_wp2_with (first | (refine gL (some 11) rfl Try.func38 #[.int .i64 a0, .int .i64 a1] ?_; (with_reducible refine (ebbtideref13_there.calls a0 a1 true _ A5.out).mono ?_); rintro e w' ⟨rfl, ⟨nd, rfl⟩⟩; refine ⟨_, rfl, ?_⟩))
   go_ret
   exact ⟨rs_, dr_⟩
 ·
  replace c6 := Bool.eq_false_iff.mpr c6
  subst c6
  rw [if_neg (show ¬ (false = true) by decide)] at H
  obtain rfl := Option.some.inj H
  go_enter Try.func16, Try.ntmps16
  go_wp2_with (first | (refine gL (some 11) rfl Try.func38 #[.int .i64 a0, .int .i64 a1] ?_; (with_reducible refine (ebbtideref13_there.calls a0 a1 false _ A5.out).mono ?_); rintro e w' ⟨rfl, ⟨nd, rfl⟩⟩; refine ⟨_, rfl, ?_⟩))
  go_ret
  exact ⟨rs_, dr_⟩
mutual
def ebbtideref14_Waits.l0 : Nat → Int → List (List (S61)) → Int → Option (Bool)
 | 0, _, _, _ => none
 | k + 1, x0, x1, x5 => if x5 < (x1.length : Int) then (ebbtideref14_Waits.l1 k x0 x1 x5 0) else (some false)
def ebbtideref14_Waits.l1 : Nat → Int → List (List (S61)) → Int → Int → Option (Bool)
 | 0, _, _, _, _ => none
 | k + 1, x0, x1, x5, x6 => if 0 ≤ x5 then (if x5 < (x1.length : Int) then (if x6 < ((rd_L11 x1 x5).length : Int) then (if 0 ≤ x6 then (if ((rd_T61 (rd_L11 x1 x5) x6).f1) = x0 then (some true) else (ebbtideref14_Waits.l1 k x0 x1 x5 (wrap64 (x6 + 1)))) else (none)) else (ebbtideref14_Waits.l0 k x0 x1 (wrap64 (x5 + 1)))) else (none)) else (none)
end
def ebbtideref14_Waits.f (k : Nat) (a0 : Int) (l1 : List (List (S61))) : Option (Bool) := ebbtideref14_Waits.l0 k a0 l1 0
theorem ebbtideref14_Waits.mono_l : ∀ k, (∀ y0 y1 y2, LeC (ebbtideref14_Waits.l0 k y0 y1 y2) (ebbtideref14_Waits.l0 (k + 1) y0 y1 y2)) ∧ (∀ y0 y1 y2 y3, LeC (ebbtideref14_Waits.l1 k y0 y1 y2 y3) (ebbtideref14_Waits.l1 (k + 1) y0 y1 y2 y3))
 | 0 => ⟨fun _ _ _ => ⟨fun r h => by simp [ebbtideref14_Waits.l0] at h⟩, fun _ _ _ _ => ⟨fun r h => by simp [ebbtideref14_Waits.l1] at h⟩⟩
 | k + 1 => by obtain ⟨ih0, ih1⟩ := ebbtideref14_Waits.mono_l k; exact ⟨fun _ _ _ => by unfold ebbtideref14_Waits.l0; exact lm, fun _ _ _ _ => by unfold ebbtideref14_Waits.l1; exact lm⟩
theorem ebbtideref14_Waits.mono : ∀ a0 a1 k, LeO (ebbtideref14_Waits.f k a0 a1) (ebbtideref14_Waits.f (k + 1) a0 a1) := by
 intro a0 a1 k
 obtain ⟨ih0, ih1⟩ := ebbtideref14_Waits.mono_l k
 unfold ebbtideref14_Waits.f
 exact lo
instance ebbtideref14_Waits.mI {a0 a1 k} : LeC (ebbtideref14_Waits.f k a0 a1) (ebbtideref14_Waits.f (k + 1) a0 a1) := ⟨ebbtideref14_Waits.mono _ _ _⟩
theorem ebbtideref14_Waits.calls (k : Nat) (a0 : Int) (A1 : Option Addr) (c1 : Nat) (l1 : List (List (S61))) (r : Bool) (w : World) (hr1 : Kd.C (Kd.slice 61 k61) w A1 l1.length l1) (hc1 : l1.length ≤ c1) (h : ebbtideref14_Waits.f k a0 l1 = some r) :
 Calls Try.prog 17 #[.int .i64 a0, .slice A1 l1.length c1] w fun e w' => e = .returned (.bool r) ∧ Drawn0 w w' := by
 have HR1 := Aside0.mk hr1
 have HC1 := Aside0.mk hc1
 clear hr1 hc1
 have H : (ebbtideref14_Waits.l0 k a0 l1 0) = some r := h
 clear h
 have H' := Aside0.mk H
 clear H
 go_enter Try.func17, Try.ntmps17
 go_wp2
 go_loopg [5] k (fun kq v5 w' => ∃ (x5_1 : Int), v5 = .int .i64 x5_1 ∧ Aside0 (ebbtideref14_Waits.l0 kq a0 l1 x5_1 = some r) ∧ Aside0 (kq ≤ k) ∧ Drawn0 w w')
 case atStart => exact ⟨(0), rs_, H', ⟨Nat.le_refl _⟩, dr_⟩
 case round =>
  clear H'
  try clear c1
  try clear p2
  obtain ⟨x5_1, rfl, HA, HK1, ⟨m1, rfl⟩⟩ := hrel
  cases gk with
  | zero => exact absurd HA.out (by simp [ebbtideref14_Waits.l0])
  | succ k1 =>
   have H := HA.out
   clear HA
   simp only [ebbtideref14_Waits.l0] at H
   by_cases c3 : x5_1 < (l1.length : Int)
   ·
    rw [if_pos c3] at H
    have c3b0 : decide (x5_1 < (l1.length : Int)) = true := decide_eq_true c3
    clear c3
    have H' := Aside0.mk H
    clear H
    go_wp2
    go_loopg [6] k1 (fun kq v6 w' => ∃ (x6_2 : Int), v6 = .int .i64 x6_2 ∧ Aside0 (ebbtideref14_Waits.l1 kq a0 l1 x5_1 x6_2 = some r) ∧ Aside0 (kq ≤ k1) ∧ Drawn0 w w')
    case atStart => exact ⟨(0), rs_, H', ⟨Nat.le_refl _⟩, dr_⟩
    case round =>
     clear H'
     try clear c1
     try clear p2
     try clear c3
     try clear c3b0
     try clear p2
     obtain ⟨x6_2, rfl, HA, HK2, ⟨m2, rfl⟩⟩ := hrel
     cases gk with
     | zero => exact absurd HA.out (by simp [ebbtideref14_Waits.l1])
     | succ k2 =>
      have H := HA.out
      clear HA
      simp only [ebbtideref14_Waits.l1] at H
      obtain ⟨c4b0, H⟩ := gdd H
      obtain ⟨c5b0, H⟩ := gdd H
      by_cases c6 : x6_2 < ((rd_L11 l1 x5_1).length : Int)
      ·
       rw [if_pos c6] at H
       have c6b0 : decide (x6_2 < ((rd_L11 l1 x5_1).length : Int)) = true := decide_eq_true c6
       clear c6
       obtain ⟨c7b0, H⟩ := gdd H
       by_cases c8 : ((rd_T61 (rd_L11 l1 x5_1) x6_2).f1) = a0
       ·
        rw [if_pos c8] at H
        have c8b0 : (((rd_T61 (rd_L11 l1 x5_1) x6_2).f1) == a0) = true := beq_iff_eq.mpr c8
        have c8b1 : (((rd_T61 (rd_L11 l1 x5_1) x6_2).f1) != a0) = false := bne_eq_false_iff_eq.mpr c8
        clear c8
        obtain rfl := Option.some.inj H
        have p320 : 0 ≤ (x5_1 : Int) := od
        have q320 : x5_1 < (l1.length : Int) := od
        obtain ⟨ad320, A320_0, c320_0, e320, hx320_0, hl320_0, hi320_0⟩ := at_L11 HR1.out x5_1 p320 q320
        cases e320
        have HR320_0 := Aside0.mk hi320_0
        have HC320_0 := Aside0.mk hl320_0
        clear hi320_0 hl320_0
        replace p320 := eq_true p320
        replace q320 := eq_true q320
        have p321 : 0 ≤ (x5_1 : Int) := od
        have q321 : x5_1 < (l1.length : Int) := od
        obtain ⟨ad321, A321_0, c321_0, e321, hx321_0, hl321_0, hi321_0⟩ := at_L11 HR1.out x5_1 p321 q321
        obtain rfl : ad320 = ad321 := (by injection e321)
        have HR321_0 := Aside0.mk hi321_0
        have HC321_0 := Aside0.mk hl321_0
        clear hi321_0 hl321_0
        replace p321 := eq_true p321
        replace q321 := eq_true q321
        have ea_ := Option.some.inj (hx320_0.symm.trans hx321_0)
        injection ea_ with ea_ en_ ec_
        subst ea_
        subst ec_
        clear en_
        have p322 : 0 ≤ (x6_2 : Int) := od
        have q322 : x6_2 < ((rd_L11 l1 x5_1).length : Int) := od
        obtain ⟨ad322, e322, hx322_0, hx322_1, hx322_2, hx322_3⟩ := at_T61 HR321_0.out x6_2 p322 q322
        cases e322
        replace p322 := eq_true p322
        replace q322 := eq_true q322
        go_wp2
        go_ret
        exact ⟨rs_, dr_⟩
       ·
        rw [if_neg c8] at H
        have c8b0 : (((rd_T61 (rd_L11 l1 x5_1) x6_2).f1) == a0) = false := beq_eq_false_iff_ne.mpr c8
        have c8b1 : (((rd_T61 (rd_L11 l1 x5_1) x6_2).f1) != a0) = true := bne_iff_ne.mpr c8
        have H' := Aside0.mk H
        clear H
        have p320 : 0 ≤ (x5_1 : Int) := od
        have q320 : x5_1 < (l1.length : Int) := od
        obtain ⟨ad320, A320_0, c320_0, e320, hx320_0, hl320_0, hi320_0⟩ := at_L11 HR1.out x5_1 p320 q320
        cases e320
        have HR320_0 := Aside0.mk hi320_0
        have HC320_0 := Aside0.mk hl320_0
        clear hi320_0 hl320_0
        replace p320 := eq_true p320
        replace q320 := eq_true q320
        have p321 : 0 ≤ (x5_1 : Int) := od
        have q321 : x5_1 < (l1.length : Int) := od
        obtain ⟨ad321, A321_0, c321_0, e321, hx321_0, hl321_0, hi321_0⟩ := at_L11 HR1.out x5_1 p321 q321
        obtain rfl : ad320 = ad321 := (by injection e321)
        have HR321_0 := Aside0.mk hi321_0
        have HC321_0 := Aside0.mk hl321_0
        clear hi321_0 hl321_0
        replace p321 := eq_true p321
        replace q321 := eq_true q321
        have ea_ := Option.some.inj (hx320_0.symm.trans hx321_0)
        injection ea_ with ea_ en_ ec_
        subst ea_
        subst ec_
        clear en_
        have p322 : 0 ≤ (x6_2 : Int) := od
        have q322 : x6_2 < ((rd_L11 l1 x5_1).length : Int) := od
        obtain ⟨ad322, e322, hx322_0, hx322_1, hx322_2, hx322_3⟩ := at_T61 HR321_0.out x6_2 p322 q322
        cases e322
        replace p322 := eq_true p322
        replace q322 := eq_true q322
        go_wp2
        go_roundg k2
        case measure => have := HK1.out; have := HK2.out; omega
        case rel => exact ⟨(wrap64 (x6_2 + 1)), rs_, H', ⟨by have := HK1.out; have := HK2.out; omega⟩, dr_⟩
      ·
       rw [if_neg c6] at H
       have c6b0 : decide (x6_2 < ((rd_L11 l1 x5_1).length : Int)) = false := decide_eq_false c6
       clear c6
       have H' := Aside0.mk H
       clear H
       have p320 : 0 ≤ (x5_1 : Int) := od
       have q320 : x5_1 < (l1.length : Int) := od
       obtain ⟨ad320, A320_0, c320_0, e320, hx320_0, hl320_0, hi320_0⟩ := at_L11 HR1.out x5_1 p320 q320
       cases e320
       have HR320_0 := Aside0.mk hi320_0
       have HC320_0 := Aside0.mk hl320_0
       clear hi320_0 hl320_0
       replace p320 := eq_true p320
       replace q320 := eq_true q320
       go_wp2
       go_roundg k2
       case measure => have := HK1.out; have := HK2.out; omega
       case rel => exact ⟨(wrap64 (x5_1 + 1)), rs_, H', ⟨by have := HK1.out; have := HK2.out; omega⟩, dr_⟩
   ·
    rw [if_neg c3] at H
    have c3b0 : decide (x5_1 < (l1.length : Int)) = false := decide_eq_false c3
    clear c3
    obtain rfl := Option.some.inj H
    go_wp2
    go_ret
    exact ⟨rs_, dr_⟩
def ebbtideref17_out.l0 : Nat → List (S46) → Int → Int → Option (Bool)
 | 0, _, _, _ => none
 | k + 1, x0, x1, x5 => if x5 < (x0.length : Int) then (if 0 ≤ x5 then (if ((rd_T46 x0 x5).f0) = x1 then (some true) else (ebbtideref17_out.l0 k x0 x1 (wrap64 (x5 + 1)))) else (none)) else (some false)
def ebbtideref17_out.f (k : Nat) (l0 : List (S46)) (a1 : Int) : Option (Bool) := ebbtideref17_out.l0 k l0 a1 0
theorem ebbtideref17_out.mono_l : ∀ k, (∀ y0 y1 y2, LeC (ebbtideref17_out.l0 k y0 y1 y2) (ebbtideref17_out.l0 (k + 1) y0 y1 y2))
 | 0 => fun _ _ _ => ⟨fun r h => by simp [ebbtideref17_out.l0] at h⟩
 | k + 1 => by have ih0 := ebbtideref17_out.mono_l k; exact fun _ _ _ => by unfold ebbtideref17_out.l0; exact lm
theorem ebbtideref17_out.mono : ∀ a0 a1 k, LeO (ebbtideref17_out.f k a0 a1) (ebbtideref17_out.f (k + 1) a0 a1) := by
 intro a0 a1 k
 have ih0 := ebbtideref17_out.mono_l k
 unfold ebbtideref17_out.f
 exact lo
instance ebbtideref17_out.mI {a0 a1 k} : LeC (ebbtideref17_out.f k a0 a1) (ebbtideref17_out.f (k + 1) a0 a1) := ⟨ebbtideref17_out.mono _ _ _⟩
theorem ebbtideref17_out.calls (k : Nat) (A0 : Option Addr) (c0 : Nat) (l0 : List (S46)) (a1 : Int) (r : Bool) (w : World) (hr0 : Kd.C k46 w A0 l0.length l0) (hc0 : l0.length ≤ c0) (h : ebbtideref17_out.f k l0 a1 = some r) :
 Calls Try.prog 29 #[.slice A0 l0.length c0, .int .i64 a1] w fun e w' => e = .returned (.bool r) ∧ Drawn0 w w' := by
 have HR0 := Aside0.mk hr0
 have HC0 := Aside0.mk hc0
 clear hr0 hc0
 have H : (ebbtideref17_out.l0 k l0 a1 0) = some r := h
 clear h
 have H' := Aside0.mk H
 clear H
 go_enter Try.func29, Try.ntmps29
 go_wp2
 go_loopg [5] k (fun kq v5 w' => ∃ (x5_1 : Int), v5 = .int .i64 x5_1 ∧ Aside0 (ebbtideref17_out.l0 kq l0 a1 x5_1 = some r) ∧ Aside0 (kq ≤ k) ∧ Drawn0 w w')
 case atStart => exact ⟨(0), rs_, H', ⟨Nat.le_refl _⟩, dr_⟩
 case round =>
  clear H'
  try clear c2
  try clear p2
  obtain ⟨x5_1, rfl, HA, HK1, ⟨m1, rfl⟩⟩ := hrel
  cases gk with
  | zero => exact absurd HA.out (by simp [ebbtideref17_out.l0])
  | succ k1 =>
   have H := HA.out
   clear HA
   simp only [ebbtideref17_out.l0] at H
   by_cases c3 : x5_1 < (l0.length : Int)
   ·
    rw [if_pos c3] at H
    have c3b0 : decide (x5_1 < (l0.length : Int)) = true := decide_eq_true c3
    clear c3
    obtain ⟨c4b0, H⟩ := gdd H
    by_cases c5 : ((rd_T46 l0 x5_1).f0) = a1
    ·
     rw [if_pos c5] at H
     have c5b0 : (((rd_T46 l0 x5_1).f0) == a1) = true := beq_iff_eq.mpr c5
     have c5b1 : (((rd_T46 l0 x5_1).f0) != a1) = false := bne_eq_false_iff_eq.mpr c5
     clear c5
     obtain rfl := Option.some.inj H
     have p323 : 0 ≤ (x5_1 : Int) := od
     have q323 : x5_1 < (l0.length : Int) := od
     obtain ⟨ad323, e323, hx323_0, hx323_1⟩ := at_T46 HR0.out x5_1 p323 q323
     cases e323
     replace p323 := eq_true p323
     replace q323 := eq_true q323
     go_wp2
     go_ret
     exact ⟨rs_, dr_⟩
    ·
     rw [if_neg c5] at H
     have c5b0 : (((rd_T46 l0 x5_1).f0) == a1) = false := beq_eq_false_iff_ne.mpr c5
     have c5b1 : (((rd_T46 l0 x5_1).f0) != a1) = true := bne_iff_ne.mpr c5
     have H' := Aside0.mk H
     clear H
     have p323 : 0 ≤ (x5_1 : Int) := od
     have q323 : x5_1 < (l0.length : Int) := od
     obtain ⟨ad323, e323, hx323_0, hx323_1⟩ := at_T46 HR0.out x5_1 p323 q323
     cases e323
     replace p323 := eq_true p323
     replace q323 := eq_true q323
     go_wp2
     go_roundg k1
     case measure => have := HK1.out; omega
     case rel => exact ⟨(wrap64 (x5_1 + 1)), rs_, H', ⟨by have := HK1.out; omega⟩, dr_⟩
   ·
    rw [if_neg c3] at H
    have c3b0 : decide (x5_1 < (l0.length : Int)) = false := decide_eq_false c3
    clear c3
    obtain rfl := Option.some.inj H
    go_wp2
    go_ret
    exact ⟨rs_, dr_⟩
end Go.Proofs.Ytklhjponikgkkaa.X
