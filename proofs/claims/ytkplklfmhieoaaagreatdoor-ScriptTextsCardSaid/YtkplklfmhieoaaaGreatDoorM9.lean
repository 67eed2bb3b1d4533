/- Printed by a program of this session's own: what functions of the program compute, and that the machine computes it. No condition of its own. -/
import Derived.Test.YtkplklfmhieoaaaGreatDoorM3
import Derived.Test.YtkplklfmhieoaaaGreatDoorM4
import Derived.Test.YtkplklfmhieoaaaGreatDoorM5
import Derived.Test.YtkplklfmhieoaaaGreatDoorM6
import Derived.Test.YtkplklfmhieoaaaGreatDoorM7
import Derived.Test.YtkplklfmhieoaaaGreatDoorM8
namespace Go.Proofs.YtkplklfmhieoaaaGreatDoor.X
open Go.RowKit Go.Proofs.YtkplklfmhieoaaaGreatDoorW.PrintWords Go.Proofs.YtkplklfmhieoaaaGreatDoorW.PrintLast Go.Proofs.YtkplklfmhieoaaaGreatDoorW.PrintMore
attribute [local go_sem] max2_int min2_int max_two min_two max_three min_three max_four min_four
set_option linter.unusedVariables false
set_option linter.unusedSimpArgs false
set_option maxHeartbeats 8000000
set_option maxRecDepth 100000
def r26_Right.l0 : Nat → List (S37) → Int → Option (Bool)
 | 0, _, _ => none
 | k + 1, x0, x3 => if x3 < (x0.length : Int) then (if 0 ≤ x3 then ((r26_may.f ((rd_T37 x0 x3).f0) ((rd_T37 x0 x3).f1) ((rd_T37 x0 x3).f2)).bind fun t256 => (if t256 = true then (r26_Right.l0 k x0 (wrap64 (x3 + 1))) else (some false))) else (none)) else (some (decide ((x0.length : Int) ≤ 2000)))
def r26_Right.f (k : Nat) (l0 : List (S37)) : Option (Bool) := r26_Right.l0 k l0 0
theorem r26_Right.mono_l : ∀ k, (∀ y0 y1, LeC (r26_Right.l0 k y0 y1) (r26_Right.l0 (k + 1) y0 y1))
 | 0 => fun _ _ => ⟨fun r h => by simp [r26_Right.l0] at h⟩
 | k + 1 => by have ih0 := r26_Right.mono_l k; exact fun _ _ => by unfold r26_Right.l0; exact lm
theorem r26_Right.mono : ∀ a0 k, LeO (r26_Right.f k a0) (r26_Right.f (k + 1) a0) := by
 intro a0 k
 have ih0 := r26_Right.mono_l k
 unfold r26_Right.f
 exact lo
instance r26_Right.mI {a0 k} : LeC (r26_Right.f k a0) (r26_Right.f (k + 1) a0) := ⟨r26_Right.mono _ _⟩
theorem r26_Right.calls (k : Nat) (A0 : Option Addr) (c0 : Nat) (l0 : List (S37)) (r : Bool) (w : World) (hr0 : Kd.C k37 w A0 l0.length l0) (hc0 : l0.length ≤ c0) (h : r26_Right.f k l0 = some r) :
 Calls Tryz.prog 10 #[.slice A0 l0.length c0] w fun e w' => e = .returned (.bool r) ∧ Below w.heap.size w w' := by
 have hu37 := Tryz.underlying37
 have HR0 := Aside0.mk hr0
 have HC0 := Aside0.mk hc0
 clear hr0 hc0
 have HB := Aside0.mk (Below.refl w.heap.size w)
 have H : (r26_Right.l0 k l0 0) = some r := h
 clear h
 have H' := Aside0.mk H
 clear H
 go_enter Tryz.func10, Tryz.ntmps10
 go_wp2
 go_loopg [3] k (fun kq v3 w' => ∃ (x3_1 : Int), v3 = .int .i64 x3_1 ∧ Aside0 (r26_Right.l0 kq l0 x3_1 = some r) ∧ Aside0 (kq ≤ k) ∧ Aside0 (Below w.heap.size w w'))
 case atStart => exact ⟨(0), rs_, H', ⟨Nat.le_refl _⟩, ⟨uW HB.out⟩⟩
 case round =>
  clear H'
  try clear c1
  obtain ⟨x3_1, rfl, HA, HK1, HB⟩ := hrel
  cases gk with
  | zero => exact absurd HA.out (by simp [r26_Right.l0])
  | succ k1 =>
   have H := HA.out
   clear HA
   simp only [r26_Right.l0] at H
   by_cases c2 : x3_1 < (l0.length : Int)
   ·
    rw [if_pos c2] at H
    have c2b0 : decide (x3_1 < (l0.length : Int)) = true := decide_eq_true c2
    clear c2
    obtain ⟨c3b0, H⟩ := gdd H
    obtain ⟨t256, A4, H⟩ := bs H
    try dsimp only at H
    by_cases c5 : t256 = true
    ·
     subst c5
     rw [if_pos rfl] at H
     have H' := Aside0.mk H
     clear H
     have p255 : 0 ≤ (x3_1 : Int) := od
     have q255 : x3_1 < (l0.length : Int) := od
     obtain ⟨ad255, A255_2, c255_2, e255, hx255_0, hx255_1, hx255_2, hl255_2, hi255_2⟩ := at_T37 HR0.out x3_1 p255 q255
     cases e255
     replace hx255_0 := kc HB hx255_0
     replace hx255_1 := kc HB hx255_1
     replace hx255_2 := kc HB hx255_2
     have HR255_2 := Aside0.mk hi255_2
     have HC255_2 := Aside0.mk hl255_2
     clear hi255_2 hl255_2
     replace p255 := eq_true p255
     replace q255 := eq_true q255
     go_wp2_with (first | (refine gL (some 14) rfl Tryz.func23 #[.agg #[.int .i64 ((rd_T37 l0 x3_1).f0), .int .i64 ((rd_T37 l0 x3_1).f1), .slice A255_2 ((rd_T37 l0 x3_1).f2).length c255_2]] ?_; (with_reducible refine (r26_may.calls ((rd_T37 l0 x3_1).f0) ((rd_T37 l0 x3_1).f1) _ _ ((rd_T37 l0 x3_1).f2) true _ ?side1 ?side2 A4.out).mono ?_); (case side1 => exact uC <| (Kd.C_below HR255_2.out HB.out)); (case side2 => exact HC255_2.out); rintro e w6 ⟨rfl, hb⟩; refine ⟨_, rfl, ?_⟩; replace HB := cW HB hb; (try clear hb)))
     go_roundg k1
     case measure => have := HK1.out; omega
     case rel => exact ⟨(wrap64 (x3_1 + 1)), rs_, H', ⟨by have := HK1.out; omega⟩, ⟨uW HB.out⟩⟩
    ·
     replace c5 := Bool.eq_false_iff.mpr c5
     subst c5
     rw [if_neg (show ¬ (false = true) by decide)] at H
     obtain rfl := Option.some.inj H
     have p255 : 0 ≤ (x3_1 : Int) := od
     have q255 : x3_1 < (l0.length : Int) := od
     obtain ⟨ad255, A255_2, c255_2, e255, hx255_0, hx255_1, hx255_2, hl255_2, hi255_2⟩ := at_T37 HR0.out x3_1 p255 q255
     cases e255
     replace hx255_0 := kc HB hx255_0
     replace hx255_1 := kc HB hx255_1
     replace hx255_2 := kc HB hx255_2
     have HR255_2 := Aside0.mk hi255_2
     have HC255_2 := Aside0.mk hl255_2
     clear hi255_2 hl255_2
     replace p255 := eq_true p255
     replace q255 := eq_true q255
     go_wp2_with (first | (refine gL (some 14) rfl Tryz.func23 #[.agg #[.int .i64 ((rd_T37 l0 x3_1).f0), .int .i64 ((rd_T37 l0 x3_1).f1), .slice A255_2 ((rd_T37 l0 x3_1).f2).length c255_2]] ?_; (with_reducible refine (r26_may.calls ((rd_T37 l0 x3_1).f0) ((rd_T37 l0 x3_1).f1) _ _ ((rd_T37 l0 x3_1).f2) false _ ?side1 ?side2 A4.out).mono ?_); (case side1 => exact uC <| (Kd.C_below HR255_2.out HB.out)); (case side2 => exact HC255_2.out); rintro e w7 ⟨rfl, hb⟩; refine ⟨_, rfl, ?_⟩; replace HB := cW HB hb; (try clear hb)))
     go_ret
     exact ⟨re_, uW HB.out⟩
   ·
    rw [if_neg c2] at H
    have c2b0 : decide (x3_1 < (l0.length : Int)) = false := decide_eq_false c2
    clear c2
    obtain rfl := Option.some.inj H
    go_wp2
    go_ret
    exact ⟨re_, uW HB.out⟩
def r26_Same.l0 : Nat → List (S37) → List (S37) → Int → Option (Bool)
 | 0, _, _, _ => none
 | k + 1, x0, x1, x5 => if x5 < (x0.length : Int) then (if 0 ≤ x5 then (if x5 < (x1.length : Int) then (if ((rd_T37 x0 x5).f0) = ((rd_T37 x1 x5).f0) then (if ((rd_T37 x0 x5).f1) = ((rd_T37 x1 x5).f1) then (if (strOfNums ((rd_T37 x0 x5).f2)).toList = (strOfNums ((rd_T37 x1 x5).f2)).toList then (r26_Same.l0 k x0 x1 (wrap64 (x5 + 1))) else (some false)) else (some false)) else (some false)) else (none)) else (none)) else (some true)
def r26_Same.f (k : Nat) (l0 : List (S37)) (l1 : List (S37)) : Option (Bool) := if (l0.length : Int) = (l1.length : Int) then (r26_Same.l0 k l0 l1 0) else (some false)
theorem r26_Same.mono_l : ∀ k, (∀ y0 y1 y2, LeC (r26_Same.l0 k y0 y1 y2) (r26_Same.l0 (k + 1) y0 y1 y2))
 | 0 => fun _ _ _ => ⟨fun r h => by simp [r26_Same.l0] at h⟩
 | k + 1 => by have ih0 := r26_Same.mono_l k; exact fun _ _ _ => by unfold r26_Same.l0; exact lm
theorem r26_Same.mono : ∀ a0 a1 k, LeO (r26_Same.f k a0 a1) (r26_Same.f (k + 1) a0 a1) := by
 intro a0 a1 k
 have ih0 := r26_Same.mono_l k
 unfold r26_Same.f
 exact lo
instance r26_Same.mI {a0 a1 k} : LeC (r26_Same.f k a0 a1) (r26_Same.f (k + 1) a0 a1) := ⟨r26_Same.mono _ _ _⟩
theorem r26_Same.calls (k : Nat) (A0 : Option Addr) (c0 : Nat) (l0 : List (S37)) (A1 : Option Addr) (c1 : Nat) (l1 : List (S37)) (r : Bool) (w : World) (hr0 : Kd.C k37 w A0 l0.length l0) (hc0 : l0.length ≤ c0) (hr1 : Kd.C k37 w A1 l1.length l1) (hc1 : l1.length ≤ c1) (h : r26_Same.f k l0 l1 = some r) :
 Calls Tryz.prog 12 #[.slice A0 l0.length c0, .slice A1 l1.length c1] w fun e w' => e = .returned (.bool r) ∧ Drawn0 w w' := by
 have HR0 := Aside0.mk hr0
 have HC0 := Aside0.mk hc0
 clear hr0 hc0
 have HR1 := Aside0.mk hr1
 have HC1 := Aside0.mk hc1
 clear hr1 hc1
 have H : (if (l0.length : Int) = (l1.length : Int) then (r26_Same.l0 k l0 l1 0) else (some false)) = some r := h
 clear h
 by_cases c3 : (l0.length : Int) = (l1.length : Int)
 ·
  rw [if_pos c3] at H
  have c3b0 : ((l0.length : Int) == (l1.length : Int)) = true := beq_iff_eq.mpr c3
  have c3b1 : ((l0.length : Int) != (l1.length : Int)) = false := bne_eq_false_iff_eq.mpr c3
  have c3b2 : (l0.length == l1.length) = true := by first | simpa using c3 | (simp at c3 ⊢; omega)
  clear c3
  have H' := Aside0.mk H
  clear H
  go_enter Tryz.func12, Tryz.ntmps12
  go_wp2
  repeat (go_quiet (fail); try go_wp2)
  go_loopg [5] k (fun kq v5 w' => ∃ (x5_1 : Int), v5 = .int .i64 x5_1 ∧ Aside0 (r26_Same.l0 kq l0 l1 x5_1 = some r) ∧ Aside0 (kq ≤ k) ∧ Drawn0 w w')
  case atStart => exact ⟨(0), rs_, H', ⟨Nat.le_refl _⟩, dr_⟩
  case round =>
   clear H'
   try clear c1
   try clear p2
   try clear c3
   try clear c3b0
   try clear c3b1
   try clear c3b2
   obtain ⟨x5_1, rfl, HA, HK1, ⟨m1, rfl⟩⟩ := hrel
   cases gk with
   | zero => exact absurd HA.out (by simp [r26_Same.l0])
   | succ k1 =>
    have H := HA.out
    clear HA
    simp only [r26_Same.l0] at H
    by_cases c4 : x5_1 < (l0.length : Int)
    ·
     rw [if_pos c4] at H
     have c4b0 : decide (x5_1 < (l0.length : Int)) = true := decide_eq_true c4
     clear c4
     obtain ⟨c5b0, H⟩ := gdd H
     obtain ⟨c6b0, H⟩ := gdd H
     by_cases c7 : ((rd_T37 l0 x5_1).f0) = ((rd_T37 l1 x5_1).f0)
     ·
      rw [if_pos c7] at H
      have c7b0 : (((rd_T37 l0 x5_1).f0) == ((rd_T37 l1 x5_1).f0)) = true := beq_iff_eq.mpr c7
      have c7b1 : (((rd_T37 l0 x5_1).f0) != ((rd_T37 l1 x5_1).f0)) = false := bne_eq_false_iff_eq.mpr c7
      clear c7
      by_cases c8 : ((rd_T37 l0 x5_1).f1) = ((rd_T37 l1 x5_1).f1)
      ·
       rw [if_pos c8] at H
       have c8b0 : (((rd_T37 l0 x5_1).f1) == ((rd_T37 l1 x5_1).f1)) = true := beq_iff_eq.mpr c8
       have c8b1 : (((rd_T37 l0 x5_1).f1) != ((rd_T37 l1 x5_1).f1)) = false := bne_eq_false_iff_eq.mpr c8
       clear c8
       by_cases c9 : (strOfNums ((rd_T37 l0 x5_1).f2)).toList = (strOfNums ((rd_T37 l1 x5_1).f2)).toList
       ·
        rw [if_pos c9] at H
        have c9b0 : ((strOfNums ((rd_T37 l0 x5_1).f2)).toList == (strOfNums ((rd_T37 l1 x5_1).f2)).toList) = true := beq_iff_eq.mpr c9
        have c9b1 : ((strOfNums ((rd_T37 l0 x5_1).f2)).toList != (strOfNums ((rd_T37 l1 x5_1).f2)).toList) = false := bne_eq_false_iff_eq.mpr c9
        clear c9
        have H' := Aside0.mk H
        clear H
        have p257 : 0 ≤ (x5_1 : Int) := od
        have q257 : x5_1 < (l0.length : Int) := od
        obtain ⟨ad257, A257_2, c257_2, e257, hx257_0, hx257_1, hx257_2, hl257_2, hi257_2⟩ := at_T37 HR0.out x5_1 p257 q257
        cases e257
        have HR257_2 := Aside0.mk hi257_2
        have HC257_2 := Aside0.mk hl257_2
        clear hi257_2 hl257_2
        replace p257 := eq_true p257
        replace q257 := eq_true q257
        have p258 : 0 ≤ (x5_1 : Int) := od
        have q258 : x5_1 < (l1.length : Int) := od
        obtain ⟨ad258, A258_2, c258_2, e258, hx258_0, hx258_1, hx258_2, hl258_2, hi258_2⟩ := at_T37 HR1.out x5_1 p258 q258
        cases e258
        have HR258_2 := Aside0.mk hi258_2
        have HC258_2 := Aside0.mk hl258_2
        clear hi258_2 hl258_2
        replace p258 := eq_true p258
        replace q258 := eq_true q258
        have p259 : 0 ≤ (x5_1 : Int) := od
        have q259 : x5_1 < (l0.length : Int) := od
        obtain ⟨ad259, A259_2, c259_2, e259, hx259_0, hx259_1, hx259_2, hl259_2, hi259_2⟩ := at_T37 HR0.out x5_1 p259 q259
        obtain rfl : ad257 = ad259 := (by injection e259)
        have HR259_2 := Aside0.mk hi259_2
        have HC259_2 := Aside0.mk hl259_2
        clear hi259_2 hl259_2
        replace p259 := eq_true p259
        replace q259 := eq_true q259
        have ea_ := Option.some.inj (hx257_2.symm.trans hx259_2)
        injection ea_ with ea_ en_ ec_
        subst ea_
        subst ec_
        clear en_
        have p260 : 0 ≤ (x5_1 : Int) := od
        have q260 : x5_1 < (l1.length : Int) := od
        obtain ⟨ad260, A260_2, c260_2, e260, hx260_0, hx260_1, hx260_2, hl260_2, hi260_2⟩ := at_T37 HR1.out x5_1 p260 q260
        obtain rfl : ad258 = ad260 := (by injection e260)
        have HR260_2 := Aside0.mk hi260_2
        have HC260_2 := Aside0.mk hl260_2
        clear hi260_2 hl260_2
        replace p260 := eq_true p260
        replace q260 := eq_true q260
        have ea_ := Option.some.inj (hx258_2.symm.trans hx260_2)
        injection ea_ with ea_ en_ ec_
        subst ea_
        subst ec_
        clear en_
        have p261 : 0 ≤ (x5_1 : Int) := od
        have q261 : x5_1 < (l0.length : Int) := od
        obtain ⟨ad261, A261_2, c261_2, e261, hx261_0, hx261_1, hx261_2, hl261_2, hi261_2⟩ := at_T37 HR0.out x5_1 p261 q261
        obtain rfl : ad257 = ad261 := (by injection e261)
        have HR261_2 := Aside0.mk hi261_2
        have HC261_2 := Aside0.mk hl261_2
        clear hi261_2 hl261_2
        replace p261 := eq_true p261
        replace q261 := eq_true q261
        have ea_ := Option.some.inj (hx257_2.symm.trans hx261_2)
        injection ea_ with ea_ en_ ec_
        subst ea_
        subst ec_
        clear en_
        have hcv10 := Kd.C_string (P := Tryz.prog) (A := A257_2) (c := c257_2) Tryz.underlying35 Tryz.underlying5 Tryz.underlying9 HR261_2.out
        have hcv11 := fun m_ => Kd.C_string (P := Tryz.prog) (A := A257_2) (c := c257_2) Tryz.underlying35 Tryz.underlying5 Tryz.underlying9 (Kd.C_drewN HR261_2.out m_)
        have hcv12 := fun m_ n_ => Kd.C_string (P := Tryz.prog) (A := A257_2) (c := c257_2) Tryz.underlying35 Tryz.underlying5 Tryz.underlying9 (Kd.C_drewN (Kd.C_drewN HR261_2.out m_) n_)
        have p262 : 0 ≤ (x5_1 : Int) := od
        have q262 : x5_1 < (l1.length : Int) := od
        obtain ⟨ad262, A262_2, c262_2, e262, hx262_0, hx262_1, hx262_2, hl262_2, hi262_2⟩ := at_T37 HR1.out x5_1 p262 q262
        obtain rfl : ad258 = ad262 := (by injection e262)
        have HR262_2 := Aside0.mk hi262_2
        have HC262_2 := Aside0.mk hl262_2
        clear hi262_2 hl262_2
        replace p262 := eq_true p262
        replace q262 := eq_true q262
        have ea_ := Option.some.inj (hx258_2.symm.trans hx262_2)
        injection ea_ with ea_ en_ ec_
        subst ea_
        subst ec_
        clear en_
        have hcv13 := Kd.C_string (P := Tryz.prog) (A := A258_2) (c := c258_2) Tryz.underlying35 Tryz.underlying5 Tryz.underlying9 HR262_2.out
        have hcv14 := fun m_ => Kd.C_string (P := Tryz.prog) (A := A258_2) (c := c258_2) Tryz.underlying35 Tryz.underlying5 Tryz.underlying9 (Kd.C_drewN HR262_2.out m_)
        have hcv15 := fun m_ n_ => Kd.C_string (P := Tryz.prog) (A := A258_2) (c := c258_2) Tryz.underlying35 Tryz.underlying5 Tryz.underlying9 (Kd.C_drewN (Kd.C_drewN HR262_2.out m_) n_)
        go_wp2
        repeat (go_quiet (fail); try go_wp2)
        go_roundg k1
        case measure => have := HK1.out; omega
        case rel => exact ⟨(wrap64 (x5_1 + 1)), rs_, H', ⟨by have := HK1.out; omega⟩, dr_⟩
       ·
        rw [if_neg c9] at H
        have c9b0 : ((strOfNums ((rd_T37 l0 x5_1).f2)).toList == (strOfNums ((rd_T37 l1 x5_1).f2)).toList) = false := beq_eq_false_iff_ne.mpr c9
        have c9b1 : ((strOfNums ((rd_T37 l0 x5_1).f2)).toList != (strOfNums ((rd_T37 l1 x5_1).f2)).toList) = true := bne_iff_ne.mpr c9
        obtain rfl := Option.some.inj H
        have p257 : 0 ≤ (x5_1 : Int) := od
        have q257 : x5_1 < (l0.length : Int) := od
        obtain ⟨ad257, A257_2, c257_2, e257, hx257_0, hx257_1, hx257_2, hl257_2, hi257_2⟩ := at_T37 HR0.out x5_1 p257 q257
        cases e257
        have HR257_2 := Aside0.mk hi257_2
        have HC257_2 := Aside0.mk hl257_2
        clear hi257_2 hl257_2
        replace p257 := eq_true p257
        replace q257 := eq_true q257
        have p258 : 0 ≤ (x5_1 : Int) := od
        have q258 : x5_1 < (l1.length : Int) := od
        obtain ⟨ad258, A258_2, c258_2, e258, hx258_0, hx258_1, hx258_2, hl258_2, hi258_2⟩ := at_T37 HR1.out x5_1 p258 q258
        cases e258
        have HR258_2 := Aside0.mk hi258_2
        have HC258_2 := Aside0.mk hl258_2
        clear hi258_2 hl258_2
        replace p258 := eq_true p258
        replace q258 := eq_true q258
        have p259 : 0 ≤ (x5_1 : Int) := od
        have q259 : x5_1 < (l0.length : Int) := od
        obtain ⟨ad259, A259_2, c259_2, e259, hx259_0, hx259_1, hx259_2, hl259_2, hi259_2⟩ := at_T37 HR0.out x5_1 p259 q259
        obtain rfl : ad257 = ad259 := (by injection e259)
        have HR259_2 := Aside0.mk hi259_2
        have HC259_2 := Aside0.mk hl259_2
        clear hi259_2 hl259_2
        replace p259 := eq_true p259
        replace q259 := eq_true q259
        have ea_ := Option.some.inj (hx257_2.symm.trans hx259_2)
        injection ea_ with ea_ en_ ec_
        subst ea_
        subst ec_
        clear en_
        have p260 : 0 ≤ (x5_1 : Int) := od
        have q260 : x5_1 < (l1.length : Int) := od
        obtain ⟨ad260, A260_2, c260_2, e260, hx260_0, hx260_1, hx260_2, hl260_2, hi260_2⟩ := at_T37 HR1.out x5_1 p260 q260
        obtain rfl : ad258 = ad260 := (by injection e260)
        have HR260_2 := Aside0.mk hi260_2
        have HC260_2 := Aside0.mk hl260_2
        clear hi260_2 hl260_2
        replace p260 := eq_true p260
        replace q260 := eq_true q260
        have ea_ := Option.some.inj (hx258_2.symm.trans hx260_2)
        injection ea_ with ea_ en_ ec_
        subst ea_
        subst ec_
        clear en_
        have p261 : 0 ≤ (x5_1 : Int) := od
        have q261 : x5_1 < (l0.length : Int) := od
        obtain ⟨ad261, A261_2, c261_2, e261, hx261_0, hx261_1, hx261_2, hl261_2, hi261_2⟩ := at_T37 HR0.out x5_1 p261 q261
        obtain rfl : ad257 = ad261 := (by injection e261)
        have HR261_2 := Aside0.mk hi261_2
        have HC261_2 := Aside0.mk hl261_2
        clear hi261_2 hl261_2
        replace p261 := eq_true p261
        replace q261 := eq_true q261
        have ea_ := Option.some.inj (hx257_2.symm.trans hx261_2)
        injection ea_ with ea_ en_ ec_
        subst ea_
        subst ec_
        clear en_
        have hcv16 := Kd.C_string (P := Tryz.prog) (A := A257_2) (c := c257_2) Tryz.underlying35 Tryz.underlying5 Tryz.underlying9 HR261_2.out
        have hcv17 := fun m_ => Kd.C_string (P := Tryz.prog) (A := A257_2) (c := c257_2) Tryz.underlying35 Tryz.underlying5 Tryz.underlying9 (Kd.C_drewN HR261_2.out m_)
        have hcv18 := fun m_ n_ => Kd.C_string (P := Tryz.prog) (A := A257_2) (c := c257_2) Tryz.underlying35 Tryz.underlying5 Tryz.underlying9 (Kd.C_drewN (Kd.C_drewN HR261_2.out m_) n_)
        have p262 : 0 ≤ (x5_1 : Int) := od
        have q262 : x5_1 < (l1.length : Int) := od
        obtain ⟨ad262, A262_2, c262_2, e262, hx262_0, hx262_1, hx262_2, hl262_2, hi262_2⟩ := at_T37 HR1.out x5_1 p262 q262
        obtain rfl : ad258 = ad262 := (by injection e262)
        have HR262_2 := Aside0.mk hi262_2
        have HC262_2 := Aside0.mk hl262_2
        clear hi262_2 hl262_2
        replace p262 := eq_true p262
        replace q262 := eq_true q262
        have ea_ := Option.some.inj (hx258_2.symm.trans hx262_2)
        injection ea_ with ea_ en_ ec_
        subst ea_
        subst ec_
        clear en_
        have hcv19 := Kd.C_string (P := Tryz.prog) (A := A258_2) (c := c258_2) Tryz.underlying35 Tryz.underlying5 Tryz.underlying9 HR262_2.out
        have hcv20 := fun m_ => Kd.C_string (P := Tryz.prog) (A := A258_2) (c := c258_2) Tryz.underlying35 Tryz.underlying5 Tryz.underlying9 (Kd.C_drewN HR262_2.out m_)
        have hcv21 := fun m_ n_ => Kd.C_string (P := Tryz.prog) (A := A258_2) (c := c258_2) Tryz.underlying35 Tryz.underlying5 Tryz.underlying9 (Kd.C_drewN (Kd.C_drewN HR262_2.out m_) n_)
        go_wp2
        repeat (go_quiet (fail); try go_wp2)
        go_ret
        exact ⟨rs_, dr_⟩
      ·
       rw [if_neg c8] at H
       have c8b0 : (((rd_T37 l0 x5_1).f1) == ((rd_T37 l1 x5_1).f1)) = false := beq_eq_false_iff_ne.mpr c8
       have c8b1 : (((rd_T37 l0 x5_1).f1) != ((rd_T37 l1 x5_1).f1)) = true := bne_iff_ne.mpr c8
       obtain rfl := Option.some.inj H
       have p257 : 0 ≤ (x5_1 : Int) := od
       have q257 : x5_1 < (l0.length : Int) := od
       obtain ⟨ad257, A257_2, c257_2, e257, hx257_0, hx257_1, hx257_2, hl257_2, hi257_2⟩ := at_T37 HR0.out x5_1 p257 q257
       cases e257
       have HR257_2 := Aside0.mk hi257_2
       have HC257_2 := Aside0.mk hl257_2
       clear hi257_2 hl257_2
       replace p257 := eq_true p257
       replace q257 := eq_true q257
       have p258 : 0 ≤ (x5_1 : Int) := od
       have q258 : x5_1 < (l1.length : Int) := od
       obtain ⟨ad258, A258_2, c258_2, e258, hx258_0, hx258_1, hx258_2, hl258_2, hi258_2⟩ := at_T37 HR1.out x5_1 p258 q258
       cases e258
       have HR258_2 := Aside0.mk hi258_2
       have HC258_2 := Aside0.mk hl258_2
       clear hi258_2 hl258_2
       replace p258 := eq_true p258
       replace q258 := eq_true q258
       have p259 : 0 ≤ (x5_1 : Int) := od
       have q259 : x5_1 < (l0.length : Int) := od
       obtain ⟨ad259, A259_2, c259_2, e259, hx259_0, hx259_1, hx259_2, hl259_2, hi259_2⟩ := at_T37 HR0.out x5_1 p259 q259
       obtain rfl : ad257 = ad259 := (by injection e259)
       have HR259_2 := Aside0.mk hi259_2
       have HC259_2 := Aside0.mk hl259_2
       clear hi259_2 hl259_2
       replace p259 := eq_true p259
       replace q259 := eq_true q259
       have ea_ := Option.some.inj (hx257_2.symm.trans hx259_2)
       injection ea_ with ea_ en_ ec_
       subst ea_
       subst ec_
       clear en_
       have p260 : 0 ≤ (x5_1 : Int) := od
       have q260 : x5_1 < (l1.length : Int) := od
       obtain ⟨ad260, A260_2, c260_2, e260, hx260_0, hx260_1, hx260_2, hl260_2, hi260_2⟩ := at_T37 HR1.out x5_1 p260 q260
       obtain rfl : ad258 = ad260 := (by injection e260)
       have HR260_2 := Aside0.mk hi260_2
       have HC260_2 := Aside0.mk hl260_2
       clear hi260_2 hl260_2
       replace p260 := eq_true p260
       replace q260 := eq_true q260
       have ea_ := Option.some.inj (hx258_2.symm.trans hx260_2)
       injection ea_ with ea_ en_ ec_
       subst ea_
       subst ec_
       clear en_
       go_wp2
       repeat (go_quiet (fail); try go_wp2)
       go_ret
       exact ⟨rs_, dr_⟩
     ·
      rw [if_neg c7] at H
      have c7b0 : (((rd_T37 l0 x5_1).f0) == ((rd_T37 l1 x5_1).f0)) = false := beq_eq_false_iff_ne.mpr c7
      have c7b1 : (((rd_T37 l0 x5_1).f0) != ((rd_T37 l1 x5_1).f0)) = true := bne_iff_ne.mpr c7
      obtain rfl := Option.some.inj H
      have p257 : 0 ≤ (x5_1 : Int) := od
      have q257 : x5_1 < (l0.length : Int) := od
      obtain ⟨ad257, A257_2, c257_2, e257, hx257_0, hx257_1, hx257_2, hl257_2, hi257_2⟩ := at_T37 HR0.out x5_1 p257 q257
      cases e257
      have HR257_2 := Aside0.mk hi257_2
      have HC257_2 := Aside0.mk hl257_2
      clear hi257_2 hl257_2
      replace p257 := eq_true p257
      replace q257 := eq_true q257
      have p258 : 0 ≤ (x5_1 : Int) := od
      have q258 : x5_1 < (l1.length : Int) := od
      obtain ⟨ad258, A258_2, c258_2, e258, hx258_0, hx258_1, hx258_2, hl258_2, hi258_2⟩ := at_T37 HR1.out x5_1 p258 q258
      cases e258
      have HR258_2 := Aside0.mk hi258_2
      have HC258_2 := Aside0.mk hl258_2
      clear hi258_2 hl258_2
      replace p258 := eq_true p258
      replace q258 := eq_true q258
      go_wp2
      repeat (go_quiet (fail); try go_wp2)
      go_ret
      exact ⟨rs_, dr_⟩
    ·
     rw [if_neg c4] at H
     have c4b0 : decide (x5_1 < (l0.length : Int)) = false := decide_eq_false c4
     clear c4
     obtain rfl := Option.some.inj H
     go_wp2
     repeat (go_quiet (fail); try go_wp2)
     go_ret
     exact ⟨rs_, dr_⟩
 ·
  rw [if_neg c3] at H
  have c3b0 : ((l0.length : Int) == (l1.length : Int)) = false := beq_eq_false_iff_ne.mpr c3
  have c3b1 : ((l0.length : Int) != (l1.length : Int)) = true := bne_iff_ne.mpr c3
  have c3b2 : (l0.length == l1.length) = false := by first | simpa using c3 | (simp at c3 ⊢; omega)
  obtain rfl := Option.some.inj H
  go_enter Tryz.func12, Tryz.ntmps12
  go_wp2
  repeat (go_quiet (fail); try go_wp2)
  go_ret
  exact ⟨rs_, dr_⟩
def w26_ScriptTexts.j0 : Nat → List (S37) → List (S37) → Bool → Option (Bool)
 | 0, _, _, _ => none
 | k + 1, x0, x1, x18 => if x18 = true then (some true) else ((script_Text.f k x0).bind fun bt266 => ((r26_Text.f k x0).bind fun bt268 => (if bt266.1.toList = bt268.1.toList then (if bt266.2 = bt268.2 then ((script_Right.f k x0).bind fun t270 => ((r26_Right.f k x0).bind fun t271 => (if (t270 == t271) = true then ((script_Same.f k x0 x1).bind fun t272 => ((r26_Same.f k x0 x1).bind fun t273 => (some (t272 == t273)))) else (none)))) else (none)) else (none))))
def w26_ScriptTexts.f (k : Nat) (l0 : List (S37)) (l1 : List (S37)) : Option (Bool) := (w26_alive.f k).bind fun t263 => (if t263 = true then ((r25_Few.f k l0 2010).bind fun t264 => (if t264 = true then ((r25_Few.f k l1 2010).bind fun t265 => (w26_ScriptTexts.j0 k l0 l1 (!t265))) else (w26_ScriptTexts.j0 k l0 l1 true))) else (none))
theorem w26_ScriptTexts.mono_l : ∀ k, (∀ y0 y1 y2, LeC (w26_ScriptTexts.j0 k y0 y1 y2) (w26_ScriptTexts.j0 (k + 1) y0 y1 y2))
 | 0 => fun _ _ _ => ⟨fun r h => by simp [w26_ScriptTexts.j0] at h⟩
 | k + 1 => by have ih0 := w26_ScriptTexts.mono_l k; exact fun _ _ _ => by unfold w26_ScriptTexts.j0; exact lm
theorem w26_ScriptTexts.mono : ∀ a0 a1 k, LeO (w26_ScriptTexts.f k a0 a1) (w26_ScriptTexts.f (k + 1) a0 a1) := by
 intro a0 a1 k
 have ih0 := w26_ScriptTexts.mono_l k
 unfold w26_ScriptTexts.f
 exact lo
instance w26_ScriptTexts.mI {a0 a1 k} : LeC (w26_ScriptTexts.f k a0 a1) (w26_ScriptTexts.f (k + 1) a0 a1) := ⟨w26_ScriptTexts.mono _ _ _⟩
theorem w26_ScriptTexts.calls (k : Nat) (A0 : Option Addr) (c0 : Nat) (l0 : List (S37)) (A1 : Option Addr) (c1 : Nat) (l1 : List (S37)) (r : Bool) (w : World) (hr0 : Kd.C k37 w A0 l0.length l0) (hc0 : l0.length ≤ c0) (hr1 : Kd.C k37 w A1 l1.length l1) (hc1 : l1.length ≤ c1) (hL : LD w) (h : w26_ScriptTexts.f k l0 l1 = some r) :
 Calls Tryz.prog 3 #[.slice A0 l0.length c0, .slice A1 l1.length c1] w fun e w' => e = .returned (.bool r) ∧ Below w.heap.size w w' := by
 have HL0 := Aside0.mk hL
 clear hL
 have HR0 := Aside0.mk hr0
 have HC0 := Aside0.mk hc0
 clear hr0 hc0
 have HR1 := Aside0.mk hr1
 have HC1 := Aside0.mk hc1
 clear hr1 hc1
 have HB := Aside0.mk (Below.refl w.heap.size w)
 have H : ((w26_alive.f k).bind fun t263 => (if t263 = true then ((r25_Few.f k l0 2010).bind fun t264 => (if t264 = true then ((r25_Few.f k l1 2010).bind fun t265 => (w26_ScriptTexts.j0 k l0 l1 (!t265))) else (w26_ScriptTexts.j0 k l0 l1 true))) else (none))) = some r := h
 clear h
 obtain ⟨t263, A3, H⟩ := bs H
 try dsimp only at H
 by_cases c4 : t263 = true
 ·
  subst c4
  rw [if_pos rfl] at H
  have HC5 := Aside0.mk H
  clear H
  go_enter Tryz.func3, Tryz.ntmps3
  go_upto_region 3 with (first | (refine gL (some 9) rfl Tryz.func5 #[] ?_; (with_reducible refine (w26_alive.calls (hL := ld) k  true _ A3.out).mono ?_); rintro e w6 ⟨rfl, hb⟩; refine ⟨_, rfl, ?_⟩; replace HB := cW HB hb; (try clear hb)))
  (try simp only [Act.put, List.setIfInBounds_toArray, List.set_cons_zero, List.set_cons_succ])
  go_cut [18] (fun v18 wc => ∃ (kq : Nat) (x18_4 : Bool), v18 = .bool x18_4 ∧ Aside0 (w26_ScriptTexts.j0 kq l0 l1 x18_4 = some r) ∧ Aside0 (kq ≤ k) ∧ Aside0 (Below w.heap.size w wc))
  case first =>
   have H := HC5.out
   clear HC5
   obtain ⟨t264, A7, H⟩ := bs H
   try dsimp only at H
   by_cases c8 : t264 = true
   ·
    subst c8
    rw [if_pos rfl] at H
    obtain ⟨t265, A9, H⟩ := bs H
    try dsimp only at H
    have H' := Aside0.mk H
    clear H
    go_wp2_with (first | (refine gL (some 12) rfl Tryz.func6 #[.slice A0 l0.length c0, .int .i64 2010] ?_; (with_reducible refine (r25_Few.calls k _ _ l0 2010 true _ ?side1 ?side2 A7.out).mono ?_); (case side1 => exact uC <| (Kd.C_below HR0.out HB.out)); (case side2 => exact HC0.out); rintro e w' ⟨rfl, ⟨nd, rfl⟩⟩; refine ⟨_, rfl, ?_⟩) | (go_at_call 6; (with_reducible refine (r25_Few.calls k _ _ l1 2010 t265 _ ?side1 ?side2 A9.out).mono ?_); (case side1 => exact (Kd.C_below HR1.out (uW HB.out))); (case side2 => exact HC1.out); rintro e w' ⟨rfl, ⟨nd, rfl⟩⟩))
    go_meet
    case rel => exact ⟨_, (!t265), rs_, H', ⟨by first | omega | exact Nat.le_refl _⟩, ⟨uW HB.out⟩⟩
   ·
    replace c8 := Bool.eq_false_iff.mpr c8
    subst c8
    rw [if_neg (show ¬ (false = true) by decide)] at H
    have H' := Aside0.mk H
    clear H
    go_wp2_with (first | (refine gL (some 12) rfl Tryz.func6 #[.slice A0 l0.length c0, .int .i64 2010] ?_; (with_reducible refine (r25_Few.calls k _ _ l0 2010 false _ ?side1 ?side2 A7.out).mono ?_); (case side1 => exact uC <| (Kd.C_below HR0.out HB.out)); (case side2 => exact HC0.out); rintro e w' ⟨rfl, ⟨nd, rfl⟩⟩; refine ⟨_, rfl, ?_⟩))
    go_meet
    case rel => exact ⟨_, (true), rs_, H', ⟨by first | omega | exact Nat.le_refl _⟩, ⟨uW HB.out⟩⟩
  case rest =>
   clear HC5
   try clear c1
   try clear p2
   try clear c3
   try clear c4
   try clear c5
   try clear c6
   try clear c8
   obtain ⟨kq, x18_4, rfl, HA, HJ4, HB⟩ := hcut
   cases kq with
   | zero => exact absurd HA.out (by simp [w26_ScriptTexts.j0])
   | succ kj4 =>
    have H := HA.out
    clear HA
    simp only [w26_ScriptTexts.j0] at H
    by_cases c10 : x18_4 = true
    ·
     subst c10
     rw [if_pos rfl] at H
     obtain rfl := Option.some.inj H
     go_wp2
     go_ret
     exact ⟨re_, uW HB.out⟩
    ·
     replace c10 := Bool.eq_false_iff.mpr c10
     subst c10
     rw [if_neg (show ¬ (false = true) by decide)] at H
     obtain ⟨⟨t266, t267⟩, A11, H⟩ := bs H
     try dsimp only at H
     obtain ⟨⟨t268, t269⟩, A12, H⟩ := bs H
     try dsimp only at H
     obtain ⟨c13, H⟩ := gd H
     have c13b0 : (t266.toList == t268.toList) = true := beq_iff_eq.mpr c13
     have c13b1 : (t266.toList != t268.toList) = false := bne_eq_false_iff_eq.mpr c13
     clear c13
     obtain ⟨c14, H⟩ := gd H
     have c14b0 : (t267 == t269) = true := beq_iff_eq.mpr c14
     have c14b1 : (t267 != t269) = false := bne_eq_false_iff_eq.mpr c14
     clear c14
     obtain ⟨t270, A15, H⟩ := bs H
     try dsimp only at H
     obtain ⟨t271, A16, H⟩ := bs H
     try dsimp only at H
     obtain ⟨c17, H⟩ := gd H
     have c17b0 : (t270 == t271) = true := c17
     (try (have c17b1 : decide (t270 = t271) = true := by simpa using c17))
     (try (have c17b2 : (t270 == t271) = true := by simpa using c17))
     clear c17
     obtain ⟨t272, A18, H⟩ := bs H
     try dsimp only at H
     obtain ⟨t273, A19, H⟩ := bs H
     try dsimp only at H
     obtain rfl := Option.some.inj H
     go_wp2_with (first | (refine gL (some 21) rfl Tryz.func7 #[.slice A0 l0.length c0] ?_; (with_reducible refine (script_Text.calls (hL := ld) kj4 _ _ l0 t266 t267 _ ?side1 ?side2 A11.out).mono ?_); (case side1 => exact uC <| (Kd.C_below HR0.out HB.out)); (case side2 => exact HC0.out); rintro e w20 ⟨rfl, hb⟩; refine ⟨_, rfl, ?_⟩; replace HB := cW HB hb; (try clear hb)) | (refine gL (some 26) rfl Tryz.func8 #[.slice A0 l0.length c0] ?_; (with_reducible refine (r26_Text.calls kj4 _ _ l0 t268 t269 _ ?side1 ?side2 A12.out).mono ?_); (case side1 => exact uC <| (Kd.C_below HR0.out HB.out)); (case side2 => exact HC0.out); rintro e w21 ⟨rfl, hb⟩; refine ⟨_, rfl, ?_⟩; replace HB := cW HB hb; (try clear hb)) | (go_at_call 9; (with_reducible refine (script_Right.calls kj4 _ _ l0 t270 _ ?side1 ?side2 A15.out).mono ?_); (case side1 => exact uC <| (Kd.C_below HR0.out HB.out)); (case side2 => exact HC0.out); rintro e w22 ⟨rfl, hb⟩; replace HB := cW HB hb; (try clear hb)) | (go_at_call 10; (with_reducible refine (r26_Right.calls kj4 _ _ l0 t271 _ ?side1 ?side2 A16.out).mono ?_); (case side1 => exact uC <| (Kd.C_below HR0.out HB.out)); (case side2 => exact HC0.out); rintro e w23 ⟨rfl, hb⟩; replace HB := cW HB hb; (try clear hb)) | (go_at_call 11; (with_reducible refine (script_Same.calls kj4 _ _ l0 _ _ l1 t272 _ ?side1 ?side2 ?side3 ?side4 A18.out).mono ?_); (case side1 => exact uC <| (Kd.C_below HR0.out HB.out)); (case side2 => exact HC0.out); (case side3 => exact uC <| (Kd.C_below HR1.out HB.out)); (case side4 => exact HC1.out); rintro e w24 ⟨rfl, hb⟩; replace HB := cW HB hb; (try clear hb)) | (go_at_call 12; (with_reducible refine (r26_Same.calls kj4 _ _ l0 _ _ l1 t273 _ ?side1 ?side2 ?side3 ?side4 A19.out).mono ?_); (case side1 => exact uC <| (Kd.C_below HR0.out HB.out)); (case side2 => exact HC0.out); (case side3 => exact uC <| (Kd.C_below HR1.out HB.out)); (case side4 => exact HC1.out); rintro e w' ⟨rfl, ⟨nd, rfl⟩⟩))
     go_ret
     exact ⟨re_, uW HB.out⟩
 ·
  replace c4 := Bool.eq_false_iff.mpr c4
  subst c4
  rw [if_neg (show ¬ (false = true) by decide)] at H
  exact absurd H (by simp)
def w26_ScriptTexts.Pure : Prop := ∀ (l0 : List (S37)) (l1 : List (S37)), (l0.length ≤ maxLen ∧ ∀ x0_ ∈ l0, Q37 x0_) → l0.length * 40 ≤ 140737488351232 → (l1.length ≤ maxLen ∧ ∀ x0_ ∈ l1, Q37 x0_) → l1.length * 40 ≤ 140737488351232 → ∃ k, w26_ScriptTexts.f k l0 l1 = some true
theorem w26_ScriptTexts.walk (P : w26_ScriptTexts.Pure) (l0 : List (S37)) (l1 : List (S37)) (w : World) (hL : LD w) (A0 : Option Addr) (c0 : Nat) (hr0 : Kd.C k37 w A0 l0.length l0) (hc0 : l0.length ≤ c0) (A1 : Option Addr) (c1 : Nat) (hr1 : Kd.C k37 w A1 l1.length l1) (hc1 : l1.length ≤ c1) (q0 : l0.length ≤ maxLen ∧ ∀ x0_ ∈ l0, Q37 x0_) (y0 : l0.length * 40 ≤ 140737488351232) (q1 : l1.length ≤ maxLen ∧ ∀ x0_ ∈ l1, Q37 x0_) (y1 : l1.length * 40 ≤ 140737488351232) :
 Calls Tryz.prog 3 #[.slice A0 l0.length c0, .slice A1 l1.length c1] w fun e w' => e = .returned (.bool true) ∧ Below w.heap.size w w' := by
 obtain ⟨k, h⟩ := P l0 l1 q0 y0 q1 y1
 refine (w26_ScriptTexts.calls (hL := hL) k A0 c0 l0 A1 c1 l1 true w hr0 hc0 hr1 hc1 h).mono ?_
 rintro e w' ⟨rfl, hd⟩
 exact ⟨rfl, hd⟩
end Go.Proofs.YtkplklfmhieoaaaGreatDoor.X
