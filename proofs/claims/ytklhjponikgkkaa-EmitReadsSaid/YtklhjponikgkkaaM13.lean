/- Printed by a program of this session's own: what functions of the program compute, and that the machine computes it. No condition of its own. -/
import Derived.Test.YtklhjponikgkkaaM3
import Derived.Test.YtklhjponikgkkaaM4
import Derived.Test.YtklhjponikgkkaaM11
import Derived.Test.YtklhjponikgkkaaM12
import Derived.Test.YtklhjponikgkkaaM7
import Derived.Test.YtklhjponikgkkaaM8
namespace Go.Proofs.Ytklhjponikgkkaa.X
open Go.RowKit Go.Proofs.YtklhjponikgkkaaW.PrintWords Go.Proofs.YtklhjponikgkkaaW.PrintLast Go.Proofs.YtklhjponikgkkaaW.PrintMore
attribute [local go_sem] max2_int min2_int max_two min_two max_three min_three max_four min_four
set_option linter.unusedVariables false
set_option linter.unusedSimpArgs false
set_option maxHeartbeats 8000000
set_option maxRecDepth 100000
attribute [local go_sem high] eqA56
mutual
def w17_EmitReads.l0 : Nat → Int → Int → List (S50) → Int → Int → Int → Int → List (S56) → Option (Bool)
 | 0, _, _, _, _, _, _, _, _ => none
 | k + 1, x0, x1, x2, x8, x9, x375000, x375001, x375002 => if x9 < (x2.length : Int) then (if 0 ≤ x9 then ((r11_Read.f k ((rd_T50 x2 x9).f0) x1 ([] : List (S46))).bind fun t376 => (w17_EmitReads.l1 k x0 x1 x2 x8 x9 t376 0 x375000 x375001 x375002)) else (none)) else (w17_EmitReads.l3 k x0 x1 x8 1 x375000 x375001 x375002)
def w17_EmitReads.l1 : Nat → Int → Int → List (S50) → Int → Int → List (S56) → Int → Int → Int → List (S56) → Option (Bool)
 | 0, _, _, _, _, _, _, _, _, _, _ => none
 | k + 1, x0, x1, x2, x8, x9, x10, x11, x375000, x375001, x375002 => if x11 < (x10.length : Int) then (if 0 ≤ x11 then (if ((rd_T56 x10 x11).f0) = x0 then (w17_EmitReads.l2 k x0 x1 x2 (wrap64 (x8 + 1)) x9 x10 x11 false 0 x375000 x375001 x375002) else (w17_EmitReads.l1 k x0 x1 x2 x8 x9 x10 (wrap64 (x11 + 1)) x375000 x375001 x375002)) else (none)) else (w17_EmitReads.l0 k x0 x1 x2 x8 (wrap64 (x9 + 1)) x375000 x375001 x375002)
def w17_EmitReads.l2 : Nat → Int → Int → List (S50) → Int → Int → List (S56) → Int → Bool → Int → Int → Int → List (S56) → Option (Bool)
 | 0, _, _, _, _, _, _, _, _, _, _, _, _ => none
 | k + 1, x0, x1, x2, x8, x9, x10, x11, x12, x13, x375000, x375001, x375002 => if x13 < (x375002.length : Int) then (if x12 = true then (w17_EmitReads.l2 k x0 x1 x2 x8 x9 x10 x11 true (wrap64 (x13 + 1)) x375000 x375001 x375002) else (if 0 ≤ x13 then (if 0 ≤ x11 then (if x11 < (x10.length : Int) then (w17_EmitReads.l2 k x0 x1 x2 x8 x9 x10 x11 (((rd_T56 x375002 x13).f0) == ((rd_T56 x10 x11).f0) && ((((rd_T56 x375002 x13).f1).toList) == (((rd_T56 x10 x11).f1).toList) && ((((rd_T56 x375002 x13).f2.f0) == ((rd_T56 x10 x11).f2.f0) && ((((rd_T56 x375002 x13).f2.f1.f0) == ((rd_T56 x10 x11).f2.f1.f0) && (((rd_T56 x375002 x13).f2.f1.f1) == ((rd_T56 x10 x11).f2.f1.f1))) && (((rd_T56 x375002 x13).f2.f2) == ((rd_T56 x10 x11).f2.f2) && (((rd_T56 x375002 x13).f2.f3) == ((rd_T56 x10 x11).f2.f3)))))))) (wrap64 (x13 + 1)) x375000 x375001 x375002) else (none)) else (none)) else (none))) else (if x12 = true then (w17_EmitReads.l1 k x0 x1 x2 x8 x9 x10 (wrap64 (x11 + 1)) x375000 x375001 x375002) else (none))
def w17_EmitReads.l3 : Nat → Int → Int → Int → Int → Int → Int → List (S56) → Option (Bool)
 | 0, _, _, _, _, _, _, _ => none
 | k + 1, x0, x1, x8, x14, x375000, x375001, x375002 => if x14 < (x375002.length : Int) then (if 0 ≤ (wrap64 (x14 - 1)) then (if (wrap64 (x14 - 1)) < (x375002.length : Int) then (if 0 ≤ x14 then (if (Op.bytesLess (((rd_T56 x375002 x14).f1).toList) (((rd_T56 x375002 (wrap64 (x14 - 1))).f1).toList)) = true then (none) else (w17_EmitReads.l3 k x0 x1 x8 (wrap64 (x14 + 1)) x375000 x375001 x375002)) else (none)) else (none)) else (none)) else (if x8 = (x375002.length : Int) then (if x375000 = x0 then (some (x375001 == x1)) else (none)) else (none))
end
def w17_EmitReads.f (k : Nat) (a0 : Int) (a1 : Int) (l2 : List (S50)) : Option (Bool) := (w17_alive.f k).bind fun t367 => (if t367 = true then ((r16_Great.f k l2).bind fun t368 => (if t368 = true then (some true) else ((emit_Take.f k a0 a1 l2).bind fun bt369 => (w17_EmitReads.l0 k a0 a1 l2 0 0 bt369.1 bt369.2.1 bt369.2.2)))) else (none))
theorem w17_EmitReads.mono_l : ∀ k, (∀ y0 y1 y2 y3 y4 y5 y6 y7, LeC (w17_EmitReads.l0 k y0 y1 y2 y3 y4 y5 y6 y7) (w17_EmitReads.l0 (k + 1) y0 y1 y2 y3 y4 y5 y6 y7)) ∧ (∀ y0 y1 y2 y3 y4 y5 y6 y7 y8 y9, LeC (w17_EmitReads.l1 k y0 y1 y2 y3 y4 y5 y6 y7 y8 y9) (w17_EmitReads.l1 (k + 1) y0 y1 y2 y3 y4 y5 y6 y7 y8 y9)) ∧ (∀ y0 y1 y2 y3 y4 y5 y6 y7 y8 y9 y10 y11, LeC (w17_EmitReads.l2 k y0 y1 y2 y3 y4 y5 y6 y7 y8 y9 y10 y11) (w17_EmitReads.l2 (k + 1) y0 y1 y2 y3 y4 y5 y6 y7 y8 y9 y10 y11)) ∧ (∀ y0 y1 y2 y3 y4 y5 y6, LeC (w17_EmitReads.l3 k y0 y1 y2 y3 y4 y5 y6) (w17_EmitReads.l3 (k + 1) y0 y1 y2 y3 y4 y5 y6))
 | 0 => ⟨fun _ _ _ _ _ _ _ _ => ⟨fun r h => by simp [w17_EmitReads.l0] at h⟩, fun _ _ _ _ _ _ _ _ _ _ => ⟨fun r h => by simp [w17_EmitReads.l1] at h⟩, fun _ _ _ _ _ _ _ _ _ _ _ _ => ⟨fun r h => by simp [w17_EmitReads.l2] at h⟩, fun _ _ _ _ _ _ _ => ⟨fun r h => by simp [w17_EmitReads.l3] at h⟩⟩
 | k + 1 => by obtain ⟨ih0, ih1, ih2, ih3⟩ := w17_EmitReads.mono_l k; exact ⟨fun _ _ _ _ _ _ _ _ => by unfold w17_EmitReads.l0; exact lm, fun _ _ _ _ _ _ _ _ _ _ => by unfold w17_EmitReads.l1; exact lm, fun _ _ _ _ _ _ _ _ _ _ _ _ => by unfold w17_EmitReads.l2; exact lm, fun _ _ _ _ _ _ _ => by unfold w17_EmitReads.l3; exact lm⟩
theorem w17_EmitReads.mono : ∀ a0 a1 a2 k, LeO (w17_EmitReads.f k a0 a1 a2) (w17_EmitReads.f (k + 1) a0 a1 a2) := by
 intro a0 a1 a2 k
 obtain ⟨ih0, ih1, ih2, ih3⟩ := w17_EmitReads.mono_l k
 unfold w17_EmitReads.f
 exact lo
instance w17_EmitReads.mI {a0 a1 a2 k} : LeC (w17_EmitReads.f k a0 a1 a2) (w17_EmitReads.f (k + 1) a0 a1 a2) := ⟨w17_EmitReads.mono _ _ _ _⟩
theorem w17_EmitReads.calls (k : Nat) (a0 : Int) (a1 : Int) (A2 : Option Addr) (c2 : Nat) (l2 : List (S50)) (r : Bool) (w : World) (hr2 : Kd.C k50 w A2 l2.length l2) (hc2 : l2.length ≤ c2) (h : w17_EmitReads.f k a0 a1 l2 = some r) :
 Calls Try.prog 6 #[.int .i64 a0, .int .i64 a1, .slice A2 l2.length c2] w fun e w' => e = .returned (.bool r) ∧ Below w.heap.size w w' := by
 have hu38 := Try.underlying38
 have hu50 := Try.underlying50
 have hu56 := Try.underlying56
 have HR2 := Aside0.mk hr2
 have HC2 := Aside0.mk hc2
 clear hr2 hc2
 have HB := Aside0.mk (Below.refl w.heap.size w)
 have H : ((w17_alive.f k).bind fun t367 => (if t367 = true then ((r16_Great.f k l2).bind fun t368 => (if t368 = true then (some true) else ((emit_Take.f k a0 a1 l2).bind fun bt369 => (w17_EmitReads.l0 k a0 a1 l2 0 0 bt369.1 bt369.2.1 bt369.2.2)))) else (none))) = some r := h
 clear h
 obtain ⟨t367, A4, H⟩ := bs H
 try dsimp only at H
 by_cases c5 : t367 = true
 ·
  subst c5
  rw [if_pos rfl] at H
  obtain ⟨t368, A6, H⟩ := bs H
  try dsimp only at H
  by_cases c7 : t368 = true
  ·
   subst c7
   rw [if_pos rfl] at H
   obtain rfl := Option.some.inj H
   go_enter Try.func6, Try.ntmps6
   go_wp2_with (first | (go_at_call 7; (with_reducible refine (w17_alive.calls k  true _ A4.out).mono ?_); rintro e w8 ⟨rfl, hb⟩; replace HB := cW HB hb; (try clear hb)) | (go_at_call 11; (with_reducible refine (r16_Great.calls k _ _ l2 true _ ?side1 ?side2 A6.out).mono ?_); (case side1 => exact uC <| (Kd.C_below HR2.out HB.out)); (case side2 => exact HC2.out); rintro e w9 ⟨rfl, hb⟩; replace HB := cW HB hb; (try clear hb)))
   repeat (go_quiet (first | (go_at_call 7; (with_reducible refine (w17_alive.calls k  true _ A4.out).mono ?_); rintro e w8 ⟨rfl, hb⟩; replace HB := cW HB hb; (try clear hb)) | (go_at_call 11; (with_reducible refine (r16_Great.calls k _ _ l2 true _ ?side1 ?side2 A6.out).mono ?_); (case side1 => exact uC <| (Kd.C_below HR2.out HB.out)); (case side2 => exact HC2.out); rintro e w9 ⟨rfl, hb⟩; replace HB := cW HB hb; (try clear hb))); try go_wp2_with (first | (go_at_call 7; (with_reducible refine (w17_alive.calls k  true _ A4.out).mono ?_); rintro e w8 ⟨rfl, hb⟩; replace HB := cW HB hb; (try clear hb)) | (go_at_call 11; (with_reducible refine (r16_Great.calls k _ _ l2 true _ ?side1 ?side2 A6.out).mono ?_); (case side1 => exact uC <| (Kd.C_below HR2.out HB.out)); (case side2 => exact HC2.out); rintro e w9 ⟨rfl, hb⟩; replace HB := cW HB hb; (try clear hb))))
   go_ret
   exact ⟨re_, uW HB.out⟩
  ·
   replace c7 := Bool.eq_false_iff.mpr c7
   subst c7
   rw [if_neg (show ¬ (false = true) by decide)] at H
   obtain ⟨⟨t369, t370, t371⟩, A10, H⟩ := bs H
   try dsimp only at H
   have H' := Aside0.mk H
   clear H
   go_enter Try.func6, Try.ntmps6
   go_wp2_with (first | (go_at_call 7; (with_reducible refine (w17_alive.calls k  true _ A4.out).mono ?_); rintro e w11 ⟨rfl, hb⟩; replace HB := cW HB hb; (try clear hb)) | (go_at_call 11; (with_reducible refine (r16_Great.calls k _ _ l2 false _ ?side1 ?side2 A6.out).mono ?_); (case side1 => exact uC <| (Kd.C_below HR2.out HB.out)); (case side2 => exact HC2.out); rintro e w12 ⟨rfl, hb⟩; replace HB := cW HB hb; (try clear hb)) | (go_at_call 12; (with_reducible refine (emit_Take.calls k a0 a1 _ _ l2 t369 t370 t371 _ ?side1 ?side2 A10.out).mono ?_); (case side1 => exact uC <| (Kd.C_below HR2.out HB.out)); (case side2 => exact HC2.out); rintro e w13 ⟨v372, rfl, ho0, hb⟩; have HO373 := Aside0.mk (Kd.R_lower ho0 (below_size (uW HB.out))); replace HB := cW HB hb; (try clear hb); (try clear ho0)) | ((with_reducible refine gate_dst (N := 7) rfl ?_); refine bx (N := 7) #[.int .i64 0, .int .i64 0, .slice none 0 0] 38 ?_; intro gb374 hg w14 hbox hb; replace HO373 := cR HO373 hb; have BK374 := Aside0.mk (hbox); have GW374 := gw hg (uW HB.out); have GE374 := GW374; replace HB := cW HB hb; clear hb hbox hg; obtain ⟨hcz15_0, hcz15_1, hcz15_2, hfz15_0, hfz15_1, hfz15_2⟩ := z3 BK374; obtain ⟨Ao16, co16, eo16⟩ := Kd.R_slice HO373.out; subst eo16))
   repeat (go_quiet (first | (go_at_call 7; (with_reducible refine (w17_alive.calls k  true _ A4.out).mono ?_); rintro e w11 ⟨rfl, hb⟩; replace HB := cW HB hb; (try clear hb)) | (go_at_call 11; (with_reducible refine (r16_Great.calls k _ _ l2 false _ ?side1 ?side2 A6.out).mono ?_); (case side1 => exact uC <| (Kd.C_below HR2.out HB.out)); (case side2 => exact HC2.out); rintro e w12 ⟨rfl, hb⟩; replace HB := cW HB hb; (try clear hb)) | (go_at_call 12; (with_reducible refine (emit_Take.calls k a0 a1 _ _ l2 t369 t370 t371 _ ?side1 ?side2 A10.out).mono ?_); (case side1 => exact uC <| (Kd.C_below HR2.out HB.out)); (case side2 => exact HC2.out); rintro e w13 ⟨v372, rfl, ho0, hb⟩; have HO373 := Aside0.mk (Kd.R_lower ho0 (below_size (uW HB.out))); replace HB := cW HB hb; (try clear hb); (try clear ho0)) | ((with_reducible refine gate_dst (N := 7) rfl ?_); refine bx (N := 7) #[.int .i64 0, .int .i64 0, .slice none 0 0] 38 ?_; intro gb374 hg w14 hbox hb; replace HO373 := cR HO373 hb; have BK374 := Aside0.mk (hbox); have GW374 := gw hg (uW HB.out); have GE374 := GW374; replace HB := cW HB hb; clear hb hbox hg; obtain ⟨hcz15_0, hcz15_1, hcz15_2, hfz15_0, hfz15_1, hfz15_2⟩ := z3 BK374; obtain ⟨Ao16, co16, eo16⟩ := Kd.R_slice HO373.out; subst eo16)); try go_wp2_with (first | (go_at_call 7; (with_reducible refine (w17_alive.calls k  true _ A4.out).mono ?_); rintro e w11 ⟨rfl, hb⟩; replace HB := cW HB hb; (try clear hb)) | (go_at_call 11; (with_reducible refine (r16_Great.calls k _ _ l2 false _ ?side1 ?side2 A6.out).mono ?_); (case side1 => exact uC <| (Kd.C_below HR2.out HB.out)); (case side2 => exact HC2.out); rintro e w12 ⟨rfl, hb⟩; replace HB := cW HB hb; (try clear hb)) | (go_at_call 12; (with_reducible refine (emit_Take.calls k a0 a1 _ _ l2 t369 t370 t371 _ ?side1 ?side2 A10.out).mono ?_); (case side1 => exact uC <| (Kd.C_below HR2.out HB.out)); (case side2 => exact HC2.out); rintro e w13 ⟨v372, rfl, ho0, hb⟩; have HO373 := Aside0.mk (Kd.R_lower ho0 (below_size (uW HB.out))); replace HB := cW HB hb; (try clear hb); (try clear ho0)) | ((with_reducible refine gate_dst (N := 7) rfl ?_); refine bx (N := 7) #[.int .i64 0, .int .i64 0, .slice none 0 0] 38 ?_; intro gb374 hg w14 hbox hb; replace HO373 := cR HO373 hb; have BK374 := Aside0.mk (hbox); have GW374 := gw hg (uW HB.out); have GE374 := GW374; replace HB := cW HB hb; clear hb hbox hg; obtain ⟨hcz15_0, hcz15_1, hcz15_2, hfz15_0, hfz15_1, hfz15_2⟩ := z3 BK374; obtain ⟨Ao16, co16, eo16⟩ := Kd.R_slice HO373.out; subst eo16)))
   go_loopg [8, 9] k (fun kq v8 v9 w' => ∃ (x8_1 : Int) (x9_1 : Int), v8 = .int .i64 x8_1 ∧ v9 = .int .i64 x9_1 ∧ Aside0 (w17_EmitReads.l0 kq a0 a1 l2 x8_1 x9_1 t369 t370 t371 = some r) ∧ Aside0 (kq ≤ k) ∧ Aside0 (Kd.R k56 56 w' w.heap.size (fun _ => True) (.slice Ao16 t371.length co16) t371) ∧ Aside0 (w'.heap[gb374]? = some (.cells #[.int .i64 t369, .int .i64 t370, (.slice Ao16 t371.length co16)] 38 (0, 0))) ∧ Aside0 (Below w.heap.size w w'))
   case atStart => exact ⟨(0), (0), rs_, rs_, H', ⟨Nat.le_refl _⟩, ⟨by exact Kd.R_mono (fR_ (Kd.R_types HO373.out BK374.out (by decide)) fun _ h => h.2) (fun _ hk => trivial)⟩, ⟨by (with_reducible repeat (first | refine blk_drewN ?_ _ | refine blk_drew ?_ | refine blk_alloc ?_ _)); refine blk_put (cs := #[.int .i64 t369, .int .i64 t370, .slice none 0 0]) ?_ 2 _ rfl; (with_reducible repeat (first | refine blk_drewN ?_ _ | refine blk_drew ?_ | refine blk_alloc ?_ _)); refine blk_put (cs := #[.int .i64 t369, .int .i64 0, .slice none 0 0]) ?_ 1 _ rfl; (with_reducible repeat (first | refine blk_drewN ?_ _ | refine blk_drew ?_ | refine blk_alloc ?_ _)); refine blk_put (cs := #[.int .i64 0, .int .i64 0, .slice none 0 0]) ?_ 0 _ rfl; exact uB <| BK374.out⟩, ⟨bl⟩⟩
   case round =>
    clear H'
    try clear c2
    try clear c5
    try clear c7
    try clear hcz15_0 hcz15_1 hcz15_2 hfz15_0 hfz15_1 hfz15_2
    obtain ⟨x8_1, x9_1, rfl, rfl, HA, HK1, HO_375002, BK374, HB⟩ := hrel
    cases gk with
    | zero => exact absurd HA.out (by simp [w17_EmitReads.l0])
    | succ k1 =>
     have H := HA.out
     clear HA
     simp only [w17_EmitReads.l0] at H
     by_cases c17 : x9_1 < (l2.length : Int)
     ·
      rw [if_pos c17] at H
      have c17b0 : decide (x9_1 < (l2.length : Int)) = true := decide_eq_true c17
      clear c17
      obtain ⟨c18b0, H⟩ := gdd H
      obtain ⟨t376, A19, H⟩ := bs H
      try dsimp only at H
      have H' := Aside0.mk H
      clear H
      have p375 : 0 ≤ (x9_1 : Int) := od
      have q375 : x9_1 < (l2.length : Int) := od
      obtain ⟨ad375, A375_0, c375_0, e375, hx375_0, hl375_0, hi375_0⟩ := at_T50 HR2.out x9_1 p375 q375
      cases e375
      replace hx375_0 := kc HB hx375_0
      have HR375_0 := Aside0.mk hi375_0
      have HC375_0 := Aside0.mk hl375_0
      clear hi375_0 hl375_0
      replace p375 := eq_true p375
      replace q375 := eq_true q375
      go_wp2_with (first | (go_at_call 18; (refine (r11_Read.calls k1 _ _ ((rd_T50 l2 x9_1).f0) a1 _ _ ([] : List (S46)) t376 _ ?side1 ?side2 ?side3 ?side4 A19.out).mono ?_); (case side1 => exact uC <| (Kd.C_below HR375_0.out HB.out)); (case side2 => exact HC375_0.out); (case side3 => exact Kd.C_nil _ _); (case side4 => exact Nat.le_refl _); rintro e w20 ⟨v377, rfl, ho0, hb⟩; have HO378 := Aside0.mk (Kd.R_lower (Kd.R_new' ho0 (Kd.R_lt (uR HO_375002.out))) (below_size bl)); replace HO_375002 := Aside0.mk (Kd.R_elder' (uR HO_375002.out) (Kd.R_base ho0) hb); replace BK374 := cB BK374 hb; replace HB := Aside0.mk (below_step bl hb); (try clear hb); (try clear ho0)))
      repeat (go_quiet (first | (go_at_call 18; (refine (r11_Read.calls k1 _ _ ((rd_T50 l2 x9_1).f0) a1 _ _ ([] : List (S46)) t376 _ ?side1 ?side2 ?side3 ?side4 A19.out).mono ?_); (case side1 => exact uC <| (Kd.C_below HR375_0.out HB.out)); (case side2 => exact HC375_0.out); (case side3 => exact Kd.C_nil _ _); (case side4 => exact Nat.le_refl _); rintro e w20 ⟨v377, rfl, ho0, hb⟩; have HO378 := Aside0.mk (Kd.R_lower (Kd.R_new' ho0 (Kd.R_lt (uR HO_375002.out))) (below_size bl)); replace HO_375002 := Aside0.mk (Kd.R_elder' (uR HO_375002.out) (Kd.R_base ho0) hb); replace BK374 := cB BK374 hb; replace HB := Aside0.mk (below_step bl hb); (try clear hb); (try clear ho0))); try go_wp2_with (first | (go_at_call 18; (refine (r11_Read.calls k1 _ _ ((rd_T50 l2 x9_1).f0) a1 _ _ ([] : List (S46)) t376 _ ?side1 ?side2 ?side3 ?side4 A19.out).mono ?_); (case side1 => exact uC <| (Kd.C_below HR375_0.out HB.out)); (case side2 => exact HC375_0.out); (case side3 => exact Kd.C_nil _ _); (case side4 => exact Nat.le_refl _); rintro e w20 ⟨v377, rfl, ho0, hb⟩; have HO378 := Aside0.mk (Kd.R_lower (Kd.R_new' ho0 (Kd.R_lt (uR HO_375002.out))) (below_size bl)); replace HO_375002 := Aside0.mk (Kd.R_elder' (uR HO_375002.out) (Kd.R_base ho0) hb); replace BK374 := cB BK374 hb; replace HB := Aside0.mk (below_step bl hb); (try clear hb); (try clear ho0))))
      go_loopg [8, 11] k1 (fun kq v8 v11 w' => ∃ (x8_2 : Int) (x11_2 : Int), v8 = .int .i64 x8_2 ∧ v11 = .int .i64 x11_2 ∧ Aside0 (w17_EmitReads.l1 kq a0 a1 l2 x8_2 x9_1 t376 x11_2 t369 t370 t371 = some r) ∧ Aside0 (kq ≤ k1) ∧ Aside0 (Kd.R k56 56 w' w.heap.size (fun k_ => some k_ ≠ ((.slice Ao16 t371.length co16) : Value).ownBlock) v377 t376) ∧ Aside0 (Kd.R k56 56 w' w.heap.size (fun k_ => some k_ ≠ (v377 : Value).ownBlock) (.slice Ao16 t371.length co16) t371) ∧ Aside0 (w'.heap[gb374]? = some (.cells #[.int .i64 t369, .int .i64 t370, (.slice Ao16 t371.length co16)] 38 (0, 0))) ∧ Aside0 (Below w.heap.size w w'))
      case atStart => exact ⟨(x8_1), (0), rs_, rs_, H', ⟨Nat.le_refl _⟩, ⟨by exact uR <| Kd.R_mono HO378.out (fun _ hk => hk.2)⟩, ⟨by exact uR <| Kd.R_mono HO_375002.out (fun _ hk => hk.2)⟩, ⟨uB BK374.out⟩, ⟨bl⟩⟩
      case round =>
       clear H'
       try clear c2
       try clear p2 p2
       try clear c5
       try clear c6
       try clear c7
       try clear c17
       try clear c17b0
       try clear c18b0
       try clear hcz15_0 hcz15_1 hcz15_2 hfz15_0 hfz15_1 hfz15_2
       try clear hx375_0
       try clear p375
       try clear q375
       obtain ⟨x8_2, x11_2, rfl, rfl, HA, HK2, HO_10, HO_375002, BK374, HB⟩ := hrel
       cases gk with
       | zero => exact absurd HA.out (by simp [w17_EmitReads.l1])
       | succ k2 =>
        have H := HA.out
        clear HA
        simp only [w17_EmitReads.l1] at H
        by_cases c21 : x11_2 < (t376.length : Int)
        ·
         rw [if_pos c21] at H
         have c21b0 : decide (x11_2 < (t376.length : Int)) = true := decide_eq_true c21
         clear c21
         obtain ⟨c22b0, H⟩ := gdd H
         by_cases c23 : ((rd_T56 t376 x11_2).f0) = a0
         ·
          rw [if_pos c23] at H
          have c23b0 : (((rd_T56 t376 x11_2).f0) == a0) = true := beq_iff_eq.mpr c23
          have c23b1 : (((rd_T56 t376 x11_2).f0) != a0) = false := bne_eq_false_iff_eq.mpr c23
          clear c23
          have H' := Aside0.mk H
          clear H
          obtain ⟨Ao24, co24, eo24⟩ := Kd.R_slice HO_10.out
          subst eo24
          have p379 : 0 ≤ (x11_2 : Int) := od
          have q379 : x11_2 < (t376.length : Int) := od
          obtain ⟨ad379, e379, hx379_0, hx379_1, hx379_2, hx379_3, hx379_4, hx379_5, hx379_6⟩ := at_T56 (Kd.R_reads' HO_10.out).2.2 x11_2 p379 q379
          cases e379
          replace p379 := eq_true p379
          replace q379 := eq_true q379
          go_wp2
          repeat (go_quiet (fail); try go_wp2)
          go_loopg [12, 13] k2 (fun kq v12 v13 w' => ∃ (x12_3 : Bool) (x13_3 : Int), v12 = .bool x12_3 ∧ v13 = .int .i64 x13_3 ∧ Aside0 (w17_EmitReads.l2 kq a0 a1 l2 (wrap64 (x8_2 + 1)) x9_1 t376 x11_2 x12_3 x13_3 t369 t370 t371 = some r) ∧ Aside0 (kq ≤ k2) ∧ Aside0 (Kd.R k56 56 w' w.heap.size (fun k_ => some k_ ≠ ((.slice Ao16 t371.length co16) : Value).ownBlock) (.slice (some ad379) t376.length co24) t376) ∧ Aside0 (Kd.R k56 56 w' w.heap.size (fun k_ => some k_ ≠ ((.slice (some ad379) t376.length co24) : Value).ownBlock) (.slice Ao16 t371.length co16) t371) ∧ Aside0 (w'.heap[gb374]? = some (.cells #[.int .i64 t369, .int .i64 t370, (.slice Ao16 t371.length co16)] 38 (0, 0))) ∧ Aside0 (Below w.heap.size w w'))
          case atStart => exact ⟨(false), (0), rs_, rs_, H', ⟨Nat.le_refl _⟩, ⟨uR HO_10.out⟩, ⟨uR HO_375002.out⟩, ⟨uB BK374.out⟩, ⟨bl⟩⟩
          case round =>
           clear H'
           try clear c1
           try clear c2
           try clear p2 p2
           try clear c3
           try clear p3 p3
           try clear q3 q3
           try clear hx3
           try clear c5
           try clear c6
           try clear c7
           try clear c17
           try clear c17b0
           try clear c18
           try clear c18b0
           try clear c21
           try clear c21b0
           try clear c22b0
           try clear c23
           try clear c23b0
           try clear c23b1
           try clear hcz15_0 hcz15_1 hcz15_2 hfz15_0 hfz15_1 hfz15_2
           try clear hx375_0
           try clear hx379_0
           try clear hx379_1
           try clear hx379_2
           try clear hx379_3
           try clear hx379_4
           try clear hx379_5
           try clear hx379_6
           try clear p375
           try clear p379
           try clear q375
           try clear q379
           obtain ⟨x12_3, x13_3, rfl, rfl, HA, HK3, HO_10, HO_375002, BK374, HB⟩ := hrel
           cases gk with
           | zero => exact absurd HA.out (by simp [w17_EmitReads.l2])
           | succ k3 =>
            have H := HA.out
            clear HA
            simp only [w17_EmitReads.l2] at H
            by_cases c25 : x13_3 < (t371.length : Int)
            ·
             rw [if_pos c25] at H
             have c25b0 : decide (x13_3 < (t371.length : Int)) = true := decide_eq_true c25
             clear c25
             by_cases c26 : x12_3 = true
             ·
              subst c26
              rw [if_pos rfl] at H
              have H' := Aside0.mk H
              clear H
              obtain ⟨hcz27_0, hcz27_1, hcz27_2, hfz27_0, hfz27_1, hfz27_2⟩ := z3 BK374
              go_wp2
              repeat (go_quiet (fail); try go_wp2)
              go_roundg k3
              case measure => have := HK1.out; have := HK2.out; have := HK3.out; omega
              case rel => exact ⟨(true), (wrap64 (x13_3 + 1)), rs_, rs_, H', ⟨by have := HK1.out; have := HK2.out; have := HK3.out; omega⟩, ⟨uR HO_10.out⟩, ⟨uR HO_375002.out⟩, ⟨uB BK374.out⟩, ⟨bl⟩⟩
             ·
              replace c26 := Bool.eq_false_iff.mpr c26
              subst c26
              rw [if_neg (show ¬ (false = true) by decide)] at H
              obtain ⟨c28b0, H⟩ := gdd H
              obtain ⟨c29b0, H⟩ := gdd H
              obtain ⟨c30b0, H⟩ := gdd H
              have H' := Aside0.mk H
              clear H
              obtain ⟨hcz31_0, hcz31_1, hcz31_2, hfz31_0, hfz31_1, hfz31_2⟩ := z3 BK374
              have p380 : 0 ≤ (x13_3 : Int) := od
              have q380 : x13_3 < (t371.length : Int) := od
              obtain ⟨ad380, e380, hx380_0, hx380_1, hx380_2, hx380_3, hx380_4, hx380_5, hx380_6⟩ := at_T56 (Kd.R_reads' HO_375002.out).2.2 x13_3 p380 q380
              cases e380
              replace p380 := eq_true p380
              replace q380 := eq_true q380
              have p381 : 0 ≤ (x11_2 : Int) := od
              have q381 : x11_2 < (t376.length : Int) := od
              obtain ⟨ad381, e381, hx381_0, hx381_1, hx381_2, hx381_3, hx381_4, hx381_5, hx381_6⟩ := at_T56 (Kd.R_reads' HO_10.out).2.2 x11_2 p381 q381
              obtain rfl : ad379 = ad381 := (by injection e381)
              replace p381 := eq_true p381
              replace q381 := eq_true q381
              go_wp2
              repeat (go_quiet (fail); try go_wp2)
              go_roundg k3
              case measure => have := HK1.out; have := HK2.out; have := HK3.out; omega
              case rel => exact ⟨((((rd_T56 t371 x13_3).f0) == ((rd_T56 t376 x11_2).f0) && ((((rd_T56 t371 x13_3).f1).toList) == (((rd_T56 t376 x11_2).f1).toList) && ((((rd_T56 t371 x13_3).f2.f0) == ((rd_T56 t376 x11_2).f2.f0) && ((((rd_T56 t371 x13_3).f2.f1.f0) == ((rd_T56 t376 x11_2).f2.f1.f0) && (((rd_T56 t371 x13_3).f2.f1.f1) == ((rd_T56 t376 x11_2).f2.f1.f1))) && (((rd_T56 t371 x13_3).f2.f2) == ((rd_T56 t376 x11_2).f2.f2) && (((rd_T56 t371 x13_3).f2.f3) == ((rd_T56 t376 x11_2).f2.f3))))))))), (wrap64 (x13_3 + 1)), rs_, rs_, H', ⟨by have := HK1.out; have := HK2.out; have := HK3.out; omega⟩, ⟨uR HO_10.out⟩, ⟨uR HO_375002.out⟩, ⟨uB BK374.out⟩, ⟨bl⟩⟩
            ·
             rw [if_neg c25] at H
             have c25b0 : decide (x13_3 < (t371.length : Int)) = false := decide_eq_false c25
             clear c25
             by_cases c32 : x12_3 = true
             ·
              subst c32
              rw [if_pos rfl] at H
              have H' := Aside0.mk H
              clear H
              obtain ⟨hcz33_0, hcz33_1, hcz33_2, hfz33_0, hfz33_1, hfz33_2⟩ := z3 BK374
              go_wp2
              repeat (go_quiet (fail); try go_wp2)
              go_roundg k3
              case measure => have := HK1.out; have := HK2.out; have := HK3.out; omega
              case rel => exact ⟨((wrap64 (x8_2 + 1))), (wrap64 (x11_2 + 1)), rs_, rs_, H', ⟨by have := HK1.out; have := HK2.out; have := HK3.out; omega⟩, ⟨uR HO_10.out⟩, ⟨uR HO_375002.out⟩, ⟨uB BK374.out⟩, ⟨bl⟩⟩
             ·
              replace c32 := Bool.eq_false_iff.mpr c32
              subst c32
              rw [if_neg (show ¬ (false = true) by decide)] at H
              exact absurd H (by simp)
         ·
          rw [if_neg c23] at H
          have c23b0 : (((rd_T56 t376 x11_2).f0) == a0) = false := beq_eq_false_iff_ne.mpr c23
          have c23b1 : (((rd_T56 t376 x11_2).f0) != a0) = true := bne_iff_ne.mpr c23
          have H' := Aside0.mk H
          clear H
          obtain ⟨Ao34, co34, eo34⟩ := Kd.R_slice HO_10.out
          subst eo34
          have p379 : 0 ≤ (x11_2 : Int) := od
          have q379 : x11_2 < (t376.length : Int) := od
          obtain ⟨ad379, e379, hx379_0, hx379_1, hx379_2, hx379_3, hx379_4, hx379_5, hx379_6⟩ := at_T56 (Kd.R_reads' HO_10.out).2.2 x11_2 p379 q379
          cases e379
          replace p379 := eq_true p379
          replace q379 := eq_true q379
          go_wp2
          repeat (go_quiet (fail); try go_wp2)
          go_roundg k2
          case measure => have := HK1.out; have := HK2.out; omega
          case rel => exact ⟨(x8_2), (wrap64 (x11_2 + 1)), rs_, rs_, H', ⟨by have := HK1.out; have := HK2.out; omega⟩, ⟨uR HO_10.out⟩, ⟨uR HO_375002.out⟩, ⟨uB BK374.out⟩, ⟨bl⟩⟩
        ·
         rw [if_neg c21] at H
         have c21b0 : decide (x11_2 < (t376.length : Int)) = false := decide_eq_false c21
         clear c21
         have H' := Aside0.mk H
         clear H
         obtain ⟨Ao35, co35, eo35⟩ := Kd.R_slice HO_10.out
         subst eo35
         go_wp2
         repeat (go_quiet (fail); try go_wp2)
         go_roundg k2
         case measure => have := HK1.out; have := HK2.out; omega
         case rel => exact ⟨(x8_2), (wrap64 (x9_1 + 1)), rs_, rs_, H', ⟨by have := HK1.out; have := HK2.out; omega⟩, ⟨by exact uR <| Kd.R_mono HO_375002.out (fun _ hk => trivial)⟩, ⟨uB BK374.out⟩, ⟨bl⟩⟩
     ·
      rw [if_neg c17] at H
      have c17b0 : decide (x9_1 < (l2.length : Int)) = false := decide_eq_false c17
      clear c17
      have H' := Aside0.mk H
      clear H
      go_wp2
      repeat (go_quiet (fail); try go_wp2)
      go_loopg [14] k1 (fun kq v14 w' => ∃ (x14_2 : Int), v14 = .int .i64 x14_2 ∧ Aside0 (w17_EmitReads.l3 kq a0 a1 x8_1 x14_2 t369 t370 t371 = some r) ∧ Aside0 (kq ≤ k1) ∧ Aside0 (Kd.R k56 56 w' w.heap.size (fun _ => True) (.slice Ao16 t371.length co16) t371) ∧ Aside0 (w'.heap[gb374]? = some (.cells #[.int .i64 t369, .int .i64 t370, (.slice Ao16 t371.length co16)] 38 (0, 0))) ∧ Aside0 (Below w.heap.size w w'))
      case atStart => exact ⟨(1), rs_, H', ⟨Nat.le_refl _⟩, ⟨uR HO_375002.out⟩, ⟨uB BK374.out⟩, ⟨bl⟩⟩
      case round =>
       clear H'
       try clear c2
       try clear p2 p2
       try clear c5
       try clear c6
       try clear c7
       try clear c17
       try clear c17b0
       try clear hcz15_0 hcz15_1 hcz15_2 hfz15_0 hfz15_1 hfz15_2
       obtain ⟨x14_2, rfl, HA, HK2, HO_375002, BK374, HB⟩ := hrel
       cases gk with
       | zero => exact absurd HA.out (by simp [w17_EmitReads.l3])
       | succ k2 =>
        have H := HA.out
        clear HA
        simp only [w17_EmitReads.l3] at H
        by_cases c36 : x14_2 < (t371.length : Int)
        ·
         rw [if_pos c36] at H
         have c36b0 : decide (x14_2 < (t371.length : Int)) = true := decide_eq_true c36
         clear c36
         obtain ⟨ji37, hji37⟩ : ∃ j_ : Int, (wrap64 (x14_2 - 1)) = j_ := ⟨_, rfl⟩
         (first | rw [hji37] at H | simp only [hji37] at H)
         have hji37w : (IntKind.i64.wrap (x14_2 - 1)) = ji37 := (i64_w _).trans hji37
         obtain ⟨c38b0, H⟩ := gdd H
         obtain ⟨c39b0, H⟩ := gdd H
         obtain ⟨c40b0, H⟩ := gdd H
         obtain ⟨c41, H⟩ := gn H
         have c41b0 : (Op.bytesLess (((rd_T56 t371 x14_2).f1).toList) (((rd_T56 t371 (ji37)).f1).toList)) = false := by simpa using c41
         clear c41
         have H' := Aside0.mk H
         clear H
         obtain ⟨hcz42_0, hcz42_1, hcz42_2, hfz42_0, hfz42_1, hfz42_2⟩ := z3 BK374
         have p382 : 0 ≤ ((ji37) : Int) := od
         have q382 : (ji37) < (t371.length : Int) := od
         obtain ⟨ad382, e382, hx382_0, hx382_1, hx382_2, hx382_3, hx382_4, hx382_5, hx382_6⟩ := at_T56 (Kd.R_reads' HO_375002.out).2.2 (ji37) p382 q382
         cases e382
         replace p382 := eq_true p382
         replace q382 := eq_true q382
         have p383 : 0 ≤ (x14_2 : Int) := od
         have q383 : x14_2 < (t371.length : Int) := od
         obtain ⟨ad383, e383, hx383_0, hx383_1, hx383_2, hx383_3, hx383_4, hx383_5, hx383_6⟩ := at_T56 (Kd.R_reads' HO_375002.out).2.2 x14_2 p383 q383
         obtain rfl : ad382 = ad383 := (by injection e383)
         replace p383 := eq_true p383
         replace q383 := eq_true q383
         have hgt_ := St.gtr_ops
         rcases St.gtr_no c41b0 with cg1_ | ⟨cg1_, cg2_⟩
         ·
          go_wp2
          repeat (go_quiet (fail); try go_wp2)
          go_roundg k2
          case measure => have := HK1.out; have := HK2.out; omega
          case rel => exact ⟨(wrap64 (x14_2 + 1)), rs_, H', ⟨by have := HK1.out; have := HK2.out; omega⟩, ⟨uR HO_375002.out⟩, ⟨uB BK374.out⟩, ⟨bl⟩⟩
         ·
          go_wp2
          repeat (go_quiet (fail); try go_wp2)
          go_roundg k2
          case measure => have := HK1.out; have := HK2.out; omega
          case rel => exact ⟨(wrap64 (x14_2 + 1)), rs_, H', ⟨by have := HK1.out; have := HK2.out; omega⟩, ⟨uR HO_375002.out⟩, ⟨uB BK374.out⟩, ⟨bl⟩⟩
        ·
         rw [if_neg c36] at H
         have c36b0 : decide (x14_2 < (t371.length : Int)) = false := decide_eq_false c36
         clear c36
         obtain ⟨c43, H⟩ := gd H
         have c43b0 : (x8_1 == (t371.length : Int)) = true := beq_iff_eq.mpr c43
         have c43b1 : (x8_1 != (t371.length : Int)) = false := bne_eq_false_iff_eq.mpr c43
         clear c43
         obtain ⟨c44, H⟩ := gd H
         have c44b0 : (t369 == a0) = true := beq_iff_eq.mpr c44
         have c44b1 : (t369 != a0) = false := bne_eq_false_iff_eq.mpr c44
         clear c44
         obtain rfl := Option.some.inj H
         obtain ⟨hcz45_0, hcz45_1, hcz45_2, hfz45_0, hfz45_1, hfz45_2⟩ := z3 BK374
         go_wp2
         repeat (go_quiet (fail); try go_wp2)
         go_ret
         exact ⟨re_, bl⟩
 ·
  replace c5 := Bool.eq_false_iff.mpr c5
  subst c5
  rw [if_neg (show ¬ (false = true) by decide)] at H
  exact absurd H (by simp)
def w17_EmitReads.Pure : Prop := ∀ (a0 : Int) (a1 : Int) (l2 : List (S50)), ((Lit.int .i64 a0).wf = true) → ((Lit.int .i64 a1).wf = true) → (l2.length ≤ maxLen ∧ ∀ x0_ ∈ l2, Q50 x0_) → l2.length * 24 ≤ 140737488351232 → ∃ k, w17_EmitReads.f k a0 a1 l2 = some true
theorem w17_EmitReads.walk (P : w17_EmitReads.Pure) (a0 : Int) (a1 : Int) (l2 : List (S50)) (w : World) (A2 : Option Addr) (c2 : Nat) (hr2 : Kd.C k50 w A2 l2.length l2) (hc2 : l2.length ≤ c2) (q0 : (Lit.int .i64 a0).wf = true) (q1 : (Lit.int .i64 a1).wf = true) (q2 : l2.length ≤ maxLen ∧ ∀ x0_ ∈ l2, Q50 x0_) (y2 : l2.length * 24 ≤ 140737488351232) :
 Calls Try.prog 6 #[.int .i64 a0, .int .i64 a1, .slice A2 l2.length c2] w fun e w' => e = .returned (.bool true) ∧ Below w.heap.size w w' := by
 obtain ⟨k, h⟩ := P a0 a1 l2 q0 q1 q2 y2
 refine (w17_EmitReads.calls k a0 a1 A2 c2 l2 true w hr2 hc2 h).mono ?_
 rintro e w' ⟨rfl, hd⟩
 exact ⟨rfl, hd⟩
end Go.Proofs.Ytklhjponikgkkaa.X
