/- Printed by a program of this session's own: what functions of the program compute, and that the machine computes it. No condition of its own. -/
import Derived.Test.YteckidchnicjeaaGreatDoorM3
import Derived.Test.YteckidchnicjeaaGreatDoorM8
import Derived.Test.YteckidchnicjeaaGreatDoorM9
import Derived.Test.YteckidchnicjeaaGreatDoorM10
import Derived.Test.YteckidchnicjeaaGreatDoorM11
import Derived.Test.YteckidchnicjeaaGreatDoorM7
namespace Go.Proofs.YteckidchnicjeaaGreatDoor.X
open Go.RowKit Go.Proofs.YteckidchnicjeaaGreatDoorW.PrintWords Go.Proofs.YteckidchnicjeaaGreatDoorW.PrintLast Go.Proofs.YteckidchnicjeaaGreatDoorW.PrintMore
attribute [local go_sem] max2_int min2_int max_two min_two max_three min_three max_four min_four
set_option linter.unusedVariables false
set_option linter.unusedSimpArgs false
set_option maxHeartbeats 8000000
set_option maxRecDepth 100000
def r09_one.j0 : Nat → ByteArray → Bool → Option (Int × ByteArray × Int × Bool × Bool × Int)
 | 0, _, _ => none
 | k + 1, x0, x20 => if x20 = true then ((r08_Parse.f k x0).bind fun bt600 => (if bt600.2 = 0 then (if 0 < (bt600.1.length : Int) then (some ((rd_T60 bt600.1 0).f0, (rd_T60 bt600.1 0).f1, (rd_T60 bt600.1 0).f2.f0, (rd_T60 bt600.1 0).f2.f1, false, 0)) else (none)) else (some (0, (⟨#[]⟩ : ByteArray), 0, false, false, bt600.2)))) else (if 1 ≤ (x0.size : Int) then ((r02_Split.f k (x0.extract 1 x0.size) 124).bind fun t605 => (if (t605.length : Int) = 2 then (if 0 < (t605.length : Int) then ((r01_Read.f k (rdOf ByteArray.empty t605 0)).bind fun bt609 => (if bt609.2 = 0 then (if 1 < (t605.length : Int) then ((r03_Parse.f k (rdOf ByteArray.empty t605 1)).bind fun bt612 => (if bt612.2 = 0 then ((r03_Text.f k bt612.1).bind fun t616 => (if t616.toList = (rdOf ByteArray.empty t605 1).toList then (some (bt609.1, rdOf ByteArray.empty t605 1, 0, false, true, 0)) else (some (0, (⟨#[]⟩ : ByteArray), 0, false, false, 2)))) else (some (0, (⟨#[]⟩ : ByteArray), 0, false, false, bt612.2)))) else (none)) else (some (0, (⟨#[]⟩ : ByteArray), 0, false, false, bt609.2)))) else (none)) else (some (0, (⟨#[]⟩ : ByteArray), 0, false, false, 2)))) else (none))
def r09_one.f (k : Nat) (a0 : ByteArray) : Option (Int × ByteArray × Int × Bool × Bool × Int) := if a0.toList = ([45] : List UInt8) then (some (0, (⟨#[]⟩ : ByteArray), 0, false, false, 2)) else (if (a0.size : Int) = 0 then (r09_one.j0 k a0 true) else (if 0 < (a0.size : Int) then (r09_one.j0 k a0 ((bt a0 0) != 33)) else (none)))
theorem r09_one.mono_l : ∀ k, (∀ y0 y1, LeC (r09_one.j0 k y0 y1) (r09_one.j0 (k + 1) y0 y1))
 | 0 => fun _ _ => ⟨fun r h => by simp [r09_one.j0] at h⟩
 | k + 1 => by have ih0 := r09_one.mono_l k; exact fun _ _ => by unfold r09_one.j0; exact lm
theorem r09_one.mono : ∀ a0 k, LeO (r09_one.f k a0) (r09_one.f (k + 1) a0) := by
 intro a0 k
 have ih0 := r09_one.mono_l k
 unfold r09_one.f
 exact lo
instance r09_one.mI {a0 k} : LeC (r09_one.f k a0) (r09_one.f (k + 1) a0) := ⟨r09_one.mono _ _⟩
theorem r09_one.calls (k : Nat) (a0 : ByteArray) (r1 : Int) (r2 : ByteArray) (r3 : Int) (r4 : Bool) (r5 : Bool) (r6 : Int) (w : World) (h : r09_one.f k a0 = some (r1, r2, r3, r4, r5, r6)) :
 Calls Tryz.prog 74 #[.string a0] w fun e w' => e = .returned (.tuple #[.agg #[.int .i64 r1, .string r2, .int .i64 r3, .bool r4, .bool r5], .int .i64 r6]) ∧ Below w.heap.size w w' := by
 have hu78 := Tryz.underlying78
 have hu60 := Tryz.underlying60
 have HB := Aside0.mk (Below.refl w.heap.size w)
 have H : (if a0.toList = ([45] : List UInt8) then (some (0, (⟨#[]⟩ : ByteArray), 0, false, false, 2)) else (if (a0.size : Int) = 0 then (r09_one.j0 k a0 true) else (if 0 < (a0.size : Int) then (r09_one.j0 k a0 ((bt a0 0) != 33)) else (none)))) = some (r1, r2, r3, r4, r5, r6) := h
 clear h
 by_cases c2 : a0.toList = ([45] : List UInt8)
 ·
  rw [if_pos c2] at H
  have c2b0 : (a0.toList == ([45] : List UInt8)) = true := beq_iff_eq.mpr c2
  have c2b1 : (a0.toList != ([45] : List UInt8)) = false := bne_eq_false_iff_eq.mpr c2
  clear c2
  simp only [Option.some.injEq, Prod.mk.injEq] at H
  obtain ⟨rfl, rfl, rfl, rfl, rfl, rfl⟩ := H
  go_enter Tryz.func74, Tryz.ntmps74
  go_wp2_with (first | ((with_reducible refine gate_dst (N := 2) rfl ?_); refine bx (N := 2) #[.int .i64 0, .string (⟨#[]⟩ : ByteArray), .int .i64 0, .bool false, .bool false] 78 ?_; intro gb599 hg w3 hbox hb; have BK599 := Aside0.mk (hbox); have GW599 := gw hg (uW HB.out); have GE599 := GW599; replace HB := cW HB hb; clear hb hbox hg; obtain ⟨hcz4_0, hcz4_1, hcz4_2, hcz4_3, hcz4_4, hfz4_0, hfz4_1, hfz4_2, hfz4_3, hfz4_4⟩ := z5 BK599) | ((with_reducible refine gate_store (t := 78) (p := 2) rfl ?_); refine store_event (t := 78) (p := 2) (v := ?vo_w5) (w1 := (((((w3.setCell ⟨gb599, 0, none⟩ (.int .i64 0)).setCell ⟨gb599, 1, none⟩ (.string (⟨#[]⟩ : ByteArray))).setCell ⟨gb599, 2, none⟩ (.int .i64 0)).setCell ⟨gb599, 3, none⟩ (.bool false)).setCell ⟨gb599, 4, none⟩ (.bool false))) ?hg ?ho ?hn ?hr ?_; (case ho => rfl); (case hg => rfl); (case hn => rfl); (case hr => first | (go_simp; done) | (go_simp; rfl)); intro w5 hw; replace HB : Aside0 (Below w.heap.size w w5) := fgW hw bl; replace BK599 := fgB hw BK599; clear hw))
  refine bodyPost_ret (results_ct rfl _ _ gb599 78 #[.int .i64 0, .string (⟨#[]⟩ : ByteArray), .int .i64 0, .bool false, .bool false] (0, 0) _ rfl (uB BK599.out) Tryz.underlying78 rfl (by kernel_rfl)) rfl ?_
  exact ⟨re_, bl⟩
 ·
  rw [if_neg c2] at H
  have c2b0 : (a0.toList == ([45] : List UInt8)) = false := beq_eq_false_iff_ne.mpr c2
  have c2b1 : (a0.toList != ([45] : List UInt8)) = true := bne_iff_ne.mpr c2
  have HC6 := Aside0.mk H
  clear H
  go_enter Tryz.func74, Tryz.ntmps74
  go_upto_region 3 with (first | ((with_reducible refine gate_dst (N := 2) rfl ?_); refine bx (N := 2) #[.int .i64 0, .string (⟨#[]⟩ : ByteArray), .int .i64 0, .bool false, .bool false] 78 ?_; intro gb599 hg w7 hbox hb; have BK599 := Aside0.mk (hbox); have GW599 := gw hg (uW HB.out); have GE599 := GW599; replace HB := cW HB hb; clear hb hbox hg))
  (try simp only [Act.put, List.setIfInBounds_toArray, List.set_cons_zero, List.set_cons_succ])
  go_cut [20] (fun v20 wc => ∃ (kq : Nat) (x20_5 : Bool), v20 = .bool x20_5 ∧ Aside0 (r09_one.j0 kq a0 x20_5 = some (r1, r2, r3, r4, r5, r6)) ∧ Aside0 (kq ≤ k) ∧ Aside0 (wc.heap[gb599]? = some (.cells #[.int .i64 0, .string (⟨#[]⟩ : ByteArray), .int .i64 0, .bool false, .bool false] 78 (0, 0))) ∧ Aside0 (Below w.heap.size w wc))
  case first =>
   have H := HC6.out
   clear HC6
   by_cases c8 : (a0.size : Int) = 0
   ·
    rw [if_pos c8] at H
    have c8b0 : ((a0.size : Int) == 0) = true := beq_iff_eq.mpr c8
    have c8b1 : ((a0.size : Int) != 0) = false := bne_eq_false_iff_eq.mpr c8
    clear c8
    (first | rw [c8b0] | (simp only [i64_w, i32_w]; rw [c8b0]) | skip)
    have H' := Aside0.mk H
    clear H
    go_wp2
    go_meet
    case rel => exact ⟨_, (true), rs_, H', ⟨by first | omega | exact Nat.le_refl _⟩, ⟨uB BK599.out⟩, ⟨bl⟩⟩
   ·
    rw [if_neg c8] at H
    have c8b0 : ((a0.size : Int) == 0) = false := beq_eq_false_iff_ne.mpr c8
    have c8b1 : ((a0.size : Int) != 0) = true := bne_iff_ne.mpr c8
    (first | rw [c8b0] | (simp only [i64_w, i32_w]; rw [c8b0]) | skip)
    obtain ⟨c9, H⟩ := gd H
    have c9b0 : decide (0 < (a0.size : Int)) = true := decide_eq_true c9
    have c9b1 : decide (0 < a0.size) = true := decide_eq_true (by omega)
    clear c9
    have H' := Aside0.mk H
    clear H
    have p10 : 0 ≤ (0 : Int) := (by omega)
    have q10 : 0 < a0.size := (by have : (0 : Int) < (a0.size : Int) := od; omega)
    have hx10 : ∀ h : 0 < a0.size, ((a0[0]'h).toNat : Int) = bt a0 0 := bt_at a0 0
    clear p10
    have qi10 : (0 < (a0.size : Int)) = True := eq_true (od)
    replace q10 := eq_true q10
    go_wp2
    go_meet
    case rel => exact ⟨_, (((bt a0 0) != 33)), rs_, H', ⟨by first | omega | exact Nat.le_refl _⟩, ⟨uB BK599.out⟩, ⟨bl⟩⟩
  case rest =>
   clear HC6
   try clear p1
   try clear q1
   try clear hx1
   try clear qi1
   try clear c2
   try clear c2b0
   try clear c2b1
   try clear p2
   try clear c7
   try clear c8
   try clear c8b0
   try clear c8b1
   try clear c9
   try clear c9b0
   try clear c9b1
   try clear p10
   try clear q10
   try clear hx10
   try clear qi10
   try clear hcz4_0
   try clear hcz4_1
   try clear hcz4_2
   try clear hcz4_3
   try clear hcz4_4
   try clear hfz4_0
   try clear hfz4_1
   try clear hfz4_2
   try clear hfz4_3
   try clear hfz4_4
   try clear p10
   try clear q10
   obtain ⟨kq, x20_5, rfl, HA, HJ5, BK599, HB⟩ := hcut
   cases kq with
   | zero => exact absurd HA.out (by simp [r09_one.j0])
   | succ kj5 =>
    have H := HA.out
    clear HA
    simp only [r09_one.j0] at H
    by_cases c11 : x20_5 = true
    ·
     subst c11
     rw [if_pos rfl] at H
     obtain ⟨⟨t600, t601⟩, A12, H⟩ := bs H
     try dsimp only at H
     by_cases c13 : t601 = 0
     ·
      rw [if_pos c13] at H
      have c13b0 : (t601 == 0) = true := beq_iff_eq.mpr c13
      have c13b1 : (t601 != 0) = false := bne_eq_false_iff_eq.mpr c13
      clear c13
      obtain ⟨c14, H⟩ := gd H
      have c14b0 : decide (0 < (t600.length : Int)) = true := decide_eq_true c14
      have c14b1 : decide (0 < t600.length) = true := decide_eq_true (by omega)
      clear c14
      simp only [Option.some.injEq, Prod.mk.injEq] at H
      obtain ⟨rfl, rfl, rfl, rfl, rfl, rfl⟩ := H
      go_wp2_with (first | (refine gL (some 23) rfl Tryz.func52 #[.string a0] ?_; (with_reducible refine (r08_Parse.calls kj5 a0 t600 t601 _ A12.out).mono ?_); rintro e w15 ⟨v602, rfl, ho0, hb⟩; refine ⟨_, rfl, ?_⟩; have HO603 := Aside0.mk (Kd.R_lower ho0 (below_size bl)); replace BK599 := cB BK599 hb; replace HB := Aside0.mk (below_step bl hb); (try clear hb); (try clear ho0); obtain ⟨Ao16, co16, eo16⟩ := Kd.R_slice HO603.out; subst eo16; have p604 : 0 ≤ (0 : Int) := (by omega); have q604 : 0 < (t600.length : Int) := od; obtain ⟨ad604, e604, hx604_0, hx604_1, hx604_2, hx604_3⟩ := at_T60 (Kd.R_reads' HO603.out).2.2 0 p604 q604; cases e604; have qi604 : (0 < t600.length) = True := eq_true (by omega); (try rw [show ((0 : Int)).toNat = 0 from rfl] at hx604_0); (try rw [show 0 * 4 = 0 from rfl] at hx604_0); (try rw [Addr.add_zero'] at hx604_0); (try rw [show ((0 : Int)).toNat = 0 from rfl] at hx604_1); (try rw [show 0 * 4 = 0 from rfl] at hx604_1); (try rw [Addr.add_zero'] at hx604_1); (try rw [show ((0 : Int)).toNat = 0 from rfl] at hx604_2); (try rw [show 0 * 4 = 0 from rfl] at hx604_2); (try rw [Addr.add_zero'] at hx604_2); (try rw [show ((0 : Int)).toNat = 0 from rfl] at hx604_3); (try rw [show 0 * 4 = 0 from rfl] at hx604_3); (try rw [Addr.add_zero'] at hx604_3); replace p604 := eq_true p604; replace q604 := eq_true q604; obtain ⟨hcz17_0, hcz17_1, hcz17_2, hcz17_3, hcz17_4, hfz17_0, hfz17_1, hfz17_2, hfz17_3, hfz17_4⟩ := z5 BK599) | ((with_reducible refine gate_store (t := 78) (p := 2) rfl ?_); refine store_event (t := 78) (p := 2) (v := ?vo_w18) (w1 := (((((w15.setCell ⟨gb599, 0, none⟩ (.int .i64 ((rd_T60 t600 0).f0))).setCell ⟨gb599, 1, none⟩ (.string ((rd_T60 t600 0).f1))).setCell ⟨gb599, 2, none⟩ (.int .i64 ((rd_T60 t600 0).f2.f0))).setCell ⟨gb599, 3, none⟩ (.bool ((rd_T60 t600 0).f2.f1))).setCell ⟨gb599, 4, none⟩ (.bool false))) ?hg ?ho ?hn ?hr ?_; (case ho => rfl); (case hg => rfl); (case hn => rfl); (case hr => first | (go_simp; done) | (go_simp; rfl)); intro w18 hw; replace HO603 := fgR (ok' := fun _ => True) hw HO603 BK599 fun _ _ => trivial; replace HB : Aside0 (Below w.heap.size w w18) := fgW hw bl; replace BK599 := fgB hw BK599; clear hw))
      refine bodyPost_ret (results_ct rfl _ _ gb599 78 #[.int .i64 ((rd_T60 t600 0).f0), .string ((rd_T60 t600 0).f1), .int .i64 ((rd_T60 t600 0).f2.f0), .bool ((rd_T60 t600 0).f2.f1), .bool false] (0, 0) _ rfl (uB BK599.out) Tryz.underlying78 rfl (by kernel_rfl)) rfl ?_
      exact ⟨re_, bl⟩
     ·
      rw [if_neg c13] at H
      have c13b0 : (t601 == 0) = false := beq_eq_false_iff_ne.mpr c13
      have c13b1 : (t601 != 0) = true := bne_iff_ne.mpr c13
      simp only [Option.some.injEq, Prod.mk.injEq] at H
      obtain ⟨rfl, rfl, rfl, rfl, rfl, rfl⟩ := H
      go_wp2_with (first | (refine gL (some 23) rfl Tryz.func52 #[.string a0] ?_; (with_reducible refine (r08_Parse.calls kj5 a0 t600 t601 _ A12.out).mono ?_); rintro e w19 ⟨v602, rfl, ho0, hb⟩; refine ⟨_, rfl, ?_⟩; have HO603 := Aside0.mk (Kd.R_lower ho0 (below_size bl)); replace BK599 := cB BK599 hb; replace HB := Aside0.mk (below_step bl hb); (try clear hb); (try clear ho0); obtain ⟨hcz20_0, hcz20_1, hcz20_2, hcz20_3, hcz20_4, hfz20_0, hfz20_1, hfz20_2, hfz20_3, hfz20_4⟩ := z5 BK599) | ((with_reducible refine gate_store (t := 78) (p := 2) rfl ?_); refine store_event (t := 78) (p := 2) (v := ?vo_w21) (w1 := (((((w19.setCell ⟨gb599, 0, none⟩ (.int .i64 0)).setCell ⟨gb599, 1, none⟩ (.string (⟨#[]⟩ : ByteArray))).setCell ⟨gb599, 2, none⟩ (.int .i64 0)).setCell ⟨gb599, 3, none⟩ (.bool false)).setCell ⟨gb599, 4, none⟩ (.bool false))) ?hg ?ho ?hn ?hr ?_; (case ho => rfl); (case hg => rfl); (case hn => rfl); (case hr => first | (go_simp; done) | (go_simp; rfl)); intro w21 hw; replace HO603 := fgR (ok' := fun _ => True) hw HO603 BK599 fun _ _ => trivial; replace HB : Aside0 (Below w.heap.size w w21) := fgW hw bl; replace BK599 := fgB hw BK599; clear hw))
      refine bodyPost_ret (results_ct rfl _ _ gb599 78 #[.int .i64 0, .string (⟨#[]⟩ : ByteArray), .int .i64 0, .bool false, .bool false] (0, 0) _ rfl (uB BK599.out) Tryz.underlying78 rfl (by kernel_rfl)) rfl ?_
      exact ⟨re_, bl⟩
    ·
     replace c11 := Bool.eq_false_iff.mpr c11
     subst c11
     rw [if_neg (show ¬ (false = true) by decide)] at H
     by_cases c22 : 1 ≤ (a0.size : Int)
     ·
      rw [if_pos c22] at H
      have c22b0 := eq_true c22
      have c22b1 : decide (1 ≤ (a0.size : Int)) = true := decide_eq_true c22
      clear c22
      obtain ⟨t605, A23, H⟩ := bs H
      try dsimp only at H
      by_cases c24 : (t605.length : Int) = 2
      ·
       rw [if_pos c24] at H
       have c24b0 : ((t605.length : Int) == 2) = true := beq_iff_eq.mpr c24
       have c24b1 : ((t605.length : Int) != 2) = false := bne_eq_false_iff_eq.mpr c24
       clear c24
       obtain ⟨c25, H⟩ := gd H
       have c25b0 : decide (0 < (t605.length : Int)) = true := decide_eq_true c25
       have c25b1 : decide (0 < t605.length) = true := decide_eq_true (by omega)
       clear c25
       obtain ⟨⟨t609, t610⟩, A26, H⟩ := bs H
       try dsimp only at H
       by_cases c27 : t610 = 0
       ·
        rw [if_pos c27] at H
        have c27b0 : (t610 == 0) = true := beq_iff_eq.mpr c27
        have c27b1 : (t610 != 0) = false := bne_eq_false_iff_eq.mpr c27
        clear c27
        obtain ⟨c28, H⟩ := gd H
        have c28b0 : decide (1 < (t605.length : Int)) = true := decide_eq_true c28
        have c28b1 : decide (1 < t605.length) = true := decide_eq_true (by omega)
        clear c28
        obtain ⟨⟨t612, t613⟩, A29, H⟩ := bs H
        try dsimp only at H
        by_cases c30 : t613 = 0
        ·
         rw [if_pos c30] at H
         have c30b0 : (t613 == 0) = true := beq_iff_eq.mpr c30
         have c30b1 : (t613 != 0) = false := bne_eq_false_iff_eq.mpr c30
         clear c30
         obtain ⟨t616, A31, H⟩ := bs H
         try dsimp only at H
         by_cases c32 : t616.toList = (rdOf ByteArray.empty t605 1).toList
         ·
          rw [if_pos c32] at H
          have c32b0 : (t616.toList == (rdOf ByteArray.empty t605 1).toList) = true := beq_iff_eq.mpr c32
          have c32b1 : (t616.toList != (rdOf ByteArray.empty t605 1).toList) = false := bne_eq_false_iff_eq.mpr c32
          clear c32
          simp only [Option.some.injEq, Prod.mk.injEq] at H
          obtain ⟨rfl, rfl, rfl, rfl, rfl, rfl⟩ := H
          try go_wp2_with (first | (refine gL (some 36) rfl Tryz.func47 #[.string (a0.extract 1 a0.size), .int .u8 124] ?_; (with_reducible refine (r02_Split.calls kj5 (a0.extract 1 a0.size) 124 t605 _ A23.out).mono ?_); rintro e w33 ⟨v606, rfl, ho0, hb⟩; refine ⟨_, rfl, ?_⟩; have HO607 := Aside0.mk (Kd.R_lower ho0 (below_size bl)); replace BK599 := cB BK599 hb; replace HB := Aside0.mk (below_step bl hb); (try clear hb); (try clear ho0); obtain ⟨Ao34, co34, eo34⟩ := Kd.R_slice HO607.out; subst eo34; have p608 : 0 ≤ (0 : Int) := (by omega); have q608 : 0 < (t605.length : Int) := od; obtain ⟨ad608, e608, hx608_0⟩ := Kd.at_string (Kd.R_reads' HO607.out).2.2 0 p608 q608; cases e608; have qi608 : (0 < t605.length) = True := eq_true (by omega); (try rw [show ((0 : Int)).toNat = 0 from rfl] at hx608_0); (try rw [Addr.add_zero'] at hx608_0); replace p608 := eq_true p608; replace q608 := eq_true q608) | (refine gL (some 45) rfl Tryz.func56 #[.string (rdOf ByteArray.empty t605 0)] ?_; (with_reducible refine (r01_Read.calls kj5 (rdOf ByteArray.empty t605 0) t609 t610 _ A26.out).mono ?_); rintro e w' ⟨rfl, ⟨nd, rfl⟩⟩; refine ⟨_, rfl, ?_⟩; (try (rw [drewN_self w33]; generalize hq_ : World.drewN w33 _ = w33; have n0_ : Aside0 (Kd.R Kd.string 9 w33 w.heap.size (fun _ => True) (.slice (some ad608) t605.length co34) t605) := ⟨by rw [← hq_]; exact (uR HO607.out)⟩; have n1_ : Aside0 (w33.heap[gb599]? = some (.cells #[.int .i64 0, .string (⟨#[]⟩ : ByteArray), .int .i64 0, .bool false, .bool false] 78 (0, 0))) := ⟨by rw [← hq_]; exact (uB BK599.out)⟩; have n2_ : Aside0 (Below w.heap.size w w33) := ⟨by rw [← hq_]; exact bl⟩; clear HO607 BK599 HB hq_; have HO607 := n0_; have BK599 := n1_; have HB := n2_; clear n0_ n1_ n2_)); have p611 : 0 ≤ (1 : Int) := (by omega); have q611 : 1 < (t605.length : Int) := od; obtain ⟨ad611, e611, hx611_0⟩ := Kd.at_string (Kd.R_reads' HO607.out).2.2 1 p611 q611; obtain rfl : ad608 = ad611 := (by injection e611); (try simp only [show (1 : Int).toNat = 1 from rfl, Nat.reduceMul, Nat.reduceEqDiff, Go.Addr.add, ↓reduceIte] at hx611_0); have qi611 : (1 < t605.length) = True := eq_true (by omega); (try rw [show ((1 : Int)).toNat = 1 from rfl] at hx611_0); replace p611 := eq_true p611; replace q611 := eq_true q611) | (refine gL (some 56) rfl Tryz.func75 #[.string (rdOf ByteArray.empty t605 1)] ?_; (with_reducible refine (r03_Parse.calls kj5 (rdOf ByteArray.empty t605 1) t612 t613 _ A29.out).mono ?_); rintro e w35 ⟨v614, rfl, ho0, hb⟩; refine ⟨_, rfl, ?_⟩; replace HO607 := cR HO607 hb; have HO615 := Aside0.mk (Kd.R_lower ho0 (below_size bl)); replace BK599 := cB BK599 hb; replace HB := Aside0.mk (below_step bl hb); (try clear hb); (try clear ho0)))
          replace HO607 := Aside0.mk (Kd.R_drew HO607.out)
          replace HO615 := Aside0.mk (Kd.R_drew HO615.out)
          replace BK599 := Aside0.mk (blk_drew BK599.out)
          replace HB := Aside0.mk (below_drew1 HB.out)
          have p617 : 0 ≤ (1 : Int) := (by omega)
          have q617 : 1 < (t605.length : Int) := od
          obtain ⟨ad617, e617, hx617_0⟩ := Kd.at_string (Kd.R_reads' HO607.out).2.2 1 p617 q617
          obtain rfl : ad608 = ad617 := (by injection e617)
          (try simp only [show (1 : Int).toNat = 1 from rfl, Nat.reduceMul, Nat.reduceEqDiff, Go.Addr.add, ↓reduceIte] at hx617_0)
          have qi617 : (1 < t605.length) = True := eq_true (by omega)
          (try rw [show ((1 : Int)).toNat = 1 from rfl] at hx617_0)
          replace p617 := eq_true p617
          replace q617 := eq_true q617
          obtain ⟨Ao37, co37, eo37⟩ := Kd.R_slice HO615.out
          (first | subst eo37 | (injection eo37 with f1_ f2_ f3_; have f4_ := f1_.symm; have f5_ := f3_.symm; clear f1_ f2_ f3_; subst f4_; subst f5_))
          refine start_ (n := 6) (S := fun w' => w'.cell? ⟨ad608.block, ad608.off + 1, none⟩ = some (.string (rdOf ByteArray.empty t605 1))) (ds := []) _ (by kernel_rfl) rfl rfl (hx617_0) (fun hHeld => ?_)
          generalize w35.drew = w36 at HO607 HO615 BK599 HB hx617_0 hHeld ⊢
          refine pure_ (i := 0) (N := some 63) (v := ?_) (a' := ?_) #[true, false, false, false, false, false] rfl rfl (by kernel_rfl) (fun _ _ _ h => h) (Or.inl ⟨by rfl, ?_⟩) ?_ ?_
          rotate_left
          ·
           intro w'
           go_simp
           with_reducible rfl
          rotate_left
          ·
           simp only [Act.put, List.setIfInBounds_toArray, List.set_cons_zero, List.set_cons_succ, i64_w, i32_w]
           rfl
          refine pure_ (i := 2) (N := some 65) (v := ?_) (a' := ?_) #[true, false, true, false, false, false] rfl rfl (by kernel_rfl) (fun _ _ _ h => h) (Or.inl ⟨by rfl, ?_⟩) ?_ ?_
          rotate_left
          ·
           intro w'
           go_simp
           with_reducible rfl
          rotate_left
          ·
           simp only [Act.put, List.setIfInBounds_toArray, List.set_cons_zero, List.set_cons_succ, i64_w, i32_w]
           rfl
          refine pure_ (i := 3) (N := some 66) (v := ?_) (a' := ?_) #[true, false, true, true, false, false] rfl rfl (by kernel_rfl) (fun _ _ _ h => h) (Or.inl ⟨by rfl, ?_⟩) ?_ ?_
          rotate_left
          ·
           intro w'
           go_simp
           with_reducible rfl
          rotate_left
          ·
           simp only [Act.put, List.setIfInBounds_toArray, List.set_cons_zero, List.set_cons_succ, i64_w, i32_w]
           rfl
          refine take_ (i := 4) (N := some 67) (v := ?_) (a' := ?_) #[true, false, true, true, true, false] rfl rfl (by kernel_rfl) (fun _ _ _ h => h) (Or.inl ⟨by rfl, ?_⟩) hHeld ?_ ?_
          rotate_left
          ·
           intro w' s0
           go_simp
           with_reducible rfl
          rotate_left
          ·
           simp only [Act.put, List.setIfInBounds_toArray, List.set_cons_zero, List.set_cons_succ, i64_w, i32_w]
           rfl
          refine one_ (i := 1) (N := some 64) #[true, true, true, true, true, false] rfl rfl (by kernel_rfl) (by decide) (fun K hK => ?_)
          refine gS Tryz.func76 #[.slice Ao37 t612.length co37] ?_
          with_reducible refine (r03_Text.calls kj5 _ _ t612 t616 _ ?side1 ?side2 A31.out).mono ?_
          (case side1 => exact uC <| (Kd.R_reads' HO615.out).2.2)
          (case side2 => exact (Kd.R_reads' HO615.out).2.1)
          rintro e w38 ⟨rfl, hb⟩
          have HS0_ := (hb.cell (World.block_lt_of_cell? _ _ (hHeld))).trans (hHeld)
          refine ⟨_, rfl, ?_⟩
          replace HO607 := cR HO607 hb
          replace HO615 := cR HO615 hb
          replace BK599 := cB BK599 hb
          replace HB := Aside0.mk (below_step bl hb)
          (try clear hb)
          refine hK.out _ _ (HS0_) (fun hHeld => ?_)
          clear hK K
          refine norm_ (a' := ?_) ?_ ?_
          rotate_left
          ·
           show Act.put _ (some 64) _ = _
           simp only [Act.put, List.setIfInBounds_toArray, List.set_cons_zero, List.set_cons_succ, i64_w, i32_w]
           rfl
          refine pure_ (i := 5) (N := some 68) (v := ?_) (a' := ?_) #[true, true, true, true, true, true] rfl rfl (by kernel_rfl) (fun _ _ _ h => h) (Or.inl ⟨by rfl, ?_⟩) ?_ ?_
          rotate_left
          ·
           intro w'
           go_simp
           with_reducible rfl
          rotate_left
          ·
           simp only [Act.put, List.setIfInBounds_toArray, List.set_cons_zero, List.set_cons_succ, i64_w, i32_w]
           rfl
          refine done_ (by kernel_rfl) ?_
          have p618 : 0 ≤ (1 : Int) := (by omega)
          have q618 : 1 < (t605.length : Int) := od
          obtain ⟨ad618, e618, hx618_0⟩ := Kd.at_string (Kd.R_reads' HO607.out).2.2 1 p618 q618
          obtain rfl : ad608 = ad618 := (by injection e618)
          (try simp only [show (1 : Int).toNat = 1 from rfl, Nat.reduceMul, Nat.reduceEqDiff, Go.Addr.add, ↓reduceIte] at hx618_0)
          have qi618 : (1 < t605.length) = True := eq_true (by omega)
          (try rw [show ((1 : Int)).toNat = 1 from rfl] at hx618_0)
          replace p618 := eq_true p618
          replace q618 := eq_true q618
          obtain ⟨hcz39_0, hcz39_1, hcz39_2, hcz39_3, hcz39_4, hfz39_0, hfz39_1, hfz39_2, hfz39_3, hfz39_4⟩ := z5 BK599
          try go_wp2_with (first | ((with_reducible refine gate_store (t := 78) (p := 2) rfl ?_); refine store_event (t := 78) (p := 2) (v := ?vo_w40) (w1 := (((((w38.setCell ⟨gb599, 0, none⟩ (.int .i64 t609)).setCell ⟨gb599, 1, none⟩ (.string (rdOf ByteArray.empty t605 1))).setCell ⟨gb599, 2, none⟩ (.int .i64 0)).setCell ⟨gb599, 3, none⟩ (.bool false)).setCell ⟨gb599, 4, none⟩ (.bool true))) ?hg ?ho ?hn ?hr ?_; (case ho => rfl); (case hg => rfl); (case hn => rfl); (case hr => first | (go_simp; done) | (go_simp; rfl)); intro w40 hw; replace HO607 := fgR (ok' := fun _ => True) hw HO607 BK599 fun _ _ => trivial; replace HO615 := fgR (ok' := fun _ => True) hw HO615 BK599 fun _ _ => trivial; replace HB : Aside0 (Below w.heap.size w w40) := fgW hw bl; replace BK599 := fgB hw BK599; clear hw))
          refine bodyPost_ret (results_ct rfl _ _ gb599 78 #[.int .i64 t609, .string (rdOf ByteArray.empty t605 1), .int .i64 0, .bool false, .bool true] (0, 0) _ rfl (uB BK599.out) Tryz.underlying78 rfl (by kernel_rfl)) rfl ?_
          exact ⟨re_, bl⟩
         ·
          rw [if_neg c32] at H
          have c32b0 : (t616.toList == (rdOf ByteArray.empty t605 1).toList) = false := beq_eq_false_iff_ne.mpr c32
          have c32b1 : (t616.toList != (rdOf ByteArray.empty t605 1).toList) = true := bne_iff_ne.mpr c32
          simp only [Option.some.injEq, Prod.mk.injEq] at H
          obtain ⟨rfl, rfl, rfl, rfl, rfl, rfl⟩ := H
          try go_wp2_with (first | (refine gL (some 36) rfl Tryz.func47 #[.string (a0.extract 1 a0.size), .int .u8 124] ?_; (with_reducible refine (r02_Split.calls kj5 (a0.extract 1 a0.size) 124 t605 _ A23.out).mono ?_); rintro e w41 ⟨v606, rfl, ho0, hb⟩; refine ⟨_, rfl, ?_⟩; have HO607 := Aside0.mk (Kd.R_lower ho0 (below_size bl)); replace BK599 := cB BK599 hb; replace HB := Aside0.mk (below_step bl hb); (try clear hb); (try clear ho0); obtain ⟨Ao42, co42, eo42⟩ := Kd.R_slice HO607.out; subst eo42; have p608 : 0 ≤ (0 : Int) := (by omega); have q608 : 0 < (t605.length : Int) := od; obtain ⟨ad608, e608, hx608_0⟩ := Kd.at_string (Kd.R_reads' HO607.out).2.2 0 p608 q608; cases e608; have qi608 : (0 < t605.length) = True := eq_true (by omega); (try rw [show ((0 : Int)).toNat = 0 from rfl] at hx608_0); (try rw [Addr.add_zero'] at hx608_0); replace p608 := eq_true p608; replace q608 := eq_true q608) | (refine gL (some 45) rfl Tryz.func56 #[.string (rdOf ByteArray.empty t605 0)] ?_; (with_reducible refine (r01_Read.calls kj5 (rdOf ByteArray.empty t605 0) t609 t610 _ A26.out).mono ?_); rintro e w' ⟨rfl, ⟨nd, rfl⟩⟩; refine ⟨_, rfl, ?_⟩; (try (rw [drewN_self w41]; generalize hq_ : World.drewN w41 _ = w41; have n0_ : Aside0 (Kd.R Kd.string 9 w41 w.heap.size (fun _ => True) (.slice (some ad608) t605.length co42) t605) := ⟨by rw [← hq_]; exact (uR HO607.out)⟩; have n1_ : Aside0 (w41.heap[gb599]? = some (.cells #[.int .i64 0, .string (⟨#[]⟩ : ByteArray), .int .i64 0, .bool false, .bool false] 78 (0, 0))) := ⟨by rw [← hq_]; exact (uB BK599.out)⟩; have n2_ : Aside0 (Below w.heap.size w w41) := ⟨by rw [← hq_]; exact bl⟩; clear HO607 BK599 HB hq_; have HO607 := n0_; have BK599 := n1_; have HB := n2_; clear n0_ n1_ n2_)); have p611 : 0 ≤ (1 : Int) := (by omega); have q611 : 1 < (t605.length : Int) := od; obtain ⟨ad611, e611, hx611_0⟩ := Kd.at_string (Kd.R_reads' HO607.out).2.2 1 p611 q611; obtain rfl : ad608 = ad611 := (by injection e611); (try simp only [show (1 : Int).toNat = 1 from rfl, Nat.reduceMul, Nat.reduceEqDiff, Go.Addr.add, ↓reduceIte] at hx611_0); have qi611 : (1 < t605.length) = True := eq_true (by omega); (try rw [show ((1 : Int)).toNat = 1 from rfl] at hx611_0); replace p611 := eq_true p611; replace q611 := eq_true q611) | (refine gL (some 56) rfl Tryz.func75 #[.string (rdOf ByteArray.empty t605 1)] ?_; (with_reducible refine (r03_Parse.calls kj5 (rdOf ByteArray.empty t605 1) t612 t613 _ A29.out).mono ?_); rintro e w43 ⟨v614, rfl, ho0, hb⟩; refine ⟨_, rfl, ?_⟩; replace HO607 := cR HO607 hb; have HO615 := Aside0.mk (Kd.R_lower ho0 (below_size bl)); replace BK599 := cB BK599 hb; replace HB := Aside0.mk (below_step bl hb); (try clear hb); (try clear ho0)))
          replace HO607 := Aside0.mk (Kd.R_drew HO607.out)
          replace HO615 := Aside0.mk (Kd.R_drew HO615.out)
          replace BK599 := Aside0.mk (blk_drew BK599.out)
          replace HB := Aside0.mk (below_drew1 HB.out)
          have p617 : 0 ≤ (1 : Int) := (by omega)
          have q617 : 1 < (t605.length : Int) := od
          obtain ⟨ad617, e617, hx617_0⟩ := Kd.at_string (Kd.R_reads' HO607.out).2.2 1 p617 q617
          obtain rfl : ad608 = ad617 := (by injection e617)
          (try simp only [show (1 : Int).toNat = 1 from rfl, Nat.reduceMul, Nat.reduceEqDiff, Go.Addr.add, ↓reduceIte] at hx617_0)
          have qi617 : (1 < t605.length) = True := eq_true (by omega)
          (try rw [show ((1 : Int)).toNat = 1 from rfl] at hx617_0)
          replace p617 := eq_true p617
          replace q617 := eq_true q617
          obtain ⟨Ao45, co45, eo45⟩ := Kd.R_slice HO615.out
          (first | subst eo45 | (injection eo45 with f1_ f2_ f3_; have f4_ := f1_.symm; have f5_ := f3_.symm; clear f1_ f2_ f3_; subst f4_; subst f5_))
          refine start_ (n := 6) (S := fun w' => w'.cell? ⟨ad608.block, ad608.off + 1, none⟩ = some (.string (rdOf ByteArray.empty t605 1))) (ds := []) _ (by kernel_rfl) rfl rfl (hx617_0) (fun hHeld => ?_)
          generalize w43.drew = w44 at HO607 HO615 BK599 HB hx617_0 hHeld ⊢
          refine pure_ (i := 0) (N := some 63) (v := ?_) (a' := ?_) #[true, false, false, false, false, false] rfl rfl (by kernel_rfl) (fun _ _ _ h => h) (Or.inl ⟨by rfl, ?_⟩) ?_ ?_
          rotate_left
          ·
           intro w'
           go_simp
           with_reducible rfl
          rotate_left
          ·
           simp only [Act.put, List.setIfInBounds_toArray, List.set_cons_zero, List.set_cons_succ, i64_w, i32_w]
           rfl
          refine pure_ (i := 2) (N := some 65) (v := ?_) (a' := ?_) #[true, false, true, false, false, false] rfl rfl (by kernel_rfl) (fun _ _ _ h => h) (Or.inl ⟨by rfl, ?_⟩) ?_ ?_
          rotate_left
          ·
           intro w'
           go_simp
           with_reducible rfl
          rotate_left
          ·
           simp only [Act.put, List.setIfInBounds_toArray, List.set_cons_zero, List.set_cons_succ, i64_w, i32_w]
           rfl
          refine pure_ (i := 3) (N := some 66) (v := ?_) (a' := ?_) #[true, false, true, true, false, false] rfl rfl (by kernel_rfl) (fun _ _ _ h => h) (Or.inl ⟨by rfl, ?_⟩) ?_ ?_
          rotate_left
          ·
           intro w'
           go_simp
           with_reducible rfl
          rotate_left
          ·
           simp only [Act.put, List.setIfInBounds_toArray, List.set_cons_zero, List.set_cons_succ, i64_w, i32_w]
           rfl
          refine take_ (i := 4) (N := some 67) (v := ?_) (a' := ?_) #[true, false, true, true, true, false] rfl rfl (by kernel_rfl) (fun _ _ _ h => h) (Or.inl ⟨by rfl, ?_⟩) hHeld ?_ ?_
          rotate_left
          ·
           intro w' s0
           go_simp
           with_reducible rfl
          rotate_left
          ·
           simp only [Act.put, List.setIfInBounds_toArray, List.set_cons_zero, List.set_cons_succ, i64_w, i32_w]
           rfl
          refine one_ (i := 1) (N := some 64) #[true, true, true, true, true, false] rfl rfl (by kernel_rfl) (by decide) (fun K hK => ?_)
          refine gS Tryz.func76 #[.slice Ao45 t612.length co45] ?_
          with_reducible refine (r03_Text.calls kj5 _ _ t612 t616 _ ?side1 ?side2 A31.out).mono ?_
          (case side1 => exact uC <| (Kd.R_reads' HO615.out).2.2)
          (case side2 => exact (Kd.R_reads' HO615.out).2.1)
          rintro e w46 ⟨rfl, hb⟩
          have HS0_ := (hb.cell (World.block_lt_of_cell? _ _ (hHeld))).trans (hHeld)
          refine ⟨_, rfl, ?_⟩
          replace HO607 := cR HO607 hb
          replace HO615 := cR HO615 hb
          replace BK599 := cB BK599 hb
          replace HB := Aside0.mk (below_step bl hb)
          (try clear hb)
          refine hK.out _ _ (HS0_) (fun hHeld => ?_)
          clear hK K
          refine norm_ (a' := ?_) ?_ ?_
          rotate_left
          ·
           show Act.put _ (some 64) _ = _
           simp only [Act.put, List.setIfInBounds_toArray, List.set_cons_zero, List.set_cons_succ, i64_w, i32_w]
           rfl
          refine pure_ (i := 5) (N := some 68) (v := ?_) (a' := ?_) #[true, true, true, true, true, true] rfl rfl (by kernel_rfl) (fun _ _ _ h => h) (Or.inl ⟨by rfl, ?_⟩) ?_ ?_
          rotate_left
          ·
           intro w'
           go_simp
           with_reducible rfl
          rotate_left
          ·
           simp only [Act.put, List.setIfInBounds_toArray, List.set_cons_zero, List.set_cons_succ, i64_w, i32_w]
           rfl
          refine done_ (by kernel_rfl) ?_
          obtain ⟨hcz47_0, hcz47_1, hcz47_2, hcz47_3, hcz47_4, hfz47_0, hfz47_1, hfz47_2, hfz47_3, hfz47_4⟩ := z5 BK599
          try go_wp2_with (first | ((with_reducible refine gate_store (t := 78) (p := 2) rfl ?_); refine store_event (t := 78) (p := 2) (v := ?vo_w48) (w1 := (((((w46.setCell ⟨gb599, 0, none⟩ (.int .i64 0)).setCell ⟨gb599, 1, none⟩ (.string (⟨#[]⟩ : ByteArray))).setCell ⟨gb599, 2, none⟩ (.int .i64 0)).setCell ⟨gb599, 3, none⟩ (.bool false)).setCell ⟨gb599, 4, none⟩ (.bool false))) ?hg ?ho ?hn ?hr ?_; (case ho => rfl); (case hg => rfl); (case hn => rfl); (case hr => first | (go_simp; done) | (go_simp; rfl)); intro w48 hw; replace HO607 := fgR (ok' := fun _ => True) hw HO607 BK599 fun _ _ => trivial; replace HO615 := fgR (ok' := fun _ => True) hw HO615 BK599 fun _ _ => trivial; replace HB : Aside0 (Below w.heap.size w w48) := fgW hw bl; replace BK599 := fgB hw BK599; clear hw))
          refine bodyPost_ret (results_ct rfl _ _ gb599 78 #[.int .i64 0, .string (⟨#[]⟩ : ByteArray), .int .i64 0, .bool false, .bool false] (0, 0) _ rfl (uB BK599.out) Tryz.underlying78 rfl (by kernel_rfl)) rfl ?_
          exact ⟨re_, bl⟩
        ·
         rw [if_neg c30] at H
         have c30b0 : (t613 == 0) = false := beq_eq_false_iff_ne.mpr c30
         have c30b1 : (t613 != 0) = true := bne_iff_ne.mpr c30
         simp only [Option.some.injEq, Prod.mk.injEq] at H
         obtain ⟨rfl, rfl, rfl, rfl, rfl, rfl⟩ := H
         go_wp2_with (first | (refine gL (some 36) rfl Tryz.func47 #[.string (a0.extract 1 a0.size), .int .u8 124] ?_; (with_reducible refine (r02_Split.calls kj5 (a0.extract 1 a0.size) 124 t605 _ A23.out).mono ?_); rintro e w49 ⟨v606, rfl, ho0, hb⟩; refine ⟨_, rfl, ?_⟩; have HO607 := Aside0.mk (Kd.R_lower ho0 (below_size bl)); replace BK599 := cB BK599 hb; replace HB := Aside0.mk (below_step bl hb); (try clear hb); (try clear ho0); obtain ⟨Ao50, co50, eo50⟩ := Kd.R_slice HO607.out; subst eo50; have p608 : 0 ≤ (0 : Int) := (by omega); have q608 : 0 < (t605.length : Int) := od; obtain ⟨ad608, e608, hx608_0⟩ := Kd.at_string (Kd.R_reads' HO607.out).2.2 0 p608 q608; cases e608; have qi608 : (0 < t605.length) = True := eq_true (by omega); (try rw [show ((0 : Int)).toNat = 0 from rfl] at hx608_0); (try rw [Addr.add_zero'] at hx608_0); replace p608 := eq_true p608; replace q608 := eq_true q608) | (refine gL (some 45) rfl Tryz.func56 #[.string (rdOf ByteArray.empty t605 0)] ?_; (with_reducible refine (r01_Read.calls kj5 (rdOf ByteArray.empty t605 0) t609 t610 _ A26.out).mono ?_); rintro e w' ⟨rfl, ⟨nd, rfl⟩⟩; refine ⟨_, rfl, ?_⟩; (try (rw [drewN_self w49]; generalize hq_ : World.drewN w49 _ = w49; have n0_ : Aside0 (Kd.R Kd.string 9 w49 w.heap.size (fun _ => True) (.slice (some ad608) t605.length co50) t605) := ⟨by rw [← hq_]; exact (uR HO607.out)⟩; have n1_ : Aside0 (w49.heap[gb599]? = some (.cells #[.int .i64 0, .string (⟨#[]⟩ : ByteArray), .int .i64 0, .bool false, .bool false] 78 (0, 0))) := ⟨by rw [← hq_]; exact (uB BK599.out)⟩; have n2_ : Aside0 (Below w.heap.size w w49) := ⟨by rw [← hq_]; exact bl⟩; clear HO607 BK599 HB hq_; have HO607 := n0_; have BK599 := n1_; have HB := n2_; clear n0_ n1_ n2_)); have p611 : 0 ≤ (1 : Int) := (by omega); have q611 : 1 < (t605.length : Int) := od; obtain ⟨ad611, e611, hx611_0⟩ := Kd.at_string (Kd.R_reads' HO607.out).2.2 1 p611 q611; obtain rfl : ad608 = ad611 := (by injection e611); (try simp only [show (1 : Int).toNat = 1 from rfl, Nat.reduceMul, Nat.reduceEqDiff, Go.Addr.add, ↓reduceIte] at hx611_0); have qi611 : (1 < t605.length) = True := eq_true (by omega); (try rw [show ((1 : Int)).toNat = 1 from rfl] at hx611_0); replace p611 := eq_true p611; replace q611 := eq_true q611) | (refine gL (some 56) rfl Tryz.func75 #[.string (rdOf ByteArray.empty t605 1)] ?_; (with_reducible refine (r03_Parse.calls kj5 (rdOf ByteArray.empty t605 1) t612 t613 _ A29.out).mono ?_); rintro e w51 ⟨v614, rfl, ho0, hb⟩; refine ⟨_, rfl, ?_⟩; replace HO607 := cR HO607 hb; have HO615 := Aside0.mk (Kd.R_lower ho0 (below_size bl)); replace BK599 := cB BK599 hb; replace HB := Aside0.mk (below_step bl hb); (try clear hb); (try clear ho0); obtain ⟨hcz52_0, hcz52_1, hcz52_2, hcz52_3, hcz52_4, hfz52_0, hfz52_1, hfz52_2, hfz52_3, hfz52_4⟩ := z5 BK599) | ((with_reducible refine gate_store (t := 78) (p := 2) rfl ?_); refine store_event (t := 78) (p := 2) (v := ?vo_w53) (w1 := (((((w51.setCell ⟨gb599, 0, none⟩ (.int .i64 0)).setCell ⟨gb599, 1, none⟩ (.string (⟨#[]⟩ : ByteArray))).setCell ⟨gb599, 2, none⟩ (.int .i64 0)).setCell ⟨gb599, 3, none⟩ (.bool false)).setCell ⟨gb599, 4, none⟩ (.bool false))) ?hg ?ho ?hn ?hr ?_; (case ho => rfl); (case hg => rfl); (case hn => rfl); (case hr => first | (go_simp; done) | (go_simp; rfl)); intro w53 hw; replace HO607 := fgR (ok' := fun _ => True) hw HO607 BK599 fun _ _ => trivial; replace HO615 := fgR (ok' := fun _ => True) hw HO615 BK599 fun _ _ => trivial; replace HB : Aside0 (Below w.heap.size w w53) := fgW hw bl; replace BK599 := fgB hw BK599; clear hw))
         refine bodyPost_ret (results_ct rfl _ _ gb599 78 #[.int .i64 0, .string (⟨#[]⟩ : ByteArray), .int .i64 0, .bool false, .bool false] (0, 0) _ rfl (uB BK599.out) Tryz.underlying78 rfl (by kernel_rfl)) rfl ?_
         exact ⟨re_, bl⟩
       ·
        rw [if_neg c27] at H
        have c27b0 : (t610 == 0) = false := beq_eq_false_iff_ne.mpr c27
        have c27b1 : (t610 != 0) = true := bne_iff_ne.mpr c27
        simp only [Option.some.injEq, Prod.mk.injEq] at H
        obtain ⟨rfl, rfl, rfl, rfl, rfl, rfl⟩ := H
        go_wp2_with (first | (refine gL (some 36) rfl Tryz.func47 #[.string (a0.extract 1 a0.size), .int .u8 124] ?_; (with_reducible refine (r02_Split.calls kj5 (a0.extract 1 a0.size) 124 t605 _ A23.out).mono ?_); rintro e w54 ⟨v606, rfl, ho0, hb⟩; refine ⟨_, rfl, ?_⟩; have HO607 := Aside0.mk (Kd.R_lower ho0 (below_size bl)); replace BK599 := cB BK599 hb; replace HB := Aside0.mk (below_step bl hb); (try clear hb); (try clear ho0); obtain ⟨Ao55, co55, eo55⟩ := Kd.R_slice HO607.out; subst eo55; have p608 : 0 ≤ (0 : Int) := (by omega); have q608 : 0 < (t605.length : Int) := od; obtain ⟨ad608, e608, hx608_0⟩ := Kd.at_string (Kd.R_reads' HO607.out).2.2 0 p608 q608; cases e608; have qi608 : (0 < t605.length) = True := eq_true (by omega); (try rw [show ((0 : Int)).toNat = 0 from rfl] at hx608_0); (try rw [Addr.add_zero'] at hx608_0); replace p608 := eq_true p608; replace q608 := eq_true q608) | (refine gL (some 45) rfl Tryz.func56 #[.string (rdOf ByteArray.empty t605 0)] ?_; (with_reducible refine (r01_Read.calls kj5 (rdOf ByteArray.empty t605 0) t609 t610 _ A26.out).mono ?_); rintro e w' ⟨rfl, ⟨nd, rfl⟩⟩; refine ⟨_, rfl, ?_⟩; (try (rw [drewN_self w54]; generalize hq_ : World.drewN w54 _ = w54; have n0_ : Aside0 (Kd.R Kd.string 9 w54 w.heap.size (fun _ => True) (.slice (some ad608) t605.length co55) t605) := ⟨by rw [← hq_]; exact (uR HO607.out)⟩; have n1_ : Aside0 (w54.heap[gb599]? = some (.cells #[.int .i64 0, .string (⟨#[]⟩ : ByteArray), .int .i64 0, .bool false, .bool false] 78 (0, 0))) := ⟨by rw [← hq_]; exact (uB BK599.out)⟩; have n2_ : Aside0 (Below w.heap.size w w54) := ⟨by rw [← hq_]; exact bl⟩; clear HO607 BK599 HB hq_; have HO607 := n0_; have BK599 := n1_; have HB := n2_; clear n0_ n1_ n2_)); obtain ⟨hcz56_0, hcz56_1, hcz56_2, hcz56_3, hcz56_4, hfz56_0, hfz56_1, hfz56_2, hfz56_3, hfz56_4⟩ := z5 BK599) | ((with_reducible refine gate_store (t := 78) (p := 2) rfl ?_); refine store_event (t := 78) (p := 2) (v := ?vo_w57) (w1 := (((((w54.setCell ⟨gb599, 0, none⟩ (.int .i64 0)).setCell ⟨gb599, 1, none⟩ (.string (⟨#[]⟩ : ByteArray))).setCell ⟨gb599, 2, none⟩ (.int .i64 0)).setCell ⟨gb599, 3, none⟩ (.bool false)).setCell ⟨gb599, 4, none⟩ (.bool false))) ?hg ?ho ?hn ?hr ?_; (case ho => rfl); (case hg => rfl); (case hn => rfl); (case hr => first | (go_simp; done) | (go_simp; rfl)); intro w57 hw; replace HO607 := fgR (ok' := fun _ => True) hw HO607 BK599 fun _ _ => trivial; replace HB : Aside0 (Below w.heap.size w w57) := fgW hw bl; replace BK599 := fgB hw BK599; clear hw))
        refine bodyPost_ret (results_ct rfl _ _ gb599 78 #[.int .i64 0, .string (⟨#[]⟩ : ByteArray), .int .i64 0, .bool false, .bool false] (0, 0) _ rfl (uB BK599.out) Tryz.underlying78 rfl (by kernel_rfl)) rfl ?_
        exact ⟨re_, bl⟩
      ·
       rw [if_neg c24] at H
       have c24b0 : ((t605.length : Int) == 2) = false := beq_eq_false_iff_ne.mpr c24
       have c24b1 : ((t605.length : Int) != 2) = true := bne_iff_ne.mpr c24
       simp only [Option.some.injEq, Prod.mk.injEq] at H
       obtain ⟨rfl, rfl, rfl, rfl, rfl, rfl⟩ := H
       go_wp2_with (first | (refine gL (some 36) rfl Tryz.func47 #[.string (a0.extract 1 a0.size), .int .u8 124] ?_; (with_reducible refine (r02_Split.calls kj5 (a0.extract 1 a0.size) 124 t605 _ A23.out).mono ?_); rintro e w58 ⟨v606, rfl, ho0, hb⟩; refine ⟨_, rfl, ?_⟩; have HO607 := Aside0.mk (Kd.R_lower ho0 (below_size bl)); replace BK599 := cB BK599 hb; replace HB := Aside0.mk (below_step bl hb); (try clear hb); (try clear ho0); obtain ⟨Ao59, co59, eo59⟩ := Kd.R_slice HO607.out; subst eo59; obtain ⟨hcz60_0, hcz60_1, hcz60_2, hcz60_3, hcz60_4, hfz60_0, hfz60_1, hfz60_2, hfz60_3, hfz60_4⟩ := z5 BK599) | ((with_reducible refine gate_store (t := 78) (p := 2) rfl ?_); refine store_event (t := 78) (p := 2) (v := ?vo_w61) (w1 := (((((w58.setCell ⟨gb599, 0, none⟩ (.int .i64 0)).setCell ⟨gb599, 1, none⟩ (.string (⟨#[]⟩ : ByteArray))).setCell ⟨gb599, 2, none⟩ (.int .i64 0)).setCell ⟨gb599, 3, none⟩ (.bool false)).setCell ⟨gb599, 4, none⟩ (.bool false))) ?hg ?ho ?hn ?hr ?_; (case ho => rfl); (case hg => rfl); (case hn => rfl); (case hr => first | (go_simp; done) | (go_simp; rfl)); intro w61 hw; replace HO607 := fgR (ok' := fun _ => True) hw HO607 BK599 fun _ _ => trivial; replace HB : Aside0 (Below w.heap.size w w61) := fgW hw bl; replace BK599 := fgB hw BK599; clear hw))
       refine bodyPost_ret (results_ct rfl _ _ gb599 78 #[.int .i64 0, .string (⟨#[]⟩ : ByteArray), .int .i64 0, .bool false, .bool false] (0, 0) _ rfl (uB BK599.out) Tryz.underlying78 rfl (by kernel_rfl)) rfl ?_
       exact ⟨re_, bl⟩
     ·
      rw [if_neg c22] at H
      exact absurd H (by simp)
attribute [local go_sem high] eqA60
def r09_Parse.l0 : Nat → List (S78) → List ByteArray → Int → Option ((List (S78)) × Int)
 | 0, _, _, _ => none
 | k + 1, x4, x5, x6 => if x6 < (x5.length : Int) then (if 0 ≤ x6 then ((r09_one.f k (rdOf ByteArray.empty x5 x6)).bind fun bt623 => (if bt623.2.2.2.2.2 = 0 then (if x4.length < 2932031007402 then (r09_Parse.l0 k (x4 ++ [(⟨(⟨bt623.1, bt623.2.1, (⟨bt623.2.2.1, bt623.2.2.2.1⟩ : S58)⟩ : S60), bt623.2.2.2.2.1⟩ : S78)]) x5 (wrap64 (x6 + 1))) else (none)) else (some (([] : List (S78)), bt623.2.2.2.2.2)))) else (none)) else ((r09_Right.f k x4).bind fun t633 => (if t633 = true then (some (x4, 0)) else (some (([] : List (S78)), 9))))
def r09_Parse.f (k : Nat) (a0 : ByteArray) : Option ((List (S78)) × Int) := if a0.toList = ([45] : List UInt8) then (some (([] : List (S78)), 0)) else ((r02_Split.f k a0 59).bind fun t619 => (r09_Parse.l0 k ([] : List (S78)) t619 0))
theorem r09_Parse.mono_l : ∀ k, (∀ y0 y1 y2, LeC (r09_Parse.l0 k y0 y1 y2) (r09_Parse.l0 (k + 1) y0 y1 y2))
 | 0 => fun _ _ _ => ⟨fun r h => by simp [r09_Parse.l0] at h⟩
 | k + 1 => by have ih0 := r09_Parse.mono_l k; exact fun _ _ _ => by unfold r09_Parse.l0; exact lm
theorem r09_Parse.mono : ∀ a0 k, LeO (r09_Parse.f k a0) (r09_Parse.f (k + 1) a0) := by
 intro a0 k
 have ih0 := r09_Parse.mono_l k
 unfold r09_Parse.f
 exact lo
instance r09_Parse.mI {a0 k} : LeC (r09_Parse.f k a0) (r09_Parse.f (k + 1) a0) := ⟨r09_Parse.mono _ _⟩
theorem r09_Parse.calls (k : Nat) (a0 : ByteArray) (r1 : List (S78)) (r2 : Int) (w : World) (h : r09_Parse.f k a0 = some (r1, r2)) :
 Calls Tryz.prog 57 #[.string a0] w fun e w' => ∃ v0_ : Value, e = .returned (.tuple #[v0_, .int .i64 r2]) ∧ Kd.R k78 78 w' w.heap.size (fun _ => True) v0_ r1 ∧ Below w.heap.size w w' := by
 have hu78 := Tryz.underlying78
 have HB := Aside0.mk (Below.refl w.heap.size w)
 have H : (if a0.toList = ([45] : List UInt8) then (some (([] : List (S78)), 0)) else ((r02_Split.f k a0 59).bind fun t619 => (r09_Parse.l0 k ([] : List (S78)) t619 0))) = some (r1, r2) := h
 clear h
 by_cases c2 : a0.toList = ([45] : List UInt8)
 ·
  rw [if_pos c2] at H
  have c2b0 : (a0.toList == ([45] : List UInt8)) = true := beq_iff_eq.mpr c2
  have c2b1 : (a0.toList != ([45] : List UInt8)) = false := bne_eq_false_iff_eq.mpr c2
  clear c2
  simp only [Option.some.injEq, Prod.mk.injEq] at H
  obtain ⟨rfl, rfl⟩ := H
  go_enter Tryz.func57, Tryz.ntmps57
  go_wp2
  go_ret2
  exact ⟨_, re_, nl_, uW HB.out⟩
 ·
  rw [if_neg c2] at H
  have c2b0 : (a0.toList == ([45] : List UInt8)) = false := beq_eq_false_iff_ne.mpr c2
  have c2b1 : (a0.toList != ([45] : List UInt8)) = true := bne_iff_ne.mpr c2
  obtain ⟨t619, A3, H⟩ := bs H
  try dsimp only at H
  have H' := Aside0.mk H
  clear H
  go_enter Tryz.func57, Tryz.ntmps57
  go_wp2_with (first | (refine gL (some 12) rfl Tryz.func47 #[.string a0, .int .u8 59] ?_; (with_reducible refine (r02_Split.calls k a0 59 t619 _ A3.out).mono ?_); rintro e w4 ⟨v620, rfl, ho0, hb⟩; refine ⟨_, rfl, ?_⟩; have HO621 := Aside0.mk (Kd.R_lower ho0 (below_size (uW HB.out))); replace HB := cW HB hb; (try clear hb); (try clear ho0)))
  (try simp only [Act.put, List.setIfInBounds_toArray, List.set_cons_zero, List.set_cons_succ])
  go_loopg [4, 6] k (fun kq v4 v6 w' => ∃ (x4_1 : List (S78)) (x6_1 : Int), v6 = .int .i64 x6_1 ∧ Aside0 (r09_Parse.l0 kq x4_1 t619 x6_1 = some (r1, r2)) ∧ Aside0 (kq ≤ k) ∧ Aside0 (Kd.R k78 78 w' w.heap.size (fun _ => True) v4 x4_1) ∧ Aside0 (Kd.R Kd.string 9 w' w.heap.size (fun _ => True) v620 t619) ∧ Aside0 (Below w.heap.size w w'))
  case atStart => exact ⟨(([] : List (S78))), (0), rs_, H', ⟨Nat.le_refl _⟩, ⟨nl_⟩, ⟨uR HO621.out⟩, ⟨uW HB.out⟩⟩
  case round =>
   clear H'
   try clear c2
   try clear c2b0
   try clear c2b1
   try clear p2
   try clear c4
   obtain ⟨x4_1, x6_1, rfl, HA, HK1, HO_4, HO_5, HB⟩ := hrel
   cases gk with
   | zero => exact absurd HA.out (by simp [r09_Parse.l0])
   | succ k1 =>
    have H := HA.out
    clear HA
    simp only [r09_Parse.l0] at H
    by_cases c5 : x6_1 < (t619.length : Int)
    ·
     rw [if_pos c5] at H
     have c5b0 : decide (x6_1 < (t619.length : Int)) = true := decide_eq_true c5
     clear c5
     obtain ⟨c6b0, H⟩ := gdd H
     obtain ⟨⟨t623, t624, t625, t626, t627, t628⟩, A7, H⟩ := bs H
     try dsimp only at H
     by_cases c8 : t628 = 0
     ·
      rw [if_pos c8] at H
      have c8b0 : (t628 == 0) = true := beq_iff_eq.mpr c8
      have c8b1 : (t628 != 0) = false := bne_eq_false_iff_eq.mpr c8
      clear c8
      obtain ⟨c9, H⟩ := gd H
      have LMc9 := Aside0.mk c9
      clear c9
      obtain ⟨y630, hy630⟩ : ∃ y_ : List (S78), y_ = (x4_1 ++ [(⟨(⟨t623, t624, (⟨t625, t626⟩ : S58)⟩ : S60), t627⟩ : S78)]) := ⟨_, rfl⟩
      replace H : (r09_Parse.l0 k1 y630 t619 (wrap64 (x6_1 + 1))) = some (r1, r2) := by first | (rw [hy630]; with_reducible exact H) | (have H2_ := (Option.bind_some _ _).symm.trans H; rw [hy630]; with_reducible exact H2_) | (have H2_ := (Option.bind_some _ _).symm.trans H; with_reducible exact H2_) | with_reducible exact H | (rw [hy630]; exact H) | exact H
      have Ny630 := Aside0.mk hy630
      clear hy630
      have H' := Aside0.mk H
      clear H
      obtain ⟨Ao10, co10, eo10⟩ := Kd.R_slice HO_5.out
      subst eo10
      have p622 : 0 ≤ (x6_1 : Int) := od
      have q622 : x6_1 < (t619.length : Int) := od
      obtain ⟨ad622, e622, hx622_0⟩ := Kd.at_string (Kd.R_reads' HO_5.out).2.2 x6_1 p622 q622
      cases e622
      replace p622 := eq_true p622
      replace q622 := eq_true q622
      go_wp2_with (first | (refine gL (some 24) rfl Tryz.func74 #[.string (rdOf ByteArray.empty t619 x6_1)] ?_; (with_reducible refine (r09_one.calls k1 (rdOf ByteArray.empty t619 x6_1) t623 t624 t625 t626 t627 t628 _ A7.out).mono ?_); rintro e w11 ⟨rfl, hb⟩; refine ⟨_, rfl, ?_⟩; replace HO_4 := cR HO_4 hb; replace HO_5 := cR HO_5 hb; replace HB := cW HB hb; (try clear hb)) | ((with_reducible refine gate_dst (N := 7) rfl ?_); refine bx (N := 7) #[.int .i64 0, .string (⟨#[]⟩ : ByteArray), .int .i64 0, .bool false, .bool false] 78 ?_; intro gb629 hg w12 hbox hb; replace HO_4 := Aside0.mk (Kd.R_below (Kd.R_elderB (uR HO_4.out) gb629 (Nat.le_of_eq hg.symm)) hb); replace HO_5 := cR HO_5 hb; have BK629 := Aside0.mk (hbox); have GW629 := gw hg (uW HB.out); have GE629 := GW629; replace HB := cW HB hb; clear hb hbox hg; obtain ⟨hcz13_0, hcz13_1, hcz13_2, hcz13_3, hcz13_4, hfz13_0, hfz13_1, hfz13_2, hfz13_3, hfz13_4⟩ := z5 BK629) | ((with_reducible refine gate_store (t := 78) (p := 7) rfl ?_); refine store_event (t := 78) (p := 7) (v := ?vo_w14) (w1 := (((((w12.setCell ⟨gb629, 0, none⟩ (.int .i64 t623)).setCell ⟨gb629, 1, none⟩ (.string t624)).setCell ⟨gb629, 2, none⟩ (.int .i64 t625)).setCell ⟨gb629, 3, none⟩ (.bool t626)).setCell ⟨gb629, 4, none⟩ (.bool t627))) ?hg ?ho ?hn ?hr ?_; (case ho => rfl); (case hg => rfl); (case hn => rfl); (case hr => first | (go_simp; done) | (go_simp; rfl)); intro w14 hw; replace HO_4 := fgN (ok' := (fun k_ => k_ ≠ gb629)) hw HO_4 (fun k_ hk => (⟨hk, hk.2⟩ : _ ∧ k_ ≠ gb629)) (fun _ hk => hk.1.2); replace HO_5 := fgR (ok' := fun _ => True) hw HO_5 BK629 fun _ _ => trivial; replace HB : Aside0 (Below w.heap.size w w14) := fgW hw bl; replace BK629 := fgB hw BK629; clear hw; obtain ⟨hcz15_0, hcz15_1, hcz15_2, hcz15_3, hcz15_4, hfz15_0, hfz15_1, hfz15_2, hfz15_3, hfz15_4⟩ := z5 BK629) | ((with_reducible refine gate_builtin (b := .append) (xs := #[.tmp 30, .tmp 32]) rfl ?_); at_builtin; refine Kd.R_append k78 (w0 := w) w.heap.size rfl (.tmp 30) (.tmp 32) 34 78 (.agg #[(.int .i64 0), (.string ⟨#[]⟩), (.int .i64 0), (.bool false), (.bool false)]) 48 rfl Tryz.underlying34 info78 rfl (by decide) (by omega) u4 x4_1 (⟨(⟨t623, t624, (⟨t625, t626⟩ : S58)⟩ : S60), t627⟩ : S78) [.int .i64 t623, .string t624, .int .i64 t625, .bool t626, .bool t627] (fun k_ => k_ ≠ gb629) (fun _ => False) rfl rfl ?aP (fun _ hk => hk.elim) ?aF ?aO ?aB ?aS ?aL ?_; (case aP => exact k78_mkM _ _ _ (⟨(⟨t623, t624, (⟨t625, t626⟩ : S58)⟩ : S60), t627⟩ : S78)); (case aB => exact bl); (case aF => exact (fun k_ hk => Kd.freshB (g := gb629) (o := .cells #[.int .i64 t623, .string t624, .int .i64 t625, .bool t626, .bool t627] 78 (0, 0)) (uB BK629.out) k_ hk)); (case aO => exact (uR HO_4.out)); (case aS => exact (below_size bl)); (case aL => have := LMc9.out; omega); intro v631 w16 ho hb hg hat; rw [← Ny630.out] at ho; replace HO_5 := Aside0.mk (Kd.R_over' (uR HO_5.out) (Kd.R_typed (uR HO_4.out)) (by decide) hg); replace BK629 := Aside0.mk (blk_grown (g := gb629) (o := .cells #[.int .i64 t623, .string t624, .int .i64 t625, .bool t626, .bool t627] 78 (0, 0)) (uB BK629.out) hg (Kd.R_away HO_4.out (fun _ hk => hk))); replace HB := Aside0.mk (hb); have HO632 := Aside0.mk (ho); clear HO_4; clear ho hb hg hat))
      go_roundg k1
      case measure => have := HK1.out; omega
      case rel => exact ⟨(y630), (wrap64 (x6_1 + 1)), rs_, H', ⟨by have := HK1.out; omega⟩, ⟨by exact uR <| Kd.R_mono HO632.out (fun _ hk => trivial)⟩, ⟨uR HO_5.out⟩, ⟨bl⟩⟩
     ·
      rw [if_neg c8] at H
      have c8b0 : (t628 == 0) = false := beq_eq_false_iff_ne.mpr c8
      have c8b1 : (t628 != 0) = true := bne_iff_ne.mpr c8
      simp only [Option.some.injEq, Prod.mk.injEq] at H
      obtain ⟨rfl, rfl⟩ := H
      obtain ⟨Ao17, co17, eo17⟩ := Kd.R_slice HO_5.out
      subst eo17
      have p622 : 0 ≤ (x6_1 : Int) := od
      have q622 : x6_1 < (t619.length : Int) := od
      obtain ⟨ad622, e622, hx622_0⟩ := Kd.at_string (Kd.R_reads' HO_5.out).2.2 x6_1 p622 q622
      cases e622
      replace p622 := eq_true p622
      replace q622 := eq_true q622
      go_wp2_with (first | (refine gL (some 24) rfl Tryz.func74 #[.string (rdOf ByteArray.empty t619 x6_1)] ?_; (with_reducible refine (r09_one.calls k1 (rdOf ByteArray.empty t619 x6_1) t623 t624 t625 t626 t627 t628 _ A7.out).mono ?_); rintro e w18 ⟨rfl, hb⟩; refine ⟨_, rfl, ?_⟩; replace HO_4 := cR HO_4 hb; replace HO_5 := cR HO_5 hb; replace HB := cW HB hb; (try clear hb)) | ((with_reducible refine gate_dst (N := 7) rfl ?_); refine bx (N := 7) #[.int .i64 0, .string (⟨#[]⟩ : ByteArray), .int .i64 0, .bool false, .bool false] 78 ?_; intro gb629 hg w19 hbox hb; replace HO_4 := Aside0.mk (Kd.R_below (Kd.R_elderB (uR HO_4.out) gb629 (Nat.le_of_eq hg.symm)) hb); replace HO_5 := cR HO_5 hb; have BK629 := Aside0.mk (hbox); have GW629 := gw hg (uW HB.out); have GE629 := GW629; replace HB := cW HB hb; clear hb hbox hg; obtain ⟨hcz20_0, hcz20_1, hcz20_2, hcz20_3, hcz20_4, hfz20_0, hfz20_1, hfz20_2, hfz20_3, hfz20_4⟩ := z5 BK629) | ((with_reducible refine gate_store (t := 78) (p := 7) rfl ?_); refine store_event (t := 78) (p := 7) (v := ?vo_w21) (w1 := (((((w19.setCell ⟨gb629, 0, none⟩ (.int .i64 t623)).setCell ⟨gb629, 1, none⟩ (.string t624)).setCell ⟨gb629, 2, none⟩ (.int .i64 t625)).setCell ⟨gb629, 3, none⟩ (.bool t626)).setCell ⟨gb629, 4, none⟩ (.bool t627))) ?hg ?ho ?hn ?hr ?_; (case ho => rfl); (case hg => rfl); (case hn => rfl); (case hr => first | (go_simp; done) | (go_simp; rfl)); intro w21 hw; replace HO_4 := fgN (ok' := (fun k_ => k_ ≠ gb629)) hw HO_4 (fun k_ hk => (⟨hk, hk.2⟩ : _ ∧ k_ ≠ gb629)) (fun _ hk => hk.1.2); replace HO_5 := fgR (ok' := fun _ => True) hw HO_5 BK629 fun _ _ => trivial; replace HB : Aside0 (Below w.heap.size w w21) := fgW hw bl; replace BK629 := fgB hw BK629; clear hw))
      go_ret2
      exact ⟨_, re_, nl_, bl⟩
    ·
     rw [if_neg c5] at H
     have c5b0 : decide (x6_1 < (t619.length : Int)) = false := decide_eq_false c5
     clear c5
     obtain ⟨t633, A22, H⟩ := bs H
     try dsimp only at H
     by_cases c23 : t633 = true
     ·
      subst c23
      rw [if_pos rfl] at H
      simp only [Option.some.injEq, Prod.mk.injEq] at H
      obtain ⟨rfl, rfl⟩ := H
      obtain ⟨Ao24, co24, eo24⟩ := Kd.R_slice HO_5.out
      subst eo24
      obtain ⟨Ao25, co25, eo25⟩ := Kd.R_slice HO_4.out
      subst eo25
      go_wp2_with (first | (refine gL (some 35) rfl Tryz.func32 #[.slice Ao25 x4_1.length co25] ?_; (with_reducible refine (r09_Right.calls k1 _ _ x4_1 true _ ?side1 ?side2 A22.out).mono ?_); (case side1 => exact uC <| (Kd.R_reads' HO_4.out).2.2); (case side2 => exact (Kd.R_reads' HO_4.out).2.1); rintro e w26 ⟨rfl, hb⟩; refine ⟨_, rfl, ?_⟩; replace HO_4 := cR HO_4 hb; replace HO_5 := cR HO_5 hb; replace HB := cW HB hb; (try clear hb)))
      go_ret2
      exact ⟨_, re_, uR HO_4.out, uW HB.out⟩
     ·
      replace c23 := Bool.eq_false_iff.mpr c23
      subst c23
      rw [if_neg (show ¬ (false = true) by decide)] at H
      simp only [Option.some.injEq, Prod.mk.injEq] at H
      obtain ⟨rfl, rfl⟩ := H
      obtain ⟨Ao27, co27, eo27⟩ := Kd.R_slice HO_5.out
      subst eo27
      obtain ⟨Ao28, co28, eo28⟩ := Kd.R_slice HO_4.out
      subst eo28
      go_wp2_with (first | (refine gL (some 35) rfl Tryz.func32 #[.slice Ao28 x4_1.length co28] ?_; (with_reducible refine (r09_Right.calls k1 _ _ x4_1 false _ ?side1 ?side2 A22.out).mono ?_); (case side1 => exact uC <| (Kd.R_reads' HO_4.out).2.2); (case side2 => exact (Kd.R_reads' HO_4.out).2.1); rintro e w29 ⟨rfl, hb⟩; refine ⟨_, rfl, ?_⟩; replace HO_4 := cR HO_4 hb; replace HO_5 := cR HO_5 hb; replace HB := cW HB hb; (try clear hb)))
      go_ret2
      exact ⟨_, re_, nl_, uW HB.out⟩
theorem r23_ReadMessage.zf {w W : World} {p : Nat} {x0 x1 x2 x3 x4 : Value} (hp : W.heap[p]? = some (.cells #[x0, x1, x2, x3, x4] 36 (0, 0))) (hb : Below w.heap.size w W) (gp : w.heap.size ≤ p) (y0 y1 y2 y3 y4 : Value) :
 (W.cell? ⟨p, 0, none⟩ = some x0 ∧ W.frozen? ⟨p, 0, none⟩ = false) ∧ ((W.setCell ⟨p, 0, none⟩ y0).cell? ⟨p, 1, none⟩ = some x1 ∧ (W.setCell ⟨p, 0, none⟩ y0).frozen? ⟨p, 1, none⟩ = false) ∧ (((W.setCell ⟨p, 0, none⟩ y0).setCell ⟨p, 1, none⟩ y1).cell? ⟨p, 2, none⟩ = some x2 ∧ ((W.setCell ⟨p, 0, none⟩ y0).setCell ⟨p, 1, none⟩ y1).frozen? ⟨p, 2, none⟩ = false) ∧ ((((W.setCell ⟨p, 0, none⟩ y0).setCell ⟨p, 1, none⟩ y1).setCell ⟨p, 2, none⟩ y2).cell? ⟨p, 3, none⟩ = some x3 ∧ (((W.setCell ⟨p, 0, none⟩ y0).setCell ⟨p, 1, none⟩ y1).setCell ⟨p, 2, none⟩ y2).frozen? ⟨p, 3, none⟩ = false) ∧ (((((W.setCell ⟨p, 0, none⟩ y0).setCell ⟨p, 1, none⟩ y1).setCell ⟨p, 2, none⟩ y2).setCell ⟨p, 3, none⟩ y3).cell? ⟨p, 4, none⟩ = some x4 ∧ ((((W.setCell ⟨p, 0, none⟩ y0).setCell ⟨p, 1, none⟩ y1).setCell ⟨p, 2, none⟩ y2).setCell ⟨p, 3, none⟩ y3).frozen? ⟨p, 4, none⟩ = false) ∧ (((((W.setCell ⟨p, 0, none⟩ y0).setCell ⟨p, 1, none⟩ y1).setCell ⟨p, 2, none⟩ y2).setCell ⟨p, 3, none⟩ y3).setCell ⟨p, 4, none⟩ y4).heap[p]? = some (.cells #[y0, y1, y2, y3, y4] 36 (0, 0)) ∧ Below w.heap.size w (((((W.setCell ⟨p, 0, none⟩ y0).setCell ⟨p, 1, none⟩ y1).setCell ⟨p, 2, none⟩ y2).setCell ⟨p, 3, none⟩ y3).setCell ⟨p, 4, none⟩ y4) :=
 ⟨⟨(blk_cell hp 0).trans rfl, blk_frozen hp 0⟩, ⟨(blk_cell (blk_set hp 0 y0) 1).trans rfl, blk_frozen (blk_set hp 0 y0) 1⟩, ⟨(blk_cell (blk_set (blk_set hp 0 y0) 1 y1) 2).trans rfl, blk_frozen (blk_set (blk_set hp 0 y0) 1 y1) 2⟩, ⟨(blk_cell (blk_set (blk_set (blk_set hp 0 y0) 1 y1) 2 y2) 3).trans rfl, blk_frozen (blk_set (blk_set (blk_set hp 0 y0) 1 y1) 2 y2) 3⟩, ⟨(blk_cell (blk_set (blk_set (blk_set (blk_set hp 0 y0) 1 y1) 2 y2) 3 y3) 4).trans rfl, blk_frozen (blk_set (blk_set (blk_set (blk_set hp 0 y0) 1 y1) 2 y2) 3 y3) 4⟩, (blk_set (blk_set (blk_set (blk_set (blk_set hp 0 y0) 1 y1) 2 y2) 3 y3) 4 y4), (below_set (below_set (below_set (below_set (below_set hb gp) gp) gp) gp) gp)⟩
def r23_ReadMessage.f (k : Nat) (a0 : ByteArray) : Option (Int × Int × Int × (List (S60)) × (List (S78)) × Int) := (r02_Split.f k a0 32).bind fun t => (if (t.length : Int) = 4 then ((r23_kind.f (rdOf ByteArray.empty t 0)).bind fun kd => (if kd = 0 then (some (0, 0, 0, [], [], 2)) else ((r01_Read.f k (rdOf ByteArray.empty t 1)).bind fun b => (if b.2 = 0 then (if b.1 < 0 then (some (0, 0, 0, [], [], 3)) else (if 2147483648 ≤ b.1 then (some (0, 0, 0, [], [], 3)) else ((r23_stamp.f k (rdOf ByteArray.empty t 2)).bind fun c => (if c.2 = 0 then (if kd = 2 then ((r09_Parse.f k (rdOf ByteArray.empty t 3)).bind fun d => (if d.2 = 0 then (some (kd, b.1, c.1, [], d.1, 0)) else (some (0, 0, 0, [], [], d.2)))) else ((r08_Parse.f k (rdOf ByteArray.empty t 3)).bind fun d => (if d.2 = 0 then (some (kd, b.1, c.1, d.1, [], 0)) else (some (0, 0, 0, [], [], d.2))))) else (some (0, 0, 0, [], [], c.2)))))) else (some (0, 0, 0, [], [], b.2)))))) else (some (0, 0, 0, [], [], 2)))
theorem r23_ReadMessage.mono : ∀ a0 k, LeO (r23_ReadMessage.f k a0) (r23_ReadMessage.f (k + 1) a0) := by
 intro a0 k
 unfold r23_ReadMessage.f
 exact lo
instance r23_ReadMessage.mI {a0 k} : LeC (r23_ReadMessage.f k a0) (r23_ReadMessage.f (k + 1) a0) := ⟨r23_ReadMessage.mono _ _⟩
theorem r23_ReadMessage.calls (k : Nat) (a0 : ByteArray) (r1 : Int) (r2 : Int) (r3 : Int) (r4 : List (S60)) (r5 : List (S78)) (r6 : Int) (w : World) (h : r23_ReadMessage.f k a0 = some (r1, r2, r3, r4, r5, r6)) :
 Calls Tryz.prog 27 #[.string a0] w fun e w' => ∃ v3_ v4_ : Value, e = .returned (.tuple #[.agg #[.int .i64 r1, .int .i64 r2, .int .i64 r3, v3_, v4_], .int .i64 r6]) ∧ Kd.R k60 60 w' w.heap.size (fun _ => True) v3_ r4 ∧ Kd.R k78 78 w' w.heap.size (fun _ => True) v4_ r5 ∧ Below w.heap.size w w' := by
 unfold r23_ReadMessage.f at h
 obtain ⟨t, hs, h⟩ := Option.bind_eq_some_iff.mp h
 have hu56 := Tryz.underlying56
 have hu36 := Tryz.underlying36
 have HB := Aside0.mk (Below.refl w.heap.size w)
 have HH := Aside0.mk h
 clear h
 go_enter Tryz.func27, Tryz.ntmps27
 go_wp2_with (first | ((with_reducible refine gate_dst (N := 2) rfl ?_); refine bx (N := 2) #[.int .i64 0, .int .i64 0, .int .i64 0, .slice none 0 0, .slice none 0 0] 36 ?_; intro p hp w1 hk1 hb1; have BP := Aside0.mk hk1; have GP := Aside0.mk (show w.heap.size ≤ p by rw [hp]; exact HB.out.size); replace HB := Aside0.mk (below_step HB.out hb1); clear hk1 hp hb1))
 refine (r02_Split.calls k a0 32 t _ hs).mono ?_
 rintro e w5 ⟨v5_, rfl, ho, hb'⟩
 replace BP := Aside0.mk (blk_below BP.out hb')
 replace HB := Aside0.mk (below_step HB.out hb')
 have hq := Kd.Q_of_R ho
 obtain ⟨A5, c5, e5, _⟩ := Kd.Q_slice hq
 subst e5
 have HQ := Aside0.mk hq
 clear ho hq hb'
 have h := HH.out
 clear HH
 by_cases c : (t.length : Int) = 4
 case neg =>
  rw [if_neg c] at h
  injection h with h
  injection h with h1 h
  injection h with h2 h
  injection h with h3 h
  injection h with h4 h
  injection h with h5 h6
  subst h1 h2 h3 h4 h5 h6
  have c0 : ((t.length : Int) != 4) = true := bne_iff_ne.2 c
  obtain ⟨⟨hc20_, hz20_⟩, ⟨hc21_, hz21_⟩, ⟨hc22_, hz22_⟩, ⟨hc23_, hz23_⟩, ⟨hc24_, hz24_⟩, hp_, hb_⟩ := r23_ReadMessage.zf BP.out HB.out GP.out (.int .i64 0) (.int .i64 0) (.int .i64 0) (.slice none 0 0) (.slice none 0 0)
  replace BP := Aside0.mk hp_
  replace HB := Aside0.mk hb_
  clear hp_ hb_
  go_wp2_with fail
  refine bodyPost_ret (results_ct rfl _ _ p 36 #[.int .i64 0, .int .i64 0, .int .i64 0, .slice none 0 0, .slice none 0 0] (0, 0) _ rfl BP.out Tryz.underlying36 rfl (by kernel_rfl)) rfl ?_
  exact ⟨_, _, rfl, Kd.R_nil _ _ _ _ _, Kd.R_nil _ _ _ _ _, HB.out⟩
 rw [if_pos c] at h
 have c0 : ((t.length : Int) != 4) = false := bne_eq_false_iff_eq.2 c
 have hlt := c
 clear c
 have q0 : ((0 : Int) < (t.length : Int)) = True := eq_true (by omega)
 have qi0 : (0 < t.length) = True := eq_true (by omega)
 have q1 : ((1 : Int) < (t.length : Int)) = True := eq_true (by omega)
 have qi1 : (1 < t.length) = True := eq_true (by omega)
 have q2 : ((2 : Int) < (t.length : Int)) = True := eq_true (by omega)
 have qi2 : (2 < t.length) = True := eq_true (by omega)
 have q3 : ((3 : Int) < (t.length : Int)) = True := eq_true (by omega)
 have qi3 : (3 < t.length) = True := eq_true (by omega)
 obtain ⟨kd, hkd, h⟩ := Option.bind_eq_some_iff.mp h
 have HH := Aside0.mk h
 clear h
 obtain ⟨ad10_, ea10_, hx10_⟩ := Kd.at_string (Kd.Q_reads' HQ.out).2.2 0 (by decide) (by omega)
 cases ea10_
 (try rw [show ((0 : Int)).toNat = 0 from rfl] at hx10_)
 (try rw [Addr.add_zero'] at hx10_)
 go_wp2_with fail
 refine (r23_kind.calls (rdOf ByteArray.empty t 0) kd _ hkd).mono ?_
 rintro e w6 ⟨rfl, hd_⟩
 have hb' := hd_.below
 clear hd_
 replace BP := Aside0.mk (blk_below BP.out hb')
 replace HQ := Aside0.mk (Kd.Q_below HQ.out hb')
 replace HB := Aside0.mk (below_step HB.out hb')
 clear hb'
 have h := HH.out
 clear HH
 by_cases c : kd = 0
 case pos =>
  rw [if_pos c] at h
  injection h with h
  injection h with h1 h
  injection h with h2 h
  injection h with h3 h
  injection h with h4 h
  injection h with h5 h6
  subst h1 h2 h3 h4 h5 h6
  have c1 : (kd == 0) = true := beq_iff_eq.2 c
  obtain ⟨⟨hc20_, hz20_⟩, ⟨hc21_, hz21_⟩, ⟨hc22_, hz22_⟩, ⟨hc23_, hz23_⟩, ⟨hc24_, hz24_⟩, hp_, hb_⟩ := r23_ReadMessage.zf BP.out HB.out GP.out (.int .i64 0) (.int .i64 0) (.int .i64 0) (.slice none 0 0) (.slice none 0 0)
  replace BP := Aside0.mk hp_
  replace HB := Aside0.mk hb_
  clear hp_ hb_
  go_wp2_with fail
  refine bodyPost_ret (results_ct rfl _ _ p 36 #[.int .i64 0, .int .i64 0, .int .i64 0, .slice none 0 0, .slice none 0 0] (0, 0) _ rfl BP.out Tryz.underlying36 rfl (by kernel_rfl)) rfl ?_
  exact ⟨_, _, rfl, Kd.R_nil _ _ _ _ _, Kd.R_nil _ _ _ _ _, HB.out⟩
 rw [if_neg c] at h
 have c1 : (kd == 0) = false := beq_eq_false_iff_ne.2 c
 clear c
 obtain ⟨⟨n0, er⟩, hA, h⟩ := Option.bind_eq_some_iff.mp h
 dsimp only at h
 have HH := Aside0.mk h
 clear h
 obtain ⟨ad11_, ea11_, hx11_⟩ := Kd.at_string (Kd.Q_reads' HQ.out).2.2 1 (by decide) (by omega)
 cases ea11_
 simp only [show (1 : Int).toNat = 1 from rfl, Nat.reduceMul, Nat.reduceEqDiff, Go.Addr.add, ↓reduceIte] at hx11_
 go_wp2_with fail
 refine (r01_Read.calls k (rdOf ByteArray.empty t 1) n0 er _ hA).mono ?_
 rintro e w7 ⟨rfl, hd_⟩
 have hb' := hd_.below
 clear hd_
 replace BP := Aside0.mk (blk_below BP.out hb')
 replace HQ := Aside0.mk (Kd.Q_below HQ.out hb')
 replace HB := Aside0.mk (below_step HB.out hb')
 clear hb' hA
 have h := HH.out
 clear HH
 by_cases c : er = 0
 case neg =>
  rw [if_neg c] at h
  injection h with h
  injection h with h1 h
  injection h with h2 h
  injection h with h3 h
  injection h with h4 h
  injection h with h5 h6
  subst h1 h2 h3 h4 h5 h6
  have c2 : (er == 0) = false := beq_eq_false_iff_ne.2 c
  have c3 : (er != 0) = true := bne_iff_ne.2 c
  obtain ⟨⟨hc20_, hz20_⟩, ⟨hc21_, hz21_⟩, ⟨hc22_, hz22_⟩, ⟨hc23_, hz23_⟩, ⟨hc24_, hz24_⟩, hp_, hb_⟩ := r23_ReadMessage.zf BP.out HB.out GP.out (.int .i64 0) (.int .i64 0) (.int .i64 0) (.slice none 0 0) (.slice none 0 0)
  replace BP := Aside0.mk hp_
  replace HB := Aside0.mk hb_
  clear hp_ hb_
  go_wp2_with fail
  refine bodyPost_ret (results_ct rfl _ _ p 36 #[.int .i64 0, .int .i64 0, .int .i64 0, .slice none 0 0, .slice none 0 0] (0, 0) _ rfl BP.out Tryz.underlying36 rfl (by kernel_rfl)) rfl ?_
  exact ⟨_, _, rfl, Kd.R_nil _ _ _ _ _, Kd.R_nil _ _ _ _ _, HB.out⟩
 rw [if_pos c] at h
 subst c
 by_cases c : n0 < 0
 case pos =>
  rw [if_pos c] at h
  injection h with h
  injection h with h1 h
  injection h with h2 h
  injection h with h3 h
  injection h with h4 h
  injection h with h5 h6
  subst h1 h2 h3 h4 h5 h6
  have c2 : decide (n0 < 0) = true := decide_eq_true c
  obtain ⟨⟨hc20_, hz20_⟩, ⟨hc21_, hz21_⟩, ⟨hc22_, hz22_⟩, ⟨hc23_, hz23_⟩, ⟨hc24_, hz24_⟩, hp_, hb_⟩ := r23_ReadMessage.zf BP.out HB.out GP.out (.int .i64 0) (.int .i64 0) (.int .i64 0) (.slice none 0 0) (.slice none 0 0)
  replace BP := Aside0.mk hp_
  replace HB := Aside0.mk hb_
  clear hp_ hb_
  go_wp2_with fail
  refine bodyPost_ret (results_ct rfl _ _ p 36 #[.int .i64 0, .int .i64 0, .int .i64 0, .slice none 0 0, .slice none 0 0] (0, 0) _ rfl BP.out Tryz.underlying36 rfl (by kernel_rfl)) rfl ?_
  exact ⟨_, _, rfl, Kd.R_nil _ _ _ _ _, Kd.R_nil _ _ _ _ _, HB.out⟩
 rw [if_neg c] at h
 have c2 : decide (n0 < 0) = false := decide_eq_false c
 clear c
 by_cases c : 2147483648 ≤ n0
 case pos =>
  rw [if_pos c] at h
  injection h with h
  injection h with h1 h
  injection h with h2 h
  injection h with h3 h
  injection h with h4 h
  injection h with h5 h6
  subst h1 h2 h3 h4 h5 h6
  have c3 : decide (2147483648 ≤ n0) = true := decide_eq_true c
  obtain ⟨⟨hc20_, hz20_⟩, ⟨hc21_, hz21_⟩, ⟨hc22_, hz22_⟩, ⟨hc23_, hz23_⟩, ⟨hc24_, hz24_⟩, hp_, hb_⟩ := r23_ReadMessage.zf BP.out HB.out GP.out (.int .i64 0) (.int .i64 0) (.int .i64 0) (.slice none 0 0) (.slice none 0 0)
  replace BP := Aside0.mk hp_
  replace HB := Aside0.mk hb_
  clear hp_ hb_
  go_wp2_with fail
  refine bodyPost_ret (results_ct rfl _ _ p 36 #[.int .i64 0, .int .i64 0, .int .i64 0, .slice none 0 0, .slice none 0 0] (0, 0) _ rfl BP.out Tryz.underlying36 rfl (by kernel_rfl)) rfl ?_
  exact ⟨_, _, rfl, Kd.R_nil _ _ _ _ _, Kd.R_nil _ _ _ _ _, HB.out⟩
 rw [if_neg c] at h
 have c3 : decide (2147483648 ≤ n0) = false := decide_eq_false c
 clear c
 obtain ⟨⟨n1, er⟩, hA, h⟩ := Option.bind_eq_some_iff.mp h
 dsimp only at h
 have HH := Aside0.mk h
 clear h
 obtain ⟨ad12_, ea12_, hx12_⟩ := Kd.at_string (Kd.Q_reads' HQ.out).2.2 2 (by decide) (by omega)
 cases ea12_
 simp only [show (2 : Int).toNat = 2 from rfl, Nat.reduceMul, Nat.reduceEqDiff, Go.Addr.add, ↓reduceIte] at hx12_
 go_wp2_with fail
 refine (r23_stamp.calls k (rdOf ByteArray.empty t 2) n1 er _ hA).mono ?_
 rintro e w8 ⟨rfl, hd_⟩
 have hb' := hd_.below
 clear hd_
 replace BP := Aside0.mk (blk_below BP.out hb')
 replace HQ := Aside0.mk (Kd.Q_below HQ.out hb')
 replace HB := Aside0.mk (below_step HB.out hb')
 clear hb' hA
 have h := HH.out
 clear HH
 by_cases c : er = 0
 case neg =>
  rw [if_neg c] at h
  injection h with h
  injection h with h1 h
  injection h with h2 h
  injection h with h3 h
  injection h with h4 h
  injection h with h5 h6
  subst h1 h2 h3 h4 h5 h6
  have c2 : (er == 0) = false := beq_eq_false_iff_ne.2 c
  have c3 : (er != 0) = true := bne_iff_ne.2 c
  obtain ⟨⟨hc20_, hz20_⟩, ⟨hc21_, hz21_⟩, ⟨hc22_, hz22_⟩, ⟨hc23_, hz23_⟩, ⟨hc24_, hz24_⟩, hp_, hb_⟩ := r23_ReadMessage.zf BP.out HB.out GP.out (.int .i64 0) (.int .i64 0) (.int .i64 0) (.slice none 0 0) (.slice none 0 0)
  replace BP := Aside0.mk hp_
  replace HB := Aside0.mk hb_
  clear hp_ hb_
  go_wp2_with fail
  refine bodyPost_ret (results_ct rfl _ _ p 36 #[.int .i64 0, .int .i64 0, .int .i64 0, .slice none 0 0, .slice none 0 0] (0, 0) _ rfl BP.out Tryz.underlying36 rfl (by kernel_rfl)) rfl ?_
  exact ⟨_, _, rfl, Kd.R_nil _ _ _ _ _, Kd.R_nil _ _ _ _ _, HB.out⟩
 rw [if_pos c] at h
 subst c
 have HH := Aside0.mk h
 clear h
 obtain ⟨ad13_, ea13_, hx13_⟩ := Kd.at_string (Kd.Q_reads' HQ.out).2.2 0 (by decide) (by omega)
 cases ea13_
 (try rw [show ((0 : Int)).toNat = 0 from rfl] at hx13_)
 (try rw [Addr.add_zero'] at hx13_)
 go_wp2_with fail
 refine (r23_kind.calls (rdOf ByteArray.empty t 0) kd _ hkd).mono ?_
 rintro e w9 ⟨rfl, hd_⟩
 have hb' := hd_.below
 clear hd_
 replace BP := Aside0.mk (blk_below BP.out hb')
 replace HQ := Aside0.mk (Kd.Q_below HQ.out hb')
 replace HB := Aside0.mk (below_step HB.out hb')
 clear hb'
 by_cases c : kd = 2
 ·
  have h := HH.out
  clear HH
  rw [if_pos c] at h
  obtain ⟨⟨rs, er⟩, hR, h⟩ := Option.bind_eq_some_iff.mp h
  dsimp only at h
  have HH := Aside0.mk h
  clear h
  have c4 : (kd == 2) = true := beq_iff_eq.2 c
  clear c
  go_wp2_with (first | ((with_reducible refine gate_dst (N := 8) rfl ?_); refine bx (N := 8) #[.int .i64 0, .int .i64 0, .int .i64 0, .slice none 0 0, .slice none 0 0] 36 ?_; intro m hm w10 hk1 hb'; have hpm : p ≠ m := fun e_ => absurd (blk_lt BP.out) (by rw [e_, hm]; exact Nat.lt_irrefl _); have BM := Aside0.mk hk1; have GM := Aside0.mk (show w.heap.size ≤ m by rw [hm]; exact HB.out.size); replace BP := Aside0.mk (blk_below BP.out hb'); replace HQ := Aside0.mk (Kd.Q_below HQ.out hb'); replace HB := Aside0.mk (below_step HB.out hb'); clear hk1 hm hb'; have hc30_ := (blk_cell BM.out 0).trans rfl; have hz30_ := blk_frozen BM.out 0; have HN_ := Aside0.mk (show (World.setCell _ ⟨m, 0, none⟩ (.int .i64 kd)).heap[m]? = some (.cells #[.int .i64 kd, .int .i64 0, .int .i64 0, .slice none 0 0, .slice none 0 0] 36 (0, 0)) from blk_set BM.out 0 (.int .i64 kd)); replace HQ := Aside0.mk (Kd.Q_set HQ.out BM.out (by decide) 0 (.int .i64 kd)); replace BP := Aside0.mk (blk_far BP.out (p := ⟨m, 0, none⟩) hpm (.int .i64 kd)); replace BM := HN_; clear HN_; replace HB := Aside0.mk (below_set (j := 0) (v := .int .i64 kd) HB.out GM.out); have hc31_ := (blk_cell BM.out 1).trans rfl; have hz31_ := blk_frozen BM.out 1; have HN_ := Aside0.mk (show (World.setCell _ ⟨m, 1, none⟩ (.int .i64 n0)).heap[m]? = some (.cells #[.int .i64 kd, .int .i64 n0, .int .i64 0, .slice none 0 0, .slice none 0 0] 36 (0, 0)) from blk_set BM.out 1 (.int .i64 n0)); replace HQ := Aside0.mk (Kd.Q_set HQ.out BM.out (by decide) 1 (.int .i64 n0)); replace BP := Aside0.mk (blk_far BP.out (p := ⟨m, 1, none⟩) hpm (.int .i64 n0)); replace BM := HN_; clear HN_; replace HB := Aside0.mk (below_set (j := 1) (v := .int .i64 n0) HB.out GM.out); have hc32_ := (blk_cell BM.out 2).trans rfl; have hz32_ := blk_frozen BM.out 2; have HN_ := Aside0.mk (show (World.setCell _ ⟨m, 2, none⟩ (.int .i64 n1)).heap[m]? = some (.cells #[.int .i64 kd, .int .i64 n0, .int .i64 n1, .slice none 0 0, .slice none 0 0] 36 (0, 0)) from blk_set BM.out 2 (.int .i64 n1)); replace HQ := Aside0.mk (Kd.Q_set HQ.out BM.out (by decide) 2 (.int .i64 n1)); replace BP := Aside0.mk (blk_far BP.out (p := ⟨m, 2, none⟩) hpm (.int .i64 n1)); replace BM := HN_; clear HN_; replace HB := Aside0.mk (below_set (j := 2) (v := .int .i64 n1) HB.out GM.out); have hc33_ := (blk_cell BM.out 3).trans rfl; have hz33_ := blk_frozen BM.out 3; have HN_ := Aside0.mk (show (World.setCell _ ⟨m, 3, none⟩ (.slice none 0 0)).heap[m]? = some (.cells #[.int .i64 kd, .int .i64 n0, .int .i64 n1, .slice none 0 0, .slice none 0 0] 36 (0, 0)) from blk_set BM.out 3 (.slice none 0 0)); replace HQ := Aside0.mk (Kd.Q_set HQ.out BM.out (by decide) 3 (.slice none 0 0)); replace BP := Aside0.mk (blk_far BP.out (p := ⟨m, 3, none⟩) hpm (.slice none 0 0)); replace BM := HN_; clear HN_; replace HB := Aside0.mk (below_set (j := 3) (v := .slice none 0 0) HB.out GM.out); have hc34_ := (blk_cell BM.out 4).trans rfl; have hz34_ := blk_frozen BM.out 4; have HN_ := Aside0.mk (show (World.setCell _ ⟨m, 4, none⟩ (.slice none 0 0)).heap[m]? = some (.cells #[.int .i64 kd, .int .i64 n0, .int .i64 n1, .slice none 0 0, .slice none 0 0] 36 (0, 0)) from blk_set BM.out 4 (.slice none 0 0)); replace HQ := Aside0.mk (Kd.Q_set HQ.out BM.out (by decide) 4 (.slice none 0 0)); replace BP := Aside0.mk (blk_far BP.out (p := ⟨m, 4, none⟩) hpm (.slice none 0 0)); replace BM := HN_; clear HN_; replace HB := Aside0.mk (below_set (j := 4) (v := .slice none 0 0) HB.out GM.out); have hlk_ := (blk_cell BM.out 0).trans rfl; obtain ⟨ad14_, ea14_, hx14_⟩ := Kd.at_string (Kd.Q_reads' HQ.out).2.2 3 (by decide) (by omega); cases ea14_; simp only [show (3 : Int).toNat = 3 from rfl, Nat.reduceMul, Nat.reduceEqDiff, Go.Addr.add, ↓reduceIte] at hx14_))
  refine (r09_Parse.calls k (rdOf ByteArray.empty t 3) rs er _ hR).mono ?_
  rintro e w11 ⟨v7_, rfl, ho7, hb'⟩
  have ho8 := Kd.R_lower ho7 (below_size HB.out)
  replace BP := Aside0.mk (blk_below BP.out hb')
  replace BM := Aside0.mk (blk_below BM.out hb')
  replace HB := Aside0.mk (below_step HB.out hb')
  have HO := Aside0.mk ho8
  obtain ⟨A7, c7, e7⟩ := Kd.R_slice ho8
  subst e7
  clear ho7 ho8 hb' HQ
  have hc40_ := (blk_cell BM.out 4).trans rfl
  have hz40_ := blk_frozen BM.out 4
  have HN_ := Aside0.mk (show (World.setCell _ ⟨m, 4, none⟩ (.slice A7 rs.length c7)).heap[m]? = some (.cells #[.int .i64 kd, .int .i64 n0, .int .i64 n1, .slice none 0 0, .slice A7 rs.length c7] 36 (0, 0)) from blk_set BM.out 4 (.slice A7 rs.length c7))
  replace HO := Aside0.mk (Kd.R_set HO.out BM.out (by decide) 4 (.slice A7 rs.length c7))
  replace BP := Aside0.mk (blk_far BP.out (p := ⟨m, 4, none⟩) hpm (.slice A7 rs.length c7))
  replace BM := HN_
  clear HN_
  replace HB := Aside0.mk (below_set (j := 4) (v := .slice A7 rs.length c7) HB.out GM.out)
  have h := HH.out
  clear HH
  by_cases c : er = 0
  case neg =>
   rw [if_neg c] at h
   injection h with h
   injection h with h1 h
   injection h with h2 h
   injection h with h3 h
   injection h with h4 h
   injection h with h5 h6
   subst h1 h2 h3 h4 h5 h6
   have c5 : (er != 0) = true := bne_iff_ne.2 c
   obtain ⟨⟨hc50_, hz50_⟩, ⟨hc51_, hz51_⟩, ⟨hc52_, hz52_⟩, ⟨hc53_, hz53_⟩, ⟨hc54_, hz54_⟩, hp_, hb_⟩ := r23_ReadMessage.zf BP.out HB.out GP.out (.int .i64 0) (.int .i64 0) (.int .i64 0) (.slice none 0 0) (.slice none 0 0)
   replace BP := Aside0.mk hp_
   replace HB := Aside0.mk hb_
   clear hp_ hb_
   go_wp2_with fail
   refine bodyPost_ret (results_ct rfl _ _ p 36 #[.int .i64 0, .int .i64 0, .int .i64 0, .slice none 0 0, .slice none 0 0] (0, 0) _ rfl BP.out Tryz.underlying36 rfl (by kernel_rfl)) rfl ?_
   exact ⟨_, _, rfl, Kd.R_nil _ _ _ _ _, Kd.R_nil _ _ _ _ _, HB.out⟩
  rw [if_pos c] at h
  subst c
  injection h with h
  injection h with h1 h
  injection h with h2 h
  injection h with h3 h
  injection h with h4 h
  injection h with h5 h6
  subst h1 h2 h3 h4 h5 h6
  have hl60_ := (blk_cell BM.out 0).trans rfl
  have hl61_ := (blk_cell BM.out 1).trans rfl
  have hl62_ := (blk_cell BM.out 2).trans rfl
  have hl63_ := (blk_cell BM.out 3).trans rfl
  have hl64_ := (blk_cell BM.out 4).trans rfl
  have hc70_ := (blk_cell BP.out 0).trans rfl
  have hz70_ := blk_frozen BP.out 0
  have HN_ := Aside0.mk (show (World.setCell _ ⟨p, 0, none⟩ (.int .i64 kd)).heap[p]? = some (.cells #[.int .i64 kd, .int .i64 0, .int .i64 0, .slice none 0 0, .slice none 0 0] 36 (0, 0)) from blk_set BP.out 0 (.int .i64 kd))
  replace HO := Aside0.mk (Kd.R_set HO.out BP.out (by decide) 0 (.int .i64 kd))
  replace BM := Aside0.mk (blk_far BM.out (p := ⟨p, 0, none⟩) hpm.symm (.int .i64 kd))
  replace BP := HN_
  clear HN_
  replace HB := Aside0.mk (below_set (j := 0) (v := .int .i64 kd) HB.out GP.out)
  have hc71_ := (blk_cell BP.out 1).trans rfl
  have hz71_ := blk_frozen BP.out 1
  have HN_ := Aside0.mk (show (World.setCell _ ⟨p, 1, none⟩ (.int .i64 n0)).heap[p]? = some (.cells #[.int .i64 kd, .int .i64 n0, .int .i64 0, .slice none 0 0, .slice none 0 0] 36 (0, 0)) from blk_set BP.out 1 (.int .i64 n0))
  replace HO := Aside0.mk (Kd.R_set HO.out BP.out (by decide) 1 (.int .i64 n0))
  replace BM := Aside0.mk (blk_far BM.out (p := ⟨p, 1, none⟩) hpm.symm (.int .i64 n0))
  replace BP := HN_
  clear HN_
  replace HB := Aside0.mk (below_set (j := 1) (v := .int .i64 n0) HB.out GP.out)
  have hc72_ := (blk_cell BP.out 2).trans rfl
  have hz72_ := blk_frozen BP.out 2
  have HN_ := Aside0.mk (show (World.setCell _ ⟨p, 2, none⟩ (.int .i64 n1)).heap[p]? = some (.cells #[.int .i64 kd, .int .i64 n0, .int .i64 n1, .slice none 0 0, .slice none 0 0] 36 (0, 0)) from blk_set BP.out 2 (.int .i64 n1))
  replace HO := Aside0.mk (Kd.R_set HO.out BP.out (by decide) 2 (.int .i64 n1))
  replace BM := Aside0.mk (blk_far BM.out (p := ⟨p, 2, none⟩) hpm.symm (.int .i64 n1))
  replace BP := HN_
  clear HN_
  replace HB := Aside0.mk (below_set (j := 2) (v := .int .i64 n1) HB.out GP.out)
  have hc73_ := (blk_cell BP.out 3).trans rfl
  have hz73_ := blk_frozen BP.out 3
  have HN_ := Aside0.mk (show (World.setCell _ ⟨p, 3, none⟩ (.slice none 0 0)).heap[p]? = some (.cells #[.int .i64 kd, .int .i64 n0, .int .i64 n1, .slice none 0 0, .slice none 0 0] 36 (0, 0)) from blk_set BP.out 3 (.slice none 0 0))
  replace HO := Aside0.mk (Kd.R_set HO.out BP.out (by decide) 3 (.slice none 0 0))
  replace BM := Aside0.mk (blk_far BM.out (p := ⟨p, 3, none⟩) hpm.symm (.slice none 0 0))
  replace BP := HN_
  clear HN_
  replace HB := Aside0.mk (below_set (j := 3) (v := .slice none 0 0) HB.out GP.out)
  have hc74_ := (blk_cell BP.out 4).trans rfl
  have hz74_ := blk_frozen BP.out 4
  have HN_ := Aside0.mk (show (World.setCell _ ⟨p, 4, none⟩ (.slice A7 rs.length c7)).heap[p]? = some (.cells #[.int .i64 kd, .int .i64 n0, .int .i64 n1, .slice none 0 0, .slice A7 rs.length c7] 36 (0, 0)) from blk_set BP.out 4 (.slice A7 rs.length c7))
  replace HO := Aside0.mk (Kd.R_set HO.out BP.out (by decide) 4 (.slice A7 rs.length c7))
  replace BM := Aside0.mk (blk_far BM.out (p := ⟨p, 4, none⟩) hpm.symm (.slice A7 rs.length c7))
  replace BP := HN_
  clear HN_
  replace HB := Aside0.mk (below_set (j := 4) (v := .slice A7 rs.length c7) HB.out GP.out)
  go_wp2_with fail
  refine bodyPost_ret (results_ct rfl _ _ p 36 #[.int .i64 kd, .int .i64 n0, .int .i64 n1, .slice none 0 0, .slice A7 rs.length c7] (0, 0) _ rfl BP.out Tryz.underlying36 rfl (by kernel_rfl)) rfl ?_
  exact ⟨_, _, rfl, Kd.R_nil _ _ _ _ _, HO.out, HB.out⟩
 ·
  have h := HH.out
  clear HH
  rw [if_neg c] at h
  obtain ⟨⟨rs, er⟩, hR, h⟩ := Option.bind_eq_some_iff.mp h
  dsimp only at h
  have HH := Aside0.mk h
  clear h
  have c4 : (kd == 2) = false := beq_eq_false_iff_ne.2 c
  clear c
  go_wp2_with (first | ((with_reducible refine gate_dst (N := 8) rfl ?_); refine bx (N := 8) #[.int .i64 0, .int .i64 0, .int .i64 0, .slice none 0 0, .slice none 0 0] 36 ?_; intro m hm w10 hk1 hb'; have hpm : p ≠ m := fun e_ => absurd (blk_lt BP.out) (by rw [e_, hm]; exact Nat.lt_irrefl _); have BM := Aside0.mk hk1; have GM := Aside0.mk (show w.heap.size ≤ m by rw [hm]; exact HB.out.size); replace BP := Aside0.mk (blk_below BP.out hb'); replace HQ := Aside0.mk (Kd.Q_below HQ.out hb'); replace HB := Aside0.mk (below_step HB.out hb'); clear hk1 hm hb'; have hc30_ := (blk_cell BM.out 0).trans rfl; have hz30_ := blk_frozen BM.out 0; have HN_ := Aside0.mk (show (World.setCell _ ⟨m, 0, none⟩ (.int .i64 kd)).heap[m]? = some (.cells #[.int .i64 kd, .int .i64 0, .int .i64 0, .slice none 0 0, .slice none 0 0] 36 (0, 0)) from blk_set BM.out 0 (.int .i64 kd)); replace HQ := Aside0.mk (Kd.Q_set HQ.out BM.out (by decide) 0 (.int .i64 kd)); replace BP := Aside0.mk (blk_far BP.out (p := ⟨m, 0, none⟩) hpm (.int .i64 kd)); replace BM := HN_; clear HN_; replace HB := Aside0.mk (below_set (j := 0) (v := .int .i64 kd) HB.out GM.out); have hc31_ := (blk_cell BM.out 1).trans rfl; have hz31_ := blk_frozen BM.out 1; have HN_ := Aside0.mk (show (World.setCell _ ⟨m, 1, none⟩ (.int .i64 n0)).heap[m]? = some (.cells #[.int .i64 kd, .int .i64 n0, .int .i64 0, .slice none 0 0, .slice none 0 0] 36 (0, 0)) from blk_set BM.out 1 (.int .i64 n0)); replace HQ := Aside0.mk (Kd.Q_set HQ.out BM.out (by decide) 1 (.int .i64 n0)); replace BP := Aside0.mk (blk_far BP.out (p := ⟨m, 1, none⟩) hpm (.int .i64 n0)); replace BM := HN_; clear HN_; replace HB := Aside0.mk (below_set (j := 1) (v := .int .i64 n0) HB.out GM.out); have hc32_ := (blk_cell BM.out 2).trans rfl; have hz32_ := blk_frozen BM.out 2; have HN_ := Aside0.mk (show (World.setCell _ ⟨m, 2, none⟩ (.int .i64 n1)).heap[m]? = some (.cells #[.int .i64 kd, .int .i64 n0, .int .i64 n1, .slice none 0 0, .slice none 0 0] 36 (0, 0)) from blk_set BM.out 2 (.int .i64 n1)); replace HQ := Aside0.mk (Kd.Q_set HQ.out BM.out (by decide) 2 (.int .i64 n1)); replace BP := Aside0.mk (blk_far BP.out (p := ⟨m, 2, none⟩) hpm (.int .i64 n1)); replace BM := HN_; clear HN_; replace HB := Aside0.mk (below_set (j := 2) (v := .int .i64 n1) HB.out GM.out); have hc33_ := (blk_cell BM.out 3).trans rfl; have hz33_ := blk_frozen BM.out 3; have HN_ := Aside0.mk (show (World.setCell _ ⟨m, 3, none⟩ (.slice none 0 0)).heap[m]? = some (.cells #[.int .i64 kd, .int .i64 n0, .int .i64 n1, .slice none 0 0, .slice none 0 0] 36 (0, 0)) from blk_set BM.out 3 (.slice none 0 0)); replace HQ := Aside0.mk (Kd.Q_set HQ.out BM.out (by decide) 3 (.slice none 0 0)); replace BP := Aside0.mk (blk_far BP.out (p := ⟨m, 3, none⟩) hpm (.slice none 0 0)); replace BM := HN_; clear HN_; replace HB := Aside0.mk (below_set (j := 3) (v := .slice none 0 0) HB.out GM.out); have hc34_ := (blk_cell BM.out 4).trans rfl; have hz34_ := blk_frozen BM.out 4; have HN_ := Aside0.mk (show (World.setCell _ ⟨m, 4, none⟩ (.slice none 0 0)).heap[m]? = some (.cells #[.int .i64 kd, .int .i64 n0, .int .i64 n1, .slice none 0 0, .slice none 0 0] 36 (0, 0)) from blk_set BM.out 4 (.slice none 0 0)); replace HQ := Aside0.mk (Kd.Q_set HQ.out BM.out (by decide) 4 (.slice none 0 0)); replace BP := Aside0.mk (blk_far BP.out (p := ⟨m, 4, none⟩) hpm (.slice none 0 0)); replace BM := HN_; clear HN_; replace HB := Aside0.mk (below_set (j := 4) (v := .slice none 0 0) HB.out GM.out); have hlk_ := (blk_cell BM.out 0).trans rfl; obtain ⟨ad14_, ea14_, hx14_⟩ := Kd.at_string (Kd.Q_reads' HQ.out).2.2 3 (by decide) (by omega); cases ea14_; simp only [show (3 : Int).toNat = 3 from rfl, Nat.reduceMul, Nat.reduceEqDiff, Go.Addr.add, ↓reduceIte] at hx14_))
  refine (r08_Parse.calls k (rdOf ByteArray.empty t 3) rs er _ hR).mono ?_
  rintro e w11 ⟨v7_, rfl, ho7, hb'⟩
  have ho8 := Kd.R_lower ho7 (below_size HB.out)
  replace BP := Aside0.mk (blk_below BP.out hb')
  replace BM := Aside0.mk (blk_below BM.out hb')
  replace HB := Aside0.mk (below_step HB.out hb')
  have HO := Aside0.mk ho8
  obtain ⟨A7, c7, e7⟩ := Kd.R_slice ho8
  subst e7
  clear ho7 ho8 hb' HQ
  have hc40_ := (blk_cell BM.out 3).trans rfl
  have hz40_ := blk_frozen BM.out 3
  have HN_ := Aside0.mk (show (World.setCell _ ⟨m, 3, none⟩ (.slice A7 rs.length c7)).heap[m]? = some (.cells #[.int .i64 kd, .int .i64 n0, .int .i64 n1, .slice A7 rs.length c7, .slice none 0 0] 36 (0, 0)) from blk_set BM.out 3 (.slice A7 rs.length c7))
  replace HO := Aside0.mk (Kd.R_set HO.out BM.out (by decide) 3 (.slice A7 rs.length c7))
  replace BP := Aside0.mk (blk_far BP.out (p := ⟨m, 3, none⟩) hpm (.slice A7 rs.length c7))
  replace BM := HN_
  clear HN_
  replace HB := Aside0.mk (below_set (j := 3) (v := .slice A7 rs.length c7) HB.out GM.out)
  have h := HH.out
  clear HH
  by_cases c : er = 0
  case neg =>
   rw [if_neg c] at h
   injection h with h
   injection h with h1 h
   injection h with h2 h
   injection h with h3 h
   injection h with h4 h
   injection h with h5 h6
   subst h1 h2 h3 h4 h5 h6
   have c5 : (er != 0) = true := bne_iff_ne.2 c
   obtain ⟨⟨hc50_, hz50_⟩, ⟨hc51_, hz51_⟩, ⟨hc52_, hz52_⟩, ⟨hc53_, hz53_⟩, ⟨hc54_, hz54_⟩, hp_, hb_⟩ := r23_ReadMessage.zf BP.out HB.out GP.out (.int .i64 0) (.int .i64 0) (.int .i64 0) (.slice none 0 0) (.slice none 0 0)
   replace BP := Aside0.mk hp_
   replace HB := Aside0.mk hb_
   clear hp_ hb_
   go_wp2_with fail
   refine bodyPost_ret (results_ct rfl _ _ p 36 #[.int .i64 0, .int .i64 0, .int .i64 0, .slice none 0 0, .slice none 0 0] (0, 0) _ rfl BP.out Tryz.underlying36 rfl (by kernel_rfl)) rfl ?_
   exact ⟨_, _, rfl, Kd.R_nil _ _ _ _ _, Kd.R_nil _ _ _ _ _, HB.out⟩
  rw [if_pos c] at h
  subst c
  injection h with h
  injection h with h1 h
  injection h with h2 h
  injection h with h3 h
  injection h with h4 h
  injection h with h5 h6
  subst h1 h2 h3 h4 h5 h6
  have hl60_ := (blk_cell BM.out 0).trans rfl
  have hl61_ := (blk_cell BM.out 1).trans rfl
  have hl62_ := (blk_cell BM.out 2).trans rfl
  have hl63_ := (blk_cell BM.out 3).trans rfl
  have hl64_ := (blk_cell BM.out 4).trans rfl
  have hc70_ := (blk_cell BP.out 0).trans rfl
  have hz70_ := blk_frozen BP.out 0
  have HN_ := Aside0.mk (show (World.setCell _ ⟨p, 0, none⟩ (.int .i64 kd)).heap[p]? = some (.cells #[.int .i64 kd, .int .i64 0, .int .i64 0, .slice none 0 0, .slice none 0 0] 36 (0, 0)) from blk_set BP.out 0 (.int .i64 kd))
  replace HO := Aside0.mk (Kd.R_set HO.out BP.out (by decide) 0 (.int .i64 kd))
  replace BM := Aside0.mk (blk_far BM.out (p := ⟨p, 0, none⟩) hpm.symm (.int .i64 kd))
  replace BP := HN_
  clear HN_
  replace HB := Aside0.mk (below_set (j := 0) (v := .int .i64 kd) HB.out GP.out)
  have hc71_ := (blk_cell BP.out 1).trans rfl
  have hz71_ := blk_frozen BP.out 1
  have HN_ := Aside0.mk (show (World.setCell _ ⟨p, 1, none⟩ (.int .i64 n0)).heap[p]? = some (.cells #[.int .i64 kd, .int .i64 n0, .int .i64 0, .slice none 0 0, .slice none 0 0] 36 (0, 0)) from blk_set BP.out 1 (.int .i64 n0))
  replace HO := Aside0.mk (Kd.R_set HO.out BP.out (by decide) 1 (.int .i64 n0))
  replace BM := Aside0.mk (blk_far BM.out (p := ⟨p, 1, none⟩) hpm.symm (.int .i64 n0))
  replace BP := HN_
  clear HN_
  replace HB := Aside0.mk (below_set (j := 1) (v := .int .i64 n0) HB.out GP.out)
  have hc72_ := (blk_cell BP.out 2).trans rfl
  have hz72_ := blk_frozen BP.out 2
  have HN_ := Aside0.mk (show (World.setCell _ ⟨p, 2, none⟩ (.int .i64 n1)).heap[p]? = some (.cells #[.int .i64 kd, .int .i64 n0, .int .i64 n1, .slice none 0 0, .slice none 0 0] 36 (0, 0)) from blk_set BP.out 2 (.int .i64 n1))
  replace HO := Aside0.mk (Kd.R_set HO.out BP.out (by decide) 2 (.int .i64 n1))
  replace BM := Aside0.mk (blk_far BM.out (p := ⟨p, 2, none⟩) hpm.symm (.int .i64 n1))
  replace BP := HN_
  clear HN_
  replace HB := Aside0.mk (below_set (j := 2) (v := .int .i64 n1) HB.out GP.out)
  have hc73_ := (blk_cell BP.out 3).trans rfl
  have hz73_ := blk_frozen BP.out 3
  have HN_ := Aside0.mk (show (World.setCell _ ⟨p, 3, none⟩ (.slice A7 rs.length c7)).heap[p]? = some (.cells #[.int .i64 kd, .int .i64 n0, .int .i64 n1, .slice A7 rs.length c7, .slice none 0 0] 36 (0, 0)) from blk_set BP.out 3 (.slice A7 rs.length c7))
  replace HO := Aside0.mk (Kd.R_set HO.out BP.out (by decide) 3 (.slice A7 rs.length c7))
  replace BM := Aside0.mk (blk_far BM.out (p := ⟨p, 3, none⟩) hpm.symm (.slice A7 rs.length c7))
  replace BP := HN_
  clear HN_
  replace HB := Aside0.mk (below_set (j := 3) (v := .slice A7 rs.length c7) HB.out GP.out)
  have hc74_ := (blk_cell BP.out 4).trans rfl
  have hz74_ := blk_frozen BP.out 4
  have HN_ := Aside0.mk (show (World.setCell _ ⟨p, 4, none⟩ (.slice none 0 0)).heap[p]? = some (.cells #[.int .i64 kd, .int .i64 n0, .int .i64 n1, .slice A7 rs.length c7, .slice none 0 0] 36 (0, 0)) from blk_set BP.out 4 (.slice none 0 0))
  replace HO := Aside0.mk (Kd.R_set HO.out BP.out (by decide) 4 (.slice none 0 0))
  replace BM := Aside0.mk (blk_far BM.out (p := ⟨p, 4, none⟩) hpm.symm (.slice none 0 0))
  replace BP := HN_
  clear HN_
  replace HB := Aside0.mk (below_set (j := 4) (v := .slice none 0 0) HB.out GP.out)
  go_wp2_with fail
  refine bodyPost_ret (results_ct rfl _ _ p 36 #[.int .i64 kd, .int .i64 n0, .int .i64 n1, .slice A7 rs.length c7, .slice none 0 0] (0, 0) _ rfl BP.out Tryz.underlying36 rfl (by kernel_rfl)) rfl ?_
  exact ⟨_, _, rfl, HO.out, Kd.R_nil _ _ _ _ _, HB.out⟩
def r08_Same.l0 : Nat → List (S60) → List (S60) → Int → Option (Bool)
 | 0, _, _, _ => none
 | k + 1, x0, x1, x5 => if x5 < (x0.length : Int) then (if 0 ≤ x5 then (if x5 < (x1.length : Int) then (if (!(((rd_T60 x0 x5).f0) == ((rd_T60 x1 x5).f0)) || (!((((rd_T60 x0 x5).f1).toList) == (((rd_T60 x1 x5).f1).toList)) || ((!(((rd_T60 x0 x5).f2.f0) == ((rd_T60 x1 x5).f2.f0)) || (!(((rd_T60 x0 x5).f2.f1) == ((rd_T60 x1 x5).f2.f1))))))) = true then (some false) else (r08_Same.l0 k x0 x1 (wrap64 (x5 + 1)))) else (none)) else (none)) else (some true)
def r08_Same.f (k : Nat) (l0 : List (S60)) (l1 : List (S60)) : Option (Bool) := if (l0.length : Int) = (l1.length : Int) then (r08_Same.l0 k l0 l1 0) else (some false)
theorem r08_Same.mono_l : ∀ k, (∀ y0 y1 y2, LeC (r08_Same.l0 k y0 y1 y2) (r08_Same.l0 (k + 1) y0 y1 y2))
 | 0 => fun _ _ _ => ⟨fun r h => by simp [r08_Same.l0] at h⟩
 | k + 1 => by have ih0 := r08_Same.mono_l k; exact fun _ _ _ => by unfold r08_Same.l0; exact lm
theorem r08_Same.mono : ∀ a0 a1 k, LeO (r08_Same.f k a0 a1) (r08_Same.f (k + 1) a0 a1) := by
 intro a0 a1 k
 have ih0 := r08_Same.mono_l k
 unfold r08_Same.f
 exact lo
instance r08_Same.mI {a0 a1 k} : LeC (r08_Same.f k a0 a1) (r08_Same.f (k + 1) a0 a1) := ⟨r08_Same.mono _ _ _⟩
theorem r08_Same.calls (k : Nat) (A0 : Option Addr) (c0 : Nat) (l0 : List (S60)) (A1 : Option Addr) (c1 : Nat) (l1 : List (S60)) (r : Bool) (w : World) (hr0 : Kd.C k60 w A0 l0.length l0) (hc0 : l0.length ≤ c0) (hr1 : Kd.C k60 w A1 l1.length l1) (hc1 : l1.length ≤ c1) (h : r08_Same.f k l0 l1 = some r) :
 Calls Tryz.prog 31 #[.slice A0 l0.length c0, .slice A1 l1.length c1] w fun e w' => e = .returned (.bool r) ∧ Drawn0 w w' := by
 have hu60 := Tryz.underlying60
 have HR0 := Aside0.mk hr0
 have HC0 := Aside0.mk hc0
 clear hr0 hc0
 have HR1 := Aside0.mk hr1
 have HC1 := Aside0.mk hc1
 clear hr1 hc1
 have H : (if (l0.length : Int) = (l1.length : Int) then (r08_Same.l0 k l0 l1 0) else (some false)) = some r := h
 clear h
 by_cases c3 : (l0.length : Int) = (l1.length : Int)
 ·
  rw [if_pos c3] at H
  have c3b0 : ((l0.length : Int) == (l1.length : Int)) = true := beq_iff_eq.mpr c3
  have c3b1 : ((l0.length : Int) != (l1.length : Int)) = false := bne_eq_false_iff_eq.mpr c3
  have c3b2 : (l0.length == l1.length) = true := by first | simpa using c3 | (simp at c3 ⊢; omega)
  clear c3
  have H' := Aside0.mk H
  clear H
  go_enter Tryz.func31, Tryz.ntmps31
  go_wp2
  repeat (go_quiet (fail); try go_wp2)
  go_loopg [5] k (fun kq v5 w' => ∃ (x5_1 : Int), v5 = .int .i64 x5_1 ∧ Aside0 (r08_Same.l0 kq l0 l1 x5_1 = some r) ∧ Aside0 (kq ≤ k) ∧ Drawn0 w w')
  case atStart => exact ⟨(0), rs_, H', ⟨Nat.le_refl _⟩, dr_⟩
  case round =>
   clear H'
   try clear c1
   try clear p2
   try clear c3
   try clear c3b0
   try clear c3b1
   try clear c3b2
   obtain ⟨x5_1, rfl, HA, HK1, ⟨m1, rfl⟩⟩ := hrel
   cases gk with
   | zero => exact absurd HA.out (by simp [r08_Same.l0])
   | succ k1 =>
    have H := HA.out
    clear HA
    simp only [r08_Same.l0] at H
    by_cases c4 : x5_1 < (l0.length : Int)
    ·
     rw [if_pos c4] at H
     have c4b0 : decide (x5_1 < (l0.length : Int)) = true := decide_eq_true c4
     clear c4
     obtain ⟨c5b0, H⟩ := gdd H
     obtain ⟨c6b0, H⟩ := gdd H
     by_cases c7 : (!(((rd_T60 l0 x5_1).f0) == ((rd_T60 l1 x5_1).f0)) || (!((((rd_T60 l0 x5_1).f1).toList) == (((rd_T60 l1 x5_1).f1).toList)) || ((!(((rd_T60 l0 x5_1).f2.f0) == ((rd_T60 l1 x5_1).f2.f0)) || (!(((rd_T60 l0 x5_1).f2.f1) == ((rd_T60 l1 x5_1).f2.f1))))))) = true
     ·
      rw [if_pos c7] at H
      have c7b0 : (!(((rd_T60 l0 x5_1).f0) == ((rd_T60 l1 x5_1).f0)) || (!((((rd_T60 l0 x5_1).f1).toList) == (((rd_T60 l1 x5_1).f1).toList)) || ((!(((rd_T60 l0 x5_1).f2.f0) == ((rd_T60 l1 x5_1).f2.f0)) || (!(((rd_T60 l0 x5_1).f2.f1) == ((rd_T60 l1 x5_1).f2.f1))))))) = true := c7
      clear c7
      obtain rfl := Option.some.inj H
      have p634 : 0 ≤ (x5_1 : Int) := od
      have q634 : x5_1 < (l0.length : Int) := od
      obtain ⟨ad634, e634, hx634_0, hx634_1, hx634_2, hx634_3⟩ := at_T60 HR0.out x5_1 p634 q634
      cases e634
      replace p634 := eq_true p634
      replace q634 := eq_true q634
      have p635 : 0 ≤ (x5_1 : Int) := od
      have q635 : x5_1 < (l1.length : Int) := od
      obtain ⟨ad635, e635, hx635_0, hx635_1, hx635_2, hx635_3⟩ := at_T60 HR1.out x5_1 p635 q635
      cases e635
      replace p635 := eq_true p635
      replace q635 := eq_true q635
      go_wp2
      repeat (go_quiet (fail); try go_wp2)
      go_ret
      exact ⟨rs_, dr_⟩
     ·
      rw [if_neg c7] at H
      have c7b0 : (!(((rd_T60 l0 x5_1).f0) == ((rd_T60 l1 x5_1).f0)) || (!((((rd_T60 l0 x5_1).f1).toList) == (((rd_T60 l1 x5_1).f1).toList)) || ((!(((rd_T60 l0 x5_1).f2.f0) == ((rd_T60 l1 x5_1).f2.f0)) || (!(((rd_T60 l0 x5_1).f2.f1) == ((rd_T60 l1 x5_1).f2.f1))))))) = false := by simpa using c7
      clear c7
      have H' := Aside0.mk H
      clear H
      have p634 : 0 ≤ (x5_1 : Int) := od
      have q634 : x5_1 < (l0.length : Int) := od
      obtain ⟨ad634, e634, hx634_0, hx634_1, hx634_2, hx634_3⟩ := at_T60 HR0.out x5_1 p634 q634
      cases e634
      replace p634 := eq_true p634
      replace q634 := eq_true q634
      have p635 : 0 ≤ (x5_1 : Int) := od
      have q635 : x5_1 < (l1.length : Int) := od
      obtain ⟨ad635, e635, hx635_0, hx635_1, hx635_2, hx635_3⟩ := at_T60 HR1.out x5_1 p635 q635
      cases e635
      replace p635 := eq_true p635
      replace q635 := eq_true q635
      go_wp2
      repeat (go_quiet (fail); try go_wp2)
      go_roundg k1
      case measure => have := HK1.out; omega
      case rel => exact ⟨(wrap64 (x5_1 + 1)), rs_, H', ⟨by have := HK1.out; omega⟩, dr_⟩
    ·
     rw [if_neg c4] at H
     have c4b0 : decide (x5_1 < (l0.length : Int)) = false := decide_eq_false c4
     clear c4
     obtain rfl := Option.some.inj H
     go_wp2
     repeat (go_quiet (fail); try go_wp2)
     go_ret
     exact ⟨rs_, dr_⟩
 ·
  rw [if_neg c3] at H
  have c3b0 : ((l0.length : Int) == (l1.length : Int)) = false := beq_eq_false_iff_ne.mpr c3
  have c3b1 : ((l0.length : Int) != (l1.length : Int)) = true := bne_iff_ne.mpr c3
  have c3b2 : (l0.length == l1.length) = false := by first | simpa using c3 | (simp at c3 ⊢; omega)
  obtain rfl := Option.some.inj H
  go_enter Tryz.func31, Tryz.ntmps31
  go_wp2
  repeat (go_quiet (fail); try go_wp2)
  go_ret
  exact ⟨rs_, dr_⟩
def r16_Answers.f (k : Nat) (a0_0 : Int) (a0_1 : Int) (l0_2 : List (S60)) (a1_0 : Int) (a1_1 : Int) (l1_2 : List (S60)) : Option (Bool) := if a0_0 = a1_0 then (if a0_1 = a1_1 then ((r08_Same.f k l0_2 l1_2).bind fun t638 => (some t638)) else (some false)) else (some false)
theorem r16_Answers.mono : ∀ a0 a1 a2 a3 a4 a5 k, LeO (r16_Answers.f k a0 a1 a2 a3 a4 a5) (r16_Answers.f (k + 1) a0 a1 a2 a3 a4 a5) := by
 intro a0 a1 a2 a3 a4 a5 k
 unfold r16_Answers.f
 exact lo
instance r16_Answers.mI {a0 a1 a2 a3 a4 a5 k} : LeC (r16_Answers.f k a0 a1 a2 a3 a4 a5) (r16_Answers.f (k + 1) a0 a1 a2 a3 a4 a5) := ⟨r16_Answers.mono _ _ _ _ _ _ _⟩
theorem r16_Answers.calls (k : Nat) (a0_0 : Int) (a0_1 : Int) (A0_2 : Option Addr) (c0_2 : Nat) (l0_2 : List (S60)) (a1_0 : Int) (a1_1 : Int) (A1_2 : Option Addr) (c1_2 : Nat) (l1_2 : List (S60)) (r : Bool) (w : World) (hr0_2 : Kd.C k60 w A0_2 l0_2.length l0_2) (hc0_2 : l0_2.length ≤ c0_2) (hr1_2 : Kd.C k60 w A1_2 l1_2.length l1_2) (hc1_2 : l1_2.length ≤ c1_2) (h : r16_Answers.f k a0_0 a0_1 l0_2 a1_0 a1_1 l1_2 = some r) :
 Calls Tryz.prog 28 #[.agg #[.int .i64 a0_0, .int .i64 a0_1, .slice A0_2 l0_2.length c0_2], .agg #[.int .i64 a1_0, .int .i64 a1_1, .slice A1_2 l1_2.length c1_2]] w fun e w' => e = .returned (.bool r) ∧ Below w.heap.size w w' := by
 have hu33 := Tryz.underlying33
 have HR0_2 := Aside0.mk hr0_2
 have HC0_2 := Aside0.mk hc0_2
 clear hr0_2 hc0_2
 have HR1_2 := Aside0.mk hr1_2
 have HC1_2 := Aside0.mk hc1_2
 clear hr1_2 hc1_2
 have HB := Aside0.mk (Below.refl w.heap.size w)
 have H : (if a0_0 = a1_0 then (if a0_1 = a1_1 then ((r08_Same.f k l0_2 l1_2).bind fun t638 => (some t638)) else (some false)) else (some false)) = some r := h
 clear h
 by_cases c3 : a0_0 = a1_0
 ·
  rw [if_pos c3] at H
  have c3b0 : (a0_0 == a1_0) = true := beq_iff_eq.mpr c3
  have c3b1 : (a0_0 != a1_0) = false := bne_eq_false_iff_eq.mpr c3
  clear c3
  by_cases c4 : a0_1 = a1_1
  ·
   rw [if_pos c4] at H
   have c4b0 : (a0_1 == a1_1) = true := beq_iff_eq.mpr c4
   have c4b1 : (a0_1 != a1_1) = false := bne_eq_false_iff_eq.mpr c4
   clear c4
   obtain ⟨t638, A5, H⟩ := bs H
   try dsimp only at H
   obtain rfl := Option.some.inj H
   go_enter Tryz.func28, Tryz.ntmps28
   go_wp2_with (first | ((with_reducible refine gate_dst (N := 2) rfl ?_); refine bx (N := 2) #[.int .i64 a0_0, .int .i64 a0_1, .slice A0_2 l0_2.length c0_2] 33 ?_; intro gb636 hg w6 hbox hb; have BK636 := Aside0.mk (hbox); have GW636 := gw hg (uW HB.out); have GE636 := GW636; replace HB := cW HB hb; clear hb hbox hg) | ((with_reducible refine gate_dst (N := 3) rfl ?_); refine bx (N := 3) #[.int .i64 a1_0, .int .i64 a1_1, .slice A1_2 l1_2.length c1_2] 33 ?_; intro gb637 hg w7 hbox hb; have BK637 := Aside0.mk (hbox); have GW637 := gw hg bl; have GE637 := GW637; replace HB := Aside0.mk (below_step bl hb); have NB636_637 := Aside0.mk ((by rw [hg]; exact Nat.ne_of_lt (blk_lt (g := gb636) (o := .cells #[.int .i64 a0_0, .int .i64 a0_1, .slice A0_2 l0_2.length c0_2] 33 (0, 0)) (uB BK636.out)) : gb636 ≠ gb637)); have NB637_636 := Aside0.mk ((by rw [hg]; exact Nat.ne_of_gt (blk_lt (g := gb636) (o := .cells #[.int .i64 a0_0, .int .i64 a0_1, .slice A0_2 l0_2.length c0_2] 33 (0, 0)) (uB BK636.out)) : gb637 ≠ gb636)); replace BK636 := cB BK636 hb; clear hb hbox hg; have hnb8 := NB636_637.out; have hnc8 := NB637_636.out; obtain ⟨hcz9_0, hcz9_1, hcz9_2, hfz9_0, hfz9_1, hfz9_2⟩ := z3 BK636; obtain ⟨hcz10_0, hcz10_1, hcz10_2, hfz10_0, hfz10_1, hfz10_2⟩ := z3 BK637) | (go_at_call 31; (with_reducible refine (r08_Same.calls k _ _ l0_2 _ _ l1_2 t638 _ ?side1 ?side2 ?side3 ?side4 A5.out).mono ?_); (case side1 => exact uC <| (Kd.C_below HR0_2.out HB.out)); (case side2 => exact HC0_2.out); (case side3 => exact uC <| (Kd.C_below HR1_2.out HB.out)); (case side4 => exact HC1_2.out); rintro e w' ⟨rfl, ⟨nd, rfl⟩⟩))
   go_ret
   exact ⟨re_, bl⟩
  ·
   rw [if_neg c4] at H
   have c4b0 : (a0_1 == a1_1) = false := beq_eq_false_iff_ne.mpr c4
   have c4b1 : (a0_1 != a1_1) = true := bne_iff_ne.mpr c4
   obtain rfl := Option.some.inj H
   go_enter Tryz.func28, Tryz.ntmps28
   go_wp2_with (first | ((with_reducible refine gate_dst (N := 2) rfl ?_); refine bx (N := 2) #[.int .i64 a0_0, .int .i64 a0_1, .slice A0_2 l0_2.length c0_2] 33 ?_; intro gb636 hg w11 hbox hb; have BK636 := Aside0.mk (hbox); have GW636 := gw hg (uW HB.out); have GE636 := GW636; replace HB := cW HB hb; clear hb hbox hg) | ((with_reducible refine gate_dst (N := 3) rfl ?_); refine bx (N := 3) #[.int .i64 a1_0, .int .i64 a1_1, .slice A1_2 l1_2.length c1_2] 33 ?_; intro gb637 hg w12 hbox hb; have BK637 := Aside0.mk (hbox); have GW637 := gw hg bl; have GE637 := GW637; replace HB := Aside0.mk (below_step bl hb); have NB636_637 := Aside0.mk ((by rw [hg]; exact Nat.ne_of_lt (blk_lt (g := gb636) (o := .cells #[.int .i64 a0_0, .int .i64 a0_1, .slice A0_2 l0_2.length c0_2] 33 (0, 0)) (uB BK636.out)) : gb636 ≠ gb637)); have NB637_636 := Aside0.mk ((by rw [hg]; exact Nat.ne_of_gt (blk_lt (g := gb636) (o := .cells #[.int .i64 a0_0, .int .i64 a0_1, .slice A0_2 l0_2.length c0_2] 33 (0, 0)) (uB BK636.out)) : gb637 ≠ gb636)); replace BK636 := cB BK636 hb; clear hb hbox hg; have hnb13 := NB636_637.out; have hnc13 := NB637_636.out; obtain ⟨hcz14_0, hcz14_1, hcz14_2, hfz14_0, hfz14_1, hfz14_2⟩ := z3 BK636; obtain ⟨hcz15_0, hcz15_1, hcz15_2, hfz15_0, hfz15_1, hfz15_2⟩ := z3 BK637))
   go_ret
   exact ⟨re_, bl⟩
 ·
  rw [if_neg c3] at H
  have c3b0 : (a0_0 == a1_0) = false := beq_eq_false_iff_ne.mpr c3
  have c3b1 : (a0_0 != a1_0) = true := bne_iff_ne.mpr c3
  obtain rfl := Option.some.inj H
  go_enter Tryz.func28, Tryz.ntmps28
  go_wp2_with (first | ((with_reducible refine gate_dst (N := 2) rfl ?_); refine bx (N := 2) #[.int .i64 a0_0, .int .i64 a0_1, .slice A0_2 l0_2.length c0_2] 33 ?_; intro gb636 hg w16 hbox hb; have BK636 := Aside0.mk (hbox); have GW636 := gw hg (uW HB.out); have GE636 := GW636; replace HB := cW HB hb; clear hb hbox hg) | ((with_reducible refine gate_dst (N := 3) rfl ?_); refine bx (N := 3) #[.int .i64 a1_0, .int .i64 a1_1, .slice A1_2 l1_2.length c1_2] 33 ?_; intro gb637 hg w17 hbox hb; have BK637 := Aside0.mk (hbox); have GW637 := gw hg bl; have GE637 := GW637; replace HB := Aside0.mk (below_step bl hb); have NB636_637 := Aside0.mk ((by rw [hg]; exact Nat.ne_of_lt (blk_lt (g := gb636) (o := .cells #[.int .i64 a0_0, .int .i64 a0_1, .slice A0_2 l0_2.length c0_2] 33 (0, 0)) (uB BK636.out)) : gb636 ≠ gb637)); have NB637_636 := Aside0.mk ((by rw [hg]; exact Nat.ne_of_gt (blk_lt (g := gb636) (o := .cells #[.int .i64 a0_0, .int .i64 a0_1, .slice A0_2 l0_2.length c0_2] 33 (0, 0)) (uB BK636.out)) : gb637 ≠ gb636)); replace BK636 := cB BK636 hb; clear hb hbox hg; have hnb18 := NB636_637.out; have hnc18 := NB637_636.out; obtain ⟨hcz19_0, hcz19_1, hcz19_2, hfz19_0, hfz19_1, hfz19_2⟩ := z3 BK636; obtain ⟨hcz20_0, hcz20_1, hcz20_2, hfz20_0, hfz20_1, hfz20_2⟩ := z3 BK637))
  go_ret
  exact ⟨re_, bl⟩
attribute [local go_sem high] eqA78
def r09_Same.l0 : Nat → List (S78) → List (S78) → Int → Option (Bool)
 | 0, _, _, _ => none
 | k + 1, x0, x1, x5 => if x5 < (x0.length : Int) then (if 0 ≤ x5 then (if x5 < (x1.length : Int) then (if ((!(((rd_T78 x0 x5).f0.f0) == ((rd_T78 x1 x5).f0.f0)) || (!((((rd_T78 x0 x5).f0.f1).toList) == (((rd_T78 x1 x5).f0.f1).toList)) || ((!(((rd_T78 x0 x5).f0.f2.f0) == ((rd_T78 x1 x5).f0.f2.f0)) || (!(((rd_T78 x0 x5).f0.f2.f1) == ((rd_T78 x1 x5).f0.f2.f1))))))) || (!(((rd_T78 x0 x5).f1) == ((rd_T78 x1 x5).f1)))) = true then (some false) else (r09_Same.l0 k x0 x1 (wrap64 (x5 + 1)))) else (none)) else (none)) else (some true)
def r09_Same.f (k : Nat) (l0 : List (S78)) (l1 : List (S78)) : Option (Bool) := if (l0.length : Int) = (l1.length : Int) then (r09_Same.l0 k l0 l1 0) else (some false)
theorem r09_Same.mono_l : ∀ k, (∀ y0 y1 y2, LeC (r09_Same.l0 k y0 y1 y2) (r09_Same.l0 (k + 1) y0 y1 y2))
 | 0 => fun _ _ _ => ⟨fun r h => by simp [r09_Same.l0] at h⟩
 | k + 1 => by have ih0 := r09_Same.mono_l k; exact fun _ _ _ => by unfold r09_Same.l0; exact lm
theorem r09_Same.mono : ∀ a0 a1 k, LeO (r09_Same.f k a0 a1) (r09_Same.f (k + 1) a0 a1) := by
 intro a0 a1 k
 have ih0 := r09_Same.mono_l k
 unfold r09_Same.f
 exact lo
instance r09_Same.mI {a0 a1 k} : LeC (r09_Same.f k a0 a1) (r09_Same.f (k + 1) a0 a1) := ⟨r09_Same.mono _ _ _⟩
theorem r09_Same.calls (k : Nat) (A0 : Option Addr) (c0 : Nat) (l0 : List (S78)) (A1 : Option Addr) (c1 : Nat) (l1 : List (S78)) (r : Bool) (w : World) (hr0 : Kd.C k78 w A0 l0.length l0) (hc0 : l0.length ≤ c0) (hr1 : Kd.C k78 w A1 l1.length l1) (hc1 : l1.length ≤ c1) (h : r09_Same.f k l0 l1 = some r) :
 Calls Tryz.prog 58 #[.slice A0 l0.length c0, .slice A1 l1.length c1] w fun e w' => e = .returned (.bool r) ∧ Drawn0 w w' := by
 have hu78 := Tryz.underlying78
 have HR0 := Aside0.mk hr0
 have HC0 := Aside0.mk hc0
 clear hr0 hc0
 have HR1 := Aside0.mk hr1
 have HC1 := Aside0.mk hc1
 clear hr1 hc1
 have H : (if (l0.length : Int) = (l1.length : Int) then (r09_Same.l0 k l0 l1 0) else (some false)) = some r := h
 clear h
 by_cases c3 : (l0.length : Int) = (l1.length : Int)
 ·
  rw [if_pos c3] at H
  have c3b0 : ((l0.length : Int) == (l1.length : Int)) = true := beq_iff_eq.mpr c3
  have c3b1 : ((l0.length : Int) != (l1.length : Int)) = false := bne_eq_false_iff_eq.mpr c3
  have c3b2 : (l0.length == l1.length) = true := by first | simpa using c3 | (simp at c3 ⊢; omega)
  clear c3
  have H' := Aside0.mk H
  clear H
  go_enter Tryz.func58, Tryz.ntmps58
  go_wp2
  repeat (go_quiet (fail); try go_wp2)
  go_loopg [5] k (fun kq v5 w' => ∃ (x5_1 : Int), v5 = .int .i64 x5_1 ∧ Aside0 (r09_Same.l0 kq l0 l1 x5_1 = some r) ∧ Aside0 (kq ≤ k) ∧ Drawn0 w w')
  case atStart => exact ⟨(0), rs_, H', ⟨Nat.le_refl _⟩, dr_⟩
  case round =>
   clear H'
   try clear c1
   try clear p2
   try clear c3
   try clear c3b0
   try clear c3b1
   try clear c3b2
   obtain ⟨x5_1, rfl, HA, HK1, ⟨m1, rfl⟩⟩ := hrel
   cases gk with
   | zero => exact absurd HA.out (by simp [r09_Same.l0])
   | succ k1 =>
    have H := HA.out
    clear HA
    simp only [r09_Same.l0] at H
    by_cases c4 : x5_1 < (l0.length : Int)
    ·
     rw [if_pos c4] at H
     have c4b0 : decide (x5_1 < (l0.length : Int)) = true := decide_eq_true c4
     clear c4
     obtain ⟨c5b0, H⟩ := gdd H
     obtain ⟨c6b0, H⟩ := gdd H
     by_cases c7 : ((!(((rd_T78 l0 x5_1).f0.f0) == ((rd_T78 l1 x5_1).f0.f0)) || (!((((rd_T78 l0 x5_1).f0.f1).toList) == (((rd_T78 l1 x5_1).f0.f1).toList)) || ((!(((rd_T78 l0 x5_1).f0.f2.f0) == ((rd_T78 l1 x5_1).f0.f2.f0)) || (!(((rd_T78 l0 x5_1).f0.f2.f1) == ((rd_T78 l1 x5_1).f0.f2.f1))))))) || (!(((rd_T78 l0 x5_1).f1) == ((rd_T78 l1 x5_1).f1)))) = true
     ·
      rw [if_pos c7] at H
      have c7b0 : ((!(((rd_T78 l0 x5_1).f0.f0) == ((rd_T78 l1 x5_1).f0.f0)) || (!((((rd_T78 l0 x5_1).f0.f1).toList) == (((rd_T78 l1 x5_1).f0.f1).toList)) || ((!(((rd_T78 l0 x5_1).f0.f2.f0) == ((rd_T78 l1 x5_1).f0.f2.f0)) || (!(((rd_T78 l0 x5_1).f0.f2.f1) == ((rd_T78 l1 x5_1).f0.f2.f1))))))) || (!(((rd_T78 l0 x5_1).f1) == ((rd_T78 l1 x5_1).f1)))) = true := c7
      clear c7
      obtain rfl := Option.some.inj H
      have p639 : 0 ≤ (x5_1 : Int) := od
      have q639 : x5_1 < (l0.length : Int) := od
      obtain ⟨ad639, e639, hx639_0, hx639_1, hx639_2, hx639_3, hx639_4⟩ := at_T78 HR0.out x5_1 p639 q639
      cases e639
      replace p639 := eq_true p639
      replace q639 := eq_true q639
      have p640 : 0 ≤ (x5_1 : Int) := od
      have q640 : x5_1 < (l1.length : Int) := od
      obtain ⟨ad640, e640, hx640_0, hx640_1, hx640_2, hx640_3, hx640_4⟩ := at_T78 HR1.out x5_1 p640 q640
      cases e640
      replace p640 := eq_true p640
      replace q640 := eq_true q640
      go_wp2
      repeat (go_quiet (fail); try go_wp2)
      go_ret
      exact ⟨rs_, dr_⟩
     ·
      rw [if_neg c7] at H
      have c7b0 : ((!(((rd_T78 l0 x5_1).f0.f0) == ((rd_T78 l1 x5_1).f0.f0)) || (!((((rd_T78 l0 x5_1).f0.f1).toList) == (((rd_T78 l1 x5_1).f0.f1).toList)) || ((!(((rd_T78 l0 x5_1).f0.f2.f0) == ((rd_T78 l1 x5_1).f0.f2.f0)) || (!(((rd_T78 l0 x5_1).f0.f2.f1) == ((rd_T78 l1 x5_1).f0.f2.f1))))))) || (!(((rd_T78 l0 x5_1).f1) == ((rd_T78 l1 x5_1).f1)))) = false := by simpa using c7
      clear c7
      have H' := Aside0.mk H
      clear H
      have p639 : 0 ≤ (x5_1 : Int) := od
      have q639 : x5_1 < (l0.length : Int) := od
      obtain ⟨ad639, e639, hx639_0, hx639_1, hx639_2, hx639_3, hx639_4⟩ := at_T78 HR0.out x5_1 p639 q639
      cases e639
      replace p639 := eq_true p639
      replace q639 := eq_true q639
      have p640 : 0 ≤ (x5_1 : Int) := od
      have q640 : x5_1 < (l1.length : Int) := od
      obtain ⟨ad640, e640, hx640_0, hx640_1, hx640_2, hx640_3, hx640_4⟩ := at_T78 HR1.out x5_1 p640 q640
      cases e640
      replace p640 := eq_true p640
      replace q640 := eq_true q640
      go_wp2
      repeat (go_quiet (fail); try go_wp2)
      go_roundg k1
      case measure => have := HK1.out; omega
      case rel => exact ⟨(wrap64 (x5_1 + 1)), rs_, H', ⟨by have := HK1.out; omega⟩, dr_⟩
    ·
     rw [if_neg c4] at H
     have c4b0 : decide (x5_1 < (l0.length : Int)) = false := decide_eq_false c4
     clear c4
     obtain rfl := Option.some.inj H
     go_wp2
     repeat (go_quiet (fail); try go_wp2)
     go_ret
     exact ⟨rs_, dr_⟩
 ·
  rw [if_neg c3] at H
  have c3b0 : ((l0.length : Int) == (l1.length : Int)) = false := beq_eq_false_iff_ne.mpr c3
  have c3b1 : ((l0.length : Int) != (l1.length : Int)) = true := bne_iff_ne.mpr c3
  have c3b2 : (l0.length == l1.length) = false := by first | simpa using c3 | (simp at c3 ⊢; omega)
  obtain rfl := Option.some.inj H
  go_enter Tryz.func58, Tryz.ntmps58
  go_wp2
  repeat (go_quiet (fail); try go_wp2)
  go_ret
  exact ⟨rs_, dr_⟩
def r19_Equal.f (k : Nat) (a0_0 : Int) (a0_1 : Int) (a0_2 : Int) (l0_3 : List (S60)) (l0_4 : List (S78)) (a1_0 : Int) (a1_1 : Int) (a1_2 : Int) (l1_3 : List (S60)) (l1_4 : List (S78)) : Option (Bool) := if a0_0 = a1_0 then (if a0_1 = a1_1 then (if a0_2 = a1_2 then ((r08_Same.f k l0_3 l1_3).bind fun t643 => (if t643 = true then ((r09_Same.f k l0_4 l1_4).bind fun t644 => (some t644)) else (some false))) else (some false)) else (some false)) else (some false)
theorem r19_Equal.mono : ∀ a0 a1 a2 a3 a4 a5 a6 a7 a8 a9 k, LeO (r19_Equal.f k a0 a1 a2 a3 a4 a5 a6 a7 a8 a9) (r19_Equal.f (k + 1) a0 a1 a2 a3 a4 a5 a6 a7 a8 a9) := by
 intro a0 a1 a2 a3 a4 a5 a6 a7 a8 a9 k
 unfold r19_Equal.f
 exact lo
instance r19_Equal.mI {a0 a1 a2 a3 a4 a5 a6 a7 a8 a9 k} : LeC (r19_Equal.f k a0 a1 a2 a3 a4 a5 a6 a7 a8 a9) (r19_Equal.f (k + 1) a0 a1 a2 a3 a4 a5 a6 a7 a8 a9) := ⟨r19_Equal.mono _ _ _ _ _ _ _ _ _ _ _⟩
theorem r19_Equal.calls (k : Nat) (a0_0 : Int) (a0_1 : Int) (a0_2 : Int) (A0_3 : Option Addr) (c0_3 : Nat) (l0_3 : List (S60)) (A0_4 : Option Addr) (c0_4 : Nat) (l0_4 : List (S78)) (a1_0 : Int) (a1_1 : Int) (a1_2 : Int) (A1_3 : Option Addr) (c1_3 : Nat) (l1_3 : List (S60)) (A1_4 : Option Addr) (c1_4 : Nat) (l1_4 : List (S78)) (r : Bool) (w : World) (hr0_3 : Kd.C k60 w A0_3 l0_3.length l0_3) (hc0_3 : l0_3.length ≤ c0_3) (hr0_4 : Kd.C k78 w A0_4 l0_4.length l0_4) (hc0_4 : l0_4.length ≤ c0_4) (hr1_3 : Kd.C k60 w A1_3 l1_3.length l1_3) (hc1_3 : l1_3.length ≤ c1_3) (hr1_4 : Kd.C k78 w A1_4 l1_4.length l1_4) (hc1_4 : l1_4.length ≤ c1_4) (h : r19_Equal.f k a0_0 a0_1 a0_2 l0_3 l0_4 a1_0 a1_1 a1_2 l1_3 l1_4 = some r) :
 Calls Tryz.prog 29 #[.agg #[.int .i64 a0_0, .int .i64 a0_1, .int .i64 a0_2, .slice A0_3 l0_3.length c0_3, .slice A0_4 l0_4.length c0_4], .agg #[.int .i64 a1_0, .int .i64 a1_1, .int .i64 a1_2, .slice A1_3 l1_3.length c1_3, .slice A1_4 l1_4.length c1_4]] w fun e w' => e = .returned (.bool r) ∧ Below w.heap.size w w' := by
 have hu36 := Tryz.underlying36
 have HR0_3 := Aside0.mk hr0_3
 have HC0_3 := Aside0.mk hc0_3
 clear hr0_3 hc0_3
 have HR0_4 := Aside0.mk hr0_4
 have HC0_4 := Aside0.mk hc0_4
 clear hr0_4 hc0_4
 have HR1_3 := Aside0.mk hr1_3
 have HC1_3 := Aside0.mk hc1_3
 clear hr1_3 hc1_3
 have HR1_4 := Aside0.mk hr1_4
 have HC1_4 := Aside0.mk hc1_4
 clear hr1_4 hc1_4
 have HB := Aside0.mk (Below.refl w.heap.size w)
 have H : (if a0_0 = a1_0 then (if a0_1 = a1_1 then (if a0_2 = a1_2 then ((r08_Same.f k l0_3 l1_3).bind fun t643 => (if t643 = true then ((r09_Same.f k l0_4 l1_4).bind fun t644 => (some t644)) else (some false))) else (some false)) else (some false)) else (some false)) = some r := h
 clear h
 by_cases c3 : a0_0 = a1_0
 ·
  rw [if_pos c3] at H
  have c3b0 : (a0_0 == a1_0) = true := beq_iff_eq.mpr c3
  have c3b1 : (a0_0 != a1_0) = false := bne_eq_false_iff_eq.mpr c3
  clear c3
  by_cases c4 : a0_1 = a1_1
  ·
   rw [if_pos c4] at H
   have c4b0 : (a0_1 == a1_1) = true := beq_iff_eq.mpr c4
   have c4b1 : (a0_1 != a1_1) = false := bne_eq_false_iff_eq.mpr c4
   clear c4
   by_cases c5 : a0_2 = a1_2
   ·
    rw [if_pos c5] at H
    have c5b0 : (a0_2 == a1_2) = true := beq_iff_eq.mpr c5
    have c5b1 : (a0_2 != a1_2) = false := bne_eq_false_iff_eq.mpr c5
    clear c5
    obtain ⟨t643, A6, H⟩ := bs H
    try dsimp only at H
    by_cases c7 : t643 = true
    ·
     subst c7
     rw [if_pos rfl] at H
     obtain ⟨t644, A8, H⟩ := bs H
     try dsimp only at H
     obtain rfl := Option.some.inj H
     go_enter Tryz.func29, Tryz.ntmps29
     go_wp2_with (first | ((with_reducible refine gate_dst (N := 2) rfl ?_); refine bx (N := 2) #[.int .i64 a0_0, .int .i64 a0_1, .int .i64 a0_2, .slice A0_3 l0_3.length c0_3, .slice A0_4 l0_4.length c0_4] 36 ?_; intro gb641 hg w9 hbox hb; have BK641 := Aside0.mk (hbox); have GW641 := gw hg (uW HB.out); have GE641 := GW641; replace HB := cW HB hb; clear hb hbox hg) | ((with_reducible refine gate_dst (N := 3) rfl ?_); refine bx (N := 3) #[.int .i64 a1_0, .int .i64 a1_1, .int .i64 a1_2, .slice A1_3 l1_3.length c1_3, .slice A1_4 l1_4.length c1_4] 36 ?_; intro gb642 hg w10 hbox hb; have BK642 := Aside0.mk (hbox); have GW642 := gw hg bl; have GE642 := GW642; replace HB := Aside0.mk (below_step bl hb); have NB641_642 := Aside0.mk ((by rw [hg]; exact Nat.ne_of_lt (blk_lt (g := gb641) (o := .cells #[.int .i64 a0_0, .int .i64 a0_1, .int .i64 a0_2, .slice A0_3 l0_3.length c0_3, .slice A0_4 l0_4.length c0_4] 36 (0, 0)) (uB BK641.out)) : gb641 ≠ gb642)); have NB642_641 := Aside0.mk ((by rw [hg]; exact Nat.ne_of_gt (blk_lt (g := gb641) (o := .cells #[.int .i64 a0_0, .int .i64 a0_1, .int .i64 a0_2, .slice A0_3 l0_3.length c0_3, .slice A0_4 l0_4.length c0_4] 36 (0, 0)) (uB BK641.out)) : gb642 ≠ gb641)); replace BK641 := cB BK641 hb; clear hb hbox hg; have hnb11 := NB641_642.out; have hnc11 := NB642_641.out; obtain ⟨hcz12_0, hcz12_1, hcz12_2, hcz12_3, hcz12_4, hfz12_0, hfz12_1, hfz12_2, hfz12_3, hfz12_4⟩ := z5 BK641; obtain ⟨hcz13_0, hcz13_1, hcz13_2, hcz13_3, hcz13_4, hfz13_0, hfz13_1, hfz13_2, hfz13_3, hfz13_4⟩ := z5 BK642) | (go_at_call 31; (with_reducible refine (r08_Same.calls k _ _ l0_3 _ _ l1_3 true _ ?side1 ?side2 ?side3 ?side4 A6.out).mono ?_); (case side1 => exact uC <| (Kd.C_below HR0_3.out HB.out)); (case side2 => exact HC0_3.out); (case side3 => exact uC <| (Kd.C_below HR1_3.out HB.out)); (case side4 => exact HC1_3.out); rintro e w' ⟨rfl, ⟨nd, rfl⟩⟩) | (go_at_call 58; (with_reducible refine (r09_Same.calls k _ _ l0_4 _ _ l1_4 t644 _ ?side1 ?side2 ?side3 ?side4 A8.out).mono ?_); (case side1 => exact (Kd.C_below HR0_4.out bl)); (case side2 => exact HC0_4.out); (case side3 => exact (Kd.C_below HR1_4.out bl)); (case side4 => exact HC1_4.out); rintro e w' ⟨rfl, ⟨nd, rfl⟩⟩))
     go_ret
     exact ⟨re_, bl⟩
    ·
     replace c7 := Bool.eq_false_iff.mpr c7
     subst c7
     rw [if_neg (show ¬ (false = true) by decide)] at H
     obtain rfl := Option.some.inj H
     go_enter Tryz.func29, Tryz.ntmps29
     go_wp2_with (first | ((with_reducible refine gate_dst (N := 2) rfl ?_); refine bx (N := 2) #[.int .i64 a0_0, .int .i64 a0_1, .int .i64 a0_2, .slice A0_3 l0_3.length c0_3, .slice A0_4 l0_4.length c0_4] 36 ?_; intro gb641 hg w14 hbox hb; have BK641 := Aside0.mk (hbox); have GW641 := gw hg (uW HB.out); have GE641 := GW641; replace HB := cW HB hb; clear hb hbox hg) | ((with_reducible refine gate_dst (N := 3) rfl ?_); refine bx (N := 3) #[.int .i64 a1_0, .int .i64 a1_1, .int .i64 a1_2, .slice A1_3 l1_3.length c1_3, .slice A1_4 l1_4.length c1_4] 36 ?_; intro gb642 hg w15 hbox hb; have BK642 := Aside0.mk (hbox); have GW642 := gw hg bl; have GE642 := GW642; replace HB := Aside0.mk (below_step bl hb); have NB641_642 := Aside0.mk ((by rw [hg]; exact Nat.ne_of_lt (blk_lt (g := gb641) (o := .cells #[.int .i64 a0_0, .int .i64 a0_1, .int .i64 a0_2, .slice A0_3 l0_3.length c0_3, .slice A0_4 l0_4.length c0_4] 36 (0, 0)) (uB BK641.out)) : gb641 ≠ gb642)); have NB642_641 := Aside0.mk ((by rw [hg]; exact Nat.ne_of_gt (blk_lt (g := gb641) (o := .cells #[.int .i64 a0_0, .int .i64 a0_1, .int .i64 a0_2, .slice A0_3 l0_3.length c0_3, .slice A0_4 l0_4.length c0_4] 36 (0, 0)) (uB BK641.out)) : gb642 ≠ gb641)); replace BK641 := cB BK641 hb; clear hb hbox hg; have hnb16 := NB641_642.out; have hnc16 := NB642_641.out; obtain ⟨hcz17_0, hcz17_1, hcz17_2, hcz17_3, hcz17_4, hfz17_0, hfz17_1, hfz17_2, hfz17_3, hfz17_4⟩ := z5 BK641; obtain ⟨hcz18_0, hcz18_1, hcz18_2, hcz18_3, hcz18_4, hfz18_0, hfz18_1, hfz18_2, hfz18_3, hfz18_4⟩ := z5 BK642) | (go_at_call 31; (with_reducible refine (r08_Same.calls k _ _ l0_3 _ _ l1_3 false _ ?side1 ?side2 ?side3 ?side4 A6.out).mono ?_); (case side1 => exact uC <| (Kd.C_below HR0_3.out HB.out)); (case side2 => exact HC0_3.out); (case side3 => exact uC <| (Kd.C_below HR1_3.out HB.out)); (case side4 => exact HC1_3.out); rintro e w' ⟨rfl, ⟨nd, rfl⟩⟩))
     go_ret
     exact ⟨re_, bl⟩
   ·
    rw [if_neg c5] at H
    have c5b0 : (a0_2 == a1_2) = false := beq_eq_false_iff_ne.mpr c5
    have c5b1 : (a0_2 != a1_2) = true := bne_iff_ne.mpr c5
    obtain rfl := Option.some.inj H
    go_enter Tryz.func29, Tryz.ntmps29
    go_wp2_with (first | ((with_reducible refine gate_dst (N := 2) rfl ?_); refine bx (N := 2) #[.int .i64 a0_0, .int .i64 a0_1, .int .i64 a0_2, .slice A0_3 l0_3.length c0_3, .slice A0_4 l0_4.length c0_4] 36 ?_; intro gb641 hg w19 hbox hb; have BK641 := Aside0.mk (hbox); have GW641 := gw hg (uW HB.out); have GE641 := GW641; replace HB := cW HB hb; clear hb hbox hg) | ((with_reducible refine gate_dst (N := 3) rfl ?_); refine bx (N := 3) #[.int .i64 a1_0, .int .i64 a1_1, .int .i64 a1_2, .slice A1_3 l1_3.length c1_3, .slice A1_4 l1_4.length c1_4] 36 ?_; intro gb642 hg w20 hbox hb; have BK642 := Aside0.mk (hbox); have GW642 := gw hg bl; have GE642 := GW642; replace HB := Aside0.mk (below_step bl hb); have NB641_642 := Aside0.mk ((by rw [hg]; exact Nat.ne_of_lt (blk_lt (g := gb641) (o := .cells #[.int .i64 a0_0, .int .i64 a0_1, .int .i64 a0_2, .slice A0_3 l0_3.length c0_3, .slice A0_4 l0_4.length c0_4] 36 (0, 0)) (uB BK641.out)) : gb641 ≠ gb642)); have NB642_641 := Aside0.mk ((by rw [hg]; exact Nat.ne_of_gt (blk_lt (g := gb641) (o := .cells #[.int .i64 a0_0, .int .i64 a0_1, .int .i64 a0_2, .slice A0_3 l0_3.length c0_3, .slice A0_4 l0_4.length c0_4] 36 (0, 0)) (uB BK641.out)) : gb642 ≠ gb641)); replace BK641 := cB BK641 hb; clear hb hbox hg; have hnb21 := NB641_642.out; have hnc21 := NB642_641.out; obtain ⟨hcz22_0, hcz22_1, hcz22_2, hcz22_3, hcz22_4, hfz22_0, hfz22_1, hfz22_2, hfz22_3, hfz22_4⟩ := z5 BK641; obtain ⟨hcz23_0, hcz23_1, hcz23_2, hcz23_3, hcz23_4, hfz23_0, hfz23_1, hfz23_2, hfz23_3, hfz23_4⟩ := z5 BK642))
    go_ret
    exact ⟨re_, bl⟩
  ·
   rw [if_neg c4] at H
   have c4b0 : (a0_1 == a1_1) = false := beq_eq_false_iff_ne.mpr c4
   have c4b1 : (a0_1 != a1_1) = true := bne_iff_ne.mpr c4
   obtain rfl := Option.some.inj H
   go_enter Tryz.func29, Tryz.ntmps29
   go_wp2_with (first | ((with_reducible refine gate_dst (N := 2) rfl ?_); refine bx (N := 2) #[.int .i64 a0_0, .int .i64 a0_1, .int .i64 a0_2, .slice A0_3 l0_3.length c0_3, .slice A0_4 l0_4.length c0_4] 36 ?_; intro gb641 hg w24 hbox hb; have BK641 := Aside0.mk (hbox); have GW641 := gw hg (uW HB.out); have GE641 := GW641; replace HB := cW HB hb; clear hb hbox hg) | ((with_reducible refine gate_dst (N := 3) rfl ?_); refine bx (N := 3) #[.int .i64 a1_0, .int .i64 a1_1, .int .i64 a1_2, .slice A1_3 l1_3.length c1_3, .slice A1_4 l1_4.length c1_4] 36 ?_; intro gb642 hg w25 hbox hb; have BK642 := Aside0.mk (hbox); have GW642 := gw hg bl; have GE642 := GW642; replace HB := Aside0.mk (below_step bl hb); have NB641_642 := Aside0.mk ((by rw [hg]; exact Nat.ne_of_lt (blk_lt (g := gb641) (o := .cells #[.int .i64 a0_0, .int .i64 a0_1, .int .i64 a0_2, .slice A0_3 l0_3.length c0_3, .slice A0_4 l0_4.length c0_4] 36 (0, 0)) (uB BK641.out)) : gb641 ≠ gb642)); have NB642_641 := Aside0.mk ((by rw [hg]; exact Nat.ne_of_gt (blk_lt (g := gb641) (o := .cells #[.int .i64 a0_0, .int .i64 a0_1, .int .i64 a0_2, .slice A0_3 l0_3.length c0_3, .slice A0_4 l0_4.length c0_4] 36 (0, 0)) (uB BK641.out)) : gb642 ≠ gb641)); replace BK641 := cB BK641 hb; clear hb hbox hg; have hnb26 := NB641_642.out; have hnc26 := NB642_641.out; obtain ⟨hcz27_0, hcz27_1, hcz27_2, hcz27_3, hcz27_4, hfz27_0, hfz27_1, hfz27_2, hfz27_3, hfz27_4⟩ := z5 BK641; obtain ⟨hcz28_0, hcz28_1, hcz28_2, hcz28_3, hcz28_4, hfz28_0, hfz28_1, hfz28_2, hfz28_3, hfz28_4⟩ := z5 BK642))
   go_ret
   exact ⟨re_, bl⟩
 ·
  rw [if_neg c3] at H
  have c3b0 : (a0_0 == a1_0) = false := beq_eq_false_iff_ne.mpr c3
  have c3b1 : (a0_0 != a1_0) = true := bne_iff_ne.mpr c3
  obtain rfl := Option.some.inj H
  go_enter Tryz.func29, Tryz.ntmps29
  go_wp2_with (first | ((with_reducible refine gate_dst (N := 2) rfl ?_); refine bx (N := 2) #[.int .i64 a0_0, .int .i64 a0_1, .int .i64 a0_2, .slice A0_3 l0_3.length c0_3, .slice A0_4 l0_4.length c0_4] 36 ?_; intro gb641 hg w29 hbox hb; have BK641 := Aside0.mk (hbox); have GW641 := gw hg (uW HB.out); have GE641 := GW641; replace HB := cW HB hb; clear hb hbox hg) | ((with_reducible refine gate_dst (N := 3) rfl ?_); refine bx (N := 3) #[.int .i64 a1_0, .int .i64 a1_1, .int .i64 a1_2, .slice A1_3 l1_3.length c1_3, .slice A1_4 l1_4.length c1_4] 36 ?_; intro gb642 hg w30 hbox hb; have BK642 := Aside0.mk (hbox); have GW642 := gw hg bl; have GE642 := GW642; replace HB := Aside0.mk (below_step bl hb); have NB641_642 := Aside0.mk ((by rw [hg]; exact Nat.ne_of_lt (blk_lt (g := gb641) (o := .cells #[.int .i64 a0_0, .int .i64 a0_1, .int .i64 a0_2, .slice A0_3 l0_3.length c0_3, .slice A0_4 l0_4.length c0_4] 36 (0, 0)) (uB BK641.out)) : gb641 ≠ gb642)); have NB642_641 := Aside0.mk ((by rw [hg]; exact Nat.ne_of_gt (blk_lt (g := gb641) (o := .cells #[.int .i64 a0_0, .int .i64 a0_1, .int .i64 a0_2, .slice A0_3 l0_3.length c0_3, .slice A0_4 l0_4.length c0_4] 36 (0, 0)) (uB BK641.out)) : gb642 ≠ gb641)); replace BK641 := cB BK641 hb; clear hb hbox hg; have hnb31 := NB641_642.out; have hnc31 := NB642_641.out; obtain ⟨hcz32_0, hcz32_1, hcz32_2, hcz32_3, hcz32_4, hfz32_0, hfz32_1, hfz32_2, hfz32_3, hfz32_4⟩ := z5 BK641; obtain ⟨hcz33_0, hcz33_1, hcz33_2, hcz33_3, hcz33_4, hfz33_0, hfz33_1, hfz33_2, hfz33_3, hfz33_4⟩ := z5 BK642))
  go_ret
  exact ⟨re_, bl⟩
end Go.Proofs.YteckidchnicjeaaGreatDoor.X
