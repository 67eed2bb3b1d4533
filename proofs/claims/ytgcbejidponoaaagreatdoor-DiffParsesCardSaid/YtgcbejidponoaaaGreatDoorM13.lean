/- Printed by a program of this session's own: what functions of the program compute, and that the machine computes it. No condition of its own. -/
import Derived.Test.YtgcbejidponoaaaGreatDoorM3
import Derived.Test.YtgcbejidponoaaaGreatDoorM8
import Derived.Test.YtgcbejidponoaaaGreatDoorM11
import Derived.Test.YtgcbejidponoaaaGreatDoorM12
import Derived.Test.YtgcbejidponoaaaGreatDoorM5
namespace Go.Proofs.YtgcbejidponoaaaGreatDoor.X
open Go.RowKit Go.Proofs.YtgcbejidponoaaaGreatDoorW.PrintWords Go.Proofs.YtgcbejidponoaaaGreatDoorW.PrintLast Go.Proofs.YtgcbejidponoaaaGreatDoorW.PrintMore
attribute [local go_sem] max2_int min2_int max_two min_two max_three min_three max_four min_four
set_option linter.unusedVariables false
set_option linter.unusedSimpArgs false
set_option maxHeartbeats 8000000
set_option maxRecDepth 100000
def r09_one.j0 : Nat → ByteArray → Bool → Option (Int × ByteArray × Int × Bool × Bool × Int)
 | 0, _, _ => none
 | k + 1, x0, x20 => if x20 = true then ((r08_Parse.f k x0).bind fun bt602 => (if bt602.2 = 0 then (if 0 < (bt602.1.length : Int) then (some ((rd_T45 bt602.1 0).f0, (rd_T45 bt602.1 0).f1, (rd_T45 bt602.1 0).f2.f0, (rd_T45 bt602.1 0).f2.f1, false, 0)) else (none)) else (some (0, (⟨#[]⟩ : ByteArray), 0, false, false, bt602.2)))) else (if 1 ≤ (x0.size : Int) then ((r02_Split.f k (x0.extract 1 x0.size) 124).bind fun t607 => (if (t607.length : Int) = 2 then (if 0 < (t607.length : Int) then ((r01_Read.f k (rdOf ByteArray.empty t607 0)).bind fun bt611 => (if bt611.2 = 0 then (if 1 < (t607.length : Int) then ((r03_Parse.f k (rdOf ByteArray.empty t607 1)).bind fun bt614 => (if bt614.2 = 0 then ((r03_Text.f k bt614.1).bind fun t618 => (if t618.toList = (rdOf ByteArray.empty t607 1).toList then (some (bt611.1, rdOf ByteArray.empty t607 1, 0, false, true, 0)) else (some (0, (⟨#[]⟩ : ByteArray), 0, false, false, 2)))) else (some (0, (⟨#[]⟩ : ByteArray), 0, false, false, bt614.2)))) else (none)) else (some (0, (⟨#[]⟩ : ByteArray), 0, false, false, bt611.2)))) else (none)) else (some (0, (⟨#[]⟩ : ByteArray), 0, false, false, 2)))) else (none))
def r09_one.f (k : Nat) (a0 : ByteArray) : Option (Int × ByteArray × Int × Bool × Bool × Int) := if a0.toList = ([45] : List UInt8) then (some (0, (⟨#[]⟩ : ByteArray), 0, false, false, 2)) else (if (a0.size : Int) = 0 then (r09_one.j0 k a0 true) else (if 0 < (a0.size : Int) then (r09_one.j0 k a0 ((bt a0 0) != 33)) else (none)))
theorem r09_one.mono_l : ∀ k, (∀ y0 y1, LeC (r09_one.j0 k y0 y1) (r09_one.j0 (k + 1) y0 y1))
 | 0 => fun _ _ => ⟨fun r h => by simp [r09_one.j0] at h⟩
 | k + 1 => by have ih0 := r09_one.mono_l k; exact fun _ _ => by unfold r09_one.j0; exact lm
theorem r09_one.mono : ∀ a0 k, LeO (r09_one.f k a0) (r09_one.f (k + 1) a0) := by
 intro a0 k
 have ih0 := r09_one.mono_l k
 unfold r09_one.f
 exact lo
instance r09_one.mI {a0 k} : LeC (r09_one.f k a0) (r09_one.f (k + 1) a0) := ⟨r09_one.mono _ _⟩
theorem r09_one.calls (k : Nat) (a0 : ByteArray) (r1 : Int) (r2 : ByteArray) (r3 : Int) (r4 : Bool) (r5 : Bool) (r6 : Int) (w : World) (h : r09_one.f k a0 = some (r1, r2, r3, r4, r5, r6)) :
 Calls Tryz.prog 42 #[.string a0] w fun e w' => e = .returned (.tuple #[.agg #[.int .i64 r1, .string r2, .int .i64 r3, .bool r4, .bool r5], .int .i64 r6]) ∧ Below w.heap.size w w' := by
 have hu48 := Tryz.underlying48
 have hu45 := Tryz.underlying45
 have HB := Aside0.mk (Below.refl w.heap.size w)
 have H : (if a0.toList = ([45] : List UInt8) then (some (0, (⟨#[]⟩ : ByteArray), 0, false, false, 2)) else (if (a0.size : Int) = 0 then (r09_one.j0 k a0 true) else (if 0 < (a0.size : Int) then (r09_one.j0 k a0 ((bt a0 0) != 33)) else (none)))) = some (r1, r2, r3, r4, r5, r6) := h
 clear h
 by_cases c2 : a0.toList = ([45] : List UInt8)
 ·
  rw [if_pos c2] at H
  have c2b0 : (a0.toList == ([45] : List UInt8)) = true := beq_iff_eq.mpr c2
  have c2b1 : (a0.toList != ([45] : List UInt8)) = false := bne_eq_false_iff_eq.mpr c2
  clear c2
  simp only [Option.some.injEq, Prod.mk.injEq] at H
  obtain ⟨rfl, rfl, rfl, rfl, rfl, rfl⟩ := H
  go_enter Tryz.func42, Tryz.ntmps42
  go_wp2_with (first | ((with_reducible refine gate_dst (N := 2) rfl ?_); refine bx (N := 2) #[.int .i64 0, .string (⟨#[]⟩ : ByteArray), .int .i64 0, .bool false, .bool false] 48 ?_; intro gb601 hg w3 hbox hb; have BK601 := Aside0.mk (hbox); have GW601 := gw hg (uW HB.out); have GE601 := GW601; replace HB := cW HB hb; clear hb hbox hg; obtain ⟨hcz4_0, hcz4_1, hcz4_2, hcz4_3, hcz4_4, hfz4_0, hfz4_1, hfz4_2, hfz4_3, hfz4_4⟩ := z5 BK601) | ((with_reducible refine gate_store (t := 48) (p := 2) rfl ?_); refine store_event (t := 48) (p := 2) (v := ?vo_w5) (w1 := (((((w3.setCell ⟨gb601, 0, none⟩ (.int .i64 0)).setCell ⟨gb601, 1, none⟩ (.string (⟨#[]⟩ : ByteArray))).setCell ⟨gb601, 2, none⟩ (.int .i64 0)).setCell ⟨gb601, 3, none⟩ (.bool false)).setCell ⟨gb601, 4, none⟩ (.bool false))) ?hg ?ho ?hn ?hr ?_; (case ho => rfl); (case hg => rfl); (case hn => rfl); (case hr => first | (go_simp; done) | (go_simp; rfl)); intro w5 hw; have n0_ : Aside0 (w5.heap[gb601]? = some (.cells #[.int .i64 0, .string (⟨#[]⟩ : ByteArray), .int .i64 0, .bool false, .bool false] 48 (0, 0))) := ⟨(by rw [hw]; exact (by (with_reducible repeat (first | refine blk_drewN ?_ _ | refine blk_drew ?_ | refine blk_alloc ?_ _)); refine blk_put (cs := #[.int .i64 0, .string (⟨#[]⟩ : ByteArray), .int .i64 0, .bool false, .bool false]) ?_ 4 _ rfl; (with_reducible repeat (first | refine blk_drewN ?_ _ | refine blk_drew ?_ | refine blk_alloc ?_ _)); refine blk_put (cs := #[.int .i64 0, .string (⟨#[]⟩ : ByteArray), .int .i64 0, .bool false, .bool false]) ?_ 3 _ rfl; (with_reducible repeat (first | refine blk_drewN ?_ _ | refine blk_drew ?_ | refine blk_alloc ?_ _)); refine blk_put (cs := #[.int .i64 0, .string (⟨#[]⟩ : ByteArray), .int .i64 0, .bool false, .bool false]) ?_ 2 _ rfl; (with_reducible repeat (first | refine blk_drewN ?_ _ | refine blk_drew ?_ | refine blk_alloc ?_ _)); refine blk_put (cs := #[.int .i64 0, .string (⟨#[]⟩ : ByteArray), .int .i64 0, .bool false, .bool false]) ?_ 1 _ rfl; (with_reducible repeat (first | refine blk_drewN ?_ _ | refine blk_drew ?_ | refine blk_alloc ?_ _)); refine blk_put (cs := #[.int .i64 0, .string (⟨#[]⟩ : ByteArray), .int .i64 0, .bool false, .bool false]) ?_ 0 _ rfl; exact uB <| BK601.out))⟩; have n1_ : Aside0 (Below w.heap.size w w5) := ⟨(by rw [hw]; exact bl)⟩; clear hw; clear BK601; clear HB; have BK601 := n0_; have HB := n1_; clear n0_ n1_))
  refine bodyPost_ret (results_ct rfl _ _ gb601 48 #[.int .i64 0, .string (⟨#[]⟩ : ByteArray), .int .i64 0, .bool false, .bool false] (0, 0) _ rfl (uB BK601.out) Tryz.underlying48 rfl (by kernel_rfl)) rfl ?_
  exact ⟨re_, bl⟩
 ·
  rw [if_neg c2] at H
  have c2b0 : (a0.toList == ([45] : List UInt8)) = false := beq_eq_false_iff_ne.mpr c2
  have c2b1 : (a0.toList != ([45] : List UInt8)) = true := bne_iff_ne.mpr c2
  have HC6 := Aside0.mk H
  clear H
  go_enter Tryz.func42, Tryz.ntmps42
  go_upto_region 3 with (first | ((with_reducible refine gate_dst (N := 2) rfl ?_); refine bx (N := 2) #[.int .i64 0, .string (⟨#[]⟩ : ByteArray), .int .i64 0, .bool false, .bool false] 48 ?_; intro gb601 hg w7 hbox hb; have BK601 := Aside0.mk (hbox); have GW601 := gw hg (uW HB.out); have GE601 := GW601; replace HB := cW HB hb; clear hb hbox hg))
  (try simp only [Act.put, List.setIfInBounds_toArray, List.set_cons_zero, List.set_cons_succ])
  go_cut [20] (fun v20 wc => ∃ (kq : Nat) (x20_5 : Bool), v20 = .bool x20_5 ∧ Aside0 (r09_one.j0 kq a0 x20_5 = some (r1, r2, r3, r4, r5, r6)) ∧ Aside0 (kq ≤ k) ∧ Aside0 (wc.heap[gb601]? = some (.cells #[.int .i64 0, .string (⟨#[]⟩ : ByteArray), .int .i64 0, .bool false, .bool false] 48 (0, 0))) ∧ Aside0 (Below w.heap.size w wc))
  case first =>
   have H := HC6.out
   clear HC6
   by_cases c8 : (a0.size : Int) = 0
   ·
    rw [if_pos c8] at H
    have c8b0 : ((a0.size : Int) == 0) = true := beq_iff_eq.mpr c8
    have c8b1 : ((a0.size : Int) != 0) = false := bne_eq_false_iff_eq.mpr c8
    clear c8
    (first | rw [c8b0] | (simp only [i64_w, i32_w]; rw [c8b0]) | skip)
    have H' := Aside0.mk H
    clear H
    go_wp2
    go_meet
    case rel => exact ⟨_, (true), rs_, H', ⟨by first | omega | exact Nat.le_refl _⟩, ⟨uB BK601.out⟩, ⟨bl⟩⟩
   ·
    rw [if_neg c8] at H
    have c8b0 : ((a0.size : Int) == 0) = false := beq_eq_false_iff_ne.mpr c8
    have c8b1 : ((a0.size : Int) != 0) = true := bne_iff_ne.mpr c8
    (first | rw [c8b0] | (simp only [i64_w, i32_w]; rw [c8b0]) | skip)
    obtain ⟨c9, H⟩ := gd H
    have c9b0 : decide (0 < (a0.size : Int)) = true := decide_eq_true c9
    have c9b1 : decide (0 < a0.size) = true := decide_eq_true (by omega)
    clear c9
    have H' := Aside0.mk H
    clear H
    have p10 : 0 ≤ (0 : Int) := (by omega)
    have q10 : 0 < a0.size := (by have : (0 : Int) < (a0.size : Int) := od; omega)
    have hx10 : ∀ h : 0 < a0.size, ((a0[0]'h).toNat : Int) = bt a0 0 := bt_at a0 0
    clear p10
    have qi10 : (0 < (a0.size : Int)) = True := eq_true (od)
    replace q10 := eq_true q10
    go_wp2
    go_meet
    case rel => exact ⟨_, (((bt a0 0) != 33)), rs_, H', ⟨by first | omega | exact Nat.le_refl _⟩, ⟨uB BK601.out⟩, ⟨bl⟩⟩
  case rest =>
   clear HC6
   try clear p1
   try clear q1
   try clear hx1
   try clear qi1
   try clear c2
   try clear c2b0
   try clear c2b1
   try clear p2
   try clear c4
   try clear c8
   try clear c8b0
   try clear c8b1
   try clear c9
   try clear c9b0
   try clear c9b1
   try clear p10
   try clear q10
   try clear hx10
   try clear qi10
   try clear hcz4_0
   try clear hcz4_1
   try clear hcz4_2
   try clear hcz4_3
   try clear hcz4_4
   try clear hfz4_0
   try clear hfz4_1
   try clear hfz4_2
   try clear hfz4_3
   try clear hfz4_4
   try clear p10
   try clear q10
   obtain ⟨kq, x20_5, rfl, HA, HJ5, BK601, HB⟩ := hcut
   cases kq with
   | zero => exact absurd HA.out (by simp [r09_one.j0])
   | succ kj5 =>
    have H := HA.out
    clear HA
    simp only [r09_one.j0] at H
    by_cases c11 : x20_5 = true
    ·
     subst c11
     rw [if_pos rfl] at H
     obtain ⟨⟨t602, t603⟩, A12, H⟩ := bs H
     try dsimp only at H
     by_cases c13 : t603 = 0
     ·
      rw [if_pos c13] at H
      have c13b0 : (t603 == 0) = true := beq_iff_eq.mpr c13
      have c13b1 : (t603 != 0) = false := bne_eq_false_iff_eq.mpr c13
      clear c13
      obtain ⟨c14, H⟩ := gd H
      have c14b0 : decide (0 < (t602.length : Int)) = true := decide_eq_true c14
      have c14b1 : decide (0 < t602.length) = true := decide_eq_true (by omega)
      clear c14
      simp only [Option.some.injEq, Prod.mk.injEq] at H
      obtain ⟨rfl, rfl, rfl, rfl, rfl, rfl⟩ := H
      go_wp2_with (first | (refine gL (some 23) rfl Tryz.func23 #[.string a0] ?_; (with_reducible refine (r08_Parse.calls kj5 a0 t602 t603 _ A12.out).mono ?_); rintro e w15 ⟨v604, rfl, ho0, hb⟩; refine ⟨_, rfl, ?_⟩; have HO605 := Aside0.mk (Kd.R_lower ho0 (below_size bl)); replace BK601 := cB BK601 hb; replace HB := Aside0.mk (below_step bl hb); (try clear hb); (try clear ho0); obtain ⟨Ao16, co16, eo16⟩ := Kd.R_slice HO605.out; subst eo16; have p606 : 0 ≤ (0 : Int) := (by omega); have q606 : 0 < (t602.length : Int) := od; obtain ⟨ad606, e606, hx606_0, hx606_1, hx606_2, hx606_3⟩ := at_T45 (Kd.R_reads' HO605.out).2.2 0 p606 q606; cases e606; have qi606 : (0 < t602.length) = True := eq_true (by omega); (try rw [show ((0 : Int)).toNat = 0 from rfl] at hx606_0); (try rw [show 0 * 4 = 0 from rfl] at hx606_0); (try rw [Addr.add_zero'] at hx606_0); (try rw [show ((0 : Int)).toNat = 0 from rfl] at hx606_1); (try rw [show 0 * 4 = 0 from rfl] at hx606_1); (try rw [Addr.add_zero'] at hx606_1); (try rw [show ((0 : Int)).toNat = 0 from rfl] at hx606_2); (try rw [show 0 * 4 = 0 from rfl] at hx606_2); (try rw [Addr.add_zero'] at hx606_2); (try rw [show ((0 : Int)).toNat = 0 from rfl] at hx606_3); (try rw [show 0 * 4 = 0 from rfl] at hx606_3); (try rw [Addr.add_zero'] at hx606_3); replace p606 := eq_true p606; replace q606 := eq_true q606; obtain ⟨hcz17_0, hcz17_1, hcz17_2, hcz17_3, hcz17_4, hfz17_0, hfz17_1, hfz17_2, hfz17_3, hfz17_4⟩ := z5 BK601) | ((with_reducible refine gate_store (t := 48) (p := 2) rfl ?_); refine store_event (t := 48) (p := 2) (v := ?vo_w18) (w1 := (((((w15.setCell ⟨gb601, 0, none⟩ (.int .i64 ((rd_T45 t602 0).f0))).setCell ⟨gb601, 1, none⟩ (.string ((rd_T45 t602 0).f1))).setCell ⟨gb601, 2, none⟩ (.int .i64 ((rd_T45 t602 0).f2.f0))).setCell ⟨gb601, 3, none⟩ (.bool ((rd_T45 t602 0).f2.f1))).setCell ⟨gb601, 4, none⟩ (.bool false))) ?hg ?ho ?hn ?hr ?_; (case ho => rfl); (case hg => rfl); (case hn => rfl); (case hr => first | (go_simp; done) | (go_simp; rfl)); intro w18 hw; have n0_ : Aside0 (Kd.R k45 45 w18 w.heap.size (fun _ => True) (.slice (some ad606) t602.length co16) t602) := ⟨(by rw [hw]; exact (by exact uR <| Kd.R_mono (Kd.R_far (p := ⟨gb601, 4, none⟩) (Kd.R_far (p := ⟨gb601, 3, none⟩) (Kd.R_far (p := ⟨gb601, 2, none⟩) (Kd.R_far (p := ⟨gb601, 1, none⟩) (Kd.R_far (p := ⟨gb601, 0, none⟩) (Kd.R_types HO605.out BK601.out (by decide)) (fun _ hk => hk.2) (.int .i64 ((rd_T45 t602 0).f0))) (fun _ hk => hk.2) (.string ((rd_T45 t602 0).f1))) (fun _ hk => hk.2) (.int .i64 ((rd_T45 t602 0).f2.f0))) (fun _ hk => hk.2) (.bool ((rd_T45 t602 0).f2.f1))) (fun _ hk => hk.2) (.bool false)) (fun _ hk => trivial)))⟩; have n1_ : Aside0 (w18.heap[gb601]? = some (.cells #[.int .i64 ((rd_T45 t602 0).f0), .string ((rd_T45 t602 0).f1), .int .i64 ((rd_T45 t602 0).f2.f0), .bool ((rd_T45 t602 0).f2.f1), .bool false] 48 (0, 0))) := ⟨(by rw [hw]; exact (by (with_reducible repeat (first | refine blk_drewN ?_ _ | refine blk_drew ?_ | refine blk_alloc ?_ _)); refine blk_put (cs := #[.int .i64 ((rd_T45 t602 0).f0), .string ((rd_T45 t602 0).f1), .int .i64 ((rd_T45 t602 0).f2.f0), .bool ((rd_T45 t602 0).f2.f1), .bool false]) ?_ 4 _ rfl; (with_reducible repeat (first | refine blk_drewN ?_ _ | refine blk_drew ?_ | refine blk_alloc ?_ _)); refine blk_put (cs := #[.int .i64 ((rd_T45 t602 0).f0), .string ((rd_T45 t602 0).f1), .int .i64 ((rd_T45 t602 0).f2.f0), .bool false, .bool false]) ?_ 3 _ rfl; (with_reducible repeat (first | refine blk_drewN ?_ _ | refine blk_drew ?_ | refine blk_alloc ?_ _)); refine blk_put (cs := #[.int .i64 ((rd_T45 t602 0).f0), .string ((rd_T45 t602 0).f1), .int .i64 0, .bool false, .bool false]) ?_ 2 _ rfl; (with_reducible repeat (first | refine blk_drewN ?_ _ | refine blk_drew ?_ | refine blk_alloc ?_ _)); refine blk_put (cs := #[.int .i64 ((rd_T45 t602 0).f0), .string (⟨#[]⟩ : ByteArray), .int .i64 0, .bool false, .bool false]) ?_ 1 _ rfl; (with_reducible repeat (first | refine blk_drewN ?_ _ | refine blk_drew ?_ | refine blk_alloc ?_ _)); refine blk_put (cs := #[.int .i64 0, .string (⟨#[]⟩ : ByteArray), .int .i64 0, .bool false, .bool false]) ?_ 0 _ rfl; exact uB <| BK601.out))⟩; have n2_ : Aside0 (Below w.heap.size w w18) := ⟨(by rw [hw]; exact bl)⟩; clear hw; clear HO605; clear BK601; clear HB; have HO605 := n0_; have BK601 := n1_; have HB := n2_; clear n0_ n1_ n2_))
      refine bodyPost_ret (results_ct rfl _ _ gb601 48 #[.int .i64 ((rd_T45 t602 0).f0), .string ((rd_T45 t602 0).f1), .int .i64 ((rd_T45 t602 0).f2.f0), .bool ((rd_T45 t602 0).f2.f1), .bool false] (0, 0) _ rfl (uB BK601.out) Tryz.underlying48 rfl (by kernel_rfl)) rfl ?_
      exact ⟨re_, bl⟩
     ·
      rw [if_neg c13] at H
      have c13b0 : (t603 == 0) = false := beq_eq_false_iff_ne.mpr c13
      have c13b1 : (t603 != 0) = true := bne_iff_ne.mpr c13
      simp only [Option.some.injEq, Prod.mk.injEq] at H
      obtain ⟨rfl, rfl, rfl, rfl, rfl, rfl⟩ := H
      go_wp2_with (first | (refine gL (some 23) rfl Tryz.func23 #[.string a0] ?_; (with_reducible refine (r08_Parse.calls kj5 a0 t602 t603 _ A12.out).mono ?_); rintro e w19 ⟨v604, rfl, ho0, hb⟩; refine ⟨_, rfl, ?_⟩; have HO605 := Aside0.mk (Kd.R_lower ho0 (below_size bl)); replace BK601 := cB BK601 hb; replace HB := Aside0.mk (below_step bl hb); (try clear hb); (try clear ho0); obtain ⟨hcz20_0, hcz20_1, hcz20_2, hcz20_3, hcz20_4, hfz20_0, hfz20_1, hfz20_2, hfz20_3, hfz20_4⟩ := z5 BK601) | ((with_reducible refine gate_store (t := 48) (p := 2) rfl ?_); refine store_event (t := 48) (p := 2) (v := ?vo_w21) (w1 := (((((w19.setCell ⟨gb601, 0, none⟩ (.int .i64 0)).setCell ⟨gb601, 1, none⟩ (.string (⟨#[]⟩ : ByteArray))).setCell ⟨gb601, 2, none⟩ (.int .i64 0)).setCell ⟨gb601, 3, none⟩ (.bool false)).setCell ⟨gb601, 4, none⟩ (.bool false))) ?hg ?ho ?hn ?hr ?_; (case ho => rfl); (case hg => rfl); (case hn => rfl); (case hr => first | (go_simp; done) | (go_simp; rfl)); intro w21 hw; have n0_ : Aside0 (Kd.R k45 45 w21 w.heap.size (fun _ => True) v604 t602) := ⟨(by rw [hw]; exact (by exact uR <| Kd.R_mono (Kd.R_far (p := ⟨gb601, 4, none⟩) (Kd.R_far (p := ⟨gb601, 3, none⟩) (Kd.R_far (p := ⟨gb601, 2, none⟩) (Kd.R_far (p := ⟨gb601, 1, none⟩) (Kd.R_far (p := ⟨gb601, 0, none⟩) (Kd.R_types HO605.out BK601.out (by decide)) (fun _ hk => hk.2) (.int .i64 0)) (fun _ hk => hk.2) (.string (⟨#[]⟩ : ByteArray))) (fun _ hk => hk.2) (.int .i64 0)) (fun _ hk => hk.2) (.bool false)) (fun _ hk => hk.2) (.bool false)) (fun _ hk => trivial)))⟩; have n1_ : Aside0 (w21.heap[gb601]? = some (.cells #[.int .i64 0, .string (⟨#[]⟩ : ByteArray), .int .i64 0, .bool false, .bool false] 48 (0, 0))) := ⟨(by rw [hw]; exact (by (with_reducible repeat (first | refine blk_drewN ?_ _ | refine blk_drew ?_ | refine blk_alloc ?_ _)); refine blk_put (cs := #[.int .i64 0, .string (⟨#[]⟩ : ByteArray), .int .i64 0, .bool false, .bool false]) ?_ 4 _ rfl; (with_reducible repeat (first | refine blk_drewN ?_ _ | refine blk_drew ?_ | refine blk_alloc ?_ _)); refine blk_put (cs := #[.int .i64 0, .string (⟨#[]⟩ : ByteArray), .int .i64 0, .bool false, .bool false]) ?_ 3 _ rfl; (with_reducible repeat (first | refine blk_drewN ?_ _ | refine blk_drew ?_ | refine blk_alloc ?_ _)); refine blk_put (cs := #[.int .i64 0, .string (⟨#[]⟩ : ByteArray), .int .i64 0, .bool false, .bool false]) ?_ 2 _ rfl; (with_reducible repeat (first | refine blk_drewN ?_ _ | refine blk_drew ?_ | refine blk_alloc ?_ _)); refine blk_put (cs := #[.int .i64 0, .string (⟨#[]⟩ : ByteArray), .int .i64 0, .bool false, .bool false]) ?_ 1 _ rfl; (with_reducible repeat (first | refine blk_drewN ?_ _ | refine blk_drew ?_ | refine blk_alloc ?_ _)); refine blk_put (cs := #[.int .i64 0, .string (⟨#[]⟩ : ByteArray), .int .i64 0, .bool false, .bool false]) ?_ 0 _ rfl; exact uB <| BK601.out))⟩; have n2_ : Aside0 (Below w.heap.size w w21) := ⟨(by rw [hw]; exact bl)⟩; clear hw; clear HO605; clear BK601; clear HB; have HO605 := n0_; have BK601 := n1_; have HB := n2_; clear n0_ n1_ n2_))
      refine bodyPost_ret (results_ct rfl _ _ gb601 48 #[.int .i64 0, .string (⟨#[]⟩ : ByteArray), .int .i64 0, .bool false, .bool false] (0, 0) _ rfl (uB BK601.out) Tryz.underlying48 rfl (by kernel_rfl)) rfl ?_
      exact ⟨re_, bl⟩
    ·
     replace c11 := Bool.eq_false_iff.mpr c11
     subst c11
     rw [if_neg (show ¬ (false = true) by decide)] at H
     by_cases c22 : 1 ≤ (a0.size : Int)
     ·
      rw [if_pos c22] at H
      have c22b0 := eq_true c22
      have c22b1 : decide (1 ≤ (a0.size : Int)) = true := decide_eq_true c22
      clear c22
      obtain ⟨t607, A23, H⟩ := bs H
      try dsimp only at H
      by_cases c24 : (t607.length : Int) = 2
      ·
       rw [if_pos c24] at H
       have c24b0 : ((t607.length : Int) == 2) = true := beq_iff_eq.mpr c24
       have c24b1 : ((t607.length : Int) != 2) = false := bne_eq_false_iff_eq.mpr c24
       clear c24
       obtain ⟨c25, H⟩ := gd H
       have c25b0 : decide (0 < (t607.length : Int)) = true := decide_eq_true c25
       have c25b1 : decide (0 < t607.length) = true := decide_eq_true (by omega)
       clear c25
       obtain ⟨⟨t611, t612⟩, A26, H⟩ := bs H
       try dsimp only at H
       by_cases c27 : t612 = 0
       ·
        rw [if_pos c27] at H
        have c27b0 : (t612 == 0) = true := beq_iff_eq.mpr c27
        have c27b1 : (t612 != 0) = false := bne_eq_false_iff_eq.mpr c27
        clear c27
        obtain ⟨c28, H⟩ := gd H
        have c28b0 : decide (1 < (t607.length : Int)) = true := decide_eq_true c28
        have c28b1 : decide (1 < t607.length) = true := decide_eq_true (by omega)
        clear c28
        obtain ⟨⟨t614, t615⟩, A29, H⟩ := bs H
        try dsimp only at H
        by_cases c30 : t615 = 0
        ·
         rw [if_pos c30] at H
         have c30b0 : (t615 == 0) = true := beq_iff_eq.mpr c30
         have c30b1 : (t615 != 0) = false := bne_eq_false_iff_eq.mpr c30
         clear c30
         obtain ⟨t618, A31, H⟩ := bs H
         try dsimp only at H
         by_cases c32 : t618.toList = (rdOf ByteArray.empty t607 1).toList
         ·
          rw [if_pos c32] at H
          have c32b0 : (t618.toList == (rdOf ByteArray.empty t607 1).toList) = true := beq_iff_eq.mpr c32
          have c32b1 : (t618.toList != (rdOf ByteArray.empty t607 1).toList) = false := bne_eq_false_iff_eq.mpr c32
          clear c32
          simp only [Option.some.injEq, Prod.mk.injEq] at H
          obtain ⟨rfl, rfl, rfl, rfl, rfl, rfl⟩ := H
          try go_wp2_with (first | (refine gL (some 36) rfl Tryz.func41 #[.string (a0.extract 1 a0.size), .int .u8 124] ?_; (with_reducible refine (r02_Split.calls kj5 (a0.extract 1 a0.size) 124 t607 _ A23.out).mono ?_); rintro e w33 ⟨v608, rfl, ho0, hb⟩; refine ⟨_, rfl, ?_⟩; have HO609 := Aside0.mk (Kd.R_lower ho0 (below_size bl)); replace BK601 := cB BK601 hb; replace HB := Aside0.mk (below_step bl hb); (try clear hb); (try clear ho0); obtain ⟨Ao34, co34, eo34⟩ := Kd.R_slice HO609.out; subst eo34; have p610 : 0 ≤ (0 : Int) := (by omega); have q610 : 0 < (t607.length : Int) := od; obtain ⟨ad610, e610, hx610_0⟩ := Kd.at_string (Kd.R_reads' HO609.out).2.2 0 p610 q610; cases e610; have qi610 : (0 < t607.length) = True := eq_true (by omega); (try rw [show ((0 : Int)).toNat = 0 from rfl] at hx610_0); (try rw [Addr.add_zero'] at hx610_0); replace p610 := eq_true p610; replace q610 := eq_true q610) | (refine gL (some 45) rfl Tryz.func60 #[.string (rdOf ByteArray.empty t607 0)] ?_; (with_reducible refine (r01_Read.calls kj5 (rdOf ByteArray.empty t607 0) t611 t612 _ A26.out).mono ?_); rintro e w' ⟨rfl, ⟨nd, rfl⟩⟩; refine ⟨_, rfl, ?_⟩; (try (rw [drewN_self w33]; generalize hq_ : World.drewN w33 _ = w33; have n0_ : Aside0 (Kd.R Kd.string 9 w33 w.heap.size (fun _ => True) (.slice (some ad610) t607.length co34) t607) := ⟨by rw [← hq_]; exact (uR HO609.out)⟩; have n1_ : Aside0 (w33.heap[gb601]? = some (.cells #[.int .i64 0, .string (⟨#[]⟩ : ByteArray), .int .i64 0, .bool false, .bool false] 48 (0, 0))) := ⟨by rw [← hq_]; exact (uB BK601.out)⟩; have n2_ : Aside0 (Below w.heap.size w w33) := ⟨by rw [← hq_]; exact bl⟩; clear HO609 BK601 HB hq_; have HO609 := n0_; have BK601 := n1_; have HB := n2_; clear n0_ n1_ n2_)); have p613 : 0 ≤ (1 : Int) := (by omega); have q613 : 1 < (t607.length : Int) := od; obtain ⟨ad613, e613, hx613_0⟩ := Kd.at_string (Kd.R_reads' HO609.out).2.2 1 p613 q613; obtain rfl : ad610 = ad613 := (by injection e613); (try simp only [show (1 : Int).toNat = 1 from rfl, Nat.reduceMul, Nat.reduceEqDiff, Go.Addr.add, ↓reduceIte] at hx613_0); have qi613 : (1 < t607.length) = True := eq_true (by omega); (try rw [show ((1 : Int)).toNat = 1 from rfl] at hx613_0); replace p613 := eq_true p613; replace q613 := eq_true q613) | (refine gL (some 56) rfl Tryz.func61 #[.string (rdOf ByteArray.empty t607 1)] ?_; (with_reducible refine (r03_Parse.calls kj5 (rdOf ByteArray.empty t607 1) t614 t615 _ A29.out).mono ?_); rintro e w35 ⟨v616, rfl, ho0, hb⟩; refine ⟨_, rfl, ?_⟩; replace HO609 := cR HO609 hb; have HO617 := Aside0.mk (Kd.R_lower ho0 (below_size bl)); replace BK601 := cB BK601 hb; replace HB := Aside0.mk (below_step bl hb); (try clear hb); (try clear ho0)))
          replace HO609 := Aside0.mk (Kd.R_drew HO609.out)
          replace HO617 := Aside0.mk (Kd.R_drew HO617.out)
          replace BK601 := Aside0.mk (blk_drew BK601.out)
          replace HB := Aside0.mk (below_drew1 HB.out)
          have p619 : 0 ≤ (1 : Int) := (by omega)
          have q619 : 1 < (t607.length : Int) := od
          obtain ⟨ad619, e619, hx619_0⟩ := Kd.at_string (Kd.R_reads' HO609.out).2.2 1 p619 q619
          obtain rfl : ad610 = ad619 := (by injection e619)
          (try simp only [show (1 : Int).toNat = 1 from rfl, Nat.reduceMul, Nat.reduceEqDiff, Go.Addr.add, ↓reduceIte] at hx619_0)
          have qi619 : (1 < t607.length) = True := eq_true (by omega)
          (try rw [show ((1 : Int)).toNat = 1 from rfl] at hx619_0)
          replace p619 := eq_true p619
          replace q619 := eq_true q619
          obtain ⟨Ao37, co37, eo37⟩ := Kd.R_slice HO617.out
          (first | subst eo37 | (injection eo37 with f1_ f2_ f3_; have f4_ := f1_.symm; have f5_ := f3_.symm; clear f1_ f2_ f3_; subst f4_; subst f5_))
          refine start_ (n := 6) (S := fun w' => w'.cell? ⟨ad610.block, ad610.off + 1, none⟩ = some (.string (rdOf ByteArray.empty t607 1))) (ds := []) _ (by kernel_rfl) rfl rfl (hx619_0) (fun hHeld => ?_)
          generalize w35.drew = w36 at HO609 HO617 BK601 HB hx619_0 hHeld ⊢
          refine pure_ (i := 0) (N := some 63) (v := ?_) (a' := ?_) #[true, false, false, false, false, false] rfl rfl (by kernel_rfl) (fun _ _ _ h => h) (Or.inl ⟨by rfl, ?_⟩) ?_ ?_
          rotate_left
          ·
           intro w'
           go_simp
           with_reducible rfl
          rotate_left
          ·
           simp only [Act.put, List.setIfInBounds_toArray, List.set_cons_zero, List.set_cons_succ, i64_w, i32_w]
           rfl
          refine pure_ (i := 2) (N := some 65) (v := ?_) (a' := ?_) #[true, false, true, false, false, false] rfl rfl (by kernel_rfl) (fun _ _ _ h => h) (Or.inl ⟨by rfl, ?_⟩) ?_ ?_
          rotate_left
          ·
           intro w'
           go_simp
           with_reducible rfl
          rotate_left
          ·
           simp only [Act.put, List.setIfInBounds_toArray, List.set_cons_zero, List.set_cons_succ, i64_w, i32_w]
           rfl
          refine pure_ (i := 3) (N := some 66) (v := ?_) (a' := ?_) #[true, false, true, true, false, false] rfl rfl (by kernel_rfl) (fun _ _ _ h => h) (Or.inl ⟨by rfl, ?_⟩) ?_ ?_
          rotate_left
          ·
           intro w'
           go_simp
           with_reducible rfl
          rotate_left
          ·
           simp only [Act.put, List.setIfInBounds_toArray, List.set_cons_zero, List.set_cons_succ, i64_w, i32_w]
           rfl
          refine take_ (i := 4) (N := some 67) (v := ?_) (a' := ?_) #[true, false, true, true, true, false] rfl rfl (by kernel_rfl) (fun _ _ _ h => h) (Or.inl ⟨by rfl, ?_⟩) hHeld ?_ ?_
          rotate_left
          ·
           intro w' s0
           go_simp
           with_reducible rfl
          rotate_left
          ·
           simp only [Act.put, List.setIfInBounds_toArray, List.set_cons_zero, List.set_cons_succ, i64_w, i32_w]
           rfl
          refine one_ (i := 1) (N := some 64) #[true, true, true, true, true, false] rfl rfl (by kernel_rfl) (by decide) (fun K hK => ?_)
          refine gS Tryz.func62 #[.slice Ao37 t614.length co37] ?_
          with_reducible refine (r03_Text.calls kj5 _ _ t614 t618 _ ?side1 ?side2 A31.out).mono ?_
          (case side1 => exact uC <| (Kd.R_reads' HO617.out).2.2)
          (case side2 => exact (Kd.R_reads' HO617.out).2.1)
          rintro e w38 ⟨rfl, hb⟩
          have HS0_ := (hb.cell (World.block_lt_of_cell? _ _ (hHeld))).trans (hHeld)
          refine ⟨_, rfl, ?_⟩
          replace HO609 := cR HO609 hb
          replace HO617 := cR HO617 hb
          replace BK601 := cB BK601 hb
          replace HB := Aside0.mk (below_step bl hb)
          (try clear hb)
          refine hK.out _ _ (HS0_) (fun hHeld => ?_)
          clear hK K
          refine norm_ (a' := ?_) ?_ ?_
          rotate_left
          ·
           show Act.put _ (some 64) _ = _
           simp only [Act.put, List.setIfInBounds_toArray, List.set_cons_zero, List.set_cons_succ, i64_w, i32_w]
           rfl
          refine pure_ (i := 5) (N := some 68) (v := ?_) (a' := ?_) #[true, true, true, true, true, true] rfl rfl (by kernel_rfl) (fun _ _ _ h => h) (Or.inl ⟨by rfl, ?_⟩) ?_ ?_
          rotate_left
          ·
           intro w'
           go_simp
           with_reducible rfl
          rotate_left
          ·
           simp only [Act.put, List.setIfInBounds_toArray, List.set_cons_zero, List.set_cons_succ, i64_w, i32_w]
           rfl
          refine done_ (by kernel_rfl) ?_
          have p620 : 0 ≤ (1 : Int) := (by omega)
          have q620 : 1 < (t607.length : Int) := od
          obtain ⟨ad620, e620, hx620_0⟩ := Kd.at_string (Kd.R_reads' HO609.out).2.2 1 p620 q620
          obtain rfl : ad610 = ad620 := (by injection e620)
          (try simp only [show (1 : Int).toNat = 1 from rfl, Nat.reduceMul, Nat.reduceEqDiff, Go.Addr.add, ↓reduceIte] at hx620_0)
          have qi620 : (1 < t607.length) = True := eq_true (by omega)
          (try rw [show ((1 : Int)).toNat = 1 from rfl] at hx620_0)
          replace p620 := eq_true p620
          replace q620 := eq_true q620
          obtain ⟨hcz39_0, hcz39_1, hcz39_2, hcz39_3, hcz39_4, hfz39_0, hfz39_1, hfz39_2, hfz39_3, hfz39_4⟩ := z5 BK601
          try go_wp2_with (first | ((with_reducible refine gate_store (t := 48) (p := 2) rfl ?_); refine store_event (t := 48) (p := 2) (v := ?vo_w40) (w1 := (((((w38.setCell ⟨gb601, 0, none⟩ (.int .i64 t611)).setCell ⟨gb601, 1, none⟩ (.string (rdOf ByteArray.empty t607 1))).setCell ⟨gb601, 2, none⟩ (.int .i64 0)).setCell ⟨gb601, 3, none⟩ (.bool false)).setCell ⟨gb601, 4, none⟩ (.bool true))) ?hg ?ho ?hn ?hr ?_; (case ho => rfl); (case hg => rfl); (case hn => rfl); (case hr => first | (go_simp; done) | (go_simp; rfl)); intro w40 hw; have n0_ : Aside0 (Kd.R Kd.string 9 w40 w.heap.size (fun _ => True) (.slice (some ad610) t607.length co34) t607) := ⟨(by rw [hw]; exact (by exact uR <| Kd.R_mono (Kd.R_far (p := ⟨gb601, 4, none⟩) (Kd.R_far (p := ⟨gb601, 3, none⟩) (Kd.R_far (p := ⟨gb601, 2, none⟩) (Kd.R_far (p := ⟨gb601, 1, none⟩) (Kd.R_far (p := ⟨gb601, 0, none⟩) (Kd.R_types HO609.out BK601.out (by decide)) (fun _ hk => hk.2) (.int .i64 t611)) (fun _ hk => hk.2) (.string (rdOf ByteArray.empty t607 1))) (fun _ hk => hk.2) (.int .i64 0)) (fun _ hk => hk.2) (.bool false)) (fun _ hk => hk.2) (.bool true)) (fun _ hk => trivial)))⟩; have n1_ : Aside0 (Kd.R k98 98 w40 w.heap.size (fun _ => True) (.slice Ao37 t614.length co37) t614) := ⟨(by rw [hw]; exact (by exact uR <| Kd.R_mono (Kd.R_far (p := ⟨gb601, 4, none⟩) (Kd.R_far (p := ⟨gb601, 3, none⟩) (Kd.R_far (p := ⟨gb601, 2, none⟩) (Kd.R_far (p := ⟨gb601, 1, none⟩) (Kd.R_far (p := ⟨gb601, 0, none⟩) (Kd.R_types HO617.out BK601.out (by decide)) (fun _ hk => hk.2) (.int .i64 t611)) (fun _ hk => hk.2) (.string (rdOf ByteArray.empty t607 1))) (fun _ hk => hk.2) (.int .i64 0)) (fun _ hk => hk.2) (.bool false)) (fun _ hk => hk.2) (.bool true)) (fun _ hk => trivial)))⟩; have n2_ : Aside0 (w40.heap[gb601]? = some (.cells #[.int .i64 t611, .string (rdOf ByteArray.empty t607 1), .int .i64 0, .bool false, .bool true] 48 (0, 0))) := ⟨(by rw [hw]; exact (by (with_reducible repeat (first | refine blk_drewN ?_ _ | refine blk_drew ?_ | refine blk_alloc ?_ _)); refine blk_put (cs := #[.int .i64 t611, .string (rdOf ByteArray.empty t607 1), .int .i64 0, .bool false, .bool false]) ?_ 4 _ rfl; (with_reducible repeat (first | refine blk_drewN ?_ _ | refine blk_drew ?_ | refine blk_alloc ?_ _)); refine blk_put (cs := #[.int .i64 t611, .string (rdOf ByteArray.empty t607 1), .int .i64 0, .bool false, .bool false]) ?_ 3 _ rfl; (with_reducible repeat (first | refine blk_drewN ?_ _ | refine blk_drew ?_ | refine blk_alloc ?_ _)); refine blk_put (cs := #[.int .i64 t611, .string (rdOf ByteArray.empty t607 1), .int .i64 0, .bool false, .bool false]) ?_ 2 _ rfl; (with_reducible repeat (first | refine blk_drewN ?_ _ | refine blk_drew ?_ | refine blk_alloc ?_ _)); refine blk_put (cs := #[.int .i64 t611, .string (⟨#[]⟩ : ByteArray), .int .i64 0, .bool false, .bool false]) ?_ 1 _ rfl; (with_reducible repeat (first | refine blk_drewN ?_ _ | refine blk_drew ?_ | refine blk_alloc ?_ _)); refine blk_put (cs := #[.int .i64 0, .string (⟨#[]⟩ : ByteArray), .int .i64 0, .bool false, .bool false]) ?_ 0 _ rfl; exact uB <| BK601.out))⟩; have n3_ : Aside0 (Below w.heap.size w w40) := ⟨(by rw [hw]; exact bl)⟩; clear hw; clear HO609; clear HO617; clear BK601; clear HB; have HO609 := n0_; have HO617 := n1_; have BK601 := n2_; have HB := n3_; clear n0_ n1_ n2_ n3_))
          refine bodyPost_ret (results_ct rfl _ _ gb601 48 #[.int .i64 t611, .string (rdOf ByteArray.empty t607 1), .int .i64 0, .bool false, .bool true] (0, 0) _ rfl (uB BK601.out) Tryz.underlying48 rfl (by kernel_rfl)) rfl ?_
          exact ⟨re_, bl⟩
         ·
          rw [if_neg c32] at H
          have c32b0 : (t618.toList == (rdOf ByteArray.empty t607 1).toList) = false := beq_eq_false_iff_ne.mpr c32
          have c32b1 : (t618.toList != (rdOf ByteArray.empty t607 1).toList) = true := bne_iff_ne.mpr c32
          simp only [Option.some.injEq, Prod.mk.injEq] at H
          obtain ⟨rfl, rfl, rfl, rfl, rfl, rfl⟩ := H
          try go_wp2_with (first | (refine gL (some 36) rfl Tryz.func41 #[.string (a0.extract 1 a0.size), .int .u8 124] ?_; (with_reducible refine (r02_Split.calls kj5 (a0.extract 1 a0.size) 124 t607 _ A23.out).mono ?_); rintro e w41 ⟨v608, rfl, ho0, hb⟩; refine ⟨_, rfl, ?_⟩; have HO609 := Aside0.mk (Kd.R_lower ho0 (below_size bl)); replace BK601 := cB BK601 hb; replace HB := Aside0.mk (below_step bl hb); (try clear hb); (try clear ho0); obtain ⟨Ao42, co42, eo42⟩ := Kd.R_slice HO609.out; subst eo42; have p610 : 0 ≤ (0 : Int) := (by omega); have q610 : 0 < (t607.length : Int) := od; obtain ⟨ad610, e610, hx610_0⟩ := Kd.at_string (Kd.R_reads' HO609.out).2.2 0 p610 q610; cases e610; have qi610 : (0 < t607.length) = True := eq_true (by omega); (try rw [show ((0 : Int)).toNat = 0 from rfl] at hx610_0); (try rw [Addr.add_zero'] at hx610_0); replace p610 := eq_true p610; replace q610 := eq_true q610) | (refine gL (some 45) rfl Tryz.func60 #[.string (rdOf ByteArray.empty t607 0)] ?_; (with_reducible refine (r01_Read.calls kj5 (rdOf ByteArray.empty t607 0) t611 t612 _ A26.out).mono ?_); rintro e w' ⟨rfl, ⟨nd, rfl⟩⟩; refine ⟨_, rfl, ?_⟩; (try (rw [drewN_self w41]; generalize hq_ : World.drewN w41 _ = w41; have n0_ : Aside0 (Kd.R Kd.string 9 w41 w.heap.size (fun _ => True) (.slice (some ad610) t607.length co42) t607) := ⟨by rw [← hq_]; exact (uR HO609.out)⟩; have n1_ : Aside0 (w41.heap[gb601]? = some (.cells #[.int .i64 0, .string (⟨#[]⟩ : ByteArray), .int .i64 0, .bool false, .bool false] 48 (0, 0))) := ⟨by rw [← hq_]; exact (uB BK601.out)⟩; have n2_ : Aside0 (Below w.heap.size w w41) := ⟨by rw [← hq_]; exact bl⟩; clear HO609 BK601 HB hq_; have HO609 := n0_; have BK601 := n1_; have HB := n2_; clear n0_ n1_ n2_)); have p613 : 0 ≤ (1 : Int) := (by omega); have q613 : 1 < (t607.length : Int) := od; obtain ⟨ad613, e613, hx613_0⟩ := Kd.at_string (Kd.R_reads' HO609.out).2.2 1 p613 q613; obtain rfl : ad610 = ad613 := (by injection e613); (try simp only [show (1 : Int).toNat = 1 from rfl, Nat.reduceMul, Nat.reduceEqDiff, Go.Addr.add, ↓reduceIte] at hx613_0); have qi613 : (1 < t607.length) = True := eq_true (by omega); (try rw [show ((1 : Int)).toNat = 1 from rfl] at hx613_0); replace p613 := eq_true p613; replace q613 := eq_true q613) | (refine gL (some 56) rfl Tryz.func61 #[.string (rdOf ByteArray.empty t607 1)] ?_; (with_reducible refine (r03_Parse.calls kj5 (rdOf ByteArray.empty t607 1) t614 t615 _ A29.out).mono ?_); rintro e w43 ⟨v616, rfl, ho0, hb⟩; refine ⟨_, rfl, ?_⟩; replace HO609 := cR HO609 hb; have HO617 := Aside0.mk (Kd.R_lower ho0 (below_size bl)); replace BK601 := cB BK601 hb; replace HB := Aside0.mk (below_step bl hb); (try clear hb); (try clear ho0)))
          replace HO609 := Aside0.mk (Kd.R_drew HO609.out)
          replace HO617 := Aside0.mk (Kd.R_drew HO617.out)
          replace BK601 := Aside0.mk (blk_drew BK601.out)
          replace HB := Aside0.mk (below_drew1 HB.out)
          have p619 : 0 ≤ (1 : Int) := (by omega)
          have q619 : 1 < (t607.length : Int) := od
          obtain ⟨ad619, e619, hx619_0⟩ := Kd.at_string (Kd.R_reads' HO609.out).2.2 1 p619 q619
          obtain rfl : ad610 = ad619 := (by injection e619)
          (try simp only [show (1 : Int).toNat = 1 from rfl, Nat.reduceMul, Nat.reduceEqDiff, Go.Addr.add, ↓reduceIte] at hx619_0)
          have qi619 : (1 < t607.length) = True := eq_true (by omega)
          (try rw [show ((1 : Int)).toNat = 1 from rfl] at hx619_0)
          replace p619 := eq_true p619
          replace q619 := eq_true q619
          obtain ⟨Ao45, co45, eo45⟩ := Kd.R_slice HO617.out
          (first | subst eo45 | (injection eo45 with f1_ f2_ f3_; have f4_ := f1_.symm; have f5_ := f3_.symm; clear f1_ f2_ f3_; subst f4_; subst f5_))
          refine start_ (n := 6) (S := fun w' => w'.cell? ⟨ad610.block, ad610.off + 1, none⟩ = some (.string (rdOf ByteArray.empty t607 1))) (ds := []) _ (by kernel_rfl) rfl rfl (hx619_0) (fun hHeld => ?_)
          generalize w43.drew = w44 at HO609 HO617 BK601 HB hx619_0 hHeld ⊢
          refine pure_ (i := 0) (N := some 63) (v := ?_) (a' := ?_) #[true, false, false, false, false, false] rfl rfl (by kernel_rfl) (fun _ _ _ h => h) (Or.inl ⟨by rfl, ?_⟩) ?_ ?_
          rotate_left
          ·
           intro w'
           go_simp
           with_reducible rfl
          rotate_left
          ·
           simp only [Act.put, List.setIfInBounds_toArray, List.set_cons_zero, List.set_cons_succ, i64_w, i32_w]
           rfl
          refine pure_ (i := 2) (N := some 65) (v := ?_) (a' := ?_) #[true, false, true, false, false, false] rfl rfl (by kernel_rfl) (fun _ _ _ h => h) (Or.inl ⟨by rfl, ?_⟩) ?_ ?_
          rotate_left
          ·
           intro w'
           go_simp
           with_reducible rfl
          rotate_left
          ·
           simp only [Act.put, List.setIfInBounds_toArray, List.set_cons_zero, List.set_cons_succ, i64_w, i32_w]
           rfl
          refine pure_ (i := 3) (N := some 66) (v := ?_) (a' := ?_) #[true, false, true, true, false, false] rfl rfl (by kernel_rfl) (fun _ _ _ h => h) (Or.inl ⟨by rfl, ?_⟩) ?_ ?_
          rotate_left
          ·
           intro w'
           go_simp
           with_reducible rfl
          rotate_left
          ·
           simp only [Act.put, List.setIfInBounds_toArray, List.set_cons_zero, List.set_cons_succ, i64_w, i32_w]
           rfl
          refine take_ (i := 4) (N := some 67) (v := ?_) (a' := ?_) #[true, false, true, true, true, false] rfl rfl (by kernel_rfl) (fun _ _ _ h => h) (Or.inl ⟨by rfl, ?_⟩) hHeld ?_ ?_
          rotate_left
          ·
           intro w' s0
           go_simp
           with_reducible rfl
          rotate_left
          ·
           simp only [Act.put, List.setIfInBounds_toArray, List.set_cons_zero, List.set_cons_succ, i64_w, i32_w]
           rfl
          refine one_ (i := 1) (N := some 64) #[true, true, true, true, true, false] rfl rfl (by kernel_rfl) (by decide) (fun K hK => ?_)
          refine gS Tryz.func62 #[.slice Ao45 t614.length co45] ?_
          with_reducible refine (r03_Text.calls kj5 _ _ t614 t618 _ ?side1 ?side2 A31.out).mono ?_
          (case side1 => exact uC <| (Kd.R_reads' HO617.out).2.2)
          (case side2 => exact (Kd.R_reads' HO617.out).2.1)
          rintro e w46 ⟨rfl, hb⟩
          have HS0_ := (hb.cell (World.block_lt_of_cell? _ _ (hHeld))).trans (hHeld)
          refine ⟨_, rfl, ?_⟩
          replace HO609 := cR HO609 hb
          replace HO617 := cR HO617 hb
          replace BK601 := cB BK601 hb
          replace HB := Aside0.mk (below_step bl hb)
          (try clear hb)
          refine hK.out _ _ (HS0_) (fun hHeld => ?_)
          clear hK K
          refine norm_ (a' := ?_) ?_ ?_
          rotate_left
          ·
           show Act.put _ (some 64) _ = _
           simp only [Act.put, List.setIfInBounds_toArray, List.set_cons_zero, List.set_cons_succ, i64_w, i32_w]
           rfl
          refine pure_ (i := 5) (N := some 68) (v := ?_) (a' := ?_) #[true, true, true, true, true, true] rfl rfl (by kernel_rfl) (fun _ _ _ h => h) (Or.inl ⟨by rfl, ?_⟩) ?_ ?_
          rotate_left
          ·
           intro w'
           go_simp
           with_reducible rfl
          rotate_left
          ·
           simp only [Act.put, List.setIfInBounds_toArray, List.set_cons_zero, List.set_cons_succ, i64_w, i32_w]
           rfl
          refine done_ (by kernel_rfl) ?_
          obtain ⟨hcz47_0, hcz47_1, hcz47_2, hcz47_3, hcz47_4, hfz47_0, hfz47_1, hfz47_2, hfz47_3, hfz47_4⟩ := z5 BK601
          try go_wp2_with (first | ((with_reducible refine gate_store (t := 48) (p := 2) rfl ?_); refine store_event (t := 48) (p := 2) (v := ?vo_w48) (w1 := (((((w46.setCell ⟨gb601, 0, none⟩ (.int .i64 0)).setCell ⟨gb601, 1, none⟩ (.string (⟨#[]⟩ : ByteArray))).setCell ⟨gb601, 2, none⟩ (.int .i64 0)).setCell ⟨gb601, 3, none⟩ (.bool false)).setCell ⟨gb601, 4, none⟩ (.bool false))) ?hg ?ho ?hn ?hr ?_; (case ho => rfl); (case hg => rfl); (case hn => rfl); (case hr => first | (go_simp; done) | (go_simp; rfl)); intro w48 hw; have n0_ : Aside0 (Kd.R Kd.string 9 w48 w.heap.size (fun _ => True) (.slice (some ad610) t607.length co42) t607) := ⟨(by rw [hw]; exact (by exact uR <| Kd.R_mono (Kd.R_far (p := ⟨gb601, 4, none⟩) (Kd.R_far (p := ⟨gb601, 3, none⟩) (Kd.R_far (p := ⟨gb601, 2, none⟩) (Kd.R_far (p := ⟨gb601, 1, none⟩) (Kd.R_far (p := ⟨gb601, 0, none⟩) (Kd.R_types HO609.out BK601.out (by decide)) (fun _ hk => hk.2) (.int .i64 0)) (fun _ hk => hk.2) (.string (⟨#[]⟩ : ByteArray))) (fun _ hk => hk.2) (.int .i64 0)) (fun _ hk => hk.2) (.bool false)) (fun _ hk => hk.2) (.bool false)) (fun _ hk => trivial)))⟩; have n1_ : Aside0 (Kd.R k98 98 w48 w.heap.size (fun _ => True) (.slice Ao45 t614.length co45) t614) := ⟨(by rw [hw]; exact (by exact uR <| Kd.R_mono (Kd.R_far (p := ⟨gb601, 4, none⟩) (Kd.R_far (p := ⟨gb601, 3, none⟩) (Kd.R_far (p := ⟨gb601, 2, none⟩) (Kd.R_far (p := ⟨gb601, 1, none⟩) (Kd.R_far (p := ⟨gb601, 0, none⟩) (Kd.R_types HO617.out BK601.out (by decide)) (fun _ hk => hk.2) (.int .i64 0)) (fun _ hk => hk.2) (.string (⟨#[]⟩ : ByteArray))) (fun _ hk => hk.2) (.int .i64 0)) (fun _ hk => hk.2) (.bool false)) (fun _ hk => hk.2) (.bool false)) (fun _ hk => trivial)))⟩; have n2_ : Aside0 (w48.heap[gb601]? = some (.cells #[.int .i64 0, .string (⟨#[]⟩ : ByteArray), .int .i64 0, .bool false, .bool false] 48 (0, 0))) := ⟨(by rw [hw]; exact (by (with_reducible repeat (first | refine blk_drewN ?_ _ | refine blk_drew ?_ | refine blk_alloc ?_ _)); refine blk_put (cs := #[.int .i64 0, .string (⟨#[]⟩ : ByteArray), .int .i64 0, .bool false, .bool false]) ?_ 4 _ rfl; (with_reducible repeat (first | refine blk_drewN ?_ _ | refine blk_drew ?_ | refine blk_alloc ?_ _)); refine blk_put (cs := #[.int .i64 0, .string (⟨#[]⟩ : ByteArray), .int .i64 0, .bool false, .bool false]) ?_ 3 _ rfl; (with_reducible repeat (first | refine blk_drewN ?_ _ | refine blk_drew ?_ | refine blk_alloc ?_ _)); refine blk_put (cs := #[.int .i64 0, .string (⟨#[]⟩ : ByteArray), .int .i64 0, .bool false, .bool false]) ?_ 2 _ rfl; (with_reducible repeat (first | refine blk_drewN ?_ _ | refine blk_drew ?_ | refine blk_alloc ?_ _)); refine blk_put (cs := #[.int .i64 0, .string (⟨#[]⟩ : ByteArray), .int .i64 0, .bool false, .bool false]) ?_ 1 _ rfl; (with_reducible repeat (first | refine blk_drewN ?_ _ | refine blk_drew ?_ | refine blk_alloc ?_ _)); refine blk_put (cs := #[.int .i64 0, .string (⟨#[]⟩ : ByteArray), .int .i64 0, .bool false, .bool false]) ?_ 0 _ rfl; exact uB <| BK601.out))⟩; have n3_ : Aside0 (Below w.heap.size w w48) := ⟨(by rw [hw]; exact bl)⟩; clear hw; clear HO609; clear HO617; clear BK601; clear HB; have HO609 := n0_; have HO617 := n1_; have BK601 := n2_; have HB := n3_; clear n0_ n1_ n2_ n3_))
          refine bodyPost_ret (results_ct rfl _ _ gb601 48 #[.int .i64 0, .string (⟨#[]⟩ : ByteArray), .int .i64 0, .bool false, .bool false] (0, 0) _ rfl (uB BK601.out) Tryz.underlying48 rfl (by kernel_rfl)) rfl ?_
          exact ⟨re_, bl⟩
        ·
         rw [if_neg c30] at H
         have c30b0 : (t615 == 0) = false := beq_eq_false_iff_ne.mpr c30
         have c30b1 : (t615 != 0) = true := bne_iff_ne.mpr c30
         simp only [Option.some.injEq, Prod.mk.injEq] at H
         obtain ⟨rfl, rfl, rfl, rfl, rfl, rfl⟩ := H
         go_wp2_with (first | (refine gL (some 36) rfl Tryz.func41 #[.string (a0.extract 1 a0.size), .int .u8 124] ?_; (with_reducible refine (r02_Split.calls kj5 (a0.extract 1 a0.size) 124 t607 _ A23.out).mono ?_); rintro e w49 ⟨v608, rfl, ho0, hb⟩; refine ⟨_, rfl, ?_⟩; have HO609 := Aside0.mk (Kd.R_lower ho0 (below_size bl)); replace BK601 := cB BK601 hb; replace HB := Aside0.mk (below_step bl hb); (try clear hb); (try clear ho0); obtain ⟨Ao50, co50, eo50⟩ := Kd.R_slice HO609.out; subst eo50; have p610 : 0 ≤ (0 : Int) := (by omega); have q610 : 0 < (t607.length : Int) := od; obtain ⟨ad610, e610, hx610_0⟩ := Kd.at_string (Kd.R_reads' HO609.out).2.2 0 p610 q610; cases e610; have qi610 : (0 < t607.length) = True := eq_true (by omega); (try rw [show ((0 : Int)).toNat = 0 from rfl] at hx610_0); (try rw [Addr.add_zero'] at hx610_0); replace p610 := eq_true p610; replace q610 := eq_true q610) | (refine gL (some 45) rfl Tryz.func60 #[.string (rdOf ByteArray.empty t607 0)] ?_; (with_reducible refine (r01_Read.calls kj5 (rdOf ByteArray.empty t607 0) t611 t612 _ A26.out).mono ?_); rintro e w' ⟨rfl, ⟨nd, rfl⟩⟩; refine ⟨_, rfl, ?_⟩; (try (rw [drewN_self w49]; generalize hq_ : World.drewN w49 _ = w49; have n0_ : Aside0 (Kd.R Kd.string 9 w49 w.heap.size (fun _ => True) (.slice (some ad610) t607.length co50) t607) := ⟨by rw [← hq_]; exact (uR HO609.out)⟩; have n1_ : Aside0 (w49.heap[gb601]? = some (.cells #[.int .i64 0, .string (⟨#[]⟩ : ByteArray), .int .i64 0, .bool false, .bool false] 48 (0, 0))) := ⟨by rw [← hq_]; exact (uB BK601.out)⟩; have n2_ : Aside0 (Below w.heap.size w w49) := ⟨by rw [← hq_]; exact bl⟩; clear HO609 BK601 HB hq_; have HO609 := n0_; have BK601 := n1_; have HB := n2_; clear n0_ n1_ n2_)); have p613 : 0 ≤ (1 : Int) := (by omega); have q613 : 1 < (t607.length : Int) := od; obtain ⟨ad613, e613, hx613_0⟩ := Kd.at_string (Kd.R_reads' HO609.out).2.2 1 p613 q613; obtain rfl : ad610 = ad613 := (by injection e613); (try simp only [show (1 : Int).toNat = 1 from rfl, Nat.reduceMul, Nat.reduceEqDiff, Go.Addr.add, ↓reduceIte] at hx613_0); have qi613 : (1 < t607.length) = True := eq_true (by omega); (try rw [show ((1 : Int)).toNat = 1 from rfl] at hx613_0); replace p613 := eq_true p613; replace q613 := eq_true q613) | (refine gL (some 56) rfl Tryz.func61 #[.string (rdOf ByteArray.empty t607 1)] ?_; (with_reducible refine (r03_Parse.calls kj5 (rdOf ByteArray.empty t607 1) t614 t615 _ A29.out).mono ?_); rintro e w51 ⟨v616, rfl, ho0, hb⟩; refine ⟨_, rfl, ?_⟩; replace HO609 := cR HO609 hb; have HO617 := Aside0.mk (Kd.R_lower ho0 (below_size bl)); replace BK601 := cB BK601 hb; replace HB := Aside0.mk (below_step bl hb); (try clear hb); (try clear ho0); obtain ⟨hcz52_0, hcz52_1, hcz52_2, hcz52_3, hcz52_4, hfz52_0, hfz52_1, hfz52_2, hfz52_3, hfz52_4⟩ := z5 BK601) | ((with_reducible refine gate_store (t := 48) (p := 2) rfl ?_); refine store_event (t := 48) (p := 2) (v := ?vo_w53) (w1 := (((((w51.setCell ⟨gb601, 0, none⟩ (.int .i64 0)).setCell ⟨gb601, 1, none⟩ (.string (⟨#[]⟩ : ByteArray))).setCell ⟨gb601, 2, none⟩ (.int .i64 0)).setCell ⟨gb601, 3, none⟩ (.bool false)).setCell ⟨gb601, 4, none⟩ (.bool false))) ?hg ?ho ?hn ?hr ?_; (case ho => rfl); (case hg => rfl); (case hn => rfl); (case hr => first | (go_simp; done) | (go_simp; rfl)); intro w53 hw; have n0_ : Aside0 (Kd.R Kd.string 9 w53 w.heap.size (fun _ => True) (.slice (some ad610) t607.length co50) t607) := ⟨(by rw [hw]; exact (by exact uR <| Kd.R_mono (Kd.R_far (p := ⟨gb601, 4, none⟩) (Kd.R_far (p := ⟨gb601, 3, none⟩) (Kd.R_far (p := ⟨gb601, 2, none⟩) (Kd.R_far (p := ⟨gb601, 1, none⟩) (Kd.R_far (p := ⟨gb601, 0, none⟩) (Kd.R_types HO609.out BK601.out (by decide)) (fun _ hk => hk.2) (.int .i64 0)) (fun _ hk => hk.2) (.string (⟨#[]⟩ : ByteArray))) (fun _ hk => hk.2) (.int .i64 0)) (fun _ hk => hk.2) (.bool false)) (fun _ hk => hk.2) (.bool false)) (fun _ hk => trivial)))⟩; have n1_ : Aside0 (Kd.R k98 98 w53 w.heap.size (fun _ => True) v616 t614) := ⟨(by rw [hw]; exact (by exact uR <| Kd.R_mono (Kd.R_far (p := ⟨gb601, 4, none⟩) (Kd.R_far (p := ⟨gb601, 3, none⟩) (Kd.R_far (p := ⟨gb601, 2, none⟩) (Kd.R_far (p := ⟨gb601, 1, none⟩) (Kd.R_far (p := ⟨gb601, 0, none⟩) (Kd.R_types HO617.out BK601.out (by decide)) (fun _ hk => hk.2) (.int .i64 0)) (fun _ hk => hk.2) (.string (⟨#[]⟩ : ByteArray))) (fun _ hk => hk.2) (.int .i64 0)) (fun _ hk => hk.2) (.bool false)) (fun _ hk => hk.2) (.bool false)) (fun _ hk => trivial)))⟩; have n2_ : Aside0 (w53.heap[gb601]? = some (.cells #[.int .i64 0, .string (⟨#[]⟩ : ByteArray), .int .i64 0, .bool false, .bool false] 48 (0, 0))) := ⟨(by rw [hw]; exact (by (with_reducible repeat (first | refine blk_drewN ?_ _ | refine blk_drew ?_ | refine blk_alloc ?_ _)); refine blk_put (cs := #[.int .i64 0, .string (⟨#[]⟩ : ByteArray), .int .i64 0, .bool false, .bool false]) ?_ 4 _ rfl; (with_reducible repeat (first | refine blk_drewN ?_ _ | refine blk_drew ?_ | refine blk_alloc ?_ _)); refine blk_put (cs := #[.int .i64 0, .string (⟨#[]⟩ : ByteArray), .int .i64 0, .bool false, .bool false]) ?_ 3 _ rfl; (with_reducible repeat (first | refine blk_drewN ?_ _ | refine blk_drew ?_ | refine blk_alloc ?_ _)); refine blk_put (cs := #[.int .i64 0, .string (⟨#[]⟩ : ByteArray), .int .i64 0, .bool false, .bool false]) ?_ 2 _ rfl; (with_reducible repeat (first | refine blk_drewN ?_ _ | refine blk_drew ?_ | refine blk_alloc ?_ _)); refine blk_put (cs := #[.int .i64 0, .string (⟨#[]⟩ : ByteArray), .int .i64 0, .bool false, .bool false]) ?_ 1 _ rfl; (with_reducible repeat (first | refine blk_drewN ?_ _ | refine blk_drew ?_ | refine blk_alloc ?_ _)); refine blk_put (cs := #[.int .i64 0, .string (⟨#[]⟩ : ByteArray), .int .i64 0, .bool false, .bool false]) ?_ 0 _ rfl; exact uB <| BK601.out))⟩; have n3_ : Aside0 (Below w.heap.size w w53) := ⟨(by rw [hw]; exact bl)⟩; clear hw; clear HO609; clear HO617; clear BK601; clear HB; have HO609 := n0_; have HO617 := n1_; have BK601 := n2_; have HB := n3_; clear n0_ n1_ n2_ n3_))
         refine bodyPost_ret (results_ct rfl _ _ gb601 48 #[.int .i64 0, .string (⟨#[]⟩ : ByteArray), .int .i64 0, .bool false, .bool false] (0, 0) _ rfl (uB BK601.out) Tryz.underlying48 rfl (by kernel_rfl)) rfl ?_
         exact ⟨re_, bl⟩
       ·
        rw [if_neg c27] at H
        have c27b0 : (t612 == 0) = false := beq_eq_false_iff_ne.mpr c27
        have c27b1 : (t612 != 0) = true := bne_iff_ne.mpr c27
        simp only [Option.some.injEq, Prod.mk.injEq] at H
        obtain ⟨rfl, rfl, rfl, rfl, rfl, rfl⟩ := H
        go_wp2_with (first | (refine gL (some 36) rfl Tryz.func41 #[.string (a0.extract 1 a0.size), .int .u8 124] ?_; (with_reducible refine (r02_Split.calls kj5 (a0.extract 1 a0.size) 124 t607 _ A23.out).mono ?_); rintro e w54 ⟨v608, rfl, ho0, hb⟩; refine ⟨_, rfl, ?_⟩; have HO609 := Aside0.mk (Kd.R_lower ho0 (below_size bl)); replace BK601 := cB BK601 hb; replace HB := Aside0.mk (below_step bl hb); (try clear hb); (try clear ho0); obtain ⟨Ao55, co55, eo55⟩ := Kd.R_slice HO609.out; subst eo55; have p610 : 0 ≤ (0 : Int) := (by omega); have q610 : 0 < (t607.length : Int) := od; obtain ⟨ad610, e610, hx610_0⟩ := Kd.at_string (Kd.R_reads' HO609.out).2.2 0 p610 q610; cases e610; have qi610 : (0 < t607.length) = True := eq_true (by omega); (try rw [show ((0 : Int)).toNat = 0 from rfl] at hx610_0); (try rw [Addr.add_zero'] at hx610_0); replace p610 := eq_true p610; replace q610 := eq_true q610) | (refine gL (some 45) rfl Tryz.func60 #[.string (rdOf ByteArray.empty t607 0)] ?_; (with_reducible refine (r01_Read.calls kj5 (rdOf ByteArray.empty t607 0) t611 t612 _ A26.out).mono ?_); rintro e w' ⟨rfl, ⟨nd, rfl⟩⟩; refine ⟨_, rfl, ?_⟩; (try (rw [drewN_self w54]; generalize hq_ : World.drewN w54 _ = w54; have n0_ : Aside0 (Kd.R Kd.string 9 w54 w.heap.size (fun _ => True) (.slice (some ad610) t607.length co55) t607) := ⟨by rw [← hq_]; exact (uR HO609.out)⟩; have n1_ : Aside0 (w54.heap[gb601]? = some (.cells #[.int .i64 0, .string (⟨#[]⟩ : ByteArray), .int .i64 0, .bool false, .bool false] 48 (0, 0))) := ⟨by rw [← hq_]; exact (uB BK601.out)⟩; have n2_ : Aside0 (Below w.heap.size w w54) := ⟨by rw [← hq_]; exact bl⟩; clear HO609 BK601 HB hq_; have HO609 := n0_; have BK601 := n1_; have HB := n2_; clear n0_ n1_ n2_)); obtain ⟨hcz56_0, hcz56_1, hcz56_2, hcz56_3, hcz56_4, hfz56_0, hfz56_1, hfz56_2, hfz56_3, hfz56_4⟩ := z5 BK601) | ((with_reducible refine gate_store (t := 48) (p := 2) rfl ?_); refine store_event (t := 48) (p := 2) (v := ?vo_w57) (w1 := (((((w54.setCell ⟨gb601, 0, none⟩ (.int .i64 0)).setCell ⟨gb601, 1, none⟩ (.string (⟨#[]⟩ : ByteArray))).setCell ⟨gb601, 2, none⟩ (.int .i64 0)).setCell ⟨gb601, 3, none⟩ (.bool false)).setCell ⟨gb601, 4, none⟩ (.bool false))) ?hg ?ho ?hn ?hr ?_; (case ho => rfl); (case hg => rfl); (case hn => rfl); (case hr => first | (go_simp; done) | (go_simp; rfl)); intro w57 hw; have n0_ : Aside0 (Kd.R Kd.string 9 w57 w.heap.size (fun _ => True) (.slice (some ad610) t607.length co55) t607) := ⟨(by rw [hw]; exact (by exact uR <| Kd.R_mono (Kd.R_far (p := ⟨gb601, 4, none⟩) (Kd.R_far (p := ⟨gb601, 3, none⟩) (Kd.R_far (p := ⟨gb601, 2, none⟩) (Kd.R_far (p := ⟨gb601, 1, none⟩) (Kd.R_far (p := ⟨gb601, 0, none⟩) (Kd.R_types HO609.out BK601.out (by decide)) (fun _ hk => hk.2) (.int .i64 0)) (fun _ hk => hk.2) (.string (⟨#[]⟩ : ByteArray))) (fun _ hk => hk.2) (.int .i64 0)) (fun _ hk => hk.2) (.bool false)) (fun _ hk => hk.2) (.bool false)) (fun _ hk => trivial)))⟩; have n1_ : Aside0 (w57.heap[gb601]? = some (.cells #[.int .i64 0, .string (⟨#[]⟩ : ByteArray), .int .i64 0, .bool false, .bool false] 48 (0, 0))) := ⟨(by rw [hw]; exact (by (with_reducible repeat (first | refine blk_drewN ?_ _ | refine blk_drew ?_ | refine blk_alloc ?_ _)); refine blk_put (cs := #[.int .i64 0, .string (⟨#[]⟩ : ByteArray), .int .i64 0, .bool false, .bool false]) ?_ 4 _ rfl; (with_reducible repeat (first | refine blk_drewN ?_ _ | refine blk_drew ?_ | refine blk_alloc ?_ _)); refine blk_put (cs := #[.int .i64 0, .string (⟨#[]⟩ : ByteArray), .int .i64 0, .bool false, .bool false]) ?_ 3 _ rfl; (with_reducible repeat (first | refine blk_drewN ?_ _ | refine blk_drew ?_ | refine blk_alloc ?_ _)); refine blk_put (cs := #[.int .i64 0, .string (⟨#[]⟩ : ByteArray), .int .i64 0, .bool false, .bool false]) ?_ 2 _ rfl; (with_reducible repeat (first | refine blk_drewN ?_ _ | refine blk_drew ?_ | refine blk_alloc ?_ _)); refine blk_put (cs := #[.int .i64 0, .string (⟨#[]⟩ : ByteArray), .int .i64 0, .bool false, .bool false]) ?_ 1 _ rfl; (with_reducible repeat (first | refine blk_drewN ?_ _ | refine blk_drew ?_ | refine blk_alloc ?_ _)); refine blk_put (cs := #[.int .i64 0, .string (⟨#[]⟩ : ByteArray), .int .i64 0, .bool false, .bool false]) ?_ 0 _ rfl; exact uB <| BK601.out))⟩; have n2_ : Aside0 (Below w.heap.size w w57) := ⟨(by rw [hw]; exact bl)⟩; clear hw; clear HO609; clear BK601; clear HB; have HO609 := n0_; have BK601 := n1_; have HB := n2_; clear n0_ n1_ n2_))
        refine bodyPost_ret (results_ct rfl _ _ gb601 48 #[.int .i64 0, .string (⟨#[]⟩ : ByteArray), .int .i64 0, .bool false, .bool false] (0, 0) _ rfl (uB BK601.out) Tryz.underlying48 rfl (by kernel_rfl)) rfl ?_
        exact ⟨re_, bl⟩
      ·
       rw [if_neg c24] at H
       have c24b0 : ((t607.length : Int) == 2) = false := beq_eq_false_iff_ne.mpr c24
       have c24b1 : ((t607.length : Int) != 2) = true := bne_iff_ne.mpr c24
       simp only [Option.some.injEq, Prod.mk.injEq] at H
       obtain ⟨rfl, rfl, rfl, rfl, rfl, rfl⟩ := H
       go_wp2_with (first | (refine gL (some 36) rfl Tryz.func41 #[.string (a0.extract 1 a0.size), .int .u8 124] ?_; (with_reducible refine (r02_Split.calls kj5 (a0.extract 1 a0.size) 124 t607 _ A23.out).mono ?_); rintro e w58 ⟨v608, rfl, ho0, hb⟩; refine ⟨_, rfl, ?_⟩; have HO609 := Aside0.mk (Kd.R_lower ho0 (below_size bl)); replace BK601 := cB BK601 hb; replace HB := Aside0.mk (below_step bl hb); (try clear hb); (try clear ho0); obtain ⟨Ao59, co59, eo59⟩ := Kd.R_slice HO609.out; subst eo59; obtain ⟨hcz60_0, hcz60_1, hcz60_2, hcz60_3, hcz60_4, hfz60_0, hfz60_1, hfz60_2, hfz60_3, hfz60_4⟩ := z5 BK601) | ((with_reducible refine gate_store (t := 48) (p := 2) rfl ?_); refine store_event (t := 48) (p := 2) (v := ?vo_w61) (w1 := (((((w58.setCell ⟨gb601, 0, none⟩ (.int .i64 0)).setCell ⟨gb601, 1, none⟩ (.string (⟨#[]⟩ : ByteArray))).setCell ⟨gb601, 2, none⟩ (.int .i64 0)).setCell ⟨gb601, 3, none⟩ (.bool false)).setCell ⟨gb601, 4, none⟩ (.bool false))) ?hg ?ho ?hn ?hr ?_; (case ho => rfl); (case hg => rfl); (case hn => rfl); (case hr => first | (go_simp; done) | (go_simp; rfl)); intro w61 hw; have n0_ : Aside0 (Kd.R Kd.string 9 w61 w.heap.size (fun _ => True) (.slice Ao59 t607.length co59) t607) := ⟨(by rw [hw]; exact (by exact uR <| Kd.R_mono (Kd.R_far (p := ⟨gb601, 4, none⟩) (Kd.R_far (p := ⟨gb601, 3, none⟩) (Kd.R_far (p := ⟨gb601, 2, none⟩) (Kd.R_far (p := ⟨gb601, 1, none⟩) (Kd.R_far (p := ⟨gb601, 0, none⟩) (Kd.R_types HO609.out BK601.out (by decide)) (fun _ hk => hk.2) (.int .i64 0)) (fun _ hk => hk.2) (.string (⟨#[]⟩ : ByteArray))) (fun _ hk => hk.2) (.int .i64 0)) (fun _ hk => hk.2) (.bool false)) (fun _ hk => hk.2) (.bool false)) (fun _ hk => trivial)))⟩; have n1_ : Aside0 (w61.heap[gb601]? = some (.cells #[.int .i64 0, .string (⟨#[]⟩ : ByteArray), .int .i64 0, .bool false, .bool false] 48 (0, 0))) := ⟨(by rw [hw]; exact (by (with_reducible repeat (first | refine blk_drewN ?_ _ | refine blk_drew ?_ | refine blk_alloc ?_ _)); refine blk_put (cs := #[.int .i64 0, .string (⟨#[]⟩ : ByteArray), .int .i64 0, .bool false, .bool false]) ?_ 4 _ rfl; (with_reducible repeat (first | refine blk_drewN ?_ _ | refine blk_drew ?_ | refine blk_alloc ?_ _)); refine blk_put (cs := #[.int .i64 0, .string (⟨#[]⟩ : ByteArray), .int .i64 0, .bool false, .bool false]) ?_ 3 _ rfl; (with_reducible repeat (first | refine blk_drewN ?_ _ | refine blk_drew ?_ | refine blk_alloc ?_ _)); refine blk_put (cs := #[.int .i64 0, .string (⟨#[]⟩ : ByteArray), .int .i64 0, .bool false, .bool false]) ?_ 2 _ rfl; (with_reducible repeat (first | refine blk_drewN ?_ _ | refine blk_drew ?_ | refine blk_alloc ?_ _)); refine blk_put (cs := #[.int .i64 0, .string (⟨#[]⟩ : ByteArray), .int .i64 0, .bool false, .bool false]) ?_ 1 _ rfl; (with_reducible repeat (first | refine blk_drewN ?_ _ | refine blk_drew ?_ | refine blk_alloc ?_ _)); refine blk_put (cs := #[.int .i64 0, .string (⟨#[]⟩ : ByteArray), .int .i64 0, .bool false, .bool false]) ?_ 0 _ rfl; exact uB <| BK601.out))⟩; have n2_ : Aside0 (Below w.heap.size w w61) := ⟨(by rw [hw]; exact bl)⟩; clear hw; clear HO609; clear BK601; clear HB; have HO609 := n0_; have BK601 := n1_; have HB := n2_; clear n0_ n1_ n2_))
       refine bodyPost_ret (results_ct rfl _ _ gb601 48 #[.int .i64 0, .string (⟨#[]⟩ : ByteArray), .int .i64 0, .bool false, .bool false] (0, 0) _ rfl (uB BK601.out) Tryz.underlying48 rfl (by kernel_rfl)) rfl ?_
       exact ⟨re_, bl⟩
     ·
      rw [if_neg c22] at H
      exact absurd H (by simp)
def r09_Parse.l0 : Nat → List (S48) → List ByteArray → Int → Option ((List (S48)) × Int)
 | 0, _, _, _ => none
 | k + 1, x4, x5, x6 => if x6 < (x5.length : Int) then (if 0 ≤ x6 then ((r09_one.f k (rdOf ByteArray.empty x5 x6)).bind fun bt625 => (if bt625.2.2.2.2.2 = 0 then (if x4.length < 2932031007402 then (r09_Parse.l0 k (x4 ++ [(⟨(⟨bt625.1, bt625.2.1, (⟨bt625.2.2.1, bt625.2.2.2.1⟩ : S43)⟩ : S45), bt625.2.2.2.2.1⟩ : S48)]) x5 (wrap64 (x6 + 1))) else (none)) else (some (([] : List (S48)), bt625.2.2.2.2.2)))) else (none)) else ((r09_Right.f k x4).bind fun t635 => (if t635 = true then (some (x4, 0)) else (some (([] : List (S48)), 9))))
def r09_Parse.f (k : Nat) (a0 : ByteArray) : Option ((List (S48)) × Int) := if a0.toList = ([45] : List UInt8) then (some (([] : List (S48)), 0)) else ((r02_Split.f k a0 59).bind fun t621 => (r09_Parse.l0 k ([] : List (S48)) t621 0))
theorem r09_Parse.mono_l : ∀ k, (∀ y0 y1 y2, LeC (r09_Parse.l0 k y0 y1 y2) (r09_Parse.l0 (k + 1) y0 y1 y2))
 | 0 => fun _ _ _ => ⟨fun r h => by simp [r09_Parse.l0] at h⟩
 | k + 1 => by have ih0 := r09_Parse.mono_l k; exact fun _ _ _ => by unfold r09_Parse.l0; exact lm
theorem r09_Parse.mono : ∀ a0 k, LeO (r09_Parse.f k a0) (r09_Parse.f (k + 1) a0) := by
 intro a0 k
 have ih0 := r09_Parse.mono_l k
 unfold r09_Parse.f
 exact lo
instance r09_Parse.mI {a0 k} : LeC (r09_Parse.f k a0) (r09_Parse.f (k + 1) a0) := ⟨r09_Parse.mono _ _⟩
theorem r09_Parse.calls (k : Nat) (a0 : ByteArray) (r1 : List (S48)) (r2 : Int) (w : World) (h : r09_Parse.f k a0 = some (r1, r2)) :
 Calls Tryz.prog 21 #[.string a0] w fun e w' => ∃ v0_ : Value, e = .returned (.tuple #[v0_, .int .i64 r2]) ∧ Kd.R k48 48 w' w.heap.size (fun _ => True) v0_ r1 ∧ Below w.heap.size w w' := by
 have hu48 := Tryz.underlying48
 have HB := Aside0.mk (Below.refl w.heap.size w)
 have H : (if a0.toList = ([45] : List UInt8) then (some (([] : List (S48)), 0)) else ((r02_Split.f k a0 59).bind fun t621 => (r09_Parse.l0 k ([] : List (S48)) t621 0))) = some (r1, r2) := h
 clear h
 by_cases c2 : a0.toList = ([45] : List UInt8)
 ·
  rw [if_pos c2] at H
  have c2b0 : (a0.toList == ([45] : List UInt8)) = true := beq_iff_eq.mpr c2
  have c2b1 : (a0.toList != ([45] : List UInt8)) = false := bne_eq_false_iff_eq.mpr c2
  clear c2
  simp only [Option.some.injEq, Prod.mk.injEq] at H
  obtain ⟨rfl, rfl⟩ := H
  go_enter Tryz.func21, Tryz.ntmps21
  go_wp2
  go_ret2
  exact ⟨_, re_, nl_, uW HB.out⟩
 ·
  rw [if_neg c2] at H
  have c2b0 : (a0.toList == ([45] : List UInt8)) = false := beq_eq_false_iff_ne.mpr c2
  have c2b1 : (a0.toList != ([45] : List UInt8)) = true := bne_iff_ne.mpr c2
  obtain ⟨t621, A3, H⟩ := bs H
  try dsimp only at H
  have H' := Aside0.mk H
  clear H
  go_enter Tryz.func21, Tryz.ntmps21
  go_wp2_with (first | (refine gL (some 12) rfl Tryz.func41 #[.string a0, .int .u8 59] ?_; (with_reducible refine (r02_Split.calls k a0 59 t621 _ A3.out).mono ?_); rintro e w4 ⟨v622, rfl, ho0, hb⟩; refine ⟨_, rfl, ?_⟩; have HO623 := Aside0.mk (Kd.R_lower ho0 (below_size (uW HB.out))); replace HB := cW HB hb; (try clear hb); (try clear ho0)))
  (try simp only [Act.put, List.setIfInBounds_toArray, List.set_cons_zero, List.set_cons_succ])
  go_loopg [4, 6] k (fun kq v4 v6 w' => ∃ (x4_1 : List (S48)) (x6_1 : Int), v6 = .int .i64 x6_1 ∧ Aside0 (r09_Parse.l0 kq x4_1 t621 x6_1 = some (r1, r2)) ∧ Aside0 (kq ≤ k) ∧ Aside0 (Kd.R k48 48 w' w.heap.size (fun _ => True) v4 x4_1) ∧ Aside0 (Kd.R Kd.string 9 w' w.heap.size (fun _ => True) v622 t621) ∧ Aside0 (Below w.heap.size w w'))
  case atStart => exact ⟨(([] : List (S48))), (0), rs_, H', ⟨Nat.le_refl _⟩, ⟨nl_⟩, ⟨uR HO623.out⟩, ⟨uW HB.out⟩⟩
  case round =>
   clear H'
   try clear c2
   try clear c2b0
   try clear c2b1
   try clear p2
   try clear c4
   obtain ⟨x4_1, x6_1, rfl, HA, HK1, HO_4, HO_5, HB⟩ := hrel
   cases gk with
   | zero => exact absurd HA.out (by simp [r09_Parse.l0])
   | succ k1 =>
    have H := HA.out
    clear HA
    simp only [r09_Parse.l0] at H
    by_cases c5 : x6_1 < (t621.length : Int)
    ·
     rw [if_pos c5] at H
     have c5b0 : decide (x6_1 < (t621.length : Int)) = true := decide_eq_true c5
     clear c5
     obtain ⟨c6b0, H⟩ := gdd H
     obtain ⟨⟨t625, t626, t627, t628, t629, t630⟩, A7, H⟩ := bs H
     try dsimp only at H
     by_cases c8 : t630 = 0
     ·
      rw [if_pos c8] at H
      have c8b0 : (t630 == 0) = true := beq_iff_eq.mpr c8
      have c8b1 : (t630 != 0) = false := bne_eq_false_iff_eq.mpr c8
      clear c8
      obtain ⟨c9, H⟩ := gd H
      have LMc9 := Aside0.mk c9
      clear c9
      obtain ⟨y632, hy632⟩ : ∃ y_ : List (S48), y_ = (x4_1 ++ [(⟨(⟨t625, t626, (⟨t627, t628⟩ : S43)⟩ : S45), t629⟩ : S48)]) := ⟨_, rfl⟩
      replace H : (r09_Parse.l0 k1 y632 t621 (wrap64 (x6_1 + 1))) = some (r1, r2) := by first | (rw [hy632]; with_reducible exact H) | (have H2_ := (Option.bind_some _ _).symm.trans H; rw [hy632]; with_reducible exact H2_) | (have H2_ := (Option.bind_some _ _).symm.trans H; with_reducible exact H2_) | with_reducible exact H | (rw [hy632]; exact H) | exact H
      have Ny632 := Aside0.mk hy632
      clear hy632
      have H' := Aside0.mk H
      clear H
      obtain ⟨Ao10, co10, eo10⟩ := Kd.R_slice HO_5.out
      subst eo10
      have p624 : 0 ≤ (x6_1 : Int) := od
      have q624 : x6_1 < (t621.length : Int) := od
      obtain ⟨ad624, e624, hx624_0⟩ := Kd.at_string (Kd.R_reads' HO_5.out).2.2 x6_1 p624 q624
      cases e624
      replace p624 := eq_true p624
      replace q624 := eq_true q624
      go_wp2_with (first | (refine gL (some 24) rfl Tryz.func42 #[.string (rdOf ByteArray.empty t621 x6_1)] ?_; (with_reducible refine (r09_one.calls k1 (rdOf ByteArray.empty t621 x6_1) t625 t626 t627 t628 t629 t630 _ A7.out).mono ?_); rintro e w11 ⟨rfl, hb⟩; refine ⟨_, rfl, ?_⟩; replace HO_4 := cR HO_4 hb; replace HO_5 := cR HO_5 hb; replace HB := cW HB hb; (try clear hb)) | ((with_reducible refine gate_dst (N := 7) rfl ?_); refine bx (N := 7) #[.int .i64 0, .string (⟨#[]⟩ : ByteArray), .int .i64 0, .bool false, .bool false] 48 ?_; intro gb631 hg w12 hbox hb; replace HO_4 := Aside0.mk (Kd.R_below (Kd.R_elderB (uR HO_4.out) gb631 (Nat.le_of_eq hg.symm)) hb); replace HO_5 := cR HO_5 hb; have BK631 := Aside0.mk (hbox); have GW631 := gw hg (uW HB.out); have GE631 := GW631; replace HB := cW HB hb; clear hb hbox hg; obtain ⟨hcz13_0, hcz13_1, hcz13_2, hcz13_3, hcz13_4, hfz13_0, hfz13_1, hfz13_2, hfz13_3, hfz13_4⟩ := z5 BK631) | ((with_reducible refine gate_store (t := 48) (p := 7) rfl ?_); refine store_event (t := 48) (p := 7) (v := ?vo_w14) (w1 := (((((w12.setCell ⟨gb631, 0, none⟩ (.int .i64 t625)).setCell ⟨gb631, 1, none⟩ (.string t626)).setCell ⟨gb631, 2, none⟩ (.int .i64 t627)).setCell ⟨gb631, 3, none⟩ (.bool t628)).setCell ⟨gb631, 4, none⟩ (.bool t629))) ?hg ?ho ?hn ?hr ?_; (case ho => rfl); (case hg => rfl); (case hn => rfl); (case hr => first | (go_simp; done) | (go_simp; rfl)); intro w14 hw; have n0_ : Aside0 (Kd.R k48 48 w14 w.heap.size (fun k_ => k_ ≠ gb631) u4 x4_1) := ⟨(by rw [hw]; exact (by exact uR <| Kd.R_mono (Kd.R_far (p := ⟨gb631, 4, none⟩) (Kd.R_far (p := ⟨gb631, 3, none⟩) (Kd.R_far (p := ⟨gb631, 2, none⟩) (Kd.R_far (p := ⟨gb631, 1, none⟩) (Kd.R_far (p := ⟨gb631, 0, none⟩) (Kd.R_mono HO_4.out (fun k_ hk => (⟨hk, hk.2⟩ : _ ∧ k_ ≠ gb631))) (fun _ hk => hk.2) (.int .i64 t625)) (fun _ hk => hk.2) (.string t626)) (fun _ hk => hk.2) (.int .i64 t627)) (fun _ hk => hk.2) (.bool t628)) (fun _ hk => hk.2) (.bool t629)) (fun _ hk => hk.1.2)))⟩; have n1_ : Aside0 (Kd.R Kd.string 9 w14 w.heap.size (fun _ => True) (.slice (some ad624) t621.length co10) t621) := ⟨(by rw [hw]; exact (by exact uR <| Kd.R_mono (Kd.R_far (p := ⟨gb631, 4, none⟩) (Kd.R_far (p := ⟨gb631, 3, none⟩) (Kd.R_far (p := ⟨gb631, 2, none⟩) (Kd.R_far (p := ⟨gb631, 1, none⟩) (Kd.R_far (p := ⟨gb631, 0, none⟩) (Kd.R_types HO_5.out BK631.out (by decide)) (fun _ hk => hk.2) (.int .i64 t625)) (fun _ hk => hk.2) (.string t626)) (fun _ hk => hk.2) (.int .i64 t627)) (fun _ hk => hk.2) (.bool t628)) (fun _ hk => hk.2) (.bool t629)) (fun _ hk => trivial)))⟩; have n2_ : Aside0 (w14.heap[gb631]? = some (.cells #[.int .i64 t625, .string t626, .int .i64 t627, .bool t628, .bool t629] 48 (0, 0))) := ⟨(by rw [hw]; exact (by (with_reducible repeat (first | refine blk_drewN ?_ _ | refine blk_drew ?_ | refine blk_alloc ?_ _)); refine blk_put (cs := #[.int .i64 t625, .string t626, .int .i64 t627, .bool t628, .bool false]) ?_ 4 _ rfl; (with_reducible repeat (first | refine blk_drewN ?_ _ | refine blk_drew ?_ | refine blk_alloc ?_ _)); refine blk_put (cs := #[.int .i64 t625, .string t626, .int .i64 t627, .bool false, .bool false]) ?_ 3 _ rfl; (with_reducible repeat (first | refine blk_drewN ?_ _ | refine blk_drew ?_ | refine blk_alloc ?_ _)); refine blk_put (cs := #[.int .i64 t625, .string t626, .int .i64 0, .bool false, .bool false]) ?_ 2 _ rfl; (with_reducible repeat (first | refine blk_drewN ?_ _ | refine blk_drew ?_ | refine blk_alloc ?_ _)); refine blk_put (cs := #[.int .i64 t625, .string (⟨#[]⟩ : ByteArray), .int .i64 0, .bool false, .bool false]) ?_ 1 _ rfl; (with_reducible repeat (first | refine blk_drewN ?_ _ | refine blk_drew ?_ | refine blk_alloc ?_ _)); refine blk_put (cs := #[.int .i64 0, .string (⟨#[]⟩ : ByteArray), .int .i64 0, .bool false, .bool false]) ?_ 0 _ rfl; exact uB <| BK631.out))⟩; have n3_ : Aside0 (Below w.heap.size w w14) := ⟨(by rw [hw]; exact bl)⟩; clear hw; clear HO_4; clear HO_5; clear BK631; clear HB; have HO_4 := n0_; have HO_5 := n1_; have BK631 := n2_; have HB := n3_; clear n0_ n1_ n2_ n3_; obtain ⟨hcz15_0, hcz15_1, hcz15_2, hcz15_3, hcz15_4, hfz15_0, hfz15_1, hfz15_2, hfz15_3, hfz15_4⟩ := z5 BK631) | ((with_reducible refine gate_builtin (b := .append) (xs := #[.tmp 30, .tmp 32]) rfl ?_); at_builtin; refine Kd.R_append k48 (w0 := w) w.heap.size rfl (.tmp 30) (.tmp 32) 25 48 (.agg #[(.int .i64 0), (.string ⟨#[]⟩), (.int .i64 0), (.bool false), (.bool false)]) 48 rfl Tryz.underlying25 info48 rfl (by decide) (by omega) u4 x4_1 (⟨(⟨t625, t626, (⟨t627, t628⟩ : S43)⟩ : S45), t629⟩ : S48) [.int .i64 t625, .string t626, .int .i64 t627, .bool t628, .bool t629] (fun k_ => k_ ≠ gb631) (fun _ => False) rfl rfl ?aP (fun _ hk => hk.elim) ?aF ?aO ?aB ?aS ?aL ?_; (case aP => exact k48_mkM _ _ _ (⟨(⟨t625, t626, (⟨t627, t628⟩ : S43)⟩ : S45), t629⟩ : S48)); (case aB => exact bl); (case aF => exact (fun k_ hk => Kd.freshB (g := gb631) (o := .cells #[.int .i64 t625, .string t626, .int .i64 t627, .bool t628, .bool t629] 48 (0, 0)) (uB BK631.out) k_ hk)); (case aO => exact (uR HO_4.out)); (case aS => exact (below_size bl)); (case aL => have := LMc9.out; omega); intro v633 w16 ho hb hg hat; rw [← Ny632.out] at ho; replace HO_5 := Aside0.mk (Kd.R_over' (uR HO_5.out) (Kd.R_typed (uR HO_4.out)) (by decide) hg); replace BK631 := Aside0.mk (blk_grown (g := gb631) (o := .cells #[.int .i64 t625, .string t626, .int .i64 t627, .bool t628, .bool t629] 48 (0, 0)) (uB BK631.out) hg (Kd.R_away HO_4.out (fun _ hk => hk))); replace HB := Aside0.mk (hb); have HO634 := Aside0.mk (ho); clear HO_4; clear ho hb hg hat))
      go_roundg k1
      case measure => have := HK1.out; omega
      case rel => exact ⟨(y632), (wrap64 (x6_1 + 1)), rs_, H', ⟨by have := HK1.out; omega⟩, ⟨by exact uR <| Kd.R_mono HO634.out (fun _ hk => trivial)⟩, ⟨uR HO_5.out⟩, ⟨bl⟩⟩
     ·
      rw [if_neg c8] at H
      have c8b0 : (t630 == 0) = false := beq_eq_false_iff_ne.mpr c8
      have c8b1 : (t630 != 0) = true := bne_iff_ne.mpr c8
      simp only [Option.some.injEq, Prod.mk.injEq] at H
      obtain ⟨rfl, rfl⟩ := H
      obtain ⟨Ao17, co17, eo17⟩ := Kd.R_slice HO_5.out
      subst eo17
      have p624 : 0 ≤ (x6_1 : Int) := od
      have q624 : x6_1 < (t621.length : Int) := od
      obtain ⟨ad624, e624, hx624_0⟩ := Kd.at_string (Kd.R_reads' HO_5.out).2.2 x6_1 p624 q624
      cases e624
      replace p624 := eq_true p624
      replace q624 := eq_true q624
      go_wp2_with (first | (refine gL (some 24) rfl Tryz.func42 #[.string (rdOf ByteArray.empty t621 x6_1)] ?_; (with_reducible refine (r09_one.calls k1 (rdOf ByteArray.empty t621 x6_1) t625 t626 t627 t628 t629 t630 _ A7.out).mono ?_); rintro e w18 ⟨rfl, hb⟩; refine ⟨_, rfl, ?_⟩; replace HO_4 := cR HO_4 hb; replace HO_5 := cR HO_5 hb; replace HB := cW HB hb; (try clear hb)) | ((with_reducible refine gate_dst (N := 7) rfl ?_); refine bx (N := 7) #[.int .i64 0, .string (⟨#[]⟩ : ByteArray), .int .i64 0, .bool false, .bool false] 48 ?_; intro gb631 hg w19 hbox hb; replace HO_4 := Aside0.mk (Kd.R_below (Kd.R_elderB (uR HO_4.out) gb631 (Nat.le_of_eq hg.symm)) hb); replace HO_5 := cR HO_5 hb; have BK631 := Aside0.mk (hbox); have GW631 := gw hg (uW HB.out); have GE631 := GW631; replace HB := cW HB hb; clear hb hbox hg; obtain ⟨hcz20_0, hcz20_1, hcz20_2, hcz20_3, hcz20_4, hfz20_0, hfz20_1, hfz20_2, hfz20_3, hfz20_4⟩ := z5 BK631) | ((with_reducible refine gate_store (t := 48) (p := 7) rfl ?_); refine store_event (t := 48) (p := 7) (v := ?vo_w21) (w1 := (((((w19.setCell ⟨gb631, 0, none⟩ (.int .i64 t625)).setCell ⟨gb631, 1, none⟩ (.string t626)).setCell ⟨gb631, 2, none⟩ (.int .i64 t627)).setCell ⟨gb631, 3, none⟩ (.bool t628)).setCell ⟨gb631, 4, none⟩ (.bool t629))) ?hg ?ho ?hn ?hr ?_; (case ho => rfl); (case hg => rfl); (case hn => rfl); (case hr => first | (go_simp; done) | (go_simp; rfl)); intro w21 hw; have n0_ : Aside0 (Kd.R k48 48 w21 w.heap.size (fun k_ => k_ ≠ gb631) u4 x4_1) := ⟨(by rw [hw]; exact (by exact uR <| Kd.R_mono (Kd.R_far (p := ⟨gb631, 4, none⟩) (Kd.R_far (p := ⟨gb631, 3, none⟩) (Kd.R_far (p := ⟨gb631, 2, none⟩) (Kd.R_far (p := ⟨gb631, 1, none⟩) (Kd.R_far (p := ⟨gb631, 0, none⟩) (Kd.R_mono HO_4.out (fun k_ hk => (⟨hk, hk.2⟩ : _ ∧ k_ ≠ gb631))) (fun _ hk => hk.2) (.int .i64 t625)) (fun _ hk => hk.2) (.string t626)) (fun _ hk => hk.2) (.int .i64 t627)) (fun _ hk => hk.2) (.bool t628)) (fun _ hk => hk.2) (.bool t629)) (fun _ hk => hk.1.2)))⟩; have n1_ : Aside0 (Kd.R Kd.string 9 w21 w.heap.size (fun _ => True) (.slice (some ad624) t621.length co17) t621) := ⟨(by rw [hw]; exact (by exact uR <| Kd.R_mono (Kd.R_far (p := ⟨gb631, 4, none⟩) (Kd.R_far (p := ⟨gb631, 3, none⟩) (Kd.R_far (p := ⟨gb631, 2, none⟩) (Kd.R_far (p := ⟨gb631, 1, none⟩) (Kd.R_far (p := ⟨gb631, 0, none⟩) (Kd.R_types HO_5.out BK631.out (by decide)) (fun _ hk => hk.2) (.int .i64 t625)) (fun _ hk => hk.2) (.string t626)) (fun _ hk => hk.2) (.int .i64 t627)) (fun _ hk => hk.2) (.bool t628)) (fun _ hk => hk.2) (.bool t629)) (fun _ hk => trivial)))⟩; have n2_ : Aside0 (w21.heap[gb631]? = some (.cells #[.int .i64 t625, .string t626, .int .i64 t627, .bool t628, .bool t629] 48 (0, 0))) := ⟨(by rw [hw]; exact (by (with_reducible repeat (first | refine blk_drewN ?_ _ | refine blk_drew ?_ | refine blk_alloc ?_ _)); refine blk_put (cs := #[.int .i64 t625, .string t626, .int .i64 t627, .bool t628, .bool false]) ?_ 4 _ rfl; (with_reducible repeat (first | refine blk_drewN ?_ _ | refine blk_drew ?_ | refine blk_alloc ?_ _)); refine blk_put (cs := #[.int .i64 t625, .string t626, .int .i64 t627, .bool false, .bool false]) ?_ 3 _ rfl; (with_reducible repeat (first | refine blk_drewN ?_ _ | refine blk_drew ?_ | refine blk_alloc ?_ _)); refine blk_put (cs := #[.int .i64 t625, .string t626, .int .i64 0, .bool false, .bool false]) ?_ 2 _ rfl; (with_reducible repeat (first | refine blk_drewN ?_ _ | refine blk_drew ?_ | refine blk_alloc ?_ _)); refine blk_put (cs := #[.int .i64 t625, .string (⟨#[]⟩ : ByteArray), .int .i64 0, .bool false, .bool false]) ?_ 1 _ rfl; (with_reducible repeat (first | refine blk_drewN ?_ _ | refine blk_drew ?_ | refine blk_alloc ?_ _)); refine blk_put (cs := #[.int .i64 0, .string (⟨#[]⟩ : ByteArray), .int .i64 0, .bool false, .bool false]) ?_ 0 _ rfl; exact uB <| BK631.out))⟩; have n3_ : Aside0 (Below w.heap.size w w21) := ⟨(by rw [hw]; exact bl)⟩; clear hw; clear HO_4; clear HO_5; clear BK631; clear HB; have HO_4 := n0_; have HO_5 := n1_; have BK631 := n2_; have HB := n3_; clear n0_ n1_ n2_ n3_))
      go_ret2
      exact ⟨_, re_, nl_, bl⟩
    ·
     rw [if_neg c5] at H
     have c5b0 : decide (x6_1 < (t621.length : Int)) = false := decide_eq_false c5
     clear c5
     obtain ⟨t635, A22, H⟩ := bs H
     try dsimp only at H
     by_cases c23 : t635 = true
     ·
      subst c23
      rw [if_pos rfl] at H
      simp only [Option.some.injEq, Prod.mk.injEq] at H
      obtain ⟨rfl, rfl⟩ := H
      obtain ⟨Ao24, co24, eo24⟩ := Kd.R_slice HO_5.out
      subst eo24
      obtain ⟨Ao25, co25, eo25⟩ := Kd.R_slice HO_4.out
      subst eo25
      go_wp2_with (first | (refine gL (some 35) rfl Tryz.func22 #[.slice Ao25 x4_1.length co25] ?_; (with_reducible refine (r09_Right.calls k1 _ _ x4_1 true _ ?side1 ?side2 A22.out).mono ?_); (case side1 => exact uC <| (Kd.R_reads' HO_4.out).2.2); (case side2 => exact (Kd.R_reads' HO_4.out).2.1); rintro e w26 ⟨rfl, hb⟩; refine ⟨_, rfl, ?_⟩; replace HO_4 := cR HO_4 hb; replace HO_5 := cR HO_5 hb; replace HB := cW HB hb; (try clear hb)))
      go_ret2
      exact ⟨_, re_, uR HO_4.out, uW HB.out⟩
     ·
      replace c23 := Bool.eq_false_iff.mpr c23
      subst c23
      rw [if_neg (show ¬ (false = true) by decide)] at H
      simp only [Option.some.injEq, Prod.mk.injEq] at H
      obtain ⟨rfl, rfl⟩ := H
      obtain ⟨Ao27, co27, eo27⟩ := Kd.R_slice HO_5.out
      subst eo27
      obtain ⟨Ao28, co28, eo28⟩ := Kd.R_slice HO_4.out
      subst eo28
      go_wp2_with (first | (refine gL (some 35) rfl Tryz.func22 #[.slice Ao28 x4_1.length co28] ?_; (with_reducible refine (r09_Right.calls k1 _ _ x4_1 false _ ?side1 ?side2 A22.out).mono ?_); (case side1 => exact uC <| (Kd.R_reads' HO_4.out).2.2); (case side2 => exact (Kd.R_reads' HO_4.out).2.1); rintro e w29 ⟨rfl, hb⟩; refine ⟨_, rfl, ?_⟩; replace HO_4 := cR HO_4 hb; replace HO_5 := cR HO_5 hb; replace HB := cW HB hb; (try clear hb)))
      go_ret2
      exact ⟨_, re_, nl_, uW HB.out⟩
def w09_DiffParses.f (k : Nat) (a0 : ByteArray) : Option (Bool) := (w09_alive.f k).bind fun t636 => (if t636 = true then (if (a0.size : Int) > 500 then (some true) else ((diff_Parse.f k a0).bind fun bt637 => ((r09_Parse.f k a0).bind fun bt641 => ((r09_Same.f k bt637.1 bt641.1).bind fun t645 => (if t645 = true then (if bt637.2 = bt641.2 then (if bt637.2 = 0 then ((diff_Text.f k bt637.1).bind fun t646 => (some (t646.toList == a0.toList))) else (some true)) else (none)) else (none)))))) else (none))
theorem w09_DiffParses.mono : ∀ a0 k, LeO (w09_DiffParses.f k a0) (w09_DiffParses.f (k + 1) a0) := by
 intro a0 k
 unfold w09_DiffParses.f
 exact lo
instance w09_DiffParses.mI {a0 k} : LeC (w09_DiffParses.f k a0) (w09_DiffParses.f (k + 1) a0) := ⟨w09_DiffParses.mono _ _⟩
theorem w09_DiffParses.calls (k : Nat) (a0 : ByteArray) (r : Bool) (w : World) (hL : LD w) (h : w09_DiffParses.f k a0 = some r) :
 Calls Tryz.prog 5 #[.string a0] w fun e w' => e = .returned (.bool r) ∧ Below w.heap.size w w' := by
 have HL0 := Aside0.mk hL
 clear hL
 have HB := Aside0.mk (Below.refl w.heap.size w)
 have H : ((w09_alive.f k).bind fun t636 => (if t636 = true then (if (a0.size : Int) > 500 then (some true) else ((diff_Parse.f k a0).bind fun bt637 => ((r09_Parse.f k a0).bind fun bt641 => ((r09_Same.f k bt637.1 bt641.1).bind fun t645 => (if t645 = true then (if bt637.2 = bt641.2 then (if bt637.2 = 0 then ((diff_Text.f k bt637.1).bind fun t646 => (some (t646.toList == a0.toList))) else (some true)) else (none)) else (none)))))) else (none))) = some r := h
 clear h
 obtain ⟨t636, A2, H⟩ := bs H
 try dsimp only at H
 by_cases c3 : t636 = true
 ·
  subst c3
  rw [if_pos rfl] at H
  by_cases c4 : (a0.size : Int) > 500
  ·
   rw [if_pos c4] at H
   have c4b0 : decide (500 < (a0.size : Int)) = true := decide_eq_true c4
   have c4b1 : decide (500 < a0.size) = true := decide_eq_true (by omega)
   clear c4
   obtain rfl := Option.some.inj H
   go_enter Tryz.func5, Tryz.ntmps5
   go_wp2_with (first | (refine gL (some 7) rfl Tryz.func8 #[] ?_; (with_reducible refine (w09_alive.calls (hL := ld) k  true _ A2.out).mono ?_); rintro e w5 ⟨rfl, hb⟩; refine ⟨_, rfl, ?_⟩; replace HB := cW HB hb; (try clear hb)))
   go_ret
   exact ⟨re_, uW HB.out⟩
  ·
   rw [if_neg c4] at H
   have c4b0 : decide (500 < (a0.size : Int)) = false := decide_eq_false c4
   have c4b1 : decide (500 < a0.size) = false := decide_eq_false (by omega)
   clear c4
   obtain ⟨⟨t637, t638⟩, A6, H⟩ := bs H
   try dsimp only at H
   obtain ⟨⟨t641, t642⟩, A7, H⟩ := bs H
   try dsimp only at H
   obtain ⟨t645, A8, H⟩ := bs H
   try dsimp only at H
   by_cases c9 : t645 = true
   ·
    subst c9
    rw [if_pos rfl] at H
    obtain ⟨c10, H⟩ := gd H
    have c10b0 : (t638 == t642) = true := beq_iff_eq.mpr c10
    have c10b1 : (t638 != t642) = false := bne_eq_false_iff_eq.mpr c10
    clear c10
    by_cases c11 : t638 = 0
    ·
     rw [if_pos c11] at H
     have c11b0 : (t638 == 0) = true := beq_iff_eq.mpr c11
     have c11b1 : (t638 != 0) = false := bne_eq_false_iff_eq.mpr c11
     clear c11
     obtain ⟨t646, A12, H⟩ := bs H
     try dsimp only at H
     obtain rfl := Option.some.inj H
     go_enter Tryz.func5, Tryz.ntmps5
     go_wp2_with (first | (refine gL (some 7) rfl Tryz.func8 #[] ?_; (with_reducible refine (w09_alive.calls (hL := ld) k  true _ A2.out).mono ?_); rintro e w13 ⟨rfl, hb⟩; refine ⟨_, rfl, ?_⟩; replace HB := cW HB hb; (try clear hb)) | (refine gL (some 14) rfl Tryz.func20 #[.string a0] ?_; (with_reducible refine (diff_Parse.calls (hL := ld) k a0 t637 t638 _ A6.out).mono ?_); rintro e w14 ⟨v639, rfl, ho0, hb⟩; refine ⟨_, rfl, ?_⟩; have HO640 := Aside0.mk (Kd.R_lower ho0 (below_size (uW HB.out))); replace HB := cW HB hb; (try clear hb); (try clear ho0)) | (refine gL (some 19) rfl Tryz.func21 #[.string a0] ?_; (with_reducible refine (r09_Parse.calls k a0 t641 t642 _ A7.out).mono ?_); rintro e w15 ⟨v643, rfl, ho0, hb⟩; refine ⟨_, rfl, ?_⟩; have HO644 := Aside0.mk (Kd.R_lower (Kd.R_new' ho0 (Kd.R_lt (uR HO640.out))) (below_size (uW HB.out))); replace HO640 := Aside0.mk (Kd.R_elder' (uR HO640.out) (Kd.R_base ho0) hb); replace HB := cW HB hb; (try clear hb); (try clear ho0); obtain ⟨Ao16, co16, eo16⟩ := Kd.R_slice HO640.out; subst eo16; obtain ⟨Ao17, co17, eo17⟩ := Kd.R_slice HO644.out; subst eo17) | (refine gL (some 24) rfl Tryz.func12 #[.slice Ao16 t637.length co16, .slice Ao17 t641.length co17] ?_; (with_reducible refine (r09_Same.calls k _ _ t637 _ _ t641 true _ ?side1 ?side2 ?side3 ?side4 A8.out).mono ?_); (case side1 => exact uC <| (Kd.R_reads' HO640.out).2.2); (case side2 => exact (Kd.R_reads' HO640.out).2.1); (case side3 => exact uC <| (Kd.R_reads' HO644.out).2.2); (case side4 => exact (Kd.R_reads' HO644.out).2.1); rintro e w' ⟨rfl, ⟨nd, rfl⟩⟩; refine ⟨_, rfl, ?_⟩) | (go_at_call 14; (with_reducible refine (diff_Text.calls (hL := ld) k _ _ t637 t646 _ ?side1 ?side2 A12.out).mono ?_); (case side1 => exact uC <| (Kd.R_reads' HO640.out).2.2); (case side2 => exact (Kd.R_reads' HO640.out).2.1); rintro e w18 ⟨rfl, hb⟩; replace HO640 := cR HO640 hb; replace HO644 := cR HO644 hb; replace HB := cW HB hb; (try clear hb)))
     go_ret
     exact ⟨re_, uW HB.out⟩
    ·
     rw [if_neg c11] at H
     have c11b0 : (t638 == 0) = false := beq_eq_false_iff_ne.mpr c11
     have c11b1 : (t638 != 0) = true := bne_iff_ne.mpr c11
     obtain rfl := Option.some.inj H
     go_enter Tryz.func5, Tryz.ntmps5
     go_wp2_with (first | (refine gL (some 7) rfl Tryz.func8 #[] ?_; (with_reducible refine (w09_alive.calls (hL := ld) k  true _ A2.out).mono ?_); rintro e w19 ⟨rfl, hb⟩; refine ⟨_, rfl, ?_⟩; replace HB := cW HB hb; (try clear hb)) | (refine gL (some 14) rfl Tryz.func20 #[.string a0] ?_; (with_reducible refine (diff_Parse.calls (hL := ld) k a0 t637 t638 _ A6.out).mono ?_); rintro e w20 ⟨v639, rfl, ho0, hb⟩; refine ⟨_, rfl, ?_⟩; have HO640 := Aside0.mk (Kd.R_lower ho0 (below_size (uW HB.out))); replace HB := cW HB hb; (try clear hb); (try clear ho0)) | (refine gL (some 19) rfl Tryz.func21 #[.string a0] ?_; (with_reducible refine (r09_Parse.calls k a0 t641 t642 _ A7.out).mono ?_); rintro e w21 ⟨v643, rfl, ho0, hb⟩; refine ⟨_, rfl, ?_⟩; have HO644 := Aside0.mk (Kd.R_lower (Kd.R_new' ho0 (Kd.R_lt (uR HO640.out))) (below_size (uW HB.out))); replace HO640 := Aside0.mk (Kd.R_elder' (uR HO640.out) (Kd.R_base ho0) hb); replace HB := cW HB hb; (try clear hb); (try clear ho0); obtain ⟨Ao22, co22, eo22⟩ := Kd.R_slice HO640.out; subst eo22; obtain ⟨Ao23, co23, eo23⟩ := Kd.R_slice HO644.out; subst eo23) | (refine gL (some 24) rfl Tryz.func12 #[.slice Ao22 t637.length co22, .slice Ao23 t641.length co23] ?_; (with_reducible refine (r09_Same.calls k _ _ t637 _ _ t641 true _ ?side1 ?side2 ?side3 ?side4 A8.out).mono ?_); (case side1 => exact uC <| (Kd.R_reads' HO640.out).2.2); (case side2 => exact (Kd.R_reads' HO640.out).2.1); (case side3 => exact uC <| (Kd.R_reads' HO644.out).2.2); (case side4 => exact (Kd.R_reads' HO644.out).2.1); rintro e w' ⟨rfl, ⟨nd, rfl⟩⟩; refine ⟨_, rfl, ?_⟩))
     go_ret
     exact ⟨re_, uW HB.out⟩
   ·
    replace c9 := Bool.eq_false_iff.mpr c9
    subst c9
    rw [if_neg (show ¬ (false = true) by decide)] at H
    exact absurd H (by simp)
 ·
  replace c3 := Bool.eq_false_iff.mpr c3
  subst c3
  rw [if_neg (show ¬ (false = true) by decide)] at H
  exact absurd H (by simp)
def w09_DiffParses.Pure : Prop := ∀ (a0 : ByteArray), (a0.size ≤ 140737488351232) → ∃ k, w09_DiffParses.f k a0 = some true
theorem w09_DiffParses.walk (P : w09_DiffParses.Pure) (a0 : ByteArray) (w : World) (hL : LD w)  (q0 : a0.size ≤ 140737488351232) :
 Calls Tryz.prog 5 #[.string a0] w fun e w' => e = .returned (.bool true) ∧ Below w.heap.size w w' := by
 obtain ⟨k, h⟩ := P a0 q0
 refine (w09_DiffParses.calls (hL := hL) k a0 true w h).mono ?_
 rintro e w' ⟨rfl, hd⟩
 exact ⟨rfl, hd⟩
end Go.Proofs.YtgcbejidponoaaaGreatDoor.X
