/- Printed by a program of this session's own: what functions of the program compute, and that the machine computes it. No condition of its own. -/
import Derived.Test.YtgcbejidponoaaaGreatDoorM3
import Derived.Test.YtgcbejidponoaaaGreatDoorM4
import Derived.Test.YtgcbejidponoaaaGreatDoorM7
import Derived.Test.YtgcbejidponoaaaGreatDoorM8
import Derived.Test.YtgcbejidponoaaaGreatDoorM9
namespace Go.Proofs.YtgcbejidponoaaaGreatDoor.X
open Go.RowKit Go.Proofs.YtgcbejidponoaaaGreatDoorW.PrintWords Go.Proofs.YtgcbejidponoaaaGreatDoorW.PrintLast Go.Proofs.YtgcbejidponoaaaGreatDoorW.PrintMore
attribute [local go_sem] max2_int min2_int max_two min_two max_three min_three max_four min_four
set_option linter.unusedVariables false
set_option linter.unusedSimpArgs false
set_option maxHeartbeats 8000000
set_option maxRecDepth 100000
def diff_one.f (k : Nat) (a0 : ByteArray) : Option (Int × ByteArray × Int × Bool × Bool × Int) := (strings_CutPrefix.f a0 (⟨#[33]⟩ : ByteArray)).bind fun bt499 => (if bt499.2 = true then ((diff_leaves.f k bt499.1).bind fun bt501 => (some (bt501.1, bt501.2.1, bt501.2.2.1, bt501.2.2.2.1, bt501.2.2.2.2.1, bt501.2.2.2.2.2))) else ((row_Parse.f k a0).bind fun bt507 => (if bt507.2 = 0 then (if (bt507.1.length : Int) = 0 then (some (0, (⟨#[]⟩ : ByteArray), 0, false, false, 2)) else (if 0 < (bt507.1.length : Int) then (some ((rd_T45 bt507.1 0).f0, (rd_T45 bt507.1 0).f1, (rd_T45 bt507.1 0).f2.f0, (rd_T45 bt507.1 0).f2.f1, false, 0)) else (none))) else (some (0, (⟨#[]⟩ : ByteArray), 0, false, false, bt507.2)))))
theorem diff_one.mono : ∀ a0 k, LeO (diff_one.f k a0) (diff_one.f (k + 1) a0) := by
 intro a0 k
 unfold diff_one.f
 exact lo
instance diff_one.mI {a0 k} : LeC (diff_one.f k a0) (diff_one.f (k + 1) a0) := ⟨diff_one.mono _ _⟩
theorem diff_one.calls (k : Nat) (a0 : ByteArray) (r1 : Int) (r2 : ByteArray) (r3 : Int) (r4 : Bool) (r5 : Bool) (r6 : Int) (w : World) (hL : LD w) (h : diff_one.f k a0 = some (r1, r2, r3, r4, r5, r6)) :
 Calls Tryz.prog 40 #[.string a0] w fun e w' => e = .returned (.tuple #[.agg #[.int .i64 r1, .string r2, .int .i64 r3, .bool r4, .bool r5], .int .i64 r6]) ∧ Below w.heap.size w w' := by
 have HL0 := Aside0.mk hL
 clear hL
 have hu48 := Tryz.underlying48
 have hu45 := Tryz.underlying45
 have HB := Aside0.mk (Below.refl w.heap.size w)
 have H : ((strings_CutPrefix.f a0 (⟨#[33]⟩ : ByteArray)).bind fun bt499 => (if bt499.2 = true then ((diff_leaves.f k bt499.1).bind fun bt501 => (some (bt501.1, bt501.2.1, bt501.2.2.1, bt501.2.2.2.1, bt501.2.2.2.2.1, bt501.2.2.2.2.2))) else ((row_Parse.f k a0).bind fun bt507 => (if bt507.2 = 0 then (if (bt507.1.length : Int) = 0 then (some (0, (⟨#[]⟩ : ByteArray), 0, false, false, 2)) else (if 0 < (bt507.1.length : Int) then (some ((rd_T45 bt507.1 0).f0, (rd_T45 bt507.1 0).f1, (rd_T45 bt507.1 0).f2.f0, (rd_T45 bt507.1 0).f2.f1, false, 0)) else (none))) else (some (0, (⟨#[]⟩ : ByteArray), 0, false, false, bt507.2)))))) = some (r1, r2, r3, r4, r5, r6) := h
 clear h
 obtain ⟨⟨t499, t500⟩, A2, H⟩ := bs H
 try dsimp only at H
 by_cases c3 : t500 = true
 ·
  subst c3
  rw [if_pos rfl] at H
  obtain ⟨⟨t501, t502, t503, t504, t505, t506⟩, A4, H⟩ := bs H
  try dsimp only at H
  simp only [Option.some.injEq, Prod.mk.injEq] at H
  obtain ⟨rfl, rfl, rfl, rfl, rfl, rfl⟩ := H
  go_enter Tryz.func40, Tryz.ntmps40
  go_wp2_with (first | ((with_reducible refine gate_dst (N := 2) rfl ?_); refine bx (N := 2) #[.int .i64 0, .string (⟨#[]⟩ : ByteArray), .int .i64 0, .bool false, .bool false] 48 ?_; intro gb498 hg w5 hbox hb; have BK498 := Aside0.mk (hbox); have GW498 := gw hg (uW HB.out); have GE498 := GW498; replace HB := cW HB hb; clear hb hbox hg) | (refine gL (some 10) rfl Tryz.func57 #[.string a0, .string (⟨#[33]⟩ : ByteArray)] ?_; (with_reducible refine (strings_CutPrefix.calls a0 (⟨#[33]⟩ : ByteArray) t499 true _ A2.out).mono ?_); rintro e w' ⟨rfl, ⟨nd, rfl⟩⟩; refine ⟨_, rfl, ?_⟩; (try (rw [drewN_self w5]; generalize hq_ : World.drewN w5 _ = w5; have n0_ : Aside0 (w5.heap[gb498]? = some (.cells #[.int .i64 0, .string (⟨#[]⟩ : ByteArray), .int .i64 0, .bool false, .bool false] 48 (0, 0))) := ⟨by rw [← hq_]; exact (uB BK498.out)⟩; have n1_ : Aside0 (Below w.heap.size w w5) := ⟨by rw [← hq_]; exact bl⟩; clear BK498 HB hq_; have BK498 := n0_; have HB := n1_; clear n0_ n1_))) | (refine gL (some 15) rfl Tryz.func58 #[.string t499] ?_; (with_reducible refine (diff_leaves.calls (hL := ld) k t499 t501 t502 t503 t504 t505 t506 _ A4.out).mono ?_); rintro e w6 ⟨rfl, hb⟩; refine ⟨_, rfl, ?_⟩; replace BK498 := cB BK498 hb; replace HB := Aside0.mk (below_step bl hb); (try clear hb); obtain ⟨hcz7_0, hcz7_1, hcz7_2, hcz7_3, hcz7_4, hfz7_0, hfz7_1, hfz7_2, hfz7_3, hfz7_4⟩ := z5 BK498) | ((with_reducible refine gate_store (t := 48) (p := 2) rfl ?_); refine store_event (t := 48) (p := 2) (v := ?vo_w8) (w1 := (((((w6.setCell ⟨gb498, 0, none⟩ (.int .i64 t501)).setCell ⟨gb498, 1, none⟩ (.string t502)).setCell ⟨gb498, 2, none⟩ (.int .i64 t503)).setCell ⟨gb498, 3, none⟩ (.bool t504)).setCell ⟨gb498, 4, none⟩ (.bool t505))) ?hg ?ho ?hn ?hr ?_; (case ho => rfl); (case hg => rfl); (case hn => rfl); (case hr => first | (go_simp; done) | (go_simp; rfl)); intro w8 hw; have n0_ : Aside0 (w8.heap[gb498]? = some (.cells #[.int .i64 t501, .string t502, .int .i64 t503, .bool t504, .bool t505] 48 (0, 0))) := ⟨(by rw [hw]; exact (by (with_reducible repeat (first | refine blk_drewN ?_ _ | refine blk_drew ?_ | refine blk_alloc ?_ _)); refine blk_put (cs := #[.int .i64 t501, .string t502, .int .i64 t503, .bool t504, .bool false]) ?_ 4 _ rfl; (with_reducible repeat (first | refine blk_drewN ?_ _ | refine blk_drew ?_ | refine blk_alloc ?_ _)); refine blk_put (cs := #[.int .i64 t501, .string t502, .int .i64 t503, .bool false, .bool false]) ?_ 3 _ rfl; (with_reducible repeat (first | refine blk_drewN ?_ _ | refine blk_drew ?_ | refine blk_alloc ?_ _)); refine blk_put (cs := #[.int .i64 t501, .string t502, .int .i64 0, .bool false, .bool false]) ?_ 2 _ rfl; (with_reducible repeat (first | refine blk_drewN ?_ _ | refine blk_drew ?_ | refine blk_alloc ?_ _)); refine blk_put (cs := #[.int .i64 t501, .string (⟨#[]⟩ : ByteArray), .int .i64 0, .bool false, .bool false]) ?_ 1 _ rfl; (with_reducible repeat (first | refine blk_drewN ?_ _ | refine blk_drew ?_ | refine blk_alloc ?_ _)); refine blk_put (cs := #[.int .i64 0, .string (⟨#[]⟩ : ByteArray), .int .i64 0, .bool false, .bool false]) ?_ 0 _ rfl; exact uB <| BK498.out))⟩; have n1_ : Aside0 (Below w.heap.size w w8) := ⟨(by rw [hw]; exact bl)⟩; clear hw; clear BK498; clear HB; have BK498 := n0_; have HB := n1_; clear n0_ n1_))
  refine bodyPost_ret (results_ct rfl _ _ gb498 48 #[.int .i64 t501, .string t502, .int .i64 t503, .bool t504, .bool t505] (0, 0) _ rfl (uB BK498.out) Tryz.underlying48 rfl (by kernel_rfl)) rfl ?_
  exact ⟨re_, bl⟩
 ·
  replace c3 := Bool.eq_false_iff.mpr c3
  subst c3
  rw [if_neg (show ¬ (false = true) by decide)] at H
  obtain ⟨⟨t507, t508⟩, A9, H⟩ := bs H
  try dsimp only at H
  by_cases c10 : t508 = 0
  ·
   rw [if_pos c10] at H
   have c10b0 : (t508 == 0) = true := beq_iff_eq.mpr c10
   have c10b1 : (t508 != 0) = false := bne_eq_false_iff_eq.mpr c10
   clear c10
   by_cases c11 : (t507.length : Int) = 0
   ·
    rw [if_pos c11] at H
    have c11b0 : ((t507.length : Int) == 0) = true := beq_iff_eq.mpr c11
    have c11b1 : ((t507.length : Int) != 0) = false := bne_eq_false_iff_eq.mpr c11
    clear c11
    simp only [Option.some.injEq, Prod.mk.injEq] at H
    obtain ⟨rfl, rfl, rfl, rfl, rfl, rfl⟩ := H
    go_enter Tryz.func40, Tryz.ntmps40
    go_wp2_with (first | ((with_reducible refine gate_dst (N := 2) rfl ?_); refine bx (N := 2) #[.int .i64 0, .string (⟨#[]⟩ : ByteArray), .int .i64 0, .bool false, .bool false] 48 ?_; intro gb498 hg w12 hbox hb; have BK498 := Aside0.mk (hbox); have GW498 := gw hg (uW HB.out); have GE498 := GW498; replace HB := cW HB hb; clear hb hbox hg) | (refine gL (some 10) rfl Tryz.func57 #[.string a0, .string (⟨#[33]⟩ : ByteArray)] ?_; (with_reducible refine (strings_CutPrefix.calls a0 (⟨#[33]⟩ : ByteArray) t499 false _ A2.out).mono ?_); rintro e w' ⟨rfl, ⟨nd, rfl⟩⟩; refine ⟨_, rfl, ?_⟩; (try (rw [drewN_self w12]; generalize hq_ : World.drewN w12 _ = w12; have n0_ : Aside0 (w12.heap[gb498]? = some (.cells #[.int .i64 0, .string (⟨#[]⟩ : ByteArray), .int .i64 0, .bool false, .bool false] 48 (0, 0))) := ⟨by rw [← hq_]; exact (uB BK498.out)⟩; have n1_ : Aside0 (Below w.heap.size w w12) := ⟨by rw [← hq_]; exact bl⟩; clear BK498 HB hq_; have BK498 := n0_; have HB := n1_; clear n0_ n1_))) | (refine gL (some 20) rfl Tryz.func59 #[.string a0] ?_; (with_reducible refine (row_Parse.calls (hL := ld) k a0 t507 t508 _ A9.out).mono ?_); rintro e w13 ⟨v509, rfl, ho0, hb⟩; refine ⟨_, rfl, ?_⟩; have HO510 := Aside0.mk (Kd.R_lower ho0 (below_size bl)); replace BK498 := cB BK498 hb; replace HB := Aside0.mk (below_step bl hb); (try clear hb); (try clear ho0); obtain ⟨Ao14, co14, eo14⟩ := Kd.R_slice HO510.out; subst eo14; obtain ⟨hcz15_0, hcz15_1, hcz15_2, hcz15_3, hcz15_4, hfz15_0, hfz15_1, hfz15_2, hfz15_3, hfz15_4⟩ := z5 BK498) | ((with_reducible refine gate_store (t := 48) (p := 2) rfl ?_); refine store_event (t := 48) (p := 2) (v := ?vo_w16) (w1 := (((((w13.setCell ⟨gb498, 0, none⟩ (.int .i64 0)).setCell ⟨gb498, 1, none⟩ (.string (⟨#[]⟩ : ByteArray))).setCell ⟨gb498, 2, none⟩ (.int .i64 0)).setCell ⟨gb498, 3, none⟩ (.bool false)).setCell ⟨gb498, 4, none⟩ (.bool false))) ?hg ?ho ?hn ?hr ?_; (case ho => rfl); (case hg => rfl); (case hn => rfl); (case hr => first | (go_simp; done) | (go_simp; rfl)); intro w16 hw; have n0_ : Aside0 (Kd.R k45 45 w16 w.heap.size (fun _ => True) (.slice Ao14 t507.length co14) t507) := ⟨(by rw [hw]; exact (by exact uR <| Kd.R_mono (Kd.R_far (p := ⟨gb498, 4, none⟩) (Kd.R_far (p := ⟨gb498, 3, none⟩) (Kd.R_far (p := ⟨gb498, 2, none⟩) (Kd.R_far (p := ⟨gb498, 1, none⟩) (Kd.R_far (p := ⟨gb498, 0, none⟩) (Kd.R_types HO510.out BK498.out (by decide)) (fun _ hk => hk.2) (.int .i64 0)) (fun _ hk => hk.2) (.string (⟨#[]⟩ : ByteArray))) (fun _ hk => hk.2) (.int .i64 0)) (fun _ hk => hk.2) (.bool false)) (fun _ hk => hk.2) (.bool false)) (fun _ hk => trivial)))⟩; have n1_ : Aside0 (w16.heap[gb498]? = some (.cells #[.int .i64 0, .string (⟨#[]⟩ : ByteArray), .int .i64 0, .bool false, .bool false] 48 (0, 0))) := ⟨(by rw [hw]; exact (by (with_reducible repeat (first | refine blk_drewN ?_ _ | refine blk_drew ?_ | refine blk_alloc ?_ _)); refine blk_put (cs := #[.int .i64 0, .string (⟨#[]⟩ : ByteArray), .int .i64 0, .bool false, .bool false]) ?_ 4 _ rfl; (with_reducible repeat (first | refine blk_drewN ?_ _ | refine blk_drew ?_ | refine blk_alloc ?_ _)); refine blk_put (cs := #[.int .i64 0, .string (⟨#[]⟩ : ByteArray), .int .i64 0, .bool false, .bool false]) ?_ 3 _ rfl; (with_reducible repeat (first | refine blk_drewN ?_ _ | refine blk_drew ?_ | refine blk_alloc ?_ _)); refine blk_put (cs := #[.int .i64 0, .string (⟨#[]⟩ : ByteArray), .int .i64 0, .bool false, .bool false]) ?_ 2 _ rfl; (with_reducible repeat (first | refine blk_drewN ?_ _ | refine blk_drew ?_ | refine blk_alloc ?_ _)); refine blk_put (cs := #[.int .i64 0, .string (⟨#[]⟩ : ByteArray), .int .i64 0, .bool false, .bool false]) ?_ 1 _ rfl; (with_reducible repeat (first | refine blk_drewN ?_ _ | refine blk_drew ?_ | refine blk_alloc ?_ _)); refine blk_put (cs := #[.int .i64 0, .string (⟨#[]⟩ : ByteArray), .int .i64 0, .bool false, .bool false]) ?_ 0 _ rfl; exact uB <| BK498.out))⟩; have n2_ : Aside0 (Below w.heap.size w w16) := ⟨(by rw [hw]; exact bl)⟩; clear hw; clear HO510; clear BK498; clear HB; have HO510 := n0_; have BK498 := n1_; have HB := n2_; clear n0_ n1_ n2_))
    refine bodyPost_ret (results_ct rfl _ _ gb498 48 #[.int .i64 0, .string (⟨#[]⟩ : ByteArray), .int .i64 0, .bool false, .bool false] (0, 0) _ rfl (uB BK498.out) Tryz.underlying48 rfl (by kernel_rfl)) rfl ?_
    exact ⟨re_, bl⟩
   ·
    rw [if_neg c11] at H
    have c11b0 : ((t507.length : Int) == 0) = false := beq_eq_false_iff_ne.mpr c11
    have c11b1 : ((t507.length : Int) != 0) = true := bne_iff_ne.mpr c11
    have c11b2 : ¬ (t507 = []) := fun h_ => c11 (by rw [h_]; rfl)
    obtain ⟨c17, H⟩ := gd H
    have c17b0 : decide (0 < (t507.length : Int)) = true := decide_eq_true c17
    have c17b1 : decide (0 < t507.length) = true := decide_eq_true (by omega)
    clear c17
    simp only [Option.some.injEq, Prod.mk.injEq] at H
    obtain ⟨rfl, rfl, rfl, rfl, rfl, rfl⟩ := H
    go_enter Tryz.func40, Tryz.ntmps40
    go_wp2_with (first | ((with_reducible refine gate_dst (N := 2) rfl ?_); refine bx (N := 2) #[.int .i64 0, .string (⟨#[]⟩ : ByteArray), .int .i64 0, .bool false, .bool false] 48 ?_; intro gb498 hg w18 hbox hb; have BK498 := Aside0.mk (hbox); have GW498 := gw hg (uW HB.out); have GE498 := GW498; replace HB := cW HB hb; clear hb hbox hg) | (refine gL (some 10) rfl Tryz.func57 #[.string a0, .string (⟨#[33]⟩ : ByteArray)] ?_; (with_reducible refine (strings_CutPrefix.calls a0 (⟨#[33]⟩ : ByteArray) t499 false _ A2.out).mono ?_); rintro e w' ⟨rfl, ⟨nd, rfl⟩⟩; refine ⟨_, rfl, ?_⟩; (try (rw [drewN_self w18]; generalize hq_ : World.drewN w18 _ = w18; have n0_ : Aside0 (w18.heap[gb498]? = some (.cells #[.int .i64 0, .string (⟨#[]⟩ : ByteArray), .int .i64 0, .bool false, .bool false] 48 (0, 0))) := ⟨by rw [← hq_]; exact (uB BK498.out)⟩; have n1_ : Aside0 (Below w.heap.size w w18) := ⟨by rw [← hq_]; exact bl⟩; clear BK498 HB hq_; have BK498 := n0_; have HB := n1_; clear n0_ n1_))) | (refine gL (some 20) rfl Tryz.func59 #[.string a0] ?_; (with_reducible refine (row_Parse.calls (hL := ld) k a0 t507 t508 _ A9.out).mono ?_); rintro e w19 ⟨v509, rfl, ho0, hb⟩; refine ⟨_, rfl, ?_⟩; have HO510 := Aside0.mk (Kd.R_lower ho0 (below_size bl)); replace BK498 := cB BK498 hb; replace HB := Aside0.mk (below_step bl hb); (try clear hb); (try clear ho0); obtain ⟨Ao20, co20, eo20⟩ := Kd.R_slice HO510.out; subst eo20; have p511 : 0 ≤ (0 : Int) := (by omega); have q511 : 0 < (t507.length : Int) := od; obtain ⟨ad511, e511, hx511_0, hx511_1, hx511_2, hx511_3⟩ := at_T45 (Kd.R_reads' HO510.out).2.2 0 p511 q511; cases e511; have qi511 : (0 < t507.length) = True := eq_true (by omega); (try rw [show ((0 : Int)).toNat = 0 from rfl] at hx511_0); (try rw [show 0 * 4 = 0 from rfl] at hx511_0); (try rw [Addr.add_zero'] at hx511_0); (try rw [show ((0 : Int)).toNat = 0 from rfl] at hx511_1); (try rw [show 0 * 4 = 0 from rfl] at hx511_1); (try rw [Addr.add_zero'] at hx511_1); (try rw [show ((0 : Int)).toNat = 0 from rfl] at hx511_2); (try rw [show 0 * 4 = 0 from rfl] at hx511_2); (try rw [Addr.add_zero'] at hx511_2); (try rw [show ((0 : Int)).toNat = 0 from rfl] at hx511_3); (try rw [show 0 * 4 = 0 from rfl] at hx511_3); (try rw [Addr.add_zero'] at hx511_3); replace p511 := eq_true p511; replace q511 := eq_true q511; obtain ⟨hcz21_0, hcz21_1, hcz21_2, hcz21_3, hcz21_4, hfz21_0, hfz21_1, hfz21_2, hfz21_3, hfz21_4⟩ := z5 BK498) | ((with_reducible refine gate_store (t := 48) (p := 2) rfl ?_); refine store_event (t := 48) (p := 2) (v := ?vo_w22) (w1 := (((((w19.setCell ⟨gb498, 0, none⟩ (.int .i64 ((rd_T45 t507 0).f0))).setCell ⟨gb498, 1, none⟩ (.string ((rd_T45 t507 0).f1))).setCell ⟨gb498, 2, none⟩ (.int .i64 ((rd_T45 t507 0).f2.f0))).setCell ⟨gb498, 3, none⟩ (.bool ((rd_T45 t507 0).f2.f1))).setCell ⟨gb498, 4, none⟩ (.bool false))) ?hg ?ho ?hn ?hr ?_; (case ho => rfl); (case hg => rfl); (case hn => rfl); (case hr => first | (go_simp; done) | (go_simp; rfl)); intro w22 hw; have n0_ : Aside0 (Kd.R k45 45 w22 w.heap.size (fun _ => True) (.slice (some ad511) t507.length co20) t507) := ⟨(by rw [hw]; exact (by exact uR <| Kd.R_mono (Kd.R_far (p := ⟨gb498, 4, none⟩) (Kd.R_far (p := ⟨gb498, 3, none⟩) (Kd.R_far (p := ⟨gb498, 2, none⟩) (Kd.R_far (p := ⟨gb498, 1, none⟩) (Kd.R_far (p := ⟨gb498, 0, none⟩) (Kd.R_types HO510.out BK498.out (by decide)) (fun _ hk => hk.2) (.int .i64 ((rd_T45 t507 0).f0))) (fun _ hk => hk.2) (.string ((rd_T45 t507 0).f1))) (fun _ hk => hk.2) (.int .i64 ((rd_T45 t507 0).f2.f0))) (fun _ hk => hk.2) (.bool ((rd_T45 t507 0).f2.f1))) (fun _ hk => hk.2) (.bool false)) (fun _ hk => trivial)))⟩; have n1_ : Aside0 (w22.heap[gb498]? = some (.cells #[.int .i64 ((rd_T45 t507 0).f0), .string ((rd_T45 t507 0).f1), .int .i64 ((rd_T45 t507 0).f2.f0), .bool ((rd_T45 t507 0).f2.f1), .bool false] 48 (0, 0))) := ⟨(by rw [hw]; exact (by (with_reducible repeat (first | refine blk_drewN ?_ _ | refine blk_drew ?_ | refine blk_alloc ?_ _)); refine blk_put (cs := #[.int .i64 ((rd_T45 t507 0).f0), .string ((rd_T45 t507 0).f1), .int .i64 ((rd_T45 t507 0).f2.f0), .bool ((rd_T45 t507 0).f2.f1), .bool false]) ?_ 4 _ rfl; (with_reducible repeat (first | refine blk_drewN ?_ _ | refine blk_drew ?_ | refine blk_alloc ?_ _)); refine blk_put (cs := #[.int .i64 ((rd_T45 t507 0).f0), .string ((rd_T45 t507 0).f1), .int .i64 ((rd_T45 t507 0).f2.f0), .bool false, .bool false]) ?_ 3 _ rfl; (with_reducible repeat (first | refine blk_drewN ?_ _ | refine blk_drew ?_ | refine blk_alloc ?_ _)); refine blk_put (cs := #[.int .i64 ((rd_T45 t507 0).f0), .string ((rd_T45 t507 0).f1), .int .i64 0, .bool false, .bool false]) ?_ 2 _ rfl; (with_reducible repeat (first | refine blk_drewN ?_ _ | refine blk_drew ?_ | refine blk_alloc ?_ _)); refine blk_put (cs := #[.int .i64 ((rd_T45 t507 0).f0), .string (⟨#[]⟩ : ByteArray), .int .i64 0, .bool false, .bool false]) ?_ 1 _ rfl; (with_reducible repeat (first | refine blk_drewN ?_ _ | refine blk_drew ?_ | refine blk_alloc ?_ _)); refine blk_put (cs := #[.int .i64 0, .string (⟨#[]⟩ : ByteArray), .int .i64 0, .bool false, .bool false]) ?_ 0 _ rfl; exact uB <| BK498.out))⟩; have n2_ : Aside0 (Below w.heap.size w w22) := ⟨(by rw [hw]; exact bl)⟩; clear hw; clear HO510; clear BK498; clear HB; have HO510 := n0_; have BK498 := n1_; have HB := n2_; clear n0_ n1_ n2_))
    refine bodyPost_ret (results_ct rfl _ _ gb498 48 #[.int .i64 ((rd_T45 t507 0).f0), .string ((rd_T45 t507 0).f1), .int .i64 ((rd_T45 t507 0).f2.f0), .bool ((rd_T45 t507 0).f2.f1), .bool false] (0, 0) _ rfl (uB BK498.out) Tryz.underlying48 rfl (by kernel_rfl)) rfl ?_
    exact ⟨re_, bl⟩
  ·
   rw [if_neg c10] at H
   have c10b0 : (t508 == 0) = false := beq_eq_false_iff_ne.mpr c10
   have c10b1 : (t508 != 0) = true := bne_iff_ne.mpr c10
   simp only [Option.some.injEq, Prod.mk.injEq] at H
   obtain ⟨rfl, rfl, rfl, rfl, rfl, rfl⟩ := H
   go_enter Tryz.func40, Tryz.ntmps40
   go_wp2_with (first | ((with_reducible refine gate_dst (N := 2) rfl ?_); refine bx (N := 2) #[.int .i64 0, .string (⟨#[]⟩ : ByteArray), .int .i64 0, .bool false, .bool false] 48 ?_; intro gb498 hg w23 hbox hb; have BK498 := Aside0.mk (hbox); have GW498 := gw hg (uW HB.out); have GE498 := GW498; replace HB := cW HB hb; clear hb hbox hg) | (refine gL (some 10) rfl Tryz.func57 #[.string a0, .string (⟨#[33]⟩ : ByteArray)] ?_; (with_reducible refine (strings_CutPrefix.calls a0 (⟨#[33]⟩ : ByteArray) t499 false _ A2.out).mono ?_); rintro e w' ⟨rfl, ⟨nd, rfl⟩⟩; refine ⟨_, rfl, ?_⟩; (try (rw [drewN_self w23]; generalize hq_ : World.drewN w23 _ = w23; have n0_ : Aside0 (w23.heap[gb498]? = some (.cells #[.int .i64 0, .string (⟨#[]⟩ : ByteArray), .int .i64 0, .bool false, .bool false] 48 (0, 0))) := ⟨by rw [← hq_]; exact (uB BK498.out)⟩; have n1_ : Aside0 (Below w.heap.size w w23) := ⟨by rw [← hq_]; exact bl⟩; clear BK498 HB hq_; have BK498 := n0_; have HB := n1_; clear n0_ n1_))) | (refine gL (some 20) rfl Tryz.func59 #[.string a0] ?_; (with_reducible refine (row_Parse.calls (hL := ld) k a0 t507 t508 _ A9.out).mono ?_); rintro e w24 ⟨v509, rfl, ho0, hb⟩; refine ⟨_, rfl, ?_⟩; have HO510 := Aside0.mk (Kd.R_lower ho0 (below_size bl)); replace BK498 := cB BK498 hb; replace HB := Aside0.mk (below_step bl hb); (try clear hb); (try clear ho0); obtain ⟨hcz25_0, hcz25_1, hcz25_2, hcz25_3, hcz25_4, hfz25_0, hfz25_1, hfz25_2, hfz25_3, hfz25_4⟩ := z5 BK498) | ((with_reducible refine gate_store (t := 48) (p := 2) rfl ?_); refine store_event (t := 48) (p := 2) (v := ?vo_w26) (w1 := (((((w24.setCell ⟨gb498, 0, none⟩ (.int .i64 0)).setCell ⟨gb498, 1, none⟩ (.string (⟨#[]⟩ : ByteArray))).setCell ⟨gb498, 2, none⟩ (.int .i64 0)).setCell ⟨gb498, 3, none⟩ (.bool false)).setCell ⟨gb498, 4, none⟩ (.bool false))) ?hg ?ho ?hn ?hr ?_; (case ho => rfl); (case hg => rfl); (case hn => rfl); (case hr => first | (go_simp; done) | (go_simp; rfl)); intro w26 hw; have n0_ : Aside0 (Kd.R k45 45 w26 w.heap.size (fun _ => True) v509 t507) := ⟨(by rw [hw]; exact (by exact uR <| Kd.R_mono (Kd.R_far (p := ⟨gb498, 4, none⟩) (Kd.R_far (p := ⟨gb498, 3, none⟩) (Kd.R_far (p := ⟨gb498, 2, none⟩) (Kd.R_far (p := ⟨gb498, 1, none⟩) (Kd.R_far (p := ⟨gb498, 0, none⟩) (Kd.R_types HO510.out BK498.out (by decide)) (fun _ hk => hk.2) (.int .i64 0)) (fun _ hk => hk.2) (.string (⟨#[]⟩ : ByteArray))) (fun _ hk => hk.2) (.int .i64 0)) (fun _ hk => hk.2) (.bool false)) (fun _ hk => hk.2) (.bool false)) (fun _ hk => trivial)))⟩; have n1_ : Aside0 (w26.heap[gb498]? = some (.cells #[.int .i64 0, .string (⟨#[]⟩ : ByteArray), .int .i64 0, .bool false, .bool false] 48 (0, 0))) := ⟨(by rw [hw]; exact (by (with_reducible repeat (first | refine blk_drewN ?_ _ | refine blk_drew ?_ | refine blk_alloc ?_ _)); refine blk_put (cs := #[.int .i64 0, .string (⟨#[]⟩ : ByteArray), .int .i64 0, .bool false, .bool false]) ?_ 4 _ rfl; (with_reducible repeat (first | refine blk_drewN ?_ _ | refine blk_drew ?_ | refine blk_alloc ?_ _)); refine blk_put (cs := #[.int .i64 0, .string (⟨#[]⟩ : ByteArray), .int .i64 0, .bool false, .bool false]) ?_ 3 _ rfl; (with_reducible repeat (first | refine blk_drewN ?_ _ | refine blk_drew ?_ | refine blk_alloc ?_ _)); refine blk_put (cs := #[.int .i64 0, .string (⟨#[]⟩ : ByteArray), .int .i64 0, .bool false, .bool false]) ?_ 2 _ rfl; (with_reducible repeat (first | refine blk_drewN ?_ _ | refine blk_drew ?_ | refine blk_alloc ?_ _)); refine blk_put (cs := #[.int .i64 0, .string (⟨#[]⟩ : ByteArray), .int .i64 0, .bool false, .bool false]) ?_ 1 _ rfl; (with_reducible repeat (first | refine blk_drewN ?_ _ | refine blk_drew ?_ | refine blk_alloc ?_ _)); refine blk_put (cs := #[.int .i64 0, .string (⟨#[]⟩ : ByteArray), .int .i64 0, .bool false, .bool false]) ?_ 0 _ rfl; exact uB <| BK498.out))⟩; have n2_ : Aside0 (Below w.heap.size w w26) := ⟨(by rw [hw]; exact bl)⟩; clear hw; clear HO510; clear BK498; clear HB; have HO510 := n0_; have BK498 := n1_; have HB := n2_; clear n0_ n1_ n2_))
   refine bodyPost_ret (results_ct rfl _ _ gb498 48 #[.int .i64 0, .string (⟨#[]⟩ : ByteArray), .int .i64 0, .bool false, .bool false] (0, 0) _ rfl (uB BK498.out) Tryz.underlying48 rfl (by kernel_rfl)) rfl ?_
   exact ⟨re_, bl⟩
def diff_Parse.l0 : Nat → List (S48) → List ByteArray → Int → Int → Option ((List (S48)) × Int)
 | 0, _, _, _, _ => none
 | k + 1, x2, x11, x12, x13 => if x13 < x12 then (if 0 ≤ x13 then (if x13 < (x11.length : Int) then ((diff_one.f k (rdOf ByteArray.empty x11 x13)).bind fun bt516 => (if bt516.2.2.2.2.2 = 0 then (if x2.length < 2932031007402 then (diff_Parse.l0 k (x2 ++ [(⟨(⟨bt516.1, bt516.2.1, (⟨bt516.2.2.1, bt516.2.2.2.1⟩ : S43)⟩ : S45), bt516.2.2.2.2.1⟩ : S48)]) x11 x12 (wrap64 (x13 + 1))) else (none)) else (some (([] : List (S48)), bt516.2.2.2.2.2)))) else (none)) else (none)) else ((diff_right.f k x2).bind fun t526 => (if t526 = true then (some (x2, 0)) else (some (([] : List (S48)), 9))))
def diff_Parse.f (k : Nat) (a0 : ByteArray) : Option ((List (S48)) × Int) := if a0.toList = ([45] : List UInt8) then (some (([] : List (S48)), 0)) else ((word_Split.f k a0 59).bind fun t512 => (diff_Parse.l0 k ([] : List (S48)) t512 (t512.length : Int) 0))
theorem diff_Parse.mono_l : ∀ k, (∀ y0 y1 y2 y3, LeC (diff_Parse.l0 k y0 y1 y2 y3) (diff_Parse.l0 (k + 1) y0 y1 y2 y3))
 | 0 => fun _ _ _ _ => ⟨fun r h => by simp [diff_Parse.l0] at h⟩
 | k + 1 => by have ih0 := diff_Parse.mono_l k; exact fun _ _ _ _ => by unfold diff_Parse.l0; exact lm
theorem diff_Parse.mono : ∀ a0 k, LeO (diff_Parse.f k a0) (diff_Parse.f (k + 1) a0) := by
 intro a0 k
 have ih0 := diff_Parse.mono_l k
 unfold diff_Parse.f
 exact lo
instance diff_Parse.mI {a0 k} : LeC (diff_Parse.f k a0) (diff_Parse.f (k + 1) a0) := ⟨diff_Parse.mono _ _⟩
theorem diff_Parse.calls (k : Nat) (a0 : ByteArray) (r1 : List (S48)) (r2 : Int) (w : World) (hL : LD w) (h : diff_Parse.f k a0 = some (r1, r2)) :
 Calls Tryz.prog 20 #[.string a0] w fun e w' => ∃ v0_ : Value, e = .returned (.tuple #[v0_, .int .i64 r2]) ∧ Kd.R k48 48 w' w.heap.size (fun _ => True) v0_ r1 ∧ Below w.heap.size w w' := by
 have HL0 := Aside0.mk hL
 clear hL
 have hu48 := Tryz.underlying48
 have HB := Aside0.mk (Below.refl w.heap.size w)
 have H : (if a0.toList = ([45] : List UInt8) then (some (([] : List (S48)), 0)) else ((word_Split.f k a0 59).bind fun t512 => (diff_Parse.l0 k ([] : List (S48)) t512 (t512.length : Int) 0))) = some (r1, r2) := h
 clear h
 by_cases c2 : a0.toList = ([45] : List UInt8)
 ·
  rw [if_pos c2] at H
  have c2b0 : (a0.toList == ([45] : List UInt8)) = true := beq_iff_eq.mpr c2
  have c2b1 : (a0.toList != ([45] : List UInt8)) = false := bne_eq_false_iff_eq.mpr c2
  clear c2
  simp only [Option.some.injEq, Prod.mk.injEq] at H
  obtain ⟨rfl, rfl⟩ := H
  go_enter Tryz.func20, Tryz.ntmps20
  go_wp2
  go_ret2
  exact ⟨_, re_, nl_, uW HB.out⟩
 ·
  rw [if_neg c2] at H
  have c2b0 : (a0.toList == ([45] : List UInt8)) = false := beq_eq_false_iff_ne.mpr c2
  have c2b1 : (a0.toList != ([45] : List UInt8)) = true := bne_iff_ne.mpr c2
  obtain ⟨t512, A3, H⟩ := bs H
  try dsimp only at H
  have H' := Aside0.mk H
  clear H
  go_enter Tryz.func20, Tryz.ntmps20
  go_wp2_with (first | (refine gL (some 11) rfl Tryz.func39 #[.string a0, .int .u8 59] ?_; (with_reducible refine (word_Split.calls k a0 59 t512 _ A3.out).mono ?_); rintro e w4 ⟨v513, rfl, ho0, hb⟩; refine ⟨_, rfl, ?_⟩; have HO514 := Aside0.mk (Kd.R_lower ho0 (below_size (uW HB.out))); replace HB := cW HB hb; (try clear hb); (try clear ho0); obtain ⟨Ao5, co5, eo5⟩ := Kd.R_slice HO514.out; subst eo5))
  (try simp only [Act.put, List.setIfInBounds_toArray, List.set_cons_zero, List.set_cons_succ])
  go_loopg [2, 13] k (fun kq v2 v13 w' => ∃ (x2_1 : List (S48)) (x13_1 : Int), v13 = .int .i64 x13_1 ∧ Aside0 (diff_Parse.l0 kq x2_1 t512 (t512.length : Int) x13_1 = some (r1, r2)) ∧ Aside0 (kq ≤ k) ∧ Aside0 (Kd.R k48 48 w' w.heap.size (fun _ => True) v2 x2_1) ∧ Aside0 (Kd.R Kd.string 9 w' w.heap.size (fun _ => True) (.slice Ao5 t512.length co5) t512) ∧ Aside0 (Below w.heap.size w w'))
  case atStart => exact ⟨(([] : List (S48))), (0), rs_, H', ⟨Nat.le_refl _⟩, ⟨nl_⟩, ⟨uR HO514.out⟩, ⟨uW HB.out⟩⟩
  case round =>
   clear H'
   try clear c2
   try clear c2b0
   try clear c2b1
   try clear p2
   try clear c3
   obtain ⟨x2_1, x13_1, rfl, HA, HK1, HO_2, HO_11, HB⟩ := hrel
   cases gk with
   | zero => exact absurd HA.out (by simp [diff_Parse.l0])
   | succ k1 =>
    have H := HA.out
    clear HA
    simp only [diff_Parse.l0] at H
    by_cases c6 : x13_1 < (t512.length : Int)
    ·
     rw [if_pos c6] at H
     have c6b0 : decide (x13_1 < (t512.length : Int)) = true := decide_eq_true c6
     clear c6
     obtain ⟨c7b0, H⟩ := gdd H
     obtain ⟨c8b0, H⟩ := gdd H
     obtain ⟨⟨t516, t517, t518, t519, t520, t521⟩, A9, H⟩ := bs H
     try dsimp only at H
     by_cases c10 : t521 = 0
     ·
      rw [if_pos c10] at H
      have c10b0 : (t521 == 0) = true := beq_iff_eq.mpr c10
      have c10b1 : (t521 != 0) = false := bne_eq_false_iff_eq.mpr c10
      clear c10
      obtain ⟨c11, H⟩ := gd H
      have LMc11 := Aside0.mk c11
      clear c11
      obtain ⟨y523, hy523⟩ : ∃ y_ : List (S48), y_ = (x2_1 ++ [(⟨(⟨t516, t517, (⟨t518, t519⟩ : S43)⟩ : S45), t520⟩ : S48)]) := ⟨_, rfl⟩
      replace H : (diff_Parse.l0 k1 y523 t512 (t512.length : Int) (wrap64 (x13_1 + 1))) = some (r1, r2) := by first | (rw [hy523]; with_reducible exact H) | (have H2_ := (Option.bind_some _ _).symm.trans H; rw [hy523]; with_reducible exact H2_) | (have H2_ := (Option.bind_some _ _).symm.trans H; with_reducible exact H2_) | with_reducible exact H | (rw [hy523]; exact H) | exact H
      have Ny523 := Aside0.mk hy523
      clear hy523
      have H' := Aside0.mk H
      clear H
      have p515 : 0 ≤ (x13_1 : Int) := od
      have q515 : x13_1 < (t512.length : Int) := od
      obtain ⟨ad515, e515, hx515_0⟩ := Kd.at_string (Kd.R_reads' HO_11.out).2.2 x13_1 p515 q515
      cases e515
      replace p515 := eq_true p515
      replace q515 := eq_true q515
      go_wp2_with (first | (refine gL (some 19) rfl Tryz.func40 #[.string (rdOf ByteArray.empty t512 x13_1)] ?_; (with_reducible refine (diff_one.calls (hL := ld) k1 (rdOf ByteArray.empty t512 x13_1) t516 t517 t518 t519 t520 t521 _ A9.out).mono ?_); rintro e w12 ⟨rfl, hb⟩; refine ⟨_, rfl, ?_⟩; replace HO_2 := cR HO_2 hb; replace HO_11 := cR HO_11 hb; replace HB := cW HB hb; (try clear hb)) | ((with_reducible refine gate_dst (N := 6) rfl ?_); refine bx (N := 6) #[.int .i64 0, .string (⟨#[]⟩ : ByteArray), .int .i64 0, .bool false, .bool false] 48 ?_; intro gb522 hg w13 hbox hb; replace HO_2 := Aside0.mk (Kd.R_below (Kd.R_elderB (uR HO_2.out) gb522 (Nat.le_of_eq hg.symm)) hb); replace HO_11 := cR HO_11 hb; have BK522 := Aside0.mk (hbox); have GW522 := gw hg (uW HB.out); have GE522 := GW522; replace HB := cW HB hb; clear hb hbox hg; obtain ⟨hcz14_0, hcz14_1, hcz14_2, hcz14_3, hcz14_4, hfz14_0, hfz14_1, hfz14_2, hfz14_3, hfz14_4⟩ := z5 BK522) | ((with_reducible refine gate_store (t := 48) (p := 6) rfl ?_); refine store_event (t := 48) (p := 6) (v := ?vo_w15) (w1 := (((((w13.setCell ⟨gb522, 0, none⟩ (.int .i64 t516)).setCell ⟨gb522, 1, none⟩ (.string t517)).setCell ⟨gb522, 2, none⟩ (.int .i64 t518)).setCell ⟨gb522, 3, none⟩ (.bool t519)).setCell ⟨gb522, 4, none⟩ (.bool t520))) ?hg ?ho ?hn ?hr ?_; (case ho => rfl); (case hg => rfl); (case hn => rfl); (case hr => first | (go_simp; done) | (go_simp; rfl)); intro w15 hw; have n0_ : Aside0 (Kd.R k48 48 w15 w.heap.size (fun k_ => k_ ≠ gb522) u2 x2_1) := ⟨(by rw [hw]; exact (by exact uR <| Kd.R_mono (Kd.R_far (p := ⟨gb522, 4, none⟩) (Kd.R_far (p := ⟨gb522, 3, none⟩) (Kd.R_far (p := ⟨gb522, 2, none⟩) (Kd.R_far (p := ⟨gb522, 1, none⟩) (Kd.R_far (p := ⟨gb522, 0, none⟩) (Kd.R_mono HO_2.out (fun k_ hk => (⟨hk, hk.2⟩ : _ ∧ k_ ≠ gb522))) (fun _ hk => hk.2) (.int .i64 t516)) (fun _ hk => hk.2) (.string t517)) (fun _ hk => hk.2) (.int .i64 t518)) (fun _ hk => hk.2) (.bool t519)) (fun _ hk => hk.2) (.bool t520)) (fun _ hk => hk.1.2)))⟩; have n1_ : Aside0 (Kd.R Kd.string 9 w15 w.heap.size (fun _ => True) (.slice (some ad515) t512.length co5) t512) := ⟨(by rw [hw]; exact (by exact uR <| Kd.R_mono (Kd.R_far (p := ⟨gb522, 4, none⟩) (Kd.R_far (p := ⟨gb522, 3, none⟩) (Kd.R_far (p := ⟨gb522, 2, none⟩) (Kd.R_far (p := ⟨gb522, 1, none⟩) (Kd.R_far (p := ⟨gb522, 0, none⟩) (Kd.R_types HO_11.out BK522.out (by decide)) (fun _ hk => hk.2) (.int .i64 t516)) (fun _ hk => hk.2) (.string t517)) (fun _ hk => hk.2) (.int .i64 t518)) (fun _ hk => hk.2) (.bool t519)) (fun _ hk => hk.2) (.bool t520)) (fun _ hk => trivial)))⟩; have n2_ : Aside0 (w15.heap[gb522]? = some (.cells #[.int .i64 t516, .string t517, .int .i64 t518, .bool t519, .bool t520] 48 (0, 0))) := ⟨(by rw [hw]; exact (by (with_reducible repeat (first | refine blk_drewN ?_ _ | refine blk_drew ?_ | refine blk_alloc ?_ _)); refine blk_put (cs := #[.int .i64 t516, .string t517, .int .i64 t518, .bool t519, .bool false]) ?_ 4 _ rfl; (with_reducible repeat (first | refine blk_drewN ?_ _ | refine blk_drew ?_ | refine blk_alloc ?_ _)); refine blk_put (cs := #[.int .i64 t516, .string t517, .int .i64 t518, .bool false, .bool false]) ?_ 3 _ rfl; (with_reducible repeat (first | refine blk_drewN ?_ _ | refine blk_drew ?_ | refine blk_alloc ?_ _)); refine blk_put (cs := #[.int .i64 t516, .string t517, .int .i64 0, .bool false, .bool false]) ?_ 2 _ rfl; (with_reducible repeat (first | refine blk_drewN ?_ _ | refine blk_drew ?_ | refine blk_alloc ?_ _)); refine blk_put (cs := #[.int .i64 t516, .string (⟨#[]⟩ : ByteArray), .int .i64 0, .bool false, .bool false]) ?_ 1 _ rfl; (with_reducible repeat (first | refine blk_drewN ?_ _ | refine blk_drew ?_ | refine blk_alloc ?_ _)); refine blk_put (cs := #[.int .i64 0, .string (⟨#[]⟩ : ByteArray), .int .i64 0, .bool false, .bool false]) ?_ 0 _ rfl; exact uB <| BK522.out))⟩; have n3_ : Aside0 (Below w.heap.size w w15) := ⟨(by rw [hw]; exact bl)⟩; clear hw; clear HO_2; clear HO_11; clear BK522; clear HB; have HO_2 := n0_; have HO_11 := n1_; have BK522 := n2_; have HB := n3_; clear n0_ n1_ n2_ n3_; obtain ⟨hcz16_0, hcz16_1, hcz16_2, hcz16_3, hcz16_4, hfz16_0, hfz16_1, hfz16_2, hfz16_3, hfz16_4⟩ := z5 BK522) | ((with_reducible refine gate_builtin (b := .append) (xs := #[.tmp 25, .tmp 27]) rfl ?_); at_builtin; refine Kd.R_append k48 (w0 := w) w.heap.size rfl (.tmp 25) (.tmp 27) 25 48 (.agg #[(.int .i64 0), (.string ⟨#[]⟩), (.int .i64 0), (.bool false), (.bool false)]) 48 rfl Tryz.underlying25 info48 rfl (by decide) (by omega) u2 x2_1 (⟨(⟨t516, t517, (⟨t518, t519⟩ : S43)⟩ : S45), t520⟩ : S48) [.int .i64 t516, .string t517, .int .i64 t518, .bool t519, .bool t520] (fun k_ => k_ ≠ gb522) (fun _ => False) rfl rfl ?aP (fun _ hk => hk.elim) ?aF ?aO ?aB ?aS ?aL ?_; (case aP => exact k48_mkM _ _ _ (⟨(⟨t516, t517, (⟨t518, t519⟩ : S43)⟩ : S45), t520⟩ : S48)); (case aB => exact bl); (case aF => exact (fun k_ hk => Kd.freshB (g := gb522) (o := .cells #[.int .i64 t516, .string t517, .int .i64 t518, .bool t519, .bool t520] 48 (0, 0)) (uB BK522.out) k_ hk)); (case aO => exact (uR HO_2.out)); (case aS => exact (below_size bl)); (case aL => have := LMc11.out; omega); intro v524 w17 ho hb hg hat; rw [← Ny523.out] at ho; replace HO_11 := Aside0.mk (Kd.R_over' (uR HO_11.out) (Kd.R_typed (uR HO_2.out)) (by decide) hg); replace BK522 := Aside0.mk (blk_grown (g := gb522) (o := .cells #[.int .i64 t516, .string t517, .int .i64 t518, .bool t519, .bool t520] 48 (0, 0)) (uB BK522.out) hg (Kd.R_away HO_2.out (fun _ hk => hk))); replace HB := Aside0.mk (hb); have HO525 := Aside0.mk (ho); clear HO_2; clear ho hb hg hat))
      go_roundg k1
      case measure => have := HK1.out; omega
      case rel => exact ⟨(y523), (wrap64 (x13_1 + 1)), rs_, H', ⟨by have := HK1.out; omega⟩, ⟨by exact uR <| Kd.R_mono HO525.out (fun _ hk => trivial)⟩, ⟨uR HO_11.out⟩, ⟨bl⟩⟩
     ·
      rw [if_neg c10] at H
      have c10b0 : (t521 == 0) = false := beq_eq_false_iff_ne.mpr c10
      have c10b1 : (t521 != 0) = true := bne_iff_ne.mpr c10
      simp only [Option.some.injEq, Prod.mk.injEq] at H
      obtain ⟨rfl, rfl⟩ := H
      have p515 : 0 ≤ (x13_1 : Int) := od
      have q515 : x13_1 < (t512.length : Int) := od
      obtain ⟨ad515, e515, hx515_0⟩ := Kd.at_string (Kd.R_reads' HO_11.out).2.2 x13_1 p515 q515
      cases e515
      replace p515 := eq_true p515
      replace q515 := eq_true q515
      go_wp2_with (first | (refine gL (some 19) rfl Tryz.func40 #[.string (rdOf ByteArray.empty t512 x13_1)] ?_; (with_reducible refine (diff_one.calls (hL := ld) k1 (rdOf ByteArray.empty t512 x13_1) t516 t517 t518 t519 t520 t521 _ A9.out).mono ?_); rintro e w18 ⟨rfl, hb⟩; refine ⟨_, rfl, ?_⟩; replace HO_2 := cR HO_2 hb; replace HO_11 := cR HO_11 hb; replace HB := cW HB hb; (try clear hb)) | ((with_reducible refine gate_dst (N := 6) rfl ?_); refine bx (N := 6) #[.int .i64 0, .string (⟨#[]⟩ : ByteArray), .int .i64 0, .bool false, .bool false] 48 ?_; intro gb522 hg w19 hbox hb; replace HO_2 := Aside0.mk (Kd.R_below (Kd.R_elderB (uR HO_2.out) gb522 (Nat.le_of_eq hg.symm)) hb); replace HO_11 := cR HO_11 hb; have BK522 := Aside0.mk (hbox); have GW522 := gw hg (uW HB.out); have GE522 := GW522; replace HB := cW HB hb; clear hb hbox hg; obtain ⟨hcz20_0, hcz20_1, hcz20_2, hcz20_3, hcz20_4, hfz20_0, hfz20_1, hfz20_2, hfz20_3, hfz20_4⟩ := z5 BK522) | ((with_reducible refine gate_store (t := 48) (p := 6) rfl ?_); refine store_event (t := 48) (p := 6) (v := ?vo_w21) (w1 := (((((w19.setCell ⟨gb522, 0, none⟩ (.int .i64 t516)).setCell ⟨gb522, 1, none⟩ (.string t517)).setCell ⟨gb522, 2, none⟩ (.int .i64 t518)).setCell ⟨gb522, 3, none⟩ (.bool t519)).setCell ⟨gb522, 4, none⟩ (.bool t520))) ?hg ?ho ?hn ?hr ?_; (case ho => rfl); (case hg => rfl); (case hn => rfl); (case hr => first | (go_simp; done) | (go_simp; rfl)); intro w21 hw; have n0_ : Aside0 (Kd.R k48 48 w21 w.heap.size (fun k_ => k_ ≠ gb522) u2 x2_1) := ⟨(by rw [hw]; exact (by exact uR <| Kd.R_mono (Kd.R_far (p := ⟨gb522, 4, none⟩) (Kd.R_far (p := ⟨gb522, 3, none⟩) (Kd.R_far (p := ⟨gb522, 2, none⟩) (Kd.R_far (p := ⟨gb522, 1, none⟩) (Kd.R_far (p := ⟨gb522, 0, none⟩) (Kd.R_mono HO_2.out (fun k_ hk => (⟨hk, hk.2⟩ : _ ∧ k_ ≠ gb522))) (fun _ hk => hk.2) (.int .i64 t516)) (fun _ hk => hk.2) (.string t517)) (fun _ hk => hk.2) (.int .i64 t518)) (fun _ hk => hk.2) (.bool t519)) (fun _ hk => hk.2) (.bool t520)) (fun _ hk => hk.1.2)))⟩; have n1_ : Aside0 (Kd.R Kd.string 9 w21 w.heap.size (fun _ => True) (.slice (some ad515) t512.length co5) t512) := ⟨(by rw [hw]; exact (by exact uR <| Kd.R_mono (Kd.R_far (p := ⟨gb522, 4, none⟩) (Kd.R_far (p := ⟨gb522, 3, none⟩) (Kd.R_far (p := ⟨gb522, 2, none⟩) (Kd.R_far (p := ⟨gb522, 1, none⟩) (Kd.R_far (p := ⟨gb522, 0, none⟩) (Kd.R_types HO_11.out BK522.out (by decide)) (fun _ hk => hk.2) (.int .i64 t516)) (fun _ hk => hk.2) (.string t517)) (fun _ hk => hk.2) (.int .i64 t518)) (fun _ hk => hk.2) (.bool t519)) (fun _ hk => hk.2) (.bool t520)) (fun _ hk => trivial)))⟩; have n2_ : Aside0 (w21.heap[gb522]? = some (.cells #[.int .i64 t516, .string t517, .int .i64 t518, .bool t519, .bool t520] 48 (0, 0))) := ⟨(by rw [hw]; exact (by (with_reducible repeat (first | refine blk_drewN ?_ _ | refine blk_drew ?_ | refine blk_alloc ?_ _)); refine blk_put (cs := #[.int .i64 t516, .string t517, .int .i64 t518, .bool t519, .bool false]) ?_ 4 _ rfl; (with_reducible repeat (first | refine blk_drewN ?_ _ | refine blk_drew ?_ | refine blk_alloc ?_ _)); refine blk_put (cs := #[.int .i64 t516, .string t517, .int .i64 t518, .bool false, .bool false]) ?_ 3 _ rfl; (with_reducible repeat (first | refine blk_drewN ?_ _ | refine blk_drew ?_ | refine blk_alloc ?_ _)); refine blk_put (cs := #[.int .i64 t516, .string t517, .int .i64 0, .bool false, .bool false]) ?_ 2 _ rfl; (with_reducible repeat (first | refine blk_drewN ?_ _ | refine blk_drew ?_ | refine blk_alloc ?_ _)); refine blk_put (cs := #[.int .i64 t516, .string (⟨#[]⟩ : ByteArray), .int .i64 0, .bool false, .bool false]) ?_ 1 _ rfl; (with_reducible repeat (first | refine blk_drewN ?_ _ | refine blk_drew ?_ | refine blk_alloc ?_ _)); refine blk_put (cs := #[.int .i64 0, .string (⟨#[]⟩ : ByteArray), .int .i64 0, .bool false, .bool false]) ?_ 0 _ rfl; exact uB <| BK522.out))⟩; have n3_ : Aside0 (Below w.heap.size w w21) := ⟨(by rw [hw]; exact bl)⟩; clear hw; clear HO_2; clear HO_11; clear BK522; clear HB; have HO_2 := n0_; have HO_11 := n1_; have BK522 := n2_; have HB := n3_; clear n0_ n1_ n2_ n3_))
      go_ret2
      exact ⟨_, re_, nl_, bl⟩
    ·
     rw [if_neg c6] at H
     have c6b0 : decide (x13_1 < (t512.length : Int)) = false := decide_eq_false c6
     clear c6
     obtain ⟨t526, A22, H⟩ := bs H
     try dsimp only at H
     by_cases c23 : t526 = true
     ·
      subst c23
      rw [if_pos rfl] at H
      simp only [Option.some.injEq, Prod.mk.injEq] at H
      obtain ⟨rfl, rfl⟩ := H
      obtain ⟨Ao24, co24, eo24⟩ := Kd.R_slice HO_2.out
      subst eo24
      go_wp2_with (first | (refine gL (some 31) rfl Tryz.func36 #[.slice Ao24 x2_1.length co24] ?_; (with_reducible refine (diff_right.calls (hL := ld) k1 _ _ x2_1 true _ ?side1 ?side2 A22.out).mono ?_); (case side1 => exact uC <| (Kd.R_reads' HO_2.out).2.2); (case side2 => exact (Kd.R_reads' HO_2.out).2.1); rintro e w25 ⟨rfl, hb⟩; refine ⟨_, rfl, ?_⟩; replace HO_2 := cR HO_2 hb; replace HO_11 := cR HO_11 hb; replace HB := cW HB hb; (try clear hb)))
      go_ret2
      exact ⟨_, re_, uR HO_2.out, uW HB.out⟩
     ·
      replace c23 := Bool.eq_false_iff.mpr c23
      subst c23
      rw [if_neg (show ¬ (false = true) by decide)] at H
      simp only [Option.some.injEq, Prod.mk.injEq] at H
      obtain ⟨rfl, rfl⟩ := H
      obtain ⟨Ao26, co26, eo26⟩ := Kd.R_slice HO_2.out
      subst eo26
      go_wp2_with (first | (refine gL (some 31) rfl Tryz.func36 #[.slice Ao26 x2_1.length co26] ?_; (with_reducible refine (diff_right.calls (hL := ld) k1 _ _ x2_1 false _ ?side1 ?side2 A22.out).mono ?_); (case side1 => exact uC <| (Kd.R_reads' HO_2.out).2.2); (case side2 => exact (Kd.R_reads' HO_2.out).2.1); rintro e w27 ⟨rfl, hb⟩; refine ⟨_, rfl, ?_⟩; replace HO_2 := cR HO_2 hb; replace HO_11 := cR HO_11 hb; replace HB := cW HB hb; (try clear hb)))
      go_ret2
      exact ⟨_, re_, nl_, uW HB.out⟩
def r08_Before.f (a0_0 : Int) (a0_1 : ByteArray) (a0_2 : Int) (a0_3 : Bool) (a1_0 : Int) (a1_1 : ByteArray) (a1_2 : Int) (a1_3 : Bool) : Option (Bool) := if a0_0 < a1_0 then (some true) else (if a0_0 = a1_0 then (some (Op.bytesLess a0_1.toList a1_1.toList)) else (some false))
theorem r08_Before.calls (a0_0 : Int) (a0_1 : ByteArray) (a0_2 : Int) (a0_3 : Bool) (a1_0 : Int) (a1_1 : ByteArray) (a1_2 : Int) (a1_3 : Bool) (r : Bool) (w : World) (h : r08_Before.f a0_0 a0_1 a0_2 a0_3 a1_0 a1_1 a1_2 a1_3 = some r) :
 Calls Tryz.prog 37 #[.agg #[.int .i64 a0_0, .string a0_1, .int .i64 a0_2, .bool a0_3], .agg #[.int .i64 a1_0, .string a1_1, .int .i64 a1_2, .bool a1_3]] w fun e w' => e = .returned (.bool r) ∧ Below w.heap.size w w' := by
 have hu45 := Tryz.underlying45
 have HB := Aside0.mk (Below.refl w.heap.size w)
 have H : (if a0_0 < a1_0 then (some true) else (if a0_0 = a1_0 then (some (Op.bytesLess a0_1.toList a1_1.toList)) else (some false))) = some r := h
 clear h
 by_cases c3 : a0_0 < a1_0
 ·
  rw [if_pos c3] at H
  have c3b0 : decide (a0_0 < a1_0) = true := decide_eq_true c3
  clear c3
  obtain rfl := Option.some.inj H
  go_enter Tryz.func37, Tryz.ntmps37
  go_wp2_with (first | ((with_reducible refine gate_dst (N := 2) rfl ?_); refine bx (N := 2) #[.int .i64 a0_0, .string a0_1, .int .i64 a0_2, .bool a0_3] 45 ?_; intro gb101 hg w4 hbox hb; have BK101 := Aside0.mk (hbox); have GW101 := gw hg (uW HB.out); have GE101 := GW101; replace HB := cW HB hb; clear hb hbox hg) | ((with_reducible refine gate_dst (N := 3) rfl ?_); refine bx (N := 3) #[.int .i64 a1_0, .string a1_1, .int .i64 a1_2, .bool a1_3] 45 ?_; intro gb102 hg w5 hbox hb; have BK102 := Aside0.mk (hbox); have GW102 := gw hg bl; have GE102 := GW102; replace HB := Aside0.mk (below_step bl hb); have NB101_102 := Aside0.mk ((by rw [hg]; exact Nat.ne_of_lt (blk_lt (g := gb101) (o := .cells #[.int .i64 a0_0, .string a0_1, .int .i64 a0_2, .bool a0_3] 45 (0, 0)) (uB BK101.out)) : gb101 ≠ gb102)); have NB102_101 := Aside0.mk ((by rw [hg]; exact Nat.ne_of_gt (blk_lt (g := gb101) (o := .cells #[.int .i64 a0_0, .string a0_1, .int .i64 a0_2, .bool a0_3] 45 (0, 0)) (uB BK101.out)) : gb102 ≠ gb101)); replace BK101 := cB BK101 hb; clear hb hbox hg; have hnb6 := NB101_102.out; have hnc6 := NB102_101.out; obtain ⟨hcz7_0, hcz7_1, hcz7_2, hcz7_3, hfz7_0, hfz7_1, hfz7_2, hfz7_3⟩ := z4 BK101; obtain ⟨hcz8_0, hcz8_1, hcz8_2, hcz8_3, hfz8_0, hfz8_1, hfz8_2, hfz8_3⟩ := z4 BK102))
  go_ret
  exact ⟨re_, bl⟩
 ·
  rw [if_neg c3] at H
  have c3b0 : decide (a0_0 < a1_0) = false := decide_eq_false c3
  clear c3
  by_cases c9 : a0_0 = a1_0
  ·
   rw [if_pos c9] at H
   have c9b0 : (a0_0 == a1_0) = true := beq_iff_eq.mpr c9
   have c9b1 : (a0_0 != a1_0) = false := bne_eq_false_iff_eq.mpr c9
   clear c9
   obtain rfl := Option.some.inj H
   go_enter Tryz.func37, Tryz.ntmps37
   go_wp2_with (first | ((with_reducible refine gate_dst (N := 2) rfl ?_); refine bx (N := 2) #[.int .i64 a0_0, .string a0_1, .int .i64 a0_2, .bool a0_3] 45 ?_; intro gb101 hg w10 hbox hb; have BK101 := Aside0.mk (hbox); have GW101 := gw hg (uW HB.out); have GE101 := GW101; replace HB := cW HB hb; clear hb hbox hg) | ((with_reducible refine gate_dst (N := 3) rfl ?_); refine bx (N := 3) #[.int .i64 a1_0, .string a1_1, .int .i64 a1_2, .bool a1_3] 45 ?_; intro gb102 hg w11 hbox hb; have BK102 := Aside0.mk (hbox); have GW102 := gw hg bl; have GE102 := GW102; replace HB := Aside0.mk (below_step bl hb); have NB101_102 := Aside0.mk ((by rw [hg]; exact Nat.ne_of_lt (blk_lt (g := gb101) (o := .cells #[.int .i64 a0_0, .string a0_1, .int .i64 a0_2, .bool a0_3] 45 (0, 0)) (uB BK101.out)) : gb101 ≠ gb102)); have NB102_101 := Aside0.mk ((by rw [hg]; exact Nat.ne_of_gt (blk_lt (g := gb101) (o := .cells #[.int .i64 a0_0, .string a0_1, .int .i64 a0_2, .bool a0_3] 45 (0, 0)) (uB BK101.out)) : gb102 ≠ gb101)); replace BK101 := cB BK101 hb; clear hb hbox hg; have hnb12 := NB101_102.out; have hnc12 := NB102_101.out; obtain ⟨hcz13_0, hcz13_1, hcz13_2, hcz13_3, hfz13_0, hfz13_1, hfz13_2, hfz13_3⟩ := z4 BK101; obtain ⟨hcz14_0, hcz14_1, hcz14_2, hcz14_3, hfz14_0, hfz14_1, hfz14_2, hfz14_3⟩ := z4 BK102))
   go_ret
   exact ⟨re_, bl⟩
  ·
   rw [if_neg c9] at H
   have c9b0 : (a0_0 == a1_0) = false := beq_eq_false_iff_ne.mpr c9
   have c9b1 : (a0_0 != a1_0) = true := bne_iff_ne.mpr c9
   obtain rfl := Option.some.inj H
   go_enter Tryz.func37, Tryz.ntmps37
   go_wp2_with (first | ((with_reducible refine gate_dst (N := 2) rfl ?_); refine bx (N := 2) #[.int .i64 a0_0, .string a0_1, .int .i64 a0_2, .bool a0_3] 45 ?_; intro gb101 hg w15 hbox hb; have BK101 := Aside0.mk (hbox); have GW101 := gw hg (uW HB.out); have GE101 := GW101; replace HB := cW HB hb; clear hb hbox hg) | ((with_reducible refine gate_dst (N := 3) rfl ?_); refine bx (N := 3) #[.int .i64 a1_0, .string a1_1, .int .i64 a1_2, .bool a1_3] 45 ?_; intro gb102 hg w16 hbox hb; have BK102 := Aside0.mk (hbox); have GW102 := gw hg bl; have GE102 := GW102; replace HB := Aside0.mk (below_step bl hb); have NB101_102 := Aside0.mk ((by rw [hg]; exact Nat.ne_of_lt (blk_lt (g := gb101) (o := .cells #[.int .i64 a0_0, .string a0_1, .int .i64 a0_2, .bool a0_3] 45 (0, 0)) (uB BK101.out)) : gb101 ≠ gb102)); have NB102_101 := Aside0.mk ((by rw [hg]; exact Nat.ne_of_gt (blk_lt (g := gb101) (o := .cells #[.int .i64 a0_0, .string a0_1, .int .i64 a0_2, .bool a0_3] 45 (0, 0)) (uB BK101.out)) : gb102 ≠ gb101)); replace BK101 := cB BK101 hb; clear hb hbox hg; have hnb17 := NB101_102.out; have hnc17 := NB102_101.out; obtain ⟨hcz18_0, hcz18_1, hcz18_2, hcz18_3, hfz18_0, hfz18_1, hfz18_2, hfz18_3⟩ := z4 BK101; obtain ⟨hcz19_0, hcz19_1, hcz19_2, hcz19_3, hfz19_0, hfz19_1, hfz19_2, hfz19_3⟩ := z4 BK102))
   go_ret
   exact ⟨re_, bl⟩
def r08_rise.l0 : Nat → List (S45) → Int → Option (Bool)
 | 0, _, _ => none
 | k + 1, x0, x3 => if x3 < (x0.length : Int) then (if 0 ≤ (wrap64 (x3 - 1)) then (if (wrap64 (x3 - 1)) < (x0.length : Int) then (if 0 ≤ x3 then ((r08_Before.f ((rd_T45 x0 (wrap64 (x3 - 1))).f0) ((rd_T45 x0 (wrap64 (x3 - 1))).f1) ((rd_T45 x0 (wrap64 (x3 - 1))).f2.f0) ((rd_T45 x0 (wrap64 (x3 - 1))).f2.f1) ((rd_T45 x0 x3).f0) ((rd_T45 x0 x3).f1) ((rd_T45 x0 x3).f2.f0) ((rd_T45 x0 x3).f2.f1)).bind fun t105 => (if t105 = true then (r08_rise.l0 k x0 (wrap64 (x3 + 1))) else (some false))) else (none)) else (none)) else (none)) else (some true)
def r08_rise.f (k : Nat) (l0 : List (S45)) : Option (Bool) := r08_rise.l0 k l0 1
theorem r08_rise.mono_l : ∀ k, (∀ y0 y1, LeC (r08_rise.l0 k y0 y1) (r08_rise.l0 (k + 1) y0 y1))
 | 0 => fun _ _ => ⟨fun r h => by simp [r08_rise.l0] at h⟩
 | k + 1 => by have ih0 := r08_rise.mono_l k; exact fun _ _ => by unfold r08_rise.l0; exact lm
theorem r08_rise.mono : ∀ a0 k, LeO (r08_rise.f k a0) (r08_rise.f (k + 1) a0) := by
 intro a0 k
 have ih0 := r08_rise.mono_l k
 unfold r08_rise.f
 exact lo
instance r08_rise.mI {a0 k} : LeC (r08_rise.f k a0) (r08_rise.f (k + 1) a0) := ⟨r08_rise.mono _ _⟩
def r08_rise.T4 : Bool × List (List Nat × List Nat) := (true, [([], []), ([], []), ([1], [1]), ([0, 2], [0, 2]), ([3], [3]), ([], []), ([], []), ([5, 6], [5, 6]), ([7], [7]), ([4, 8], [4, 8]), ([9], [9])])
def r08_rise.B4 : List Nat := [0, 0, 2, 7, 15, 0, 0, 96, 224, 511, 1023]
theorem r08_rise.tab4 : rtab .any (opsOf Tryz.f44 4) = r08_rise.T4 := by kernel_rfl
theorem r08_rise.bits4 : waitsOk r08_rise.T4.2 r08_rise.B4 = true := by kernel_rfl
theorem r08_rise.calls (k : Nat) (A0 : Option Addr) (c0 : Nat) (l0 : List (S45)) (r : Bool) (w : World) (hr0 : Kd.C k45 w A0 l0.length l0) (hc0 : l0.length ≤ c0) (h : r08_rise.f k l0 = some r) :
 Calls Tryz.prog 44 #[.slice A0 l0.length c0] w fun e w' => e = .returned (.bool r) ∧ Below w.heap.size w w' := by
 have hu45 := Tryz.underlying45
 have HR0 := Aside0.mk hr0
 have HC0 := Aside0.mk hc0
 clear hr0 hc0
 have HB := Aside0.mk (Below.refl w.heap.size w)
 have H : (r08_rise.l0 k l0 1) = some r := h
 clear h
 have H' := Aside0.mk H
 clear H
 go_enter Tryz.func44, Tryz.ntmps44
 go_wp2
 go_loopg [3] k (fun kq v3 w' => ∃ (x3_1 : Int), v3 = .int .i64 x3_1 ∧ Aside0 (r08_rise.l0 kq l0 x3_1 = some r) ∧ Aside0 (kq ≤ k) ∧ Aside0 (Below w.heap.size w w'))
 case atStart => exact ⟨(1), rs_, H', ⟨Nat.le_refl _⟩, ⟨uW HB.out⟩⟩
 case round =>
  clear H'
  obtain ⟨x3_1, rfl, HA, HK1, HB⟩ := hrel
  cases gk with
  | zero => exact absurd HA.out (by simp [r08_rise.l0])
  | succ k1 =>
   have H := HA.out
   clear HA
   simp only [r08_rise.l0] at H
   by_cases c2 : x3_1 < (l0.length : Int)
   ·
    rw [if_pos c2] at H
    have c2b0 : decide (x3_1 < (l0.length : Int)) = true := decide_eq_true c2
    clear c2
    obtain ⟨ji3, hji3⟩ : ∃ j_ : Int, (wrap64 (x3_1 - 1)) = j_ := ⟨_, rfl⟩
    (first | rw [hji3] at H | simp only [hji3] at H)
    have hji3w : (IntKind.i64.wrap (x3_1 - 1)) = ji3 := (i64_w _).trans hji3
    obtain ⟨c4b0, H⟩ := gdd H
    obtain ⟨c5b0, H⟩ := gdd H
    obtain ⟨c6b0, H⟩ := gdd H
    obtain ⟨t105, A7, H⟩ := bs H
    try dsimp only at H
    by_cases c8 : t105 = true
    ·
     subst c8
     rw [if_pos rfl] at H
     have H' := Aside0.mk H
     clear H
     try go_wp2
     replace HB := Aside0.mk (below_drew1 HB.out)
     have p103 : 0 ≤ ((ji3) : Int) := od
     have q103 : (ji3) < (l0.length : Int) := od
     obtain ⟨ad103, e103, hx103_0, hx103_1, hx103_2, hx103_3⟩ := at_T45 HR0.out (ji3) p103 q103
     have hw103_3 := hx103_3
     have hw103_2 := hx103_2
     have hw103_1 := hx103_1
     have hw103_0 := hx103_0
     cases e103
     replace hx103_0 := kc HB hx103_0
     replace hx103_1 := kc HB hx103_1
     replace hx103_2 := kc HB hx103_2
     replace hx103_3 := kc HB hx103_3
     replace p103 := eq_true p103
     replace q103 := eq_true q103
     have p104 : 0 ≤ (x3_1 : Int) := od
     have q104 : x3_1 < (l0.length : Int) := od
     obtain ⟨ad104, e104, hx104_0, hx104_1, hx104_2, hx104_3⟩ := at_T45 HR0.out x3_1 p104 q104
     have hw104_3 := hx104_3
     have hw104_2 := hx104_2
     have hw104_1 := hx104_1
     have hw104_0 := hx104_0
     obtain rfl : ad103 = ad104 := (by injection e104)
     replace hx104_0 := kc HB hx104_0
     replace hx104_1 := kc HB hx104_1
     replace hx104_2 := kc HB hx104_2
     replace hx104_3 := kc HB hx104_3
     replace p104 := eq_true p104
     replace q104 := eq_true q104
     refine start_ (n := 11) (S := fun w' => w'.cell? (ad103.add (((ji3)).toNat * 4)) = some (.int .i64 ((rd_T45 l0 (ji3)).f0)) ∧ w'.cell? ⟨(ad103.add (((ji3)).toNat * 4)).block, (ad103.add (((ji3)).toNat * 4)).off + 1, none⟩ = some (.string ((rd_T45 l0 (ji3)).f1)) ∧ w'.cell? ⟨(ad103.add (((ji3)).toNat * 4)).block, (ad103.add (((ji3)).toNat * 4)).off + 2, none⟩ = some (.int .i64 ((rd_T45 l0 (ji3)).f2.f0)) ∧ w'.cell? ⟨(ad103.add (((ji3)).toNat * 4)).block, (ad103.add (((ji3)).toNat * 4)).off + 3, none⟩ = some (.bool ((rd_T45 l0 (ji3)).f2.f1)) ∧ w'.cell? (ad103.add ((x3_1).toNat * 4)) = some (.int .i64 ((rd_T45 l0 x3_1).f0)) ∧ w'.cell? ⟨(ad103.add ((x3_1).toNat * 4)).block, (ad103.add ((x3_1).toNat * 4)).off + 1, none⟩ = some (.string ((rd_T45 l0 x3_1).f1)) ∧ w'.cell? ⟨(ad103.add ((x3_1).toNat * 4)).block, (ad103.add ((x3_1).toNat * 4)).off + 2, none⟩ = some (.int .i64 ((rd_T45 l0 x3_1).f2.f0)) ∧ w'.cell? ⟨(ad103.add ((x3_1).toNat * 4)).block, (ad103.add ((x3_1).toNat * 4)).off + 3, none⟩ = some (.bool ((rd_T45 l0 x3_1).f2.f1))) (ds := []) _ (by kernel_rfl) rfl rfl ⟨(kc HB hw103_0), (kc HB hw103_1), (kc HB hw103_2), (kc HB hw103_3), (kc HB hw104_0), (kc HB hw104_1), (kc HB hw104_2), (kc HB hw104_3)⟩ (fun hHeld => ?_); refine with_tabW r08_rise.tab4 r08_rise.bits4 (fun HT_ HW_ => ?_)
     generalize wr.drew = w9 at HB hx103_0 hx103_1 hx103_2 hx103_3 hx104_0 hx104_1 hx104_2 hx104_3 hHeld ⊢
     refine p1 0 (some 10) ?_
     refine p1 1 (some 11) ?_
     refine p1 2 (some 12) ?_
     refine p1 3 (some 13) ?_
     refine p1 5 (some 15) ?_
     refine p1 6 (some 16) ?_
     refine p1 7 (some 17) ?_
     refine t1 4 (some 14) rfl rfl hHeld (Or.inl ⟨by rfl, by rintro w' ⟨s0, s1, s2, s3, s4, s5, s6, s7⟩; go_simp; with_reducible rfl⟩) ?_
     refine t1 8 (some 18) rfl rfl hHeld (Or.inl ⟨by rfl, by rintro w' ⟨s0, s1, s2, s3, s4, s5, s6, s7⟩; go_simp; with_reducible rfl⟩) ?_
     refine o1 9 (some 19) rfl rfl (fun K hK => ?_)
     refine goes_ Tryz.func37 (by kernel_rfl) rfl #[.agg #[.int .i64 ((rd_T45 l0 (ji3)).f0), .string ((rd_T45 l0 (ji3)).f1), .int .i64 ((rd_T45 l0 (ji3)).f2.f0), .bool ((rd_T45 l0 (ji3)).f2.f1)], .agg #[.int .i64 ((rd_T45 l0 x3_1).f0), .string ((rd_T45 l0 x3_1).f1), .int .i64 ((rd_T45 l0 x3_1).f2.f0), .bool ((rd_T45 l0 x3_1).f2.f1)]] (by rfl) rfl rfl (by (try simp only [List.map_toArray, List.map_cons, List.map_nil]); first | done | (simp only [hji3]; rfl) | rfl | (simp only [List.length_drop, List.length_take]; rfl)) ?_
     with_reducible refine (r08_Before.calls ((rd_T45 l0 (ji3)).f0) ((rd_T45 l0 (ji3)).f1) ((rd_T45 l0 (ji3)).f2.f0) ((rd_T45 l0 (ji3)).f2.f1) ((rd_T45 l0 x3_1).f0) ((rd_T45 l0 x3_1).f1) ((rd_T45 l0 x3_1).f2.f0) ((rd_T45 l0 x3_1).f2.f1) true _ A7.out).mono ?_
     rintro e w10 ⟨rfl, hb⟩
     refine ⟨_, rfl, ?_⟩
     replace HB := cW HB hb
     (try clear hb)
     refine hK.out _ _ ⟨(kc HB hw103_0), (kc HB hw103_1), (kc HB hw103_2), (kc HB hw103_3), (kc HB hw104_0), (kc HB hw104_1), (kc HB hw104_2), (kc HB hw104_3)⟩ (fun hHeld => ?_)
     clear hK K
     refine norm_ (a' := ?_) ?_ ?_
     rotate_left
     ·
      show Act.put _ (some 19) _ = _
      simp only [Act.put, List.setIfInBounds_toArray, List.set_cons_zero, List.set_cons_succ, i64_w, i32_w]
      rfl
     refine p1 10 (some 20) ?_
     refine done_ (done_of HT_.out (by kernel_rfl)) ?_
     try go_wp2
     go_roundg k1
     case measure => have := HK1.out; omega
     case rel => exact ⟨(wrap64 (x3_1 + 1)), rs_, H', ⟨by have := HK1.out; omega⟩, ⟨uW HB.out⟩⟩
    ·
     replace c8 := Bool.eq_false_iff.mpr c8
     subst c8
     rw [if_neg (show ¬ (false = true) by decide)] at H
     obtain rfl := Option.some.inj H
     try go_wp2
     replace HB := Aside0.mk (below_drew1 HB.out)
     have p103 : 0 ≤ ((ji3) : Int) := od
     have q103 : (ji3) < (l0.length : Int) := od
     obtain ⟨ad103, e103, hx103_0, hx103_1, hx103_2, hx103_3⟩ := at_T45 HR0.out (ji3) p103 q103
     have hw103_3 := hx103_3
     have hw103_2 := hx103_2
     have hw103_1 := hx103_1
     have hw103_0 := hx103_0
     cases e103
     replace hx103_0 := kc HB hx103_0
     replace hx103_1 := kc HB hx103_1
     replace hx103_2 := kc HB hx103_2
     replace hx103_3 := kc HB hx103_3
     replace p103 := eq_true p103
     replace q103 := eq_true q103
     have p104 : 0 ≤ (x3_1 : Int) := od
     have q104 : x3_1 < (l0.length : Int) := od
     obtain ⟨ad104, e104, hx104_0, hx104_1, hx104_2, hx104_3⟩ := at_T45 HR0.out x3_1 p104 q104
     have hw104_3 := hx104_3
     have hw104_2 := hx104_2
     have hw104_1 := hx104_1
     have hw104_0 := hx104_0
     obtain rfl : ad103 = ad104 := (by injection e104)
     replace hx104_0 := kc HB hx104_0
     replace hx104_1 := kc HB hx104_1
     replace hx104_2 := kc HB hx104_2
     replace hx104_3 := kc HB hx104_3
     replace p104 := eq_true p104
     replace q104 := eq_true q104
     refine start_ (n := 11) (S := fun w' => w'.cell? (ad103.add (((ji3)).toNat * 4)) = some (.int .i64 ((rd_T45 l0 (ji3)).f0)) ∧ w'.cell? ⟨(ad103.add (((ji3)).toNat * 4)).block, (ad103.add (((ji3)).toNat * 4)).off + 1, none⟩ = some (.string ((rd_T45 l0 (ji3)).f1)) ∧ w'.cell? ⟨(ad103.add (((ji3)).toNat * 4)).block, (ad103.add (((ji3)).toNat * 4)).off + 2, none⟩ = some (.int .i64 ((rd_T45 l0 (ji3)).f2.f0)) ∧ w'.cell? ⟨(ad103.add (((ji3)).toNat * 4)).block, (ad103.add (((ji3)).toNat * 4)).off + 3, none⟩ = some (.bool ((rd_T45 l0 (ji3)).f2.f1)) ∧ w'.cell? (ad103.add ((x3_1).toNat * 4)) = some (.int .i64 ((rd_T45 l0 x3_1).f0)) ∧ w'.cell? ⟨(ad103.add ((x3_1).toNat * 4)).block, (ad103.add ((x3_1).toNat * 4)).off + 1, none⟩ = some (.string ((rd_T45 l0 x3_1).f1)) ∧ w'.cell? ⟨(ad103.add ((x3_1).toNat * 4)).block, (ad103.add ((x3_1).toNat * 4)).off + 2, none⟩ = some (.int .i64 ((rd_T45 l0 x3_1).f2.f0)) ∧ w'.cell? ⟨(ad103.add ((x3_1).toNat * 4)).block, (ad103.add ((x3_1).toNat * 4)).off + 3, none⟩ = some (.bool ((rd_T45 l0 x3_1).f2.f1))) (ds := []) _ (by kernel_rfl) rfl rfl ⟨(kc HB hw103_0), (kc HB hw103_1), (kc HB hw103_2), (kc HB hw103_3), (kc HB hw104_0), (kc HB hw104_1), (kc HB hw104_2), (kc HB hw104_3)⟩ (fun hHeld => ?_); refine with_tabW r08_rise.tab4 r08_rise.bits4 (fun HT_ HW_ => ?_)
     generalize wr.drew = w11 at HB hx103_0 hx103_1 hx103_2 hx103_3 hx104_0 hx104_1 hx104_2 hx104_3 hHeld ⊢
     refine p1 0 (some 10) ?_
     refine p1 1 (some 11) ?_
     refine p1 2 (some 12) ?_
     refine p1 3 (some 13) ?_
     refine p1 5 (some 15) ?_
     refine p1 6 (some 16) ?_
     refine p1 7 (some 17) ?_
     refine t1 4 (some 14) rfl rfl hHeld (Or.inl ⟨by rfl, by rintro w' ⟨s0, s1, s2, s3, s4, s5, s6, s7⟩; go_simp; with_reducible rfl⟩) ?_
     refine t1 8 (some 18) rfl rfl hHeld (Or.inl ⟨by rfl, by rintro w' ⟨s0, s1, s2, s3, s4, s5, s6, s7⟩; go_simp; with_reducible rfl⟩) ?_
     refine o1 9 (some 19) rfl rfl (fun K hK => ?_)
     refine goes_ Tryz.func37 (by kernel_rfl) rfl #[.agg #[.int .i64 ((rd_T45 l0 (ji3)).f0), .string ((rd_T45 l0 (ji3)).f1), .int .i64 ((rd_T45 l0 (ji3)).f2.f0), .bool ((rd_T45 l0 (ji3)).f2.f1)], .agg #[.int .i64 ((rd_T45 l0 x3_1).f0), .string ((rd_T45 l0 x3_1).f1), .int .i64 ((rd_T45 l0 x3_1).f2.f0), .bool ((rd_T45 l0 x3_1).f2.f1)]] (by rfl) rfl rfl (by (try simp only [List.map_toArray, List.map_cons, List.map_nil]); first | done | (simp only [hji3]; rfl) | rfl | (simp only [List.length_drop, List.length_take]; rfl)) ?_
     with_reducible refine (r08_Before.calls ((rd_T45 l0 (ji3)).f0) ((rd_T45 l0 (ji3)).f1) ((rd_T45 l0 (ji3)).f2.f0) ((rd_T45 l0 (ji3)).f2.f1) ((rd_T45 l0 x3_1).f0) ((rd_T45 l0 x3_1).f1) ((rd_T45 l0 x3_1).f2.f0) ((rd_T45 l0 x3_1).f2.f1) false _ A7.out).mono ?_
     rintro e w12 ⟨rfl, hb⟩
     refine ⟨_, rfl, ?_⟩
     replace HB := cW HB hb
     (try clear hb)
     refine hK.out _ _ ⟨(kc HB hw103_0), (kc HB hw103_1), (kc HB hw103_2), (kc HB hw103_3), (kc HB hw104_0), (kc HB hw104_1), (kc HB hw104_2), (kc HB hw104_3)⟩ (fun hHeld => ?_)
     clear hK K
     refine norm_ (a' := ?_) ?_ ?_
     rotate_left
     ·
      show Act.put _ (some 19) _ = _
      simp only [Act.put, List.setIfInBounds_toArray, List.set_cons_zero, List.set_cons_succ, i64_w, i32_w]
      rfl
     refine p1 10 (some 20) ?_
     refine done_ (done_of HT_.out (by kernel_rfl)) ?_
     try go_wp2
     go_ret
     exact ⟨by first | rfl | (simp [errW_none, errW_some] <;> rfl) | (simp only [← hji3]; first | rfl | (simp [errW_none, errW_some] <;> rfl)) | (simp [*, errW_none, errW_some] <;> rfl), uW HB.out⟩
   ·
    rw [if_neg c2] at H
    have c2b0 : decide (x3_1 < (l0.length : Int)) = false := decide_eq_false c2
    clear c2
    obtain rfl := Option.some.inj H
    go_wp2
    go_ret
    exact ⟨re_, uW HB.out⟩
def r02_Join.l0 : Nat → ByteArray → List ByteArray → ByteArray → Int → Option (ByteArray)
 | 0, _, _, _, _ => none
 | k + 1, x0, x1, x5, x6 => if x6 < (x1.length : Int) then (if x6 > 0 then (if x5.size + x0.size ≤ 9223372036854775807 then (if 0 ≤ x6 then (if (x5 ++ x0).size + (rdOf ByteArray.empty x1 x6).size ≤ 9223372036854775807 then (r02_Join.l0 k x0 x1 ((x5 ++ x0) ++ (rdOf ByteArray.empty x1 x6)) (wrap64 (x6 + 1))) else (none)) else (none)) else (none)) else (if 0 ≤ x6 then (if x5.size + (rdOf ByteArray.empty x1 x6).size ≤ 9223372036854775807 then (r02_Join.l0 k x0 x1 (x5 ++ (rdOf ByteArray.empty x1 x6)) (wrap64 (x6 + 1))) else (none)) else (none))) else (some x5)
def r02_Join.f (k : Nat) (a0 : ByteArray) (l1 : List ByteArray) : Option (ByteArray) := r02_Join.l0 k a0 l1 (⟨#[]⟩ : ByteArray) 0
theorem r02_Join.mono_l : ∀ k, (∀ y0 y1 y2 y3, LeC (r02_Join.l0 k y0 y1 y2 y3) (r02_Join.l0 (k + 1) y0 y1 y2 y3))
 | 0 => fun _ _ _ _ => ⟨fun r h => by simp [r02_Join.l0] at h⟩
 | k + 1 => by have ih0 := r02_Join.mono_l k; exact fun _ _ _ _ => by unfold r02_Join.l0; exact lm
theorem r02_Join.mono : ∀ a0 a1 k, LeO (r02_Join.f k a0 a1) (r02_Join.f (k + 1) a0 a1) := by
 intro a0 a1 k
 have ih0 := r02_Join.mono_l k
 unfold r02_Join.f
 exact lo
instance r02_Join.mI {a0 a1 k} : LeC (r02_Join.f k a0 a1) (r02_Join.f (k + 1) a0 a1) := ⟨r02_Join.mono _ _ _⟩
theorem r02_Join.calls (k : Nat) (a0 : ByteArray) (A1 : Option Addr) (c1 : Nat) (l1 : List ByteArray) (r : ByteArray) (w : World) (hr1 : Kd.C Kd.string w A1 l1.length l1) (hc1 : l1.length ≤ c1) (h : r02_Join.f k a0 l1 = some r) :
 Calls Tryz.prog 35 #[.string a0, .slice A1 l1.length c1] w fun e w' => e = .returned (.string r) ∧ Drawn0 w w' := by
 have HR1 := Aside0.mk hr1
 have HC1 := Aside0.mk hc1
 clear hr1 hc1
 have H : (r02_Join.l0 k a0 l1 (⟨#[]⟩ : ByteArray) 0) = some r := h
 clear h
 have H' := Aside0.mk H
 clear H
 go_enter Tryz.func35, Tryz.ntmps35
 go_wp2
 go_loopg [5, 6] k (fun kq v5 v6 w' => ∃ (x5_1 : ByteArray) (x6_1 : Int), v5 = .string x5_1 ∧ v6 = .int .i64 x6_1 ∧ Aside0 (r02_Join.l0 kq a0 l1 x5_1 x6_1 = some r) ∧ Aside0 (kq ≤ k) ∧ Drawn0 w w')
 case atStart => exact ⟨((⟨#[]⟩ : ByteArray)), (0), rs_, rs_, H', ⟨Nat.le_refl _⟩, dr_⟩
 case round =>
  clear H'
  try clear c1
  try clear p2
  obtain ⟨x5_1, x6_1, rfl, rfl, HA, HK1, ⟨m1, rfl⟩⟩ := hrel
  cases gk with
  | zero => exact absurd HA.out (by simp [r02_Join.l0])
  | succ k1 =>
   have H := HA.out
   clear HA
   simp only [r02_Join.l0] at H
   by_cases c3 : x6_1 < (l1.length : Int)
   ·
    rw [if_pos c3] at H
    have c3b0 : decide (x6_1 < (l1.length : Int)) = true := decide_eq_true c3
    clear c3
    by_cases c4 : x6_1 > 0
    ·
     rw [if_pos c4] at H
     have c4b0 : decide (0 < x6_1) = true := decide_eq_true c4
     clear c4
     obtain ⟨c5, H⟩ := gd H
     have c5b0 := eq_true c5
     have c5b1 : decide (x5_1.size + a0.size ≤ 9223372036854775807) = true := decide_eq_true c5
     try have c5b2 : (9223372036854775807 < x5_1.size + a0.size) = False := eq_false (Nat.not_lt.2 c5)
     obtain ⟨c6b0, H⟩ := gdd H
     obtain ⟨c7, H⟩ := gd H
     have c7b0 := eq_true c7
     have c7b1 : decide ((x5_1 ++ a0).size + (rdOf ByteArray.empty l1 x6_1).size ≤ 9223372036854775807) = true := decide_eq_true c7
     try have c7b2 : (9223372036854775807 < (x5_1 ++ a0).size + (rdOf ByteArray.empty l1 x6_1).size) = False := eq_false (Nat.not_lt.2 c7)
     try have c7b8 := c7b2
     try simp only [ByteArray.size_append] at c7b8
     have H' := Aside0.mk H
     clear H
     have p106 : 0 ≤ (x6_1 : Int) := od
     have q106 : x6_1 < (l1.length : Int) := od
     obtain ⟨ad106, e106, hx106_0⟩ := Kd.at_string HR1.out x6_1 p106 q106
     cases e106
     replace p106 := eq_true p106
     replace q106 := eq_true q106
     go_wp2
     go_roundg k1
     case measure => have := HK1.out; omega
     case rel => exact ⟨((x5_1 ++ a0) ++ (rdOf ByteArray.empty l1 x6_1)), (wrap64 (x6_1 + 1)), rs_, rs_, H', ⟨by have := HK1.out; omega⟩, dr_⟩
    ·
     rw [if_neg c4] at H
     have c4b0 : decide (0 < x6_1) = false := decide_eq_false c4
     clear c4
     obtain ⟨c8b0, H⟩ := gdd H
     obtain ⟨c9, H⟩ := gd H
     have c9b0 := eq_true c9
     have c9b1 : decide (x5_1.size + (rdOf ByteArray.empty l1 x6_1).size ≤ 9223372036854775807) = true := decide_eq_true c9
     try have c9b2 : (9223372036854775807 < x5_1.size + (rdOf ByteArray.empty l1 x6_1).size) = False := eq_false (Nat.not_lt.2 c9)
     have H' := Aside0.mk H
     clear H
     have p107 : 0 ≤ (x6_1 : Int) := od
     have q107 : x6_1 < (l1.length : Int) := od
     obtain ⟨ad107, e107, hx107_0⟩ := Kd.at_string HR1.out x6_1 p107 q107
     cases e107
     replace p107 := eq_true p107
     replace q107 := eq_true q107
     go_wp2
     go_roundg k1
     case measure => have := HK1.out; omega
     case rel => exact ⟨(x5_1 ++ (rdOf ByteArray.empty l1 x6_1)), (wrap64 (x6_1 + 1)), rs_, rs_, H', ⟨by have := HK1.out; omega⟩, dr_⟩
   ·
    rw [if_neg c3] at H
    have c3b0 : decide (x6_1 < (l1.length : Int)) = false := decide_eq_false c3
    clear c3
    obtain rfl := Option.some.inj H
    go_wp2
    go_ret
    exact ⟨rs_, dr_⟩
def r02_Split.l0 : Nat → ByteArray → Int → List ByteArray → Int → Int → Option (List ByteArray)
 | 0, _, _, _, _, _ => none
 | k + 1, x0, x1, x5, x6, x7 => if x7 < (x0.size : Int) then (if 0 ≤ x7 then (if (bt x0 x7) = x1 then (if 0 ≤ x6 then (if x6 ≤ x7 then (if x7 ≤ (x0.size : Int) then (if x5.length < 8796093022208 then (r02_Split.l0 k x0 x1 (x5 ++ [x0.extract (x6 : Int).toNat (x7 : Int).toNat]) (wrap64 (x7 + 1)) (wrap64 (x7 + 1))) else (none)) else (none)) else (none)) else (none)) else (r02_Split.l0 k x0 x1 x5 x6 (wrap64 (x7 + 1)))) else (none)) else (if 0 ≤ x6 then (if x6 ≤ (x0.size : Int) then (if x5.length < 8796093022208 then (some (x5 ++ [x0.extract (x6 : Int).toNat x0.size])) else (none)) else (none)) else (none))
def r02_Split.f (k : Nat) (a0 : ByteArray) (a1 : Int) : Option (List ByteArray) := r02_Split.l0 k a0 a1 ([] : List ByteArray) 0 0
theorem r02_Split.mono_l : ∀ k, (∀ y0 y1 y2 y3 y4, LeC (r02_Split.l0 k y0 y1 y2 y3 y4) (r02_Split.l0 (k + 1) y0 y1 y2 y3 y4))
 | 0 => fun _ _ _ _ _ => ⟨fun r h => by simp [r02_Split.l0] at h⟩
 | k + 1 => by have ih0 := r02_Split.mono_l k; exact fun _ _ _ _ _ => by unfold r02_Split.l0; exact lm
theorem r02_Split.mono : ∀ a0 a1 k, LeO (r02_Split.f k a0 a1) (r02_Split.f (k + 1) a0 a1) := by
 intro a0 a1 k
 have ih0 := r02_Split.mono_l k
 unfold r02_Split.f
 exact lo
instance r02_Split.mI {a0 a1 k} : LeC (r02_Split.f k a0 a1) (r02_Split.f (k + 1) a0 a1) := ⟨r02_Split.mono _ _ _⟩
theorem r02_Split.calls (k : Nat) (a0 : ByteArray) (a1 : Int) (r : List ByteArray) (w : World) (h : r02_Split.f k a0 a1 = some r) :
 Calls Tryz.prog 41 #[.string a0, .int .u8 a1] w fun e w' => ∃ v0_ : Value, e = .returned (v0_) ∧ Kd.R Kd.string 9 w' w.heap.size (fun _ => True) v0_ r ∧ Below w.heap.size w w' := by
 have HB := Aside0.mk (Below.refl w.heap.size w)
 have H : (r02_Split.l0 k a0 a1 ([] : List ByteArray) 0 0) = some r := h
 clear h
 have H' := Aside0.mk H
 clear H
 go_enter Tryz.func41, Tryz.ntmps41
 go_wp2
 go_loopg [5, 6, 7] k (fun kq v5 v6 v7 w' => ∃ (x5_1 : List ByteArray) (x6_1 : Int) (x7_1 : Int), v6 = .int .i64 x6_1 ∧ v7 = .int .i64 x7_1 ∧ Aside0 (r02_Split.l0 kq a0 a1 x5_1 x6_1 x7_1 = some r) ∧ Aside0 (kq ≤ k) ∧ Aside0 (Kd.R Kd.string 9 w' w.heap.size (fun _ => True) v5 x5_1) ∧ Aside0 (Below w.heap.size w w'))
 case atStart => exact ⟨(([] : List ByteArray)), (0), (0), rs_, rs_, H', ⟨Nat.le_refl _⟩, ⟨nl_⟩, ⟨uW HB.out⟩⟩
 case round =>
  clear H'
  try clear p2
  obtain ⟨x5_1, x6_1, x7_1, rfl, rfl, HA, HK1, HO_5, HB⟩ := hrel
  cases gk with
  | zero => exact absurd HA.out (by simp [r02_Split.l0])
  | succ k1 =>
   have H := HA.out
   clear HA
   simp only [r02_Split.l0] at H
   by_cases c3 : x7_1 < (a0.size : Int)
   ·
    rw [if_pos c3] at H
    have c3b0 : decide (x7_1 < (a0.size : Int)) = true := decide_eq_true c3
    clear c3
    obtain ⟨c4b0, H⟩ := gdd H
    by_cases c6 : (bt a0 x7_1) = a1
    ·
     rw [if_pos c6] at H
     have c6b0 : ((bt a0 x7_1) == a1) = true := beq_iff_eq.mpr c6
     have c6b1 : ((bt a0 x7_1) != a1) = false := bne_eq_false_iff_eq.mpr c6
     clear c6
     obtain ⟨c7, H⟩ := gd H
     have c7b0 := eq_true c7
     have c7b1 : decide (0 ≤ x6_1) = true := decide_eq_true c7
     clear c7
     obtain ⟨c8, H⟩ := gd H
     have c8b0 := eq_true c8
     have c8b1 : decide (x6_1 ≤ x7_1) = true := decide_eq_true c8
     clear c8
     obtain ⟨c9, H⟩ := gd H
     have c9b0 := eq_true c9
     have c9b1 : decide (x7_1 ≤ (a0.size : Int)) = true := decide_eq_true c9
     clear c9
     obtain ⟨c10, H⟩ := gd H
     have LMc10 := Aside0.mk c10
     clear c10
     obtain ⟨y108, hy108⟩ : ∃ y_ : List ByteArray, y_ = (x5_1 ++ [a0.extract (x6_1 : Int).toNat (x7_1 : Int).toNat]) := ⟨_, rfl⟩
     replace H : (r02_Split.l0 k1 a0 a1 y108 (wrap64 (x7_1 + 1)) (wrap64 (x7_1 + 1))) = some r := by first | (rw [hy108]; with_reducible exact H) | (have H2_ := (Option.bind_some _ _).symm.trans H; rw [hy108]; with_reducible exact H2_) | (have H2_ := (Option.bind_some _ _).symm.trans H; with_reducible exact H2_) | with_reducible exact H | (rw [hy108]; exact H) | exact H
     have Ny108 := Aside0.mk hy108
     clear hy108
     have H' := Aside0.mk H
     clear H
     have p5 : 0 ≤ (x7_1 : Int) := od
     have q5 : x7_1 < (a0.size : Int) := od
     have hx5 := bt_at a0 x7_1
     replace p5 := eq_true p5
     replace q5 := eq_true q5
     go_wp2_with (first | ((with_reducible refine gate_builtin (b := .append) (xs := #[.tmp 19, .tmp 24]) rfl ?_); at_builtin; refine Kd.R_append Kd.string (w0 := w) w.heap.size rfl (.tmp 19) (.tmp 24) 52 9 (.string ⟨#[]⟩) 16 rfl Tryz.underlying52 info9 rfl (by decide) (by omega) u5 x5_1 (a0.extract (x6_1 : Int).toNat (x7_1 : Int).toNat) [.string (a0.extract (x6_1 : Int).toNat (x7_1 : Int).toNat)] (fun _ => True) (fun _ => False) rfl rfl ?aP (fun _ hk => hk.elim) ?aF ?aO ?aB ?aS ?aL ?_; (case aP => exact rfl); (case aB => exact (uW HB.out)); (case aF => exact (fun _ _ => trivial)); (case aO => exact (uR HO_5.out)); (case aS => exact (below_size (uW HB.out))); (case aL => have := LMc10.out; omega); intro v109 w11 ho hb hg hat; rw [← Ny108.out] at ho; replace HB := Aside0.mk (hb); have HO110 := Aside0.mk (ho); clear HO_5; clear ho hb hg hat))
     go_roundg k1
     case measure => have := HK1.out; omega
     case rel => exact ⟨(y108), (wrap64 (x7_1 + 1)), (wrap64 (x7_1 + 1)), rs_, rs_, H', ⟨by have := HK1.out; omega⟩, ⟨uR HO110.out⟩, ⟨uW HB.out⟩⟩
    ·
     rw [if_neg c6] at H
     have c6b0 : ((bt a0 x7_1) == a1) = false := beq_eq_false_iff_ne.mpr c6
     have c6b1 : ((bt a0 x7_1) != a1) = true := bne_iff_ne.mpr c6
     have H' := Aside0.mk H
     clear H
     have p5 : 0 ≤ (x7_1 : Int) := od
     have q5 : x7_1 < (a0.size : Int) := od
     have hx5 := bt_at a0 x7_1
     replace p5 := eq_true p5
     replace q5 := eq_true q5
     go_wp2
     go_roundg k1
     case measure => have := HK1.out; omega
     case rel => exact ⟨(x5_1), (x6_1), (wrap64 (x7_1 + 1)), rs_, rs_, H', ⟨by have := HK1.out; omega⟩, ⟨uR HO_5.out⟩, ⟨uW HB.out⟩⟩
   ·
    rw [if_neg c3] at H
    have c3b0 : decide (x7_1 < (a0.size : Int)) = false := decide_eq_false c3
    clear c3
    by_cases c12 : 0 ≤ x6_1
    ·
     rw [if_pos c12] at H
     have c12b0 := eq_true c12
     have c12b1 : decide (0 ≤ x6_1) = true := decide_eq_true c12
     clear c12
     obtain ⟨c13, H⟩ := gd H
     have c13b0 := eq_true c13
     have c13b1 : decide (x6_1 ≤ (a0.size : Int)) = true := decide_eq_true c13
     clear c13
     obtain ⟨c14, H⟩ := gd H
     have LMc14 := Aside0.mk c14
     clear c14
     obtain ⟨y111, hy111⟩ : ∃ y_ : List ByteArray, y_ = (x5_1 ++ [a0.extract (x6_1 : Int).toNat a0.size]) := ⟨_, rfl⟩
     replace H : (some y111) = some r := by first | (rw [hy111]; with_reducible exact H) | (have H2_ := (Option.bind_some _ _).symm.trans H; rw [hy111]; with_reducible exact H2_) | (have H2_ := (Option.bind_some _ _).symm.trans H; with_reducible exact H2_) | with_reducible exact H | (rw [hy111]; exact H) | exact H
     have Ny111 := Aside0.mk hy111
     clear hy111
     obtain rfl := Option.some.inj H
     go_wp2_with (first | ((with_reducible refine gate_builtin (b := .append) (xs := #[.tmp 28, .tmp 32]) rfl ?_); at_builtin; refine Kd.R_append Kd.string (w0 := w) w.heap.size rfl (.tmp 28) (.tmp 32) 52 9 (.string ⟨#[]⟩) 16 rfl Tryz.underlying52 info9 rfl (by decide) (by omega) u5 x5_1 (a0.extract (x6_1 : Int).toNat a0.size) [.string (a0.extract (x6_1 : Int).toNat a0.size)] (fun _ => True) (fun _ => False) rfl rfl ?aP (fun _ hk => hk.elim) ?aF ?aO ?aB ?aS ?aL ?_; (case aP => exact rfl); (case aB => exact (uW HB.out)); (case aF => exact (fun _ _ => trivial)); (case aO => exact (uR HO_5.out)); (case aS => exact (below_size (uW HB.out))); (case aL => have := LMc14.out; omega); intro v112 w15 ho hb hg hat; rw [← Ny111.out] at ho; replace HB := Aside0.mk (hb); have HO113 := Aside0.mk (ho); clear HO_5; clear ho hb hg hat))
     go_ret
     exact ⟨_, re_, uR HO113.out, uW HB.out⟩
    ·
     rw [if_neg c12] at H
     exact absurd H (by simp)
def r02_small.f (a0 : Int) : Option (Bool) := if a0 ≥ 97 then (some (decide (a0 ≤ 122))) else (some false)
theorem r02_small.calls (a0 : Int) (r : Bool) (w : World) (h : r02_small.f a0 = some r) :
 Calls Tryz.prog 139 #[.int .u8 a0] w fun e w' => e = .returned (.bool r) ∧ Drawn0 w w' := by
 have H : (if a0 ≥ 97 then (some (decide (a0 ≤ 122))) else (some false)) = some r := h
 clear h
 by_cases c2 : a0 ≥ 97
 ·
  rw [if_pos c2] at H
  have c2b0 : decide (97 ≤ a0) = true := decide_eq_true c2
  clear c2
  obtain rfl := Option.some.inj H
  go_enter Tryz.func139, Tryz.ntmps139
  go_wp2
  go_ret
  exact ⟨rs_, dr_⟩
 ·
  rw [if_neg c2] at H
  have c2b0 : decide (97 ≤ a0) = false := decide_eq_false c2
  clear c2
  obtain rfl := Option.some.inj H
  go_enter Tryz.func139, Tryz.ntmps139
  go_wp2
  go_ret
  exact ⟨rs_, dr_⟩
def r02_digit.f (a0 : Int) : Option (Bool) := if a0 ≥ 48 then (some (decide (a0 ≤ 57))) else (some false)
theorem r02_digit.calls (a0 : Int) (r : Bool) (w : World) (h : r02_digit.f a0 = some r) :
 Calls Tryz.prog 140 #[.int .u8 a0] w fun e w' => e = .returned (.bool r) ∧ Drawn0 w w' := by
 have H : (if a0 ≥ 48 then (some (decide (a0 ≤ 57))) else (some false)) = some r := h
 clear h
 by_cases c2 : a0 ≥ 48
 ·
  rw [if_pos c2] at H
  have c2b0 : decide (48 ≤ a0) = true := decide_eq_true c2
  clear c2
  obtain rfl := Option.some.inj H
  go_enter Tryz.func140, Tryz.ntmps140
  go_wp2
  go_ret
  exact ⟨rs_, dr_⟩
 ·
  rw [if_neg c2] at H
  have c2b0 : decide (48 ≤ a0) = false := decide_eq_false c2
  clear c2
  obtain rfl := Option.some.inj H
  go_enter Tryz.func140, Tryz.ntmps140
  go_wp2
  go_ret
  exact ⟨rs_, dr_⟩
mutual
def r02_Name.j0 : Nat → ByteArray → Bool → Option (Bool)
 | 0, _, _ => none
 | k + 1, x0, x17 => if x17 = true then (some false) else (r02_Name.l0 k x0 0)
def r02_Name.l0 : Nat → ByteArray → Int → Option (Bool)
 | 0, _, _ => none
 | k + 1, x0, x3 => if x3 < (x0.size : Int) then (if 0 ≤ x3 then ((r02_small.f (bt x0 x3)).bind fun t115 => (if t115 = true then (r02_Name.l0 k x0 (wrap64 (x3 + 1))) else ((r02_digit.f (bt x0 x3)).bind fun t116 => (if t116 = true then (r02_Name.l0 k x0 (wrap64 (x3 + 1))) else (if (bt x0 x3) = 95 then (r02_Name.l0 k x0 (wrap64 (x3 + 1))) else (some false)))))) else (none)) else (some true)
end
def r02_Name.f (k : Nat) (a0 : ByteArray) : Option (Bool) := if (a0.size : Int) < 1 then (r02_Name.j0 k a0 true) else (if (a0.size : Int) > 12 then (r02_Name.j0 k a0 true) else (if 0 < (a0.size : Int) then ((r02_small.f (bt a0 0)).bind fun t114 => (r02_Name.j0 k a0 (!t114))) else (none)))
theorem r02_Name.mono_l : ∀ k, (∀ y0 y1, LeC (r02_Name.j0 k y0 y1) (r02_Name.j0 (k + 1) y0 y1)) ∧ (∀ y0 y1, LeC (r02_Name.l0 k y0 y1) (r02_Name.l0 (k + 1) y0 y1))
 | 0 => ⟨fun _ _ => ⟨fun r h => by simp [r02_Name.j0] at h⟩, fun _ _ => ⟨fun r h => by simp [r02_Name.l0] at h⟩⟩
 | k + 1 => by obtain ⟨ih0, ih1⟩ := r02_Name.mono_l k; exact ⟨fun _ _ => by unfold r02_Name.j0; exact lm, fun _ _ => by unfold r02_Name.l0; exact lm⟩
theorem r02_Name.mono : ∀ a0 k, LeO (r02_Name.f k a0) (r02_Name.f (k + 1) a0) := by
 intro a0 k
 obtain ⟨ih0, ih1⟩ := r02_Name.mono_l k
 unfold r02_Name.f
 exact lo
instance r02_Name.mI {a0 k} : LeC (r02_Name.f k a0) (r02_Name.f (k + 1) a0) := ⟨r02_Name.mono _ _⟩
theorem r02_Name.calls (k : Nat) (a0 : ByteArray) (r : Bool) (w : World) (h : r02_Name.f k a0 = some r) :
 Calls Tryz.prog 116 #[.string a0] w fun e w' => e = .returned (.bool r) ∧ Drawn0 w w' := by
 have H : (if (a0.size : Int) < 1 then (r02_Name.j0 k a0 true) else (if (a0.size : Int) > 12 then (r02_Name.j0 k a0 true) else (if 0 < (a0.size : Int) then ((r02_small.f (bt a0 0)).bind fun t114 => (r02_Name.j0 k a0 (!t114))) else (none)))) = some r := h
 clear h
 have HC2 := Aside0.mk H
 clear H
 go_enter Tryz.func116, Tryz.ntmps116
 go_upto_region 1 with (fail)
 go_cut [17] (fun v17 wc => ∃ (kq : Nat) (x17_1 : Bool), v17 = .bool x17_1 ∧ Aside0 (r02_Name.j0 kq a0 x17_1 = some r) ∧ Aside0 (kq ≤ k) ∧ Drawn0 w wc)
 case first =>
  have H := HC2.out
  clear HC2
  by_cases c3 : (a0.size : Int) < 1
  ·
   rw [if_pos c3] at H
   have c3b0 : decide ((a0.size : Int) < 1) = true := decide_eq_true c3
   have c3b1 : decide (a0.size < 1) = true := decide_eq_true (by omega)
   clear c3
   (first | rw [c3b0] | (simp only [i64_w, i32_w]; rw [c3b0]) | skip)
   have H' := Aside0.mk H
   clear H
   go_wp2
   go_meet
   case rel => exact ⟨_, (true), rs_, H', ⟨by first | omega | exact Nat.le_refl _⟩, dr_⟩
  ·
   rw [if_neg c3] at H
   have c3b0 : decide ((a0.size : Int) < 1) = false := decide_eq_false c3
   have c3b1 : decide (a0.size < 1) = false := decide_eq_false (by omega)
   clear c3
   (first | rw [c3b0] | (simp only [i64_w, i32_w]; rw [c3b0]) | skip)
   by_cases c4 : (a0.size : Int) > 12
   ·
    rw [if_pos c4] at H
    have c4b0 : decide (12 < (a0.size : Int)) = true := decide_eq_true c4
    have c4b1 : decide (12 < a0.size) = true := decide_eq_true (by omega)
    clear c4
    have H' := Aside0.mk H
    clear H
    go_wp2
    go_meet
    case rel => exact ⟨_, (true), rs_, H', ⟨by first | omega | exact Nat.le_refl _⟩, dr_⟩
   ·
    rw [if_neg c4] at H
    have c4b0 : decide (12 < (a0.size : Int)) = false := decide_eq_false c4
    have c4b1 : decide (12 < a0.size) = false := decide_eq_false (by omega)
    clear c4
    obtain ⟨c5, H⟩ := gd H
    have c5b0 : decide (0 < (a0.size : Int)) = true := decide_eq_true c5
    have c5b1 : decide (0 < a0.size) = true := decide_eq_true (by omega)
    clear c5
    obtain ⟨t114, A7, H⟩ := bs H
    try dsimp only at H
    have H' := Aside0.mk H
    clear H
    have p6 : 0 ≤ (0 : Int) := (by omega)
    have q6 : 0 < a0.size := (by have : (0 : Int) < (a0.size : Int) := od; omega)
    have hx6 : ∀ h : 0 < a0.size, ((a0[0]'h).toNat : Int) = bt a0 0 := bt_at a0 0
    clear p6
    have qi6 : (0 < (a0.size : Int)) = True := eq_true (od)
    replace q6 := eq_true q6
    go_wp2_with (first | (go_at_call 139; (with_reducible refine (r02_small.calls (bt a0 0) t114 _ A7.out).mono ?_); rintro e w' ⟨rfl, ⟨nd, rfl⟩⟩))
    go_meet
    case rel => exact ⟨_, (!t114), rs_, H', ⟨by first | omega | exact Nat.le_refl _⟩, dr_⟩
 case rest =>
  clear HC2
  try clear c1
  try clear p2
  try clear c3
  try clear c3b0
  try clear c3b1
  try clear c4
  try clear c4b0
  try clear c4b1
  try clear c5
  try clear c5b0
  try clear c5b1
  try clear p6
  try clear q6
  try clear hx6
  try clear qi6
  try clear p6
  try clear q6
  obtain ⟨kq, x17_1, rfl, HA, HJ1, ⟨mc1, rfl⟩⟩ := hcut
  cases kq with
  | zero => exact absurd HA.out (by simp [r02_Name.j0])
  | succ kj1 =>
   have H := HA.out
   clear HA
   simp only [r02_Name.j0] at H
   by_cases c8 : x17_1 = true
   ·
    subst c8
    rw [if_pos rfl] at H
    obtain rfl := Option.some.inj H
    go_wp2
    go_ret
    exact ⟨rs_, dr_⟩
   ·
    replace c8 := Bool.eq_false_iff.mpr c8
    subst c8
    rw [if_neg (show ¬ (false = true) by decide)] at H
    have H' := Aside0.mk H
    clear H
    go_wp2
    go_loopg [3] kj1 (fun kq v3 w' => ∃ (x3_2 : Int), v3 = .int .i64 x3_2 ∧ Aside0 (r02_Name.l0 kq a0 x3_2 = some r) ∧ Aside0 (kq ≤ kj1) ∧ Drawn0 w w')
    case atStart => exact ⟨(0), rs_, H', ⟨Nat.le_refl _⟩, dr_⟩
    case round =>
     clear H'
     try clear c1
     try clear p2
     try clear c3
     try clear c3b0
     try clear c3b1
     try clear c4
     try clear c4b0
     try clear c4b1
     try clear c5
     try clear c5b0
     try clear c5b1
     try clear p6
     try clear q6
     try clear hx6
     try clear qi6
     try clear c8
     try clear p2
     try clear p6
     try clear q6
     obtain ⟨x3_2, rfl, HA, HK2, ⟨m2, rfl⟩⟩ := hrel
     cases gk with
     | zero => exact absurd HA.out (by simp [r02_Name.l0])
     | succ k2 =>
      have H := HA.out
      clear HA
      simp only [r02_Name.l0] at H
      by_cases c9 : x3_2 < (a0.size : Int)
      ·
       rw [if_pos c9] at H
       have c9b0 : decide (x3_2 < (a0.size : Int)) = true := decide_eq_true c9
       clear c9
       obtain ⟨c10b0, H⟩ := gdd H
       obtain ⟨t115, A12, H⟩ := bs H
       try dsimp only at H
       by_cases c13 : t115 = true
       ·
        subst c13
        rw [if_pos rfl] at H
        have H' := Aside0.mk H
        clear H
        have p11 : 0 ≤ (x3_2 : Int) := od
        have q11 : x3_2 < (a0.size : Int) := od
        have hx11 := bt_at a0 x3_2
        replace p11 := eq_true p11
        replace q11 := eq_true q11
        go_wp2_with (first | (refine gL (some 27) rfl Tryz.func139 #[.int .u8 (bt a0 x3_2)] ?_; (with_reducible refine (r02_small.calls (bt a0 x3_2) true _ A12.out).mono ?_); rintro e w' ⟨rfl, ⟨nd, rfl⟩⟩; refine ⟨_, rfl, ?_⟩))
        go_roundg k2
        case measure => have := HJ1.out; have := HK2.out; omega
        case rel => exact ⟨(wrap64 (x3_2 + 1)), rs_, H', ⟨by have := HJ1.out; have := HK2.out; omega⟩, dr_⟩
       ·
        replace c13 := Bool.eq_false_iff.mpr c13
        subst c13
        rw [if_neg (show ¬ (false = true) by decide)] at H
        obtain ⟨t116, A15, H⟩ := bs H
        try dsimp only at H
        by_cases c16 : t116 = true
        ·
         subst c16
         rw [if_pos rfl] at H
         have H' := Aside0.mk H
         clear H
         have p11 : 0 ≤ (x3_2 : Int) := od
         have q11 : x3_2 < (a0.size : Int) := od
         have hx11 := bt_at a0 x3_2
         replace p11 := eq_true p11
         replace q11 := eq_true q11
         go_wp2_with (first | (refine gL (some 27) rfl Tryz.func139 #[.int .u8 (bt a0 x3_2)] ?_; (with_reducible refine (r02_small.calls (bt a0 x3_2) false _ A12.out).mono ?_); rintro e w' ⟨rfl, ⟨nd, rfl⟩⟩; refine ⟨_, rfl, ?_⟩; have p14 : 0 ≤ (x3_2 : Int) := od; have q14 : x3_2 < (a0.size : Int) := od; have hx14 := bt_at a0 x3_2; replace p14 := eq_true p14; replace q14 := eq_true q14) | (go_at_call 140; (with_reducible refine (r02_digit.calls (bt a0 x3_2) true _ A15.out).mono ?_); rintro e w' ⟨rfl, ⟨nd, rfl⟩⟩))
         go_roundg k2
         case measure => have := HJ1.out; have := HK2.out; omega
         case rel => exact ⟨(wrap64 (x3_2 + 1)), rs_, H', ⟨by have := HJ1.out; have := HK2.out; omega⟩, dr_⟩
        ·
         replace c16 := Bool.eq_false_iff.mpr c16
         subst c16
         rw [if_neg (show ¬ (false = true) by decide)] at H
         by_cases c18 : (bt a0 x3_2) = 95
         ·
          rw [if_pos c18] at H
          have c18b0 : ((bt a0 x3_2) == 95) = true := beq_iff_eq.mpr c18
          have c18b1 : ((bt a0 x3_2) != 95) = false := bne_eq_false_iff_eq.mpr c18
          clear c18
          have H' := Aside0.mk H
          clear H
          have p11 : 0 ≤ (x3_2 : Int) := od
          have q11 : x3_2 < (a0.size : Int) := od
          have hx11 := bt_at a0 x3_2
          replace p11 := eq_true p11
          replace q11 := eq_true q11
          go_wp2_with (first | (refine gL (some 27) rfl Tryz.func139 #[.int .u8 (bt a0 x3_2)] ?_; (with_reducible refine (r02_small.calls (bt a0 x3_2) false _ A12.out).mono ?_); rintro e w' ⟨rfl, ⟨nd, rfl⟩⟩; refine ⟨_, rfl, ?_⟩; have p14 : 0 ≤ (x3_2 : Int) := od; have q14 : x3_2 < (a0.size : Int) := od; have hx14 := bt_at a0 x3_2; replace p14 := eq_true p14; replace q14 := eq_true q14) | (go_at_call 140; (with_reducible refine (r02_digit.calls (bt a0 x3_2) false _ A15.out).mono ?_); rintro e w' ⟨rfl, ⟨nd, rfl⟩⟩; have p17 : 0 ≤ (x3_2 : Int) := od; have q17 : x3_2 < (a0.size : Int) := od; have hx17 := bt_at a0 x3_2; replace p17 := eq_true p17; replace q17 := eq_true q17))
          go_roundg k2
          case measure => have := HJ1.out; have := HK2.out; omega
          case rel => exact ⟨(wrap64 (x3_2 + 1)), rs_, H', ⟨by have := HJ1.out; have := HK2.out; omega⟩, dr_⟩
         ·
          rw [if_neg c18] at H
          have c18b0 : ((bt a0 x3_2) == 95) = false := beq_eq_false_iff_ne.mpr c18
          have c18b1 : ((bt a0 x3_2) != 95) = true := bne_iff_ne.mpr c18
          obtain rfl := Option.some.inj H
          have p11 : 0 ≤ (x3_2 : Int) := od
          have q11 : x3_2 < (a0.size : Int) := od
          have hx11 := bt_at a0 x3_2
          replace p11 := eq_true p11
          replace q11 := eq_true q11
          go_wp2_with (first | (refine gL (some 27) rfl Tryz.func139 #[.int .u8 (bt a0 x3_2)] ?_; (with_reducible refine (r02_small.calls (bt a0 x3_2) false _ A12.out).mono ?_); rintro e w' ⟨rfl, ⟨nd, rfl⟩⟩; refine ⟨_, rfl, ?_⟩; have p14 : 0 ≤ (x3_2 : Int) := od; have q14 : x3_2 < (a0.size : Int) := od; have hx14 := bt_at a0 x3_2; replace p14 := eq_true p14; replace q14 := eq_true q14) | (go_at_call 140; (with_reducible refine (r02_digit.calls (bt a0 x3_2) false _ A15.out).mono ?_); rintro e w' ⟨rfl, ⟨nd, rfl⟩⟩; have p17 : 0 ≤ (x3_2 : Int) := od; have q17 : x3_2 < (a0.size : Int) := od; have hx17 := bt_at a0 x3_2; replace p17 := eq_true p17; replace q17 := eq_true q17))
          go_ret
          exact ⟨rs_, dr_⟩
      ·
       rw [if_neg c9] at H
       have c9b0 : decide (x3_2 < (a0.size : Int)) = false := decide_eq_false c9
       clear c9
       obtain rfl := Option.some.inj H
       go_wp2
       go_ret
       exact ⟨rs_, dr_⟩
mutual
def r02_Value.j0 : Nat → ByteArray → Bool → Option (Bool)
 | 0, _, _ => none
 | k + 1, x0, x11 => if x11 = true then (some false) else (r02_Value.l0 k x0 0)
def r02_Value.l0 : Nat → ByteArray → Int → Option (Bool)
 | 0, _, _ => none
 | k + 1, x0, x3 => if x3 < (x0.size : Int) then (if 0 ≤ x3 then ((r02_small.f (bt x0 x3)).bind fun t117 => (if t117 = true then (r02_Value.l0 k x0 (wrap64 (x3 + 1))) else ((r02_digit.f (bt x0 x3)).bind fun t118 => (if t118 = true then (r02_Value.l0 k x0 (wrap64 (x3 + 1))) else (if (bt x0 x3) = 95 then (r02_Value.l0 k x0 (wrap64 (x3 + 1))) else (if (bt x0 x3) = 45 then (r02_Value.l0 k x0 (wrap64 (x3 + 1))) else (if (bt x0 x3) = 46 then (r02_Value.l0 k x0 (wrap64 (x3 + 1))) else (some false)))))))) else (none)) else (some true)
end
def r02_Value.f (k : Nat) (a0 : ByteArray) : Option (Bool) := if (a0.size : Int) < 1 then (r02_Value.j0 k a0 true) else (r02_Value.j0 k a0 (decide ((a0.size : Int) > 12)))
theorem r02_Value.mono_l : ∀ k, (∀ y0 y1, LeC (r02_Value.j0 k y0 y1) (r02_Value.j0 (k + 1) y0 y1)) ∧ (∀ y0 y1, LeC (r02_Value.l0 k y0 y1) (r02_Value.l0 (k + 1) y0 y1))
 | 0 => ⟨fun _ _ => ⟨fun r h => by simp [r02_Value.j0] at h⟩, fun _ _ => ⟨fun r h => by simp [r02_Value.l0] at h⟩⟩
 | k + 1 => by obtain ⟨ih0, ih1⟩ := r02_Value.mono_l k; exact ⟨fun _ _ => by unfold r02_Value.j0; exact lm, fun _ _ => by unfold r02_Value.l0; exact lm⟩
theorem r02_Value.mono : ∀ a0 k, LeO (r02_Value.f k a0) (r02_Value.f (k + 1) a0) := by
 intro a0 k
 obtain ⟨ih0, ih1⟩ := r02_Value.mono_l k
 unfold r02_Value.f
 exact lo
instance r02_Value.mI {a0 k} : LeC (r02_Value.f k a0) (r02_Value.f (k + 1) a0) := ⟨r02_Value.mono _ _⟩
theorem r02_Value.calls (k : Nat) (a0 : ByteArray) (r : Bool) (w : World) (h : r02_Value.f k a0 = some r) :
 Calls Tryz.prog 117 #[.string a0] w fun e w' => e = .returned (.bool r) ∧ Drawn0 w w' := by
 have H : (if (a0.size : Int) < 1 then (r02_Value.j0 k a0 true) else (r02_Value.j0 k a0 (decide ((a0.size : Int) > 12)))) = some r := h
 clear h
 have HC2 := Aside0.mk H
 clear H
 go_enter Tryz.func117, Tryz.ntmps117
 go_upto_region 1 with (fail)
 go_cut [11] (fun v11 wc => ∃ (kq : Nat) (x11_1 : Bool), v11 = .bool x11_1 ∧ Aside0 (r02_Value.j0 kq a0 x11_1 = some r) ∧ Aside0 (kq ≤ k) ∧ Drawn0 w wc)
 case first =>
  have H := HC2.out
  clear HC2
  by_cases c3 : (a0.size : Int) < 1
  ·
   rw [if_pos c3] at H
   have c3b0 : decide ((a0.size : Int) < 1) = true := decide_eq_true c3
   have c3b1 : decide (a0.size < 1) = true := decide_eq_true (by omega)
   clear c3
   (first | rw [c3b0] | (simp only [i64_w, i32_w]; rw [c3b0]) | skip)
   have H' := Aside0.mk H
   clear H
   go_wp2
   go_meet
   case rel => exact ⟨_, (true), rs_, H', ⟨by first | omega | exact Nat.le_refl _⟩, dr_⟩
  ·
   rw [if_neg c3] at H
   have c3b0 : decide ((a0.size : Int) < 1) = false := decide_eq_false c3
   have c3b1 : decide (a0.size < 1) = false := decide_eq_false (by omega)
   clear c3
   (first | rw [c3b0] | (simp only [i64_w, i32_w]; rw [c3b0]) | skip)
   have H' := Aside0.mk H
   clear H
   go_wp2
   go_meet
   case rel => exact ⟨_, (decide ((a0.size : Int) > 12)), rs_, H', ⟨by first | omega | exact Nat.le_refl _⟩, dr_⟩
 case rest =>
  clear HC2
  try clear c1
  try clear p2
  try clear c3
  try clear c3b0
  try clear c3b1
  obtain ⟨kq, x11_1, rfl, HA, HJ1, ⟨mc1, rfl⟩⟩ := hcut
  cases kq with
  | zero => exact absurd HA.out (by simp [r02_Value.j0])
  | succ kj1 =>
   have H := HA.out
   clear HA
   simp only [r02_Value.j0] at H
   by_cases c4 : x11_1 = true
   ·
    subst c4
    rw [if_pos rfl] at H
    obtain rfl := Option.some.inj H
    go_wp2
    go_ret
    exact ⟨rs_, dr_⟩
   ·
    replace c4 := Bool.eq_false_iff.mpr c4
    subst c4
    rw [if_neg (show ¬ (false = true) by decide)] at H
    have H' := Aside0.mk H
    clear H
    go_wp2
    go_loopg [3] kj1 (fun kq v3 w' => ∃ (x3_2 : Int), v3 = .int .i64 x3_2 ∧ Aside0 (r02_Value.l0 kq a0 x3_2 = some r) ∧ Aside0 (kq ≤ kj1) ∧ Drawn0 w w')
    case atStart => exact ⟨(0), rs_, H', ⟨Nat.le_refl _⟩, dr_⟩
    case round =>
     clear H'
     try clear c1
     try clear p2
     try clear c3
     try clear c3b0
     try clear c3b1
     try clear c4
     try clear p2
     obtain ⟨x3_2, rfl, HA, HK2, ⟨m2, rfl⟩⟩ := hrel
     cases gk with
     | zero => exact absurd HA.out (by simp [r02_Value.l0])
     | succ k2 =>
      have H := HA.out
      clear HA
      simp only [r02_Value.l0] at H
      by_cases c5 : x3_2 < (a0.size : Int)
      ·
       rw [if_pos c5] at H
       have c5b0 : decide (x3_2 < (a0.size : Int)) = true := decide_eq_true c5
       clear c5
       obtain ⟨c6b0, H⟩ := gdd H
       obtain ⟨t117, A8, H⟩ := bs H
       try dsimp only at H
       by_cases c9 : t117 = true
       ·
        subst c9
        rw [if_pos rfl] at H
        have H' := Aside0.mk H
        clear H
        have p7 : 0 ≤ (x3_2 : Int) := od
        have q7 : x3_2 < (a0.size : Int) := od
        have hx7 := bt_at a0 x3_2
        replace p7 := eq_true p7
        replace q7 := eq_true q7
        go_wp2_with (first | (refine gL (some 21) rfl Tryz.func139 #[.int .u8 (bt a0 x3_2)] ?_; (with_reducible refine (r02_small.calls (bt a0 x3_2) true _ A8.out).mono ?_); rintro e w' ⟨rfl, ⟨nd, rfl⟩⟩; refine ⟨_, rfl, ?_⟩))
        go_roundg k2
        case measure => have := HJ1.out; have := HK2.out; omega
        case rel => exact ⟨(wrap64 (x3_2 + 1)), rs_, H', ⟨by have := HJ1.out; have := HK2.out; omega⟩, dr_⟩
       ·
        replace c9 := Bool.eq_false_iff.mpr c9
        subst c9
        rw [if_neg (show ¬ (false = true) by decide)] at H
        obtain ⟨t118, A11, H⟩ := bs H
        try dsimp only at H
        by_cases c12 : t118 = true
        ·
         subst c12
         rw [if_pos rfl] at H
         have H' := Aside0.mk H
         clear H
         have p7 : 0 ≤ (x3_2 : Int) := od
         have q7 : x3_2 < (a0.size : Int) := od
         have hx7 := bt_at a0 x3_2
         replace p7 := eq_true p7
         replace q7 := eq_true q7
         go_wp2_with (first | (refine gL (some 21) rfl Tryz.func139 #[.int .u8 (bt a0 x3_2)] ?_; (with_reducible refine (r02_small.calls (bt a0 x3_2) false _ A8.out).mono ?_); rintro e w' ⟨rfl, ⟨nd, rfl⟩⟩; refine ⟨_, rfl, ?_⟩; have p10 : 0 ≤ (x3_2 : Int) := od; have q10 : x3_2 < (a0.size : Int) := od; have hx10 := bt_at a0 x3_2; replace p10 := eq_true p10; replace q10 := eq_true q10) | (go_at_call 140; (with_reducible refine (r02_digit.calls (bt a0 x3_2) true _ A11.out).mono ?_); rintro e w' ⟨rfl, ⟨nd, rfl⟩⟩))
         go_roundg k2
         case measure => have := HJ1.out; have := HK2.out; omega
         case rel => exact ⟨(wrap64 (x3_2 + 1)), rs_, H', ⟨by have := HJ1.out; have := HK2.out; omega⟩, dr_⟩
        ·
         replace c12 := Bool.eq_false_iff.mpr c12
         subst c12
         rw [if_neg (show ¬ (false = true) by decide)] at H
         by_cases c14 : (bt a0 x3_2) = 95
         ·
          rw [if_pos c14] at H
          have c14b0 : ((bt a0 x3_2) == 95) = true := beq_iff_eq.mpr c14
          have c14b1 : ((bt a0 x3_2) != 95) = false := bne_eq_false_iff_eq.mpr c14
          clear c14
          have H' := Aside0.mk H
          clear H
          have p7 : 0 ≤ (x3_2 : Int) := od
          have q7 : x3_2 < (a0.size : Int) := od
          have hx7 := bt_at a0 x3_2
          replace p7 := eq_true p7
          replace q7 := eq_true q7
          go_wp2_with (first | (refine gL (some 21) rfl Tryz.func139 #[.int .u8 (bt a0 x3_2)] ?_; (with_reducible refine (r02_small.calls (bt a0 x3_2) false _ A8.out).mono ?_); rintro e w' ⟨rfl, ⟨nd, rfl⟩⟩; refine ⟨_, rfl, ?_⟩; have p10 : 0 ≤ (x3_2 : Int) := od; have q10 : x3_2 < (a0.size : Int) := od; have hx10 := bt_at a0 x3_2; replace p10 := eq_true p10; replace q10 := eq_true q10) | (go_at_call 140; (with_reducible refine (r02_digit.calls (bt a0 x3_2) false _ A11.out).mono ?_); rintro e w' ⟨rfl, ⟨nd, rfl⟩⟩; have p13 : 0 ≤ (x3_2 : Int) := od; have q13 : x3_2 < (a0.size : Int) := od; have hx13 := bt_at a0 x3_2; replace p13 := eq_true p13; replace q13 := eq_true q13))
          go_roundg k2
          case measure => have := HJ1.out; have := HK2.out; omega
          case rel => exact ⟨(wrap64 (x3_2 + 1)), rs_, H', ⟨by have := HJ1.out; have := HK2.out; omega⟩, dr_⟩
         ·
          rw [if_neg c14] at H
          have c14b0 : ((bt a0 x3_2) == 95) = false := beq_eq_false_iff_ne.mpr c14
          have c14b1 : ((bt a0 x3_2) != 95) = true := bne_iff_ne.mpr c14
          by_cases c16 : (bt a0 x3_2) = 45
          ·
           rw [if_pos c16] at H
           have c16b0 : ((bt a0 x3_2) == 45) = true := beq_iff_eq.mpr c16
           have c16b1 : ((bt a0 x3_2) != 45) = false := bne_eq_false_iff_eq.mpr c16
           clear c16
           have H' := Aside0.mk H
           clear H
           have p7 : 0 ≤ (x3_2 : Int) := od
           have q7 : x3_2 < (a0.size : Int) := od
           have hx7 := bt_at a0 x3_2
           replace p7 := eq_true p7
           replace q7 := eq_true q7
           go_wp2_with (first | (refine gL (some 21) rfl Tryz.func139 #[.int .u8 (bt a0 x3_2)] ?_; (with_reducible refine (r02_small.calls (bt a0 x3_2) false _ A8.out).mono ?_); rintro e w' ⟨rfl, ⟨nd, rfl⟩⟩; refine ⟨_, rfl, ?_⟩; have p10 : 0 ≤ (x3_2 : Int) := od; have q10 : x3_2 < (a0.size : Int) := od; have hx10 := bt_at a0 x3_2; replace p10 := eq_true p10; replace q10 := eq_true q10) | (go_at_call 140; (with_reducible refine (r02_digit.calls (bt a0 x3_2) false _ A11.out).mono ?_); rintro e w' ⟨rfl, ⟨nd, rfl⟩⟩; have p13 : 0 ≤ (x3_2 : Int) := od; have q13 : x3_2 < (a0.size : Int) := od; have hx13 := bt_at a0 x3_2; replace p13 := eq_true p13; replace q13 := eq_true q13; have p15 : 0 ≤ (x3_2 : Int) := od; have q15 : x3_2 < (a0.size : Int) := od; have hx15 := bt_at a0 x3_2; replace p15 := eq_true p15; replace q15 := eq_true q15))
           go_roundg k2
           case measure => have := HJ1.out; have := HK2.out; omega
           case rel => exact ⟨(wrap64 (x3_2 + 1)), rs_, H', ⟨by have := HJ1.out; have := HK2.out; omega⟩, dr_⟩
          ·
           rw [if_neg c16] at H
           have c16b0 : ((bt a0 x3_2) == 45) = false := beq_eq_false_iff_ne.mpr c16
           have c16b1 : ((bt a0 x3_2) != 45) = true := bne_iff_ne.mpr c16
           by_cases c18 : (bt a0 x3_2) = 46
           ·
            rw [if_pos c18] at H
            have c18b0 : ((bt a0 x3_2) == 46) = true := beq_iff_eq.mpr c18
            have c18b1 : ((bt a0 x3_2) != 46) = false := bne_eq_false_iff_eq.mpr c18
            clear c18
            have H' := Aside0.mk H
            clear H
            have p7 : 0 ≤ (x3_2 : Int) := od
            have q7 : x3_2 < (a0.size : Int) := od
            have hx7 := bt_at a0 x3_2
            replace p7 := eq_true p7
            replace q7 := eq_true q7
            go_wp2_with (first | (refine gL (some 21) rfl Tryz.func139 #[.int .u8 (bt a0 x3_2)] ?_; (with_reducible refine (r02_small.calls (bt a0 x3_2) false _ A8.out).mono ?_); rintro e w' ⟨rfl, ⟨nd, rfl⟩⟩; refine ⟨_, rfl, ?_⟩; have p10 : 0 ≤ (x3_2 : Int) := od; have q10 : x3_2 < (a0.size : Int) := od; have hx10 := bt_at a0 x3_2; replace p10 := eq_true p10; replace q10 := eq_true q10) | (go_at_call 140; (with_reducible refine (r02_digit.calls (bt a0 x3_2) false _ A11.out).mono ?_); rintro e w' ⟨rfl, ⟨nd, rfl⟩⟩; have p13 : 0 ≤ (x3_2 : Int) := od; have q13 : x3_2 < (a0.size : Int) := od; have hx13 := bt_at a0 x3_2; replace p13 := eq_true p13; replace q13 := eq_true q13; have p15 : 0 ≤ (x3_2 : Int) := od; have q15 : x3_2 < (a0.size : Int) := od; have hx15 := bt_at a0 x3_2; replace p15 := eq_true p15; replace q15 := eq_true q15; have p17 : 0 ≤ (x3_2 : Int) := od; have q17 : x3_2 < (a0.size : Int) := od; have hx17 := bt_at a0 x3_2; replace p17 := eq_true p17; replace q17 := eq_true q17))
            go_roundg k2
            case measure => have := HJ1.out; have := HK2.out; omega
            case rel => exact ⟨(wrap64 (x3_2 + 1)), rs_, H', ⟨by have := HJ1.out; have := HK2.out; omega⟩, dr_⟩
           ·
            rw [if_neg c18] at H
            have c18b0 : ((bt a0 x3_2) == 46) = false := beq_eq_false_iff_ne.mpr c18
            have c18b1 : ((bt a0 x3_2) != 46) = true := bne_iff_ne.mpr c18
            obtain rfl := Option.some.inj H
            have p7 : 0 ≤ (x3_2 : Int) := od
            have q7 : x3_2 < (a0.size : Int) := od
            have hx7 := bt_at a0 x3_2
            replace p7 := eq_true p7
            replace q7 := eq_true q7
            go_wp2_with (first | (refine gL (some 21) rfl Tryz.func139 #[.int .u8 (bt a0 x3_2)] ?_; (with_reducible refine (r02_small.calls (bt a0 x3_2) false _ A8.out).mono ?_); rintro e w' ⟨rfl, ⟨nd, rfl⟩⟩; refine ⟨_, rfl, ?_⟩; have p10 : 0 ≤ (x3_2 : Int) := od; have q10 : x3_2 < (a0.size : Int) := od; have hx10 := bt_at a0 x3_2; replace p10 := eq_true p10; replace q10 := eq_true q10) | (go_at_call 140; (with_reducible refine (r02_digit.calls (bt a0 x3_2) false _ A11.out).mono ?_); rintro e w' ⟨rfl, ⟨nd, rfl⟩⟩; have p13 : 0 ≤ (x3_2 : Int) := od; have q13 : x3_2 < (a0.size : Int) := od; have hx13 := bt_at a0 x3_2; replace p13 := eq_true p13; replace q13 := eq_true q13; have p15 : 0 ≤ (x3_2 : Int) := od; have q15 : x3_2 < (a0.size : Int) := od; have hx15 := bt_at a0 x3_2; replace p15 := eq_true p15; replace q15 := eq_true q15; have p17 : 0 ≤ (x3_2 : Int) := od; have q17 : x3_2 < (a0.size : Int) := od; have hx17 := bt_at a0 x3_2; replace p17 := eq_true p17; replace q17 := eq_true q17))
            go_ret
            exact ⟨rs_, dr_⟩
      ·
       rw [if_neg c5] at H
       have c5b0 : decide (x3_2 < (a0.size : Int)) = false := decide_eq_false c5
       clear c5
       obtain rfl := Option.some.inj H
       go_wp2
       go_ret
       exact ⟨rs_, dr_⟩
def r03_may.f (k : Nat) (a0_0 : ByteArray) (a0_1 : ByteArray) : Option (Bool) := (r02_Name.f k a0_0).bind fun t120 => (if t120 = true then ((r02_Value.f k a0_1).bind fun t121 => (some t121)) else (some false))
theorem r03_may.mono : ∀ a0 a1 k, LeO (r03_may.f k a0 a1) (r03_may.f (k + 1) a0 a1) := by
 intro a0 a1 k
 unfold r03_may.f
 exact lo
instance r03_may.mI {a0 a1 k} : LeC (r03_may.f k a0 a1) (r03_may.f (k + 1) a0 a1) := ⟨r03_may.mono _ _ _⟩
theorem r03_may.calls (k : Nat) (a0_0 : ByteArray) (a0_1 : ByteArray) (r : Bool) (w : World) (h : r03_may.f k a0_0 a0_1 = some r) :
 Calls Tryz.prog 95 #[.agg #[.string a0_0, .string a0_1]] w fun e w' => e = .returned (.bool r) ∧ Below w.heap.size w w' := by
 have hu98 := Tryz.underlying98
 have HB := Aside0.mk (Below.refl w.heap.size w)
 have H : ((r02_Name.f k a0_0).bind fun t120 => (if t120 = true then ((r02_Value.f k a0_1).bind fun t121 => (some t121)) else (some false))) = some r := h
 clear h
 obtain ⟨t120, A2, H⟩ := bs H
 try dsimp only at H
 by_cases c3 : t120 = true
 ·
  subst c3
  rw [if_pos rfl] at H
  obtain ⟨t121, A4, H⟩ := bs H
  try dsimp only at H
  obtain rfl := Option.some.inj H
  go_enter Tryz.func95, Tryz.ntmps95
  go_wp2_with (first | ((with_reducible refine gate_dst (N := 1) rfl ?_); refine bx (N := 1) #[.string a0_0, .string a0_1] 98 ?_; intro gb119 hg w5 hbox hb; have BK119 := Aside0.mk (hbox); have GW119 := gw hg (uW HB.out); have GE119 := GW119; replace HB := cW HB hb; clear hb hbox hg; obtain ⟨hcz6_0, hcz6_1, hfz6_0, hfz6_1⟩ := z2 BK119) | (refine gL (some 5) rfl Tryz.func116 #[.string a0_0] ?_; (with_reducible refine (r02_Name.calls k a0_0 true _ A2.out).mono ?_); rintro e w' ⟨rfl, ⟨nd, rfl⟩⟩; refine ⟨_, rfl, ?_⟩) | (go_at_call 117; (with_reducible refine (r02_Value.calls k a0_1 t121 _ A4.out).mono ?_); rintro e w' ⟨rfl, ⟨nd, rfl⟩⟩))
  go_ret
  exact ⟨re_, bl⟩
 ·
  replace c3 := Bool.eq_false_iff.mpr c3
  subst c3
  rw [if_neg (show ¬ (false = true) by decide)] at H
  obtain rfl := Option.some.inj H
  go_enter Tryz.func95, Tryz.ntmps95
  go_wp2_with (first | ((with_reducible refine gate_dst (N := 1) rfl ?_); refine bx (N := 1) #[.string a0_0, .string a0_1] 98 ?_; intro gb119 hg w7 hbox hb; have BK119 := Aside0.mk (hbox); have GW119 := gw hg (uW HB.out); have GE119 := GW119; replace HB := cW HB hb; clear hb hbox hg; obtain ⟨hcz8_0, hcz8_1, hfz8_0, hfz8_1⟩ := z2 BK119) | (refine gL (some 5) rfl Tryz.func116 #[.string a0_0] ?_; (with_reducible refine (r02_Name.calls k a0_0 false _ A2.out).mono ?_); rintro e w' ⟨rfl, ⟨nd, rfl⟩⟩; refine ⟨_, rfl, ?_⟩))
  go_ret
  exact ⟨re_, bl⟩
end Go.Proofs.YtgcbejidponoaaaGreatDoor.X
