/- Printed by a program of this session's own: what functions of the program compute, and that the machine computes it. No condition of its own. -/
import Derived.Test.YtgcbejidponoaaaGreatDoorM3
import Derived.Test.YtgcbejidponoaaaGreatDoorM6
import Derived.Test.YtgcbejidponoaaaGreatDoorM9
import Derived.Test.YtgcbejidponoaaaGreatDoorM10
import Derived.Test.YtgcbejidponoaaaGreatDoorM11
import Derived.Test.YtgcbejidponoaaaGreatDoorM4
import Derived.Test.YtgcbejidponoaaaGreatDoorM8
namespace Go.Proofs.YtgcbejidponoaaaGreatDoor.X
open Go.RowKit Go.Proofs.YtgcbejidponoaaaGreatDoorW.PrintWords Go.Proofs.YtgcbejidponoaaaGreatDoorW.PrintLast Go.Proofs.YtgcbejidponoaaaGreatDoorW.PrintMore
attribute [local go_sem] max2_int min2_int max_two min_two max_three min_three max_four min_four
set_option linter.unusedVariables false
set_option linter.unusedSimpArgs false
set_option maxHeartbeats 8000000
set_option maxRecDepth 100000
def diff_one.f (k : Nat) (a0 : ByteArray) : Option (Int × ByteArray × Int × Bool × Bool × Int) := (strings_CutPrefix.f a0 (⟨#[33]⟩ : ByteArray)).bind fun bt533 => (if bt533.2 = true then ((diff_leaves.f k bt533.1).bind fun bt535 => (some (bt535.1, bt535.2.1, bt535.2.2.1, bt535.2.2.2.1, bt535.2.2.2.2.1, bt535.2.2.2.2.2))) else ((row_Parse.f k a0).bind fun bt541 => (if bt541.2 = 0 then (if (bt541.1.length : Int) = 0 then (some (0, (⟨#[]⟩ : ByteArray), 0, false, false, 2)) else (if 0 < (bt541.1.length : Int) then (some ((rd_T45 bt541.1 0).f0, (rd_T45 bt541.1 0).f1, (rd_T45 bt541.1 0).f2.f0, (rd_T45 bt541.1 0).f2.f1, false, 0)) else (none))) else (some (0, (⟨#[]⟩ : ByteArray), 0, false, false, bt541.2)))))
theorem diff_one.mono : ∀ a0 k, LeO (diff_one.f k a0) (diff_one.f (k + 1) a0) := by
 intro a0 k
 unfold diff_one.f
 exact lo
instance diff_one.mI {a0 k} : LeC (diff_one.f k a0) (diff_one.f (k + 1) a0) := ⟨diff_one.mono _ _⟩
theorem diff_one.calls (k : Nat) (a0 : ByteArray) (r1 : Int) (r2 : ByteArray) (r3 : Int) (r4 : Bool) (r5 : Bool) (r6 : Int) (w : World) (hL : LD w) (h : diff_one.f k a0 = some (r1, r2, r3, r4, r5, r6)) :
 Calls Tryz.prog 40 #[.string a0] w fun e w' => e = .returned (.tuple #[.agg #[.int .i64 r1, .string r2, .int .i64 r3, .bool r4, .bool r5], .int .i64 r6]) ∧ Below w.heap.size w w' := by
 have HL0 := Aside0.mk hL
 clear hL
 have hu48 := Tryz.underlying48
 have hu45 := Tryz.underlying45
 have HB := Aside0.mk (Below.refl w.heap.size w)
 have H : ((strings_CutPrefix.f a0 (⟨#[33]⟩ : ByteArray)).bind fun bt533 => (if bt533.2 = true then ((diff_leaves.f k bt533.1).bind fun bt535 => (some (bt535.1, bt535.2.1, bt535.2.2.1, bt535.2.2.2.1, bt535.2.2.2.2.1, bt535.2.2.2.2.2))) else ((row_Parse.f k a0).bind fun bt541 => (if bt541.2 = 0 then (if (bt541.1.length : Int) = 0 then (some (0, (⟨#[]⟩ : ByteArray), 0, false, false, 2)) else (if 0 < (bt541.1.length : Int) then (some ((rd_T45 bt541.1 0).f0, (rd_T45 bt541.1 0).f1, (rd_T45 bt541.1 0).f2.f0, (rd_T45 bt541.1 0).f2.f1, false, 0)) else (none))) else (some (0, (⟨#[]⟩ : ByteArray), 0, false, false, bt541.2)))))) = some (r1, r2, r3, r4, r5, r6) := h
 clear h
 obtain ⟨⟨t533, t534⟩, A2, H⟩ := bs H
 try dsimp only at H
 by_cases c3 : t534 = true
 ·
  subst c3
  rw [if_pos rfl] at H
  obtain ⟨⟨t535, t536, t537, t538, t539, t540⟩, A4, H⟩ := bs H
  try dsimp only at H
  simp only [Option.some.injEq, Prod.mk.injEq] at H
  obtain ⟨rfl, rfl, rfl, rfl, rfl, rfl⟩ := H
  go_enter Tryz.func40, Tryz.ntmps40
  go_wp2_with (first | ((with_reducible refine gate_dst (N := 2) rfl ?_); refine bx (N := 2) #[.int .i64 0, .string (⟨#[]⟩ : ByteArray), .int .i64 0, .bool false, .bool false] 48 ?_; intro gb532 hg w5 hbox hb; have BK532 := Aside0.mk (hbox); have GW532 := gw hg (uW HB.out); have GE532 := GW532; replace HB := cW HB hb; clear hb hbox hg) | (refine gL (some 10) rfl Tryz.func57 #[.string a0, .string (⟨#[33]⟩ : ByteArray)] ?_; (with_reducible refine (strings_CutPrefix.calls a0 (⟨#[33]⟩ : ByteArray) t533 true _ A2.out).mono ?_); rintro e w' ⟨rfl, ⟨nd, rfl⟩⟩; refine ⟨_, rfl, ?_⟩; (try (rw [drewN_self w5]; generalize hq_ : World.drewN w5 _ = w5; have n0_ : Aside0 (w5.heap[gb532]? = some (.cells #[.int .i64 0, .string (⟨#[]⟩ : ByteArray), .int .i64 0, .bool false, .bool false] 48 (0, 0))) := ⟨by rw [← hq_]; exact (uB BK532.out)⟩; have n1_ : Aside0 (Below w.heap.size w w5) := ⟨by rw [← hq_]; exact bl⟩; clear BK532 HB hq_; have BK532 := n0_; have HB := n1_; clear n0_ n1_))) | (refine gL (some 15) rfl Tryz.func58 #[.string t533] ?_; (with_reducible refine (diff_leaves.calls (hL := ld) k t533 t535 t536 t537 t538 t539 t540 _ A4.out).mono ?_); rintro e w6 ⟨rfl, hb⟩; refine ⟨_, rfl, ?_⟩; replace BK532 := cB BK532 hb; replace HB := Aside0.mk (below_step bl hb); (try clear hb); obtain ⟨hcz7_0, hcz7_1, hcz7_2, hcz7_3, hcz7_4, hfz7_0, hfz7_1, hfz7_2, hfz7_3, hfz7_4⟩ := z5 BK532) | ((with_reducible refine gate_store (t := 48) (p := 2) rfl ?_); refine store_event (t := 48) (p := 2) (v := ?vo_w8) (w1 := (((((w6.setCell ⟨gb532, 0, none⟩ (.int .i64 t535)).setCell ⟨gb532, 1, none⟩ (.string t536)).setCell ⟨gb532, 2, none⟩ (.int .i64 t537)).setCell ⟨gb532, 3, none⟩ (.bool t538)).setCell ⟨gb532, 4, none⟩ (.bool t539))) ?hg ?ho ?hn ?hr ?_; (case ho => rfl); (case hg => rfl); (case hn => rfl); (case hr => first | (go_simp; done) | (go_simp; rfl)); intro w8 hw; have n0_ : Aside0 (w8.heap[gb532]? = some (.cells #[.int .i64 t535, .string t536, .int .i64 t537, .bool t538, .bool t539] 48 (0, 0))) := ⟨(by rw [hw]; exact (by (with_reducible repeat (first | refine blk_drewN ?_ _ | refine blk_drew ?_ | refine blk_alloc ?_ _)); refine blk_put (cs := #[.int .i64 t535, .string t536, .int .i64 t537, .bool t538, .bool false]) ?_ 4 _ rfl; (with_reducible repeat (first | refine blk_drewN ?_ _ | refine blk_drew ?_ | refine blk_alloc ?_ _)); refine blk_put (cs := #[.int .i64 t535, .string t536, .int .i64 t537, .bool false, .bool false]) ?_ 3 _ rfl; (with_reducible repeat (first | refine blk_drewN ?_ _ | refine blk_drew ?_ | refine blk_alloc ?_ _)); refine blk_put (cs := #[.int .i64 t535, .string t536, .int .i64 0, .bool false, .bool false]) ?_ 2 _ rfl; (with_reducible repeat (first | refine blk_drewN ?_ _ | refine blk_drew ?_ | refine blk_alloc ?_ _)); refine blk_put (cs := #[.int .i64 t535, .string (⟨#[]⟩ : ByteArray), .int .i64 0, .bool false, .bool false]) ?_ 1 _ rfl; (with_reducible repeat (first | refine blk_drewN ?_ _ | refine blk_drew ?_ | refine blk_alloc ?_ _)); refine blk_put (cs := #[.int .i64 0, .string (⟨#[]⟩ : ByteArray), .int .i64 0, .bool false, .bool false]) ?_ 0 _ rfl; exact uB <| BK532.out))⟩; have n1_ : Aside0 (Below w.heap.size w w8) := ⟨(by rw [hw]; exact bl)⟩; clear hw; clear BK532; clear HB; have BK532 := n0_; have HB := n1_; clear n0_ n1_))
  refine bodyPost_ret (results_ct rfl _ _ gb532 48 #[.int .i64 t535, .string t536, .int .i64 t537, .bool t538, .bool t539] (0, 0) _ rfl (uB BK532.out) Tryz.underlying48 rfl (by kernel_rfl)) rfl ?_
  exact ⟨re_, bl⟩
 ·
  replace c3 := Bool.eq_false_iff.mpr c3
  subst c3
  rw [if_neg (show ¬ (false = true) by decide)] at H
  obtain ⟨⟨t541, t542⟩, A9, H⟩ := bs H
  try dsimp only at H
  by_cases c10 : t542 = 0
  ·
   rw [if_pos c10] at H
   have c10b0 : (t542 == 0) = true := beq_iff_eq.mpr c10
   have c10b1 : (t542 != 0) = false := bne_eq_false_iff_eq.mpr c10
   clear c10
   by_cases c11 : (t541.length : Int) = 0
   ·
    rw [if_pos c11] at H
    have c11b0 : ((t541.length : Int) == 0) = true := beq_iff_eq.mpr c11
    have c11b1 : ((t541.length : Int) != 0) = false := bne_eq_false_iff_eq.mpr c11
    clear c11
    simp only [Option.some.injEq, Prod.mk.injEq] at H
    obtain ⟨rfl, rfl, rfl, rfl, rfl, rfl⟩ := H
    go_enter Tryz.func40, Tryz.ntmps40
    go_wp2_with (first | ((with_reducible refine gate_dst (N := 2) rfl ?_); refine bx (N := 2) #[.int .i64 0, .string (⟨#[]⟩ : ByteArray), .int .i64 0, .bool false, .bool false] 48 ?_; intro gb532 hg w12 hbox hb; have BK532 := Aside0.mk (hbox); have GW532 := gw hg (uW HB.out); have GE532 := GW532; replace HB := cW HB hb; clear hb hbox hg) | (refine gL (some 10) rfl Tryz.func57 #[.string a0, .string (⟨#[33]⟩ : ByteArray)] ?_; (with_reducible refine (strings_CutPrefix.calls a0 (⟨#[33]⟩ : ByteArray) t533 false _ A2.out).mono ?_); rintro e w' ⟨rfl, ⟨nd, rfl⟩⟩; refine ⟨_, rfl, ?_⟩; (try (rw [drewN_self w12]; generalize hq_ : World.drewN w12 _ = w12; have n0_ : Aside0 (w12.heap[gb532]? = some (.cells #[.int .i64 0, .string (⟨#[]⟩ : ByteArray), .int .i64 0, .bool false, .bool false] 48 (0, 0))) := ⟨by rw [← hq_]; exact (uB BK532.out)⟩; have n1_ : Aside0 (Below w.heap.size w w12) := ⟨by rw [← hq_]; exact bl⟩; clear BK532 HB hq_; have BK532 := n0_; have HB := n1_; clear n0_ n1_))) | (refine gL (some 20) rfl Tryz.func59 #[.string a0] ?_; (with_reducible refine (row_Parse.calls (hL := ld) k a0 t541 t542 _ A9.out).mono ?_); rintro e w13 ⟨v543, rfl, ho0, hb⟩; refine ⟨_, rfl, ?_⟩; have HO544 := Aside0.mk (Kd.R_lower ho0 (below_size bl)); replace BK532 := cB BK532 hb; replace HB := Aside0.mk (below_step bl hb); (try clear hb); (try clear ho0); obtain ⟨Ao14, co14, eo14⟩ := Kd.R_slice HO544.out; subst eo14; obtain ⟨hcz15_0, hcz15_1, hcz15_2, hcz15_3, hcz15_4, hfz15_0, hfz15_1, hfz15_2, hfz15_3, hfz15_4⟩ := z5 BK532) | ((with_reducible refine gate_store (t := 48) (p := 2) rfl ?_); refine store_event (t := 48) (p := 2) (v := ?vo_w16) (w1 := (((((w13.setCell ⟨gb532, 0, none⟩ (.int .i64 0)).setCell ⟨gb532, 1, none⟩ (.string (⟨#[]⟩ : ByteArray))).setCell ⟨gb532, 2, none⟩ (.int .i64 0)).setCell ⟨gb532, 3, none⟩ (.bool false)).setCell ⟨gb532, 4, none⟩ (.bool false))) ?hg ?ho ?hn ?hr ?_; (case ho => rfl); (case hg => rfl); (case hn => rfl); (case hr => first | (go_simp; done) | (go_simp; rfl)); intro w16 hw; have n0_ : Aside0 (Kd.R k45 45 w16 w.heap.size (fun _ => True) (.slice Ao14 t541.length co14) t541) := ⟨(by rw [hw]; exact (by exact uR <| Kd.R_mono (Kd.R_far (p := ⟨gb532, 4, none⟩) (Kd.R_far (p := ⟨gb532, 3, none⟩) (Kd.R_far (p := ⟨gb532, 2, none⟩) (Kd.R_far (p := ⟨gb532, 1, none⟩) (Kd.R_far (p := ⟨gb532, 0, none⟩) (Kd.R_types HO544.out BK532.out (by decide)) (fun _ hk => hk.2) (.int .i64 0)) (fun _ hk => hk.2) (.string (⟨#[]⟩ : ByteArray))) (fun _ hk => hk.2) (.int .i64 0)) (fun _ hk => hk.2) (.bool false)) (fun _ hk => hk.2) (.bool false)) (fun _ hk => trivial)))⟩; have n1_ : Aside0 (w16.heap[gb532]? = some (.cells #[.int .i64 0, .string (⟨#[]⟩ : ByteArray), .int .i64 0, .bool false, .bool false] 48 (0, 0))) := ⟨(by rw [hw]; exact (by (with_reducible repeat (first | refine blk_drewN ?_ _ | refine blk_drew ?_ | refine blk_alloc ?_ _)); refine blk_put (cs := #[.int .i64 0, .string (⟨#[]⟩ : ByteArray), .int .i64 0, .bool false, .bool false]) ?_ 4 _ rfl; (with_reducible repeat (first | refine blk_drewN ?_ _ | refine blk_drew ?_ | refine blk_alloc ?_ _)); refine blk_put (cs := #[.int .i64 0, .string (⟨#[]⟩ : ByteArray), .int .i64 0, .bool false, .bool false]) ?_ 3 _ rfl; (with_reducible repeat (first | refine blk_drewN ?_ _ | refine blk_drew ?_ | refine blk_alloc ?_ _)); refine blk_put (cs := #[.int .i64 0, .string (⟨#[]⟩ : ByteArray), .int .i64 0, .bool false, .bool false]) ?_ 2 _ rfl; (with_reducible repeat (first | refine blk_drewN ?_ _ | refine blk_drew ?_ | refine blk_alloc ?_ _)); refine blk_put (cs := #[.int .i64 0, .string (⟨#[]⟩ : ByteArray), .int .i64 0, .bool false, .bool false]) ?_ 1 _ rfl; (with_reducible repeat (first | refine blk_drewN ?_ _ | refine blk_drew ?_ | refine blk_alloc ?_ _)); refine blk_put (cs := #[.int .i64 0, .string (⟨#[]⟩ : ByteArray), .int .i64 0, .bool false, .bool false]) ?_ 0 _ rfl; exact uB <| BK532.out))⟩; have n2_ : Aside0 (Below w.heap.size w w16) := ⟨(by rw [hw]; exact bl)⟩; clear hw; clear HO544; clear BK532; clear HB; have HO544 := n0_; have BK532 := n1_; have HB := n2_; clear n0_ n1_ n2_))
    refine bodyPost_ret (results_ct rfl _ _ gb532 48 #[.int .i64 0, .string (⟨#[]⟩ : ByteArray), .int .i64 0, .bool false, .bool false] (0, 0) _ rfl (uB BK532.out) Tryz.underlying48 rfl (by kernel_rfl)) rfl ?_
    exact ⟨re_, bl⟩
   ·
    rw [if_neg c11] at H
    have c11b0 : ((t541.length : Int) == 0) = false := beq_eq_false_iff_ne.mpr c11
    have c11b1 : ((t541.length : Int) != 0) = true := bne_iff_ne.mpr c11
    have c11b2 : ¬ (t541 = []) := fun h_ => c11 (by rw [h_]; rfl)
    obtain ⟨c17, H⟩ := gd H
    have c17b0 : decide (0 < (t541.length : Int)) = true := decide_eq_true c17
    have c17b1 : decide (0 < t541.length) = true := decide_eq_true (by omega)
    clear c17
    simp only [Option.some.injEq, Prod.mk.injEq] at H
    obtain ⟨rfl, rfl, rfl, rfl, rfl, rfl⟩ := H
    go_enter Tryz.func40, Tryz.ntmps40
    go_wp2_with (first | ((with_reducible refine gate_dst (N := 2) rfl ?_); refine bx (N := 2) #[.int .i64 0, .string (⟨#[]⟩ : ByteArray), .int .i64 0, .bool false, .bool false] 48 ?_; intro gb532 hg w18 hbox hb; have BK532 := Aside0.mk (hbox); have GW532 := gw hg (uW HB.out); have GE532 := GW532; replace HB := cW HB hb; clear hb hbox hg) | (refine gL (some 10) rfl Tryz.func57 #[.string a0, .string (⟨#[33]⟩ : ByteArray)] ?_; (with_reducible refine (strings_CutPrefix.calls a0 (⟨#[33]⟩ : ByteArray) t533 false _ A2.out).mono ?_); rintro e w' ⟨rfl, ⟨nd, rfl⟩⟩; refine ⟨_, rfl, ?_⟩; (try (rw [drewN_self w18]; generalize hq_ : World.drewN w18 _ = w18; have n0_ : Aside0 (w18.heap[gb532]? = some (.cells #[.int .i64 0, .string (⟨#[]⟩ : ByteArray), .int .i64 0, .bool false, .bool false] 48 (0, 0))) := ⟨by rw [← hq_]; exact (uB BK532.out)⟩; have n1_ : Aside0 (Below w.heap.size w w18) := ⟨by rw [← hq_]; exact bl⟩; clear BK532 HB hq_; have BK532 := n0_; have HB := n1_; clear n0_ n1_))) | (refine gL (some 20) rfl Tryz.func59 #[.string a0] ?_; (with_reducible refine (row_Parse.calls (hL := ld) k a0 t541 t542 _ A9.out).mono ?_); rintro e w19 ⟨v543, rfl, ho0, hb⟩; refine ⟨_, rfl, ?_⟩; have HO544 := Aside0.mk (Kd.R_lower ho0 (below_size bl)); replace BK532 := cB BK532 hb; replace HB := Aside0.mk (below_step bl hb); (try clear hb); (try clear ho0); obtain ⟨Ao20, co20, eo20⟩ := Kd.R_slice HO544.out; subst eo20; have p545 : 0 ≤ (0 : Int) := (by omega); have q545 : 0 < (t541.length : Int) := od; obtain ⟨ad545, e545, hx545_0, hx545_1, hx545_2, hx545_3⟩ := at_T45 (Kd.R_reads' HO544.out).2.2 0 p545 q545; cases e545; have qi545 : (0 < t541.length) = True := eq_true (by omega); (try rw [show ((0 : Int)).toNat = 0 from rfl] at hx545_0); (try rw [show 0 * 4 = 0 from rfl] at hx545_0); (try rw [Addr.add_zero'] at hx545_0); (try rw [show ((0 : Int)).toNat = 0 from rfl] at hx545_1); (try rw [show 0 * 4 = 0 from rfl] at hx545_1); (try rw [Addr.add_zero'] at hx545_1); (try rw [show ((0 : Int)).toNat = 0 from rfl] at hx545_2); (try rw [show 0 * 4 = 0 from rfl] at hx545_2); (try rw [Addr.add_zero'] at hx545_2); (try rw [show ((0 : Int)).toNat = 0 from rfl] at hx545_3); (try rw [show 0 * 4 = 0 from rfl] at hx545_3); (try rw [Addr.add_zero'] at hx545_3); replace p545 := eq_true p545; replace q545 := eq_true q545; obtain ⟨hcz21_0, hcz21_1, hcz21_2, hcz21_3, hcz21_4, hfz21_0, hfz21_1, hfz21_2, hfz21_3, hfz21_4⟩ := z5 BK532) | ((with_reducible refine gate_store (t := 48) (p := 2) rfl ?_); refine store_event (t := 48) (p := 2) (v := ?vo_w22) (w1 := (((((w19.setCell ⟨gb532, 0, none⟩ (.int .i64 ((rd_T45 t541 0).f0))).setCell ⟨gb532, 1, none⟩ (.string ((rd_T45 t541 0).f1))).setCell ⟨gb532, 2, none⟩ (.int .i64 ((rd_T45 t541 0).f2.f0))).setCell ⟨gb532, 3, none⟩ (.bool ((rd_T45 t541 0).f2.f1))).setCell ⟨gb532, 4, none⟩ (.bool false))) ?hg ?ho ?hn ?hr ?_; (case ho => rfl); (case hg => rfl); (case hn => rfl); (case hr => first | (go_simp; done) | (go_simp; rfl)); intro w22 hw; have n0_ : Aside0 (Kd.R k45 45 w22 w.heap.size (fun _ => True) (.slice (some ad545) t541.length co20) t541) := ⟨(by rw [hw]; exact (by exact uR <| Kd.R_mono (Kd.R_far (p := ⟨gb532, 4, none⟩) (Kd.R_far (p := ⟨gb532, 3, none⟩) (Kd.R_far (p := ⟨gb532, 2, none⟩) (Kd.R_far (p := ⟨gb532, 1, none⟩) (Kd.R_far (p := ⟨gb532, 0, none⟩) (Kd.R_types HO544.out BK532.out (by decide)) (fun _ hk => hk.2) (.int .i64 ((rd_T45 t541 0).f0))) (fun _ hk => hk.2) (.string ((rd_T45 t541 0).f1))) (fun _ hk => hk.2) (.int .i64 ((rd_T45 t541 0).f2.f0))) (fun _ hk => hk.2) (.bool ((rd_T45 t541 0).f2.f1))) (fun _ hk => hk.2) (.bool false)) (fun _ hk => trivial)))⟩; have n1_ : Aside0 (w22.heap[gb532]? = some (.cells #[.int .i64 ((rd_T45 t541 0).f0), .string ((rd_T45 t541 0).f1), .int .i64 ((rd_T45 t541 0).f2.f0), .bool ((rd_T45 t541 0).f2.f1), .bool false] 48 (0, 0))) := ⟨(by rw [hw]; exact (by (with_reducible repeat (first | refine blk_drewN ?_ _ | refine blk_drew ?_ | refine blk_alloc ?_ _)); refine blk_put (cs := #[.int .i64 ((rd_T45 t541 0).f0), .string ((rd_T45 t541 0).f1), .int .i64 ((rd_T45 t541 0).f2.f0), .bool ((rd_T45 t541 0).f2.f1), .bool false]) ?_ 4 _ rfl; (with_reducible repeat (first | refine blk_drewN ?_ _ | refine blk_drew ?_ | refine blk_alloc ?_ _)); refine blk_put (cs := #[.int .i64 ((rd_T45 t541 0).f0), .string ((rd_T45 t541 0).f1), .int .i64 ((rd_T45 t541 0).f2.f0), .bool false, .bool false]) ?_ 3 _ rfl; (with_reducible repeat (first | refine blk_drewN ?_ _ | refine blk_drew ?_ | refine blk_alloc ?_ _)); refine blk_put (cs := #[.int .i64 ((rd_T45 t541 0).f0), .string ((rd_T45 t541 0).f1), .int .i64 0, .bool false, .bool false]) ?_ 2 _ rfl; (with_reducible repeat (first | refine blk_drewN ?_ _ | refine blk_drew ?_ | refine blk_alloc ?_ _)); refine blk_put (cs := #[.int .i64 ((rd_T45 t541 0).f0), .string (⟨#[]⟩ : ByteArray), .int .i64 0, .bool false, .bool false]) ?_ 1 _ rfl; (with_reducible repeat (first | refine blk_drewN ?_ _ | refine blk_drew ?_ | refine blk_alloc ?_ _)); refine blk_put (cs := #[.int .i64 0, .string (⟨#[]⟩ : ByteArray), .int .i64 0, .bool false, .bool false]) ?_ 0 _ rfl; exact uB <| BK532.out))⟩; have n2_ : Aside0 (Below w.heap.size w w22) := ⟨(by rw [hw]; exact bl)⟩; clear hw; clear HO544; clear BK532; clear HB; have HO544 := n0_; have BK532 := n1_; have HB := n2_; clear n0_ n1_ n2_))
    refine bodyPost_ret (results_ct rfl _ _ gb532 48 #[.int .i64 ((rd_T45 t541 0).f0), .string ((rd_T45 t541 0).f1), .int .i64 ((rd_T45 t541 0).f2.f0), .bool ((rd_T45 t541 0).f2.f1), .bool false] (0, 0) _ rfl (uB BK532.out) Tryz.underlying48 rfl (by kernel_rfl)) rfl ?_
    exact ⟨re_, bl⟩
  ·
   rw [if_neg c10] at H
   have c10b0 : (t542 == 0) = false := beq_eq_false_iff_ne.mpr c10
   have c10b1 : (t542 != 0) = true := bne_iff_ne.mpr c10
   simp only [Option.some.injEq, Prod.mk.injEq] at H
   obtain ⟨rfl, rfl, rfl, rfl, rfl, rfl⟩ := H
   go_enter Tryz.func40, Tryz.ntmps40
   go_wp2_with (first | ((with_reducible refine gate_dst (N := 2) rfl ?_); refine bx (N := 2) #[.int .i64 0, .string (⟨#[]⟩ : ByteArray), .int .i64 0, .bool false, .bool false] 48 ?_; intro gb532 hg w23 hbox hb; have BK532 := Aside0.mk (hbox); have GW532 := gw hg (uW HB.out); have GE532 := GW532; replace HB := cW HB hb; clear hb hbox hg) | (refine gL (some 10) rfl Tryz.func57 #[.string a0, .string (⟨#[33]⟩ : ByteArray)] ?_; (with_reducible refine (strings_CutPrefix.calls a0 (⟨#[33]⟩ : ByteArray) t533 false _ A2.out).mono ?_); rintro e w' ⟨rfl, ⟨nd, rfl⟩⟩; refine ⟨_, rfl, ?_⟩; (try (rw [drewN_self w23]; generalize hq_ : World.drewN w23 _ = w23; have n0_ : Aside0 (w23.heap[gb532]? = some (.cells #[.int .i64 0, .string (⟨#[]⟩ : ByteArray), .int .i64 0, .bool false, .bool false] 48 (0, 0))) := ⟨by rw [← hq_]; exact (uB BK532.out)⟩; have n1_ : Aside0 (Below w.heap.size w w23) := ⟨by rw [← hq_]; exact bl⟩; clear BK532 HB hq_; have BK532 := n0_; have HB := n1_; clear n0_ n1_))) | (refine gL (some 20) rfl Tryz.func59 #[.string a0] ?_; (with_reducible refine (row_Parse.calls (hL := ld) k a0 t541 t542 _ A9.out).mono ?_); rintro e w24 ⟨v543, rfl, ho0, hb⟩; refine ⟨_, rfl, ?_⟩; have HO544 := Aside0.mk (Kd.R_lower ho0 (below_size bl)); replace BK532 := cB BK532 hb; replace HB := Aside0.mk (below_step bl hb); (try clear hb); (try clear ho0); obtain ⟨hcz25_0, hcz25_1, hcz25_2, hcz25_3, hcz25_4, hfz25_0, hfz25_1, hfz25_2, hfz25_3, hfz25_4⟩ := z5 BK532) | ((with_reducible refine gate_store (t := 48) (p := 2) rfl ?_); refine store_event (t := 48) (p := 2) (v := ?vo_w26) (w1 := (((((w24.setCell ⟨gb532, 0, none⟩ (.int .i64 0)).setCell ⟨gb532, 1, none⟩ (.string (⟨#[]⟩ : ByteArray))).setCell ⟨gb532, 2, none⟩ (.int .i64 0)).setCell ⟨gb532, 3, none⟩ (.bool false)).setCell ⟨gb532, 4, none⟩ (.bool false))) ?hg ?ho ?hn ?hr ?_; (case ho => rfl); (case hg => rfl); (case hn => rfl); (case hr => first | (go_simp; done) | (go_simp; rfl)); intro w26 hw; have n0_ : Aside0 (Kd.R k45 45 w26 w.heap.size (fun _ => True) v543 t541) := ⟨(by rw [hw]; exact (by exact uR <| Kd.R_mono (Kd.R_far (p := ⟨gb532, 4, none⟩) (Kd.R_far (p := ⟨gb532, 3, none⟩) (Kd.R_far (p := ⟨gb532, 2, none⟩) (Kd.R_far (p := ⟨gb532, 1, none⟩) (Kd.R_far (p := ⟨gb532, 0, none⟩) (Kd.R_types HO544.out BK532.out (by decide)) (fun _ hk => hk.2) (.int .i64 0)) (fun _ hk => hk.2) (.string (⟨#[]⟩ : ByteArray))) (fun _ hk => hk.2) (.int .i64 0)) (fun _ hk => hk.2) (.bool false)) (fun _ hk => hk.2) (.bool false)) (fun _ hk => trivial)))⟩; have n1_ : Aside0 (w26.heap[gb532]? = some (.cells #[.int .i64 0, .string (⟨#[]⟩ : ByteArray), .int .i64 0, .bool false, .bool false] 48 (0, 0))) := ⟨(by rw [hw]; exact (by (with_reducible repeat (first | refine blk_drewN ?_ _ | refine blk_drew ?_ | refine blk_alloc ?_ _)); refine blk_put (cs := #[.int .i64 0, .string (⟨#[]⟩ : ByteArray), .int .i64 0, .bool false, .bool false]) ?_ 4 _ rfl; (with_reducible repeat (first | refine blk_drewN ?_ _ | refine blk_drew ?_ | refine blk_alloc ?_ _)); refine blk_put (cs := #[.int .i64 0, .string (⟨#[]⟩ : ByteArray), .int .i64 0, .bool false, .bool false]) ?_ 3 _ rfl; (with_reducible repeat (first | refine blk_drewN ?_ _ | refine blk_drew ?_ | refine blk_alloc ?_ _)); refine blk_put (cs := #[.int .i64 0, .string (⟨#[]⟩ : ByteArray), .int .i64 0, .bool false, .bool false]) ?_ 2 _ rfl; (with_reducible repeat (first | refine blk_drewN ?_ _ | refine blk_drew ?_ | refine blk_alloc ?_ _)); refine blk_put (cs := #[.int .i64 0, .string (⟨#[]⟩ : ByteArray), .int .i64 0, .bool false, .bool false]) ?_ 1 _ rfl; (with_reducible repeat (first | refine blk_drewN ?_ _ | refine blk_drew ?_ | refine blk_alloc ?_ _)); refine blk_put (cs := #[.int .i64 0, .string (⟨#[]⟩ : ByteArray), .int .i64 0, .bool false, .bool false]) ?_ 0 _ rfl; exact uB <| BK532.out))⟩; have n2_ : Aside0 (Below w.heap.size w w26) := ⟨(by rw [hw]; exact bl)⟩; clear hw; clear HO544; clear BK532; clear HB; have HO544 := n0_; have BK532 := n1_; have HB := n2_; clear n0_ n1_ n2_))
   refine bodyPost_ret (results_ct rfl _ _ gb532 48 #[.int .i64 0, .string (⟨#[]⟩ : ByteArray), .int .i64 0, .bool false, .bool false] (0, 0) _ rfl (uB BK532.out) Tryz.underlying48 rfl (by kernel_rfl)) rfl ?_
   exact ⟨re_, bl⟩
def diff_Parse.l0 : Nat → List (S48) → List ByteArray → Int → Int → Option ((List (S48)) × Int)
 | 0, _, _, _, _ => none
 | k + 1, x2, x11, x12, x13 => if x13 < x12 then (if 0 ≤ x13 then (if x13 < (x11.length : Int) then ((diff_one.f k (rdOf ByteArray.empty x11 x13)).bind fun bt550 => (if bt550.2.2.2.2.2 = 0 then (if x2.length < 2932031007402 then (diff_Parse.l0 k (x2 ++ [(⟨(⟨bt550.1, bt550.2.1, (⟨bt550.2.2.1, bt550.2.2.2.1⟩ : S43)⟩ : S45), bt550.2.2.2.2.1⟩ : S48)]) x11 x12 (wrap64 (x13 + 1))) else (none)) else (some (([] : List (S48)), bt550.2.2.2.2.2)))) else (none)) else (none)) else ((diff_right.f k x2).bind fun t560 => (if t560 = true then (some (x2, 0)) else (some (([] : List (S48)), 9))))
def diff_Parse.f (k : Nat) (a0 : ByteArray) : Option ((List (S48)) × Int) := if a0.toList = ([45] : List UInt8) then (some (([] : List (S48)), 0)) else ((word_Split.f k a0 59).bind fun t546 => (diff_Parse.l0 k ([] : List (S48)) t546 (t546.length : Int) 0))
theorem diff_Parse.mono_l : ∀ k, (∀ y0 y1 y2 y3, LeC (diff_Parse.l0 k y0 y1 y2 y3) (diff_Parse.l0 (k + 1) y0 y1 y2 y3))
 | 0 => fun _ _ _ _ => ⟨fun r h => by simp [diff_Parse.l0] at h⟩
 | k + 1 => by have ih0 := diff_Parse.mono_l k; exact fun _ _ _ _ => by unfold diff_Parse.l0; exact lm
theorem diff_Parse.mono : ∀ a0 k, LeO (diff_Parse.f k a0) (diff_Parse.f (k + 1) a0) := by
 intro a0 k
 have ih0 := diff_Parse.mono_l k
 unfold diff_Parse.f
 exact lo
instance diff_Parse.mI {a0 k} : LeC (diff_Parse.f k a0) (diff_Parse.f (k + 1) a0) := ⟨diff_Parse.mono _ _⟩
theorem diff_Parse.calls (k : Nat) (a0 : ByteArray) (r1 : List (S48)) (r2 : Int) (w : World) (hL : LD w) (h : diff_Parse.f k a0 = some (r1, r2)) :
 Calls Tryz.prog 20 #[.string a0] w fun e w' => ∃ v0_ : Value, e = .returned (.tuple #[v0_, .int .i64 r2]) ∧ Kd.R k48 48 w' w.heap.size (fun _ => True) v0_ r1 ∧ Below w.heap.size w w' := by
 have HL0 := Aside0.mk hL
 clear hL
 have hu48 := Tryz.underlying48
 have HB := Aside0.mk (Below.refl w.heap.size w)
 have H : (if a0.toList = ([45] : List UInt8) then (some (([] : List (S48)), 0)) else ((word_Split.f k a0 59).bind fun t546 => (diff_Parse.l0 k ([] : List (S48)) t546 (t546.length : Int) 0))) = some (r1, r2) := h
 clear h
 by_cases c2 : a0.toList = ([45] : List UInt8)
 ·
  rw [if_pos c2] at H
  have c2b0 : (a0.toList == ([45] : List UInt8)) = true := beq_iff_eq.mpr c2
  have c2b1 : (a0.toList != ([45] : List UInt8)) = false := bne_eq_false_iff_eq.mpr c2
  clear c2
  simp only [Option.some.injEq, Prod.mk.injEq] at H
  obtain ⟨rfl, rfl⟩ := H
  go_enter Tryz.func20, Tryz.ntmps20
  go_wp2
  go_ret2
  exact ⟨_, re_, nl_, uW HB.out⟩
 ·
  rw [if_neg c2] at H
  have c2b0 : (a0.toList == ([45] : List UInt8)) = false := beq_eq_false_iff_ne.mpr c2
  have c2b1 : (a0.toList != ([45] : List UInt8)) = true := bne_iff_ne.mpr c2
  obtain ⟨t546, A3, H⟩ := bs H
  try dsimp only at H
  have H' := Aside0.mk H
  clear H
  go_enter Tryz.func20, Tryz.ntmps20
  go_wp2_with (first | (refine gL (some 11) rfl Tryz.func39 #[.string a0, .int .u8 59] ?_; (with_reducible refine (word_Split.calls k a0 59 t546 _ A3.out).mono ?_); rintro e w4 ⟨v547, rfl, ho0, hb⟩; refine ⟨_, rfl, ?_⟩; have HO548 := Aside0.mk (Kd.R_lower ho0 (below_size (uW HB.out))); replace HB := cW HB hb; (try clear hb); (try clear ho0); obtain ⟨Ao5, co5, eo5⟩ := Kd.R_slice HO548.out; subst eo5))
  (try simp only [Act.put, List.setIfInBounds_toArray, List.set_cons_zero, List.set_cons_succ])
  go_loopg [2, 13] k (fun kq v2 v13 w' => ∃ (x2_1 : List (S48)) (x13_1 : Int), v13 = .int .i64 x13_1 ∧ Aside0 (diff_Parse.l0 kq x2_1 t546 (t546.length : Int) x13_1 = some (r1, r2)) ∧ Aside0 (kq ≤ k) ∧ Aside0 (Kd.R k48 48 w' w.heap.size (fun _ => True) v2 x2_1) ∧ Aside0 (Kd.R Kd.string 9 w' w.heap.size (fun _ => True) (.slice Ao5 t546.length co5) t546) ∧ Aside0 (Below w.heap.size w w'))
  case atStart => exact ⟨(([] : List (S48))), (0), rs_, H', ⟨Nat.le_refl _⟩, ⟨nl_⟩, ⟨uR HO548.out⟩, ⟨uW HB.out⟩⟩
  case round =>
   clear H'
   try clear c2
   try clear c2b0
   try clear c2b1
   try clear p2
   try clear c3
   obtain ⟨x2_1, x13_1, rfl, HA, HK1, HO_2, HO_11, HB⟩ := hrel
   cases gk with
   | zero => exact absurd HA.out (by simp [diff_Parse.l0])
   | succ k1 =>
    have H := HA.out
    clear HA
    simp only [diff_Parse.l0] at H
    by_cases c6 : x13_1 < (t546.length : Int)
    ·
     rw [if_pos c6] at H
     have c6b0 : decide (x13_1 < (t546.length : Int)) = true := decide_eq_true c6
     clear c6
     obtain ⟨c7b0, H⟩ := gdd H
     obtain ⟨c8b0, H⟩ := gdd H
     obtain ⟨⟨t550, t551, t552, t553, t554, t555⟩, A9, H⟩ := bs H
     try dsimp only at H
     by_cases c10 : t555 = 0
     ·
      rw [if_pos c10] at H
      have c10b0 : (t555 == 0) = true := beq_iff_eq.mpr c10
      have c10b1 : (t555 != 0) = false := bne_eq_false_iff_eq.mpr c10
      clear c10
      obtain ⟨c11, H⟩ := gd H
      have LMc11 := Aside0.mk c11
      clear c11
      obtain ⟨y557, hy557⟩ : ∃ y_ : List (S48), y_ = (x2_1 ++ [(⟨(⟨t550, t551, (⟨t552, t553⟩ : S43)⟩ : S45), t554⟩ : S48)]) := ⟨_, rfl⟩
      replace H : (diff_Parse.l0 k1 y557 t546 (t546.length : Int) (wrap64 (x13_1 + 1))) = some (r1, r2) := by first | (rw [hy557]; with_reducible exact H) | (have H2_ := (Option.bind_some _ _).symm.trans H; rw [hy557]; with_reducible exact H2_) | (have H2_ := (Option.bind_some _ _).symm.trans H; with_reducible exact H2_) | with_reducible exact H | (rw [hy557]; exact H) | exact H
      have Ny557 := Aside0.mk hy557
      clear hy557
      have H' := Aside0.mk H
      clear H
      have p549 : 0 ≤ (x13_1 : Int) := od
      have q549 : x13_1 < (t546.length : Int) := od
      obtain ⟨ad549, e549, hx549_0⟩ := Kd.at_string (Kd.R_reads' HO_11.out).2.2 x13_1 p549 q549
      cases e549
      replace p549 := eq_true p549
      replace q549 := eq_true q549
      go_wp2_with (first | (refine gL (some 19) rfl Tryz.func40 #[.string (rdOf ByteArray.empty t546 x13_1)] ?_; (with_reducible refine (diff_one.calls (hL := ld) k1 (rdOf ByteArray.empty t546 x13_1) t550 t551 t552 t553 t554 t555 _ A9.out).mono ?_); rintro e w12 ⟨rfl, hb⟩; refine ⟨_, rfl, ?_⟩; replace HO_2 := cR HO_2 hb; replace HO_11 := cR HO_11 hb; replace HB := cW HB hb; (try clear hb)) | ((with_reducible refine gate_dst (N := 6) rfl ?_); refine bx (N := 6) #[.int .i64 0, .string (⟨#[]⟩ : ByteArray), .int .i64 0, .bool false, .bool false] 48 ?_; intro gb556 hg w13 hbox hb; replace HO_2 := Aside0.mk (Kd.R_below (Kd.R_elderB (uR HO_2.out) gb556 (Nat.le_of_eq hg.symm)) hb); replace HO_11 := cR HO_11 hb; have BK556 := Aside0.mk (hbox); have GW556 := gw hg (uW HB.out); have GE556 := GW556; replace HB := cW HB hb; clear hb hbox hg; obtain ⟨hcz14_0, hcz14_1, hcz14_2, hcz14_3, hcz14_4, hfz14_0, hfz14_1, hfz14_2, hfz14_3, hfz14_4⟩ := z5 BK556) | ((with_reducible refine gate_store (t := 48) (p := 6) rfl ?_); refine store_event (t := 48) (p := 6) (v := ?vo_w15) (w1 := (((((w13.setCell ⟨gb556, 0, none⟩ (.int .i64 t550)).setCell ⟨gb556, 1, none⟩ (.string t551)).setCell ⟨gb556, 2, none⟩ (.int .i64 t552)).setCell ⟨gb556, 3, none⟩ (.bool t553)).setCell ⟨gb556, 4, none⟩ (.bool t554))) ?hg ?ho ?hn ?hr ?_; (case ho => rfl); (case hg => rfl); (case hn => rfl); (case hr => first | (go_simp; done) | (go_simp; rfl)); intro w15 hw; have n0_ : Aside0 (Kd.R k48 48 w15 w.heap.size (fun k_ => k_ ≠ gb556) u2 x2_1) := ⟨(by rw [hw]; exact (by exact uR <| Kd.R_mono (Kd.R_far (p := ⟨gb556, 4, none⟩) (Kd.R_far (p := ⟨gb556, 3, none⟩) (Kd.R_far (p := ⟨gb556, 2, none⟩) (Kd.R_far (p := ⟨gb556, 1, none⟩) (Kd.R_far (p := ⟨gb556, 0, none⟩) (Kd.R_mono HO_2.out (fun k_ hk => (⟨hk, hk.2⟩ : _ ∧ k_ ≠ gb556))) (fun _ hk => hk.2) (.int .i64 t550)) (fun _ hk => hk.2) (.string t551)) (fun _ hk => hk.2) (.int .i64 t552)) (fun _ hk => hk.2) (.bool t553)) (fun _ hk => hk.2) (.bool t554)) (fun _ hk => hk.1.2)))⟩; have n1_ : Aside0 (Kd.R Kd.string 9 w15 w.heap.size (fun _ => True) (.slice (some ad549) t546.length co5) t546) := ⟨(by rw [hw]; exact (by exact uR <| Kd.R_mono (Kd.R_far (p := ⟨gb556, 4, none⟩) (Kd.R_far (p := ⟨gb556, 3, none⟩) (Kd.R_far (p := ⟨gb556, 2, none⟩) (Kd.R_far (p := ⟨gb556, 1, none⟩) (Kd.R_far (p := ⟨gb556, 0, none⟩) (Kd.R_types HO_11.out BK556.out (by decide)) (fun _ hk => hk.2) (.int .i64 t550)) (fun _ hk => hk.2) (.string t551)) (fun _ hk => hk.2) (.int .i64 t552)) (fun _ hk => hk.2) (.bool t553)) (fun _ hk => hk.2) (.bool t554)) (fun _ hk => trivial)))⟩; have n2_ : Aside0 (w15.heap[gb556]? = some (.cells #[.int .i64 t550, .string t551, .int .i64 t552, .bool t553, .bool t554] 48 (0, 0))) := ⟨(by rw [hw]; exact (by (with_reducible repeat (first | refine blk_drewN ?_ _ | refine blk_drew ?_ | refine blk_alloc ?_ _)); refine blk_put (cs := #[.int .i64 t550, .string t551, .int .i64 t552, .bool t553, .bool false]) ?_ 4 _ rfl; (with_reducible repeat (first | refine blk_drewN ?_ _ | refine blk_drew ?_ | refine blk_alloc ?_ _)); refine blk_put (cs := #[.int .i64 t550, .string t551, .int .i64 t552, .bool false, .bool false]) ?_ 3 _ rfl; (with_reducible repeat (first | refine blk_drewN ?_ _ | refine blk_drew ?_ | refine blk_alloc ?_ _)); refine blk_put (cs := #[.int .i64 t550, .string t551, .int .i64 0, .bool false, .bool false]) ?_ 2 _ rfl; (with_reducible repeat (first | refine blk_drewN ?_ _ | refine blk_drew ?_ | refine blk_alloc ?_ _)); refine blk_put (cs := #[.int .i64 t550, .string (⟨#[]⟩ : ByteArray), .int .i64 0, .bool false, .bool false]) ?_ 1 _ rfl; (with_reducible repeat (first | refine blk_drewN ?_ _ | refine blk_drew ?_ | refine blk_alloc ?_ _)); refine blk_put (cs := #[.int .i64 0, .string (⟨#[]⟩ : ByteArray), .int .i64 0, .bool false, .bool false]) ?_ 0 _ rfl; exact uB <| BK556.out))⟩; have n3_ : Aside0 (Below w.heap.size w w15) := ⟨(by rw [hw]; exact bl)⟩; clear hw; clear HO_2; clear HO_11; clear BK556; clear HB; have HO_2 := n0_; have HO_11 := n1_; have BK556 := n2_; have HB := n3_; clear n0_ n1_ n2_ n3_; obtain ⟨hcz16_0, hcz16_1, hcz16_2, hcz16_3, hcz16_4, hfz16_0, hfz16_1, hfz16_2, hfz16_3, hfz16_4⟩ := z5 BK556) | ((with_reducible refine gate_builtin (b := .append) (xs := #[.tmp 25, .tmp 27]) rfl ?_); at_builtin; refine Kd.R_append k48 (w0 := w) w.heap.size rfl (.tmp 25) (.tmp 27) 25 48 (.agg #[(.int .i64 0), (.string ⟨#[]⟩), (.int .i64 0), (.bool false), (.bool false)]) 48 rfl Tryz.underlying25 info48 rfl (by decide) (by omega) u2 x2_1 (⟨(⟨t550, t551, (⟨t552, t553⟩ : S43)⟩ : S45), t554⟩ : S48) [.int .i64 t550, .string t551, .int .i64 t552, .bool t553, .bool t554] (fun k_ => k_ ≠ gb556) (fun _ => False) rfl rfl ?aP (fun _ hk => hk.elim) ?aF ?aO ?aB ?aS ?aL ?_; (case aP => exact k48_mkM _ _ _ (⟨(⟨t550, t551, (⟨t552, t553⟩ : S43)⟩ : S45), t554⟩ : S48)); (case aB => exact bl); (case aF => exact (fun k_ hk => Kd.freshB (g := gb556) (o := .cells #[.int .i64 t550, .string t551, .int .i64 t552, .bool t553, .bool t554] 48 (0, 0)) (uB BK556.out) k_ hk)); (case aO => exact (uR HO_2.out)); (case aS => exact (below_size bl)); (case aL => have := LMc11.out; omega); intro v558 w17 ho hb hg hat; rw [← Ny557.out] at ho; replace HO_11 := Aside0.mk (Kd.R_over' (uR HO_11.out) (Kd.R_typed (uR HO_2.out)) (by decide) hg); replace BK556 := Aside0.mk (blk_grown (g := gb556) (o := .cells #[.int .i64 t550, .string t551, .int .i64 t552, .bool t553, .bool t554] 48 (0, 0)) (uB BK556.out) hg (Kd.R_away HO_2.out (fun _ hk => hk))); replace HB := Aside0.mk (hb); have HO559 := Aside0.mk (ho); clear HO_2; clear ho hb hg hat))
      go_roundg k1
      case measure => have := HK1.out; omega
      case rel => exact ⟨(y557), (wrap64 (x13_1 + 1)), rs_, H', ⟨by have := HK1.out; omega⟩, ⟨by exact uR <| Kd.R_mono HO559.out (fun _ hk => trivial)⟩, ⟨uR HO_11.out⟩, ⟨bl⟩⟩
     ·
      rw [if_neg c10] at H
      have c10b0 : (t555 == 0) = false := beq_eq_false_iff_ne.mpr c10
      have c10b1 : (t555 != 0) = true := bne_iff_ne.mpr c10
      simp only [Option.some.injEq, Prod.mk.injEq] at H
      obtain ⟨rfl, rfl⟩ := H
      have p549 : 0 ≤ (x13_1 : Int) := od
      have q549 : x13_1 < (t546.length : Int) := od
      obtain ⟨ad549, e549, hx549_0⟩ := Kd.at_string (Kd.R_reads' HO_11.out).2.2 x13_1 p549 q549
      cases e549
      replace p549 := eq_true p549
      replace q549 := eq_true q549
      go_wp2_with (first | (refine gL (some 19) rfl Tryz.func40 #[.string (rdOf ByteArray.empty t546 x13_1)] ?_; (with_reducible refine (diff_one.calls (hL := ld) k1 (rdOf ByteArray.empty t546 x13_1) t550 t551 t552 t553 t554 t555 _ A9.out).mono ?_); rintro e w18 ⟨rfl, hb⟩; refine ⟨_, rfl, ?_⟩; replace HO_2 := cR HO_2 hb; replace HO_11 := cR HO_11 hb; replace HB := cW HB hb; (try clear hb)) | ((with_reducible refine gate_dst (N := 6) rfl ?_); refine bx (N := 6) #[.int .i64 0, .string (⟨#[]⟩ : ByteArray), .int .i64 0, .bool false, .bool false] 48 ?_; intro gb556 hg w19 hbox hb; replace HO_2 := Aside0.mk (Kd.R_below (Kd.R_elderB (uR HO_2.out) gb556 (Nat.le_of_eq hg.symm)) hb); replace HO_11 := cR HO_11 hb; have BK556 := Aside0.mk (hbox); have GW556 := gw hg (uW HB.out); have GE556 := GW556; replace HB := cW HB hb; clear hb hbox hg; obtain ⟨hcz20_0, hcz20_1, hcz20_2, hcz20_3, hcz20_4, hfz20_0, hfz20_1, hfz20_2, hfz20_3, hfz20_4⟩ := z5 BK556) | ((with_reducible refine gate_store (t := 48) (p := 6) rfl ?_); refine store_event (t := 48) (p := 6) (v := ?vo_w21) (w1 := (((((w19.setCell ⟨gb556, 0, none⟩ (.int .i64 t550)).setCell ⟨gb556, 1, none⟩ (.string t551)).setCell ⟨gb556, 2, none⟩ (.int .i64 t552)).setCell ⟨gb556, 3, none⟩ (.bool t553)).setCell ⟨gb556, 4, none⟩ (.bool t554))) ?hg ?ho ?hn ?hr ?_; (case ho => rfl); (case hg => rfl); (case hn => rfl); (case hr => first | (go_simp; done) | (go_simp; rfl)); intro w21 hw; have n0_ : Aside0 (Kd.R k48 48 w21 w.heap.size (fun k_ => k_ ≠ gb556) u2 x2_1) := ⟨(by rw [hw]; exact (by exact uR <| Kd.R_mono (Kd.R_far (p := ⟨gb556, 4, none⟩) (Kd.R_far (p := ⟨gb556, 3, none⟩) (Kd.R_far (p := ⟨gb556, 2, none⟩) (Kd.R_far (p := ⟨gb556, 1, none⟩) (Kd.R_far (p := ⟨gb556, 0, none⟩) (Kd.R_mono HO_2.out (fun k_ hk => (⟨hk, hk.2⟩ : _ ∧ k_ ≠ gb556))) (fun _ hk => hk.2) (.int .i64 t550)) (fun _ hk => hk.2) (.string t551)) (fun _ hk => hk.2) (.int .i64 t552)) (fun _ hk => hk.2) (.bool t553)) (fun _ hk => hk.2) (.bool t554)) (fun _ hk => hk.1.2)))⟩; have n1_ : Aside0 (Kd.R Kd.string 9 w21 w.heap.size (fun _ => True) (.slice (some ad549) t546.length co5) t546) := ⟨(by rw [hw]; exact (by exact uR <| Kd.R_mono (Kd.R_far (p := ⟨gb556, 4, none⟩) (Kd.R_far (p := ⟨gb556, 3, none⟩) (Kd.R_far (p := ⟨gb556, 2, none⟩) (Kd.R_far (p := ⟨gb556, 1, none⟩) (Kd.R_far (p := ⟨gb556, 0, none⟩) (Kd.R_types HO_11.out BK556.out (by decide)) (fun _ hk => hk.2) (.int .i64 t550)) (fun _ hk => hk.2) (.string t551)) (fun _ hk => hk.2) (.int .i64 t552)) (fun _ hk => hk.2) (.bool t553)) (fun _ hk => hk.2) (.bool t554)) (fun _ hk => trivial)))⟩; have n2_ : Aside0 (w21.heap[gb556]? = some (.cells #[.int .i64 t550, .string t551, .int .i64 t552, .bool t553, .bool t554] 48 (0, 0))) := ⟨(by rw [hw]; exact (by (with_reducible repeat (first | refine blk_drewN ?_ _ | refine blk_drew ?_ | refine blk_alloc ?_ _)); refine blk_put (cs := #[.int .i64 t550, .string t551, .int .i64 t552, .bool t553, .bool false]) ?_ 4 _ rfl; (with_reducible repeat (first | refine blk_drewN ?_ _ | refine blk_drew ?_ | refine blk_alloc ?_ _)); refine blk_put (cs := #[.int .i64 t550, .string t551, .int .i64 t552, .bool false, .bool false]) ?_ 3 _ rfl; (with_reducible repeat (first | refine blk_drewN ?_ _ | refine blk_drew ?_ | refine blk_alloc ?_ _)); refine blk_put (cs := #[.int .i64 t550, .string t551, .int .i64 0, .bool false, .bool false]) ?_ 2 _ rfl; (with_reducible repeat (first | refine blk_drewN ?_ _ | refine blk_drew ?_ | refine blk_alloc ?_ _)); refine blk_put (cs := #[.int .i64 t550, .string (⟨#[]⟩ : ByteArray), .int .i64 0, .bool false, .bool false]) ?_ 1 _ rfl; (with_reducible repeat (first | refine blk_drewN ?_ _ | refine blk_drew ?_ | refine blk_alloc ?_ _)); refine blk_put (cs := #[.int .i64 0, .string (⟨#[]⟩ : ByteArray), .int .i64 0, .bool false, .bool false]) ?_ 0 _ rfl; exact uB <| BK556.out))⟩; have n3_ : Aside0 (Below w.heap.size w w21) := ⟨(by rw [hw]; exact bl)⟩; clear hw; clear HO_2; clear HO_11; clear BK556; clear HB; have HO_2 := n0_; have HO_11 := n1_; have BK556 := n2_; have HB := n3_; clear n0_ n1_ n2_ n3_))
      go_ret2
      exact ⟨_, re_, nl_, bl⟩
    ·
     rw [if_neg c6] at H
     have c6b0 : decide (x13_1 < (t546.length : Int)) = false := decide_eq_false c6
     clear c6
     obtain ⟨t560, A22, H⟩ := bs H
     try dsimp only at H
     by_cases c23 : t560 = true
     ·
      subst c23
      rw [if_pos rfl] at H
      simp only [Option.some.injEq, Prod.mk.injEq] at H
      obtain ⟨rfl, rfl⟩ := H
      obtain ⟨Ao24, co24, eo24⟩ := Kd.R_slice HO_2.out
      subst eo24
      go_wp2_with (first | (refine gL (some 31) rfl Tryz.func36 #[.slice Ao24 x2_1.length co24] ?_; (with_reducible refine (diff_right.calls (hL := ld) k1 _ _ x2_1 true _ ?side1 ?side2 A22.out).mono ?_); (case side1 => exact uC <| (Kd.R_reads' HO_2.out).2.2); (case side2 => exact (Kd.R_reads' HO_2.out).2.1); rintro e w25 ⟨rfl, hb⟩; refine ⟨_, rfl, ?_⟩; replace HO_2 := cR HO_2 hb; replace HO_11 := cR HO_11 hb; replace HB := cW HB hb; (try clear hb)))
      go_ret2
      exact ⟨_, re_, uR HO_2.out, uW HB.out⟩
     ·
      replace c23 := Bool.eq_false_iff.mpr c23
      subst c23
      rw [if_neg (show ¬ (false = true) by decide)] at H
      simp only [Option.some.injEq, Prod.mk.injEq] at H
      obtain ⟨rfl, rfl⟩ := H
      obtain ⟨Ao26, co26, eo26⟩ := Kd.R_slice HO_2.out
      subst eo26
      go_wp2_with (first | (refine gL (some 31) rfl Tryz.func36 #[.slice Ao26 x2_1.length co26] ?_; (with_reducible refine (diff_right.calls (hL := ld) k1 _ _ x2_1 false _ ?side1 ?side2 A22.out).mono ?_); (case side1 => exact uC <| (Kd.R_reads' HO_2.out).2.2); (case side2 => exact (Kd.R_reads' HO_2.out).2.1); rintro e w27 ⟨rfl, hb⟩; refine ⟨_, rfl, ?_⟩; replace HO_2 := cR HO_2 hb; replace HO_11 := cR HO_11 hb; replace HB := cW HB hb; (try clear hb)))
      go_ret2
      exact ⟨_, re_, nl_, uW HB.out⟩
attribute [local go_sem high] eqA43 eqA48
def w09_alive.f (k : Nat)  : Option (Bool) := (r08_Parse.f k (⟨#[51, 124, 124, 53, 59, 52, 124, 124, 55]⟩ : ByteArray)).bind fun bt561 => ((r08_Parse.f k (⟨#[52, 124, 124, 56, 59, 53, 124, 124, 49]⟩ : ByteArray)).bind fun bt565 => ((diff_Of.f k bt561.1 bt565.1).bind fun bt569 => ((diff_Apply.f k bt561.1 bt569.1).bind fun bt573 => ((diff_Parse.f k (⟨#[33, 51, 124, 59, 52, 124, 124, 56, 59, 53, 124, 124, 49]⟩ : ByteArray)).bind fun bt577 => ((diff_Apply.f k bt565.1 bt569.1).bind fun bt581 => ((diff_Of.f k (([(⟨0, (⟨#[]⟩ : ByteArray), (⟨0, false⟩ : S43)⟩ : S45), (⟨0, (⟨#[]⟩ : ByteArray), (⟨0, false⟩ : S43)⟩ : S45)] : List (S45))) bt565.1).bind fun bt588 => (if bt569.2 = 0 then (if bt573.2 = 0 then (if bt577.2 = 0 then (if bt581.2 = 6 then (if bt588.2 = 9 then ((diff_Text.f k bt569.1).bind fun t592 => (if t592.toList = ([33, 51, 124, 59, 52, 124, 124, 56, 59, 53, 124, 124, 49] : List UInt8) then ((r08_Same.f k bt573.1 bt565.1).bind fun t593 => (if t593 = true then ((diff_Same.f k bt569.1 bt577.1).bind fun t594 => (if t594 = true then ((diff_Same.f k bt569.1 ([] : List (S48))).bind fun t595 => (if t595 = true then (none) else ((diff_Text.f k ([] : List (S48))).bind fun t596 => (some (t596.toList == ([45] : List UInt8)))))) else (none))) else (none))) else (none))) else (none)) else (none)) else (none)) else (none)) else (none))))))))
theorem w09_alive.mono : ∀ k, LeO (w09_alive.f k ) (w09_alive.f (k + 1) ) := by
 intro k
 unfold w09_alive.f
 exact lo
instance w09_alive.mI {k} : LeC (w09_alive.f k) (w09_alive.f (k + 1)) := ⟨w09_alive.mono _⟩
theorem w09_alive.calls (k : Nat)  (r : Bool) (w : World) (hL : LD w) (h : w09_alive.f k  = some r) :
 Calls Tryz.prog 8 #[] w fun e w' => e = .returned (.bool r) ∧ Below w.heap.size w w' := by
 have HL0 := Aside0.mk hL
 clear hL
 have hu45 := Tryz.underlying45
 have HB := Aside0.mk (Below.refl w.heap.size w)
 have H : ((r08_Parse.f k (⟨#[51, 124, 124, 53, 59, 52, 124, 124, 55]⟩ : ByteArray)).bind fun bt561 => ((r08_Parse.f k (⟨#[52, 124, 124, 56, 59, 53, 124, 124, 49]⟩ : ByteArray)).bind fun bt565 => ((diff_Of.f k bt561.1 bt565.1).bind fun bt569 => ((diff_Apply.f k bt561.1 bt569.1).bind fun bt573 => ((diff_Parse.f k (⟨#[33, 51, 124, 59, 52, 124, 124, 56, 59, 53, 124, 124, 49]⟩ : ByteArray)).bind fun bt577 => ((diff_Apply.f k bt565.1 bt569.1).bind fun bt581 => ((diff_Of.f k (([(⟨0, (⟨#[]⟩ : ByteArray), (⟨0, false⟩ : S43)⟩ : S45), (⟨0, (⟨#[]⟩ : ByteArray), (⟨0, false⟩ : S43)⟩ : S45)] : List (S45))) bt565.1).bind fun bt588 => (if bt569.2 = 0 then (if bt573.2 = 0 then (if bt577.2 = 0 then (if bt581.2 = 6 then (if bt588.2 = 9 then ((diff_Text.f k bt569.1).bind fun t592 => (if t592.toList = ([33, 51, 124, 59, 52, 124, 124, 56, 59, 53, 124, 124, 49] : List UInt8) then ((r08_Same.f k bt573.1 bt565.1).bind fun t593 => (if t593 = true then ((diff_Same.f k bt569.1 bt577.1).bind fun t594 => (if t594 = true then ((diff_Same.f k bt569.1 ([] : List (S48))).bind fun t595 => (if t595 = true then (none) else ((diff_Text.f k ([] : List (S48))).bind fun t596 => (some (t596.toList == ([45] : List UInt8)))))) else (none))) else (none))) else (none))) else (none)) else (none)) else (none)) else (none)) else (none))))))))) = some r := h
 clear h
 obtain ⟨⟨t561, t562⟩, A1, H⟩ := bs H
 try dsimp only at H
 obtain ⟨⟨t565, t566⟩, A2, H⟩ := bs H
 try dsimp only at H
 obtain ⟨⟨t569, t572⟩, A3, H⟩ := bs H
 try dsimp only at H
 obtain ⟨⟨t573, t576⟩, A4, H⟩ := bs H
 try dsimp only at H
 obtain ⟨⟨t577, t578⟩, A5, H⟩ := bs H
 try dsimp only at H
 obtain ⟨⟨t581, t584⟩, A6, H⟩ := bs H
 try dsimp only at H
 obtain ⟨y585, hy585⟩ : ∃ y_ : List (S45), y_ = (([(⟨0, (⟨#[]⟩ : ByteArray), (⟨0, false⟩ : S43)⟩ : S45), (⟨0, (⟨#[]⟩ : ByteArray), (⟨0, false⟩ : S43)⟩ : S45)] : List (S45))) := ⟨_, rfl⟩
 replace H : ((diff_Of.f k y585 t565).bind fun bt588 => (if t572 = 0 then (if t576 = 0 then (if t578 = 0 then (if t584 = 6 then (if bt588.2 = 9 then ((diff_Text.f k t569).bind fun t592 => (if t592.toList = ([33, 51, 124, 59, 52, 124, 124, 56, 59, 53, 124, 124, 49] : List UInt8) then ((r08_Same.f k t573 t565).bind fun t593 => (if t593 = true then ((diff_Same.f k t569 t577).bind fun t594 => (if t594 = true then ((diff_Same.f k t569 ([] : List (S48))).bind fun t595 => (if t595 = true then (none) else ((diff_Text.f k ([] : List (S48))).bind fun t596 => (some (t596.toList == ([45] : List UInt8)))))) else (none))) else (none))) else (none))) else (none)) else (none)) else (none)) else (none)) else (none))) = some r := by first | (rw [hy585]; with_reducible exact H) | (have H2_ := (Option.bind_some _ _).symm.trans H; rw [hy585]; with_reducible exact H2_) | (have H2_ := (Option.bind_some _ _).symm.trans H; with_reducible exact H2_) | with_reducible exact H | (rw [hy585]; exact H) | exact H
 have Ny585 := Aside0.mk hy585
 clear hy585
 obtain ⟨⟨t588, t591⟩, A7, H⟩ := bs H
 try dsimp only at H
 by_cases c8 : t572 = 0
 ·
  rw [if_pos c8] at H
  have c8b0 : (t572 == 0) = true := beq_iff_eq.mpr c8
  have c8b1 : (t572 != 0) = false := bne_eq_false_iff_eq.mpr c8
  clear c8
  obtain ⟨c9, H⟩ := gd H
  have c9b0 : (t576 == 0) = true := beq_iff_eq.mpr c9
  have c9b1 : (t576 != 0) = false := bne_eq_false_iff_eq.mpr c9
  clear c9
  obtain ⟨c10, H⟩ := gd H
  have c10b0 : (t578 == 0) = true := beq_iff_eq.mpr c10
  have c10b1 : (t578 != 0) = false := bne_eq_false_iff_eq.mpr c10
  clear c10
  obtain ⟨c11, H⟩ := gd H
  have c11b0 : (t584 == 6) = true := beq_iff_eq.mpr c11
  have c11b1 : (t584 != 6) = false := bne_eq_false_iff_eq.mpr c11
  clear c11
  obtain ⟨c12, H⟩ := gd H
  have c12b0 : (t591 == 9) = true := beq_iff_eq.mpr c12
  have c12b1 : (t591 != 9) = false := bne_eq_false_iff_eq.mpr c12
  clear c12
  obtain ⟨t592, A13, H⟩ := bs H
  try dsimp only at H
  obtain ⟨c14, H⟩ := gd H
  have c14b0 : (t592.toList == ([33, 51, 124, 59, 52, 124, 124, 56, 59, 53, 124, 124, 49] : List UInt8)) = true := beq_iff_eq.mpr c14
  have c14b1 : (t592.toList != ([33, 51, 124, 59, 52, 124, 124, 56, 59, 53, 124, 124, 49] : List UInt8)) = false := bne_eq_false_iff_eq.mpr c14
  clear c14
  obtain ⟨t593, A15, H⟩ := bs H
  try dsimp only at H
  by_cases c16 : t593 = true
  ·
   subst c16
   rw [if_pos rfl] at H
   obtain ⟨t594, A17, H⟩ := bs H
   try dsimp only at H
   by_cases c18 : t594 = true
   ·
    subst c18
    rw [if_pos rfl] at H
    obtain ⟨t595, A19, H⟩ := bs H
    try dsimp only at H
    by_cases c20 : t595 = true
    ·
     subst c20
     rw [if_pos rfl] at H
     exact absurd H (by simp)
    ·
     replace c20 := Bool.eq_false_iff.mpr c20
     subst c20
     rw [if_neg (show ¬ (false = true) by decide)] at H
     obtain ⟨t596, A21, H⟩ := bs H
     try dsimp only at H
     obtain rfl := Option.some.inj H
     go_enter Tryz.func8, Tryz.ntmps8
     go_wp2_with (first | (refine gL (some 16) rfl Tryz.func23 #[.string (⟨#[51, 124, 124, 53, 59, 52, 124, 124, 55]⟩ : ByteArray)] ?_; (with_reducible refine (r08_Parse.calls k (⟨#[51, 124, 124, 53, 59, 52, 124, 124, 55]⟩ : ByteArray) t561 t562 _ A1.out).mono ?_); rintro e w22 ⟨v563, rfl, ho0, hb⟩; refine ⟨_, rfl, ?_⟩; have HO564 := Aside0.mk (Kd.R_lower ho0 (below_size (uW HB.out))); replace HB := cW HB hb; (try clear hb); (try clear ho0)) | (refine gL (some 20) rfl Tryz.func23 #[.string (⟨#[52, 124, 124, 56, 59, 53, 124, 124, 49]⟩ : ByteArray)] ?_; (with_reducible refine (r08_Parse.calls k (⟨#[52, 124, 124, 56, 59, 53, 124, 124, 49]⟩ : ByteArray) t565 t566 _ A2.out).mono ?_); rintro e w23 ⟨v567, rfl, ho0, hb⟩; refine ⟨_, rfl, ?_⟩; have HO568 := Aside0.mk (Kd.R_lower (Kd.R_new' ho0 (Kd.R_lt (uR HO564.out))) (below_size (uW HB.out))); replace HO564 := Aside0.mk (Kd.R_elder' (uR HO564.out) (Kd.R_base ho0) hb); replace HB := cW HB hb; (try clear hb); (try clear ho0); obtain ⟨Ao24, co24, eo24⟩ := Kd.R_slice HO564.out; subst eo24; obtain ⟨Ao25, co25, eo25⟩ := Kd.R_slice HO568.out; subst eo25) | (refine gL (some 26) rfl Tryz.func10 #[.slice Ao24 t561.length co24, .slice Ao25 t565.length co25] ?_; (with_reducible refine (diff_Of.calls (hL := ld) k (fun k_ => some k_ = (.slice Ao24 t561.length co24 : Value).ownBlock) _ _ t561 (fun k_ => some k_ = (.slice Ao25 t565.length co25 : Value).ownBlock) _ _ t565 t569 t572 _ ?side1 ?side2 A3.out).mono ?_); (case side1 => exact Kd.R_V (Kd.R_tight rfl (HO564.out))); (case side2 => exact Kd.R_V (Kd.R_tight rfl (HO568.out))); rintro e w26 ⟨v570, rfl, ho0, hb⟩; refine ⟨_, rfl, ?_⟩; replace HO564 := cR HO564 hb; replace HO568 := cR HO568 hb; have HO571 := Aside0.mk (Kd.R_lower (Kd.R_mono (ok' := fun k_ => True) ho0 (fun _ hk_ => trivial)) (below_size (uW HB.out))); replace HB := cW HB hb; (try clear hb); (try clear ho0); obtain ⟨Ao27, co27, eo27⟩ := Kd.R_slice HO571.out; subst eo27) | (refine gL (some 32) rfl Tryz.func17 #[.slice Ao24 t561.length co24, .slice Ao27 t569.length co27] ?_; (with_reducible refine (diff_Apply.calls (hL := ld) k (fun k_ => some k_ = (.slice Ao24 t561.length co24 : Value).ownBlock) _ _ t561 _ _ t569 t573 t576 _ ?side1 ?side2 ?side3 A4.out).mono ?_); (case side1 => exact Kd.R_V (Kd.R_tight rfl (Kd.R_apart' (HO564.out) (Kd.R_typed HO571.out) (by decide)))); (case side2 => exact uC <| (Kd.R_reads' HO571.out).2.2); (case side3 => exact (Kd.R_reads' HO571.out).2.1); rintro e w28 ⟨v574, rfl, ho0, hb⟩; refine ⟨_, rfl, ?_⟩; replace HO571 := cR HO571 hb; have HO575 := Aside0.mk (Kd.R_lower (Kd.R_new' (Kd.R_new' (Kd.R_mono (ok' := fun k_ => True) ho0 (fun _ hk_ => trivial)) (Kd.R_lt (uR HO564.out))) (Kd.R_lt (uR HO568.out))) (below_size (uW HB.out))); replace HO564 := Aside0.mk (Kd.R_elder' (uR HO564.out) (Kd.R_base ho0) hb); replace HO568 := Aside0.mk (Kd.R_elder' (uR HO568.out) (Kd.R_base ho0) hb); replace HB := cW HB hb; (try clear hb); (try clear ho0)) | (refine gL (some 36) rfl Tryz.func20 #[.string (⟨#[33, 51, 124, 59, 52, 124, 124, 56, 59, 53, 124, 124, 49]⟩ : ByteArray)] ?_; (with_reducible refine (diff_Parse.calls (hL := ld) k (⟨#[33, 51, 124, 59, 52, 124, 124, 56, 59, 53, 124, 124, 49]⟩ : ByteArray) t577 t578 _ A5.out).mono ?_); rintro e w29 ⟨v579, rfl, ho0, hb⟩; refine ⟨_, rfl, ?_⟩; replace HO564 := cR HO564 hb; replace HO568 := cR HO568 hb; replace HO575 := cR HO575 hb; have HO580 := Aside0.mk (Kd.R_lower (Kd.R_new' ho0 (Kd.R_lt (uR HO571.out))) (below_size (uW HB.out))); replace HO571 := Aside0.mk (Kd.R_elder' (uR HO571.out) (Kd.R_base ho0) hb); replace HB := cW HB hb; (try clear hb); (try clear ho0)) | (refine gL (some 42) rfl Tryz.func17 #[.slice Ao25 t565.length co25, .slice Ao27 t569.length co27] ?_; (with_reducible refine (diff_Apply.calls (hL := ld) k (fun k_ => some k_ = (.slice Ao25 t565.length co25 : Value).ownBlock) _ _ t565 _ _ t569 t581 t584 _ ?side1 ?side2 ?side3 A6.out).mono ?_); (case side1 => exact Kd.R_V (Kd.R_tight rfl (Kd.R_apart' (Kd.R_apart' (HO568.out) (Kd.R_typed HO571.out) (by decide)) (Kd.R_typed HO580.out) (by decide)))); (case side2 => exact uC <| (Kd.R_reads' HO571.out).2.2); (case side3 => exact (Kd.R_reads' HO571.out).2.1); rintro e w30 ⟨v582, rfl, ho0, hb⟩; refine ⟨_, rfl, ?_⟩; replace HO571 := cR HO571 hb; replace HO580 := cR HO580 hb; have HO583 := Aside0.mk (Kd.R_lower (Kd.R_new' (Kd.R_new' (Kd.R_new' (Kd.R_mono (ok' := fun k_ => True) ho0 (fun _ hk_ => trivial)) (Kd.R_lt (uR HO564.out))) (Kd.R_lt (uR HO568.out))) (Kd.R_lt (uR HO575.out))) (below_size (uW HB.out))); replace HO564 := Aside0.mk (Kd.R_elder' (uR HO564.out) (Kd.R_base ho0) hb); replace HO568 := Aside0.mk (Kd.R_elder' (uR HO568.out) (Kd.R_base ho0) hb); replace HO575 := Aside0.mk (Kd.R_elder' (uR HO575.out) (Kd.R_base ho0) hb); replace HB := cW HB hb; (try clear hb); (try clear ho0)) | ((with_reducible refine gate_dst (N := 48) rfl ?_); refine Kd.R_lit k45 _ 45 ?hg (N := 48) ?hd (xs := ([(⟨0, (⟨#[]⟩ : ByteArray), (⟨0, false⟩ : S43)⟩ : S45), (⟨0, (⟨#[]⟩ : ByteArray), (⟨0, false⟩ : S43)⟩ : S45)] : List (S45))) (inner := [.int .i64 0, .string (⟨#[]⟩ : ByteArray), .int .i64 0, .bool false, .int .i64 0, .string (⟨#[]⟩ : ByteArray), .int .i64 0, .bool false]) (ok := fun _ => True) (okp := fun _ => True) ?hr ?hp (fun _ hk => hk) trivial (Below.refl _ _) (Nat.le_refl _) (by simp) ?_; (case hd => rfl); (case hg => rfl); (case hr => first | (go_simp; done) | (go_simp; rfl)); (case hp => exact (Reps.c4 (show Kd.M k45 _ _ _ (⟨0, (⟨#[]⟩ : ByteArray), (⟨0, false⟩ : S43)⟩ : S45) [.int .i64 0, .string (⟨#[]⟩ : ByteArray), .int .i64 0, .bool false] from (k45_mkM _ _ _ (⟨0, (⟨#[]⟩ : ByteArray), (⟨0, false⟩ : S43)⟩ : S45) )) (Reps.c4 (show Kd.M k45 _ _ _ (⟨0, (⟨#[]⟩ : ByteArray), (⟨0, false⟩ : S43)⟩ : S45) [.int .i64 0, .string (⟨#[]⟩ : ByteArray), .int .i64 0, .bool false] from (k45_mkM _ _ _ (⟨0, (⟨#[]⟩ : ByteArray), (⟨0, false⟩ : S43)⟩ : S45) )) (Reps.none _ _)))); intro v586 w31 ho32 hb hg_ hnew_; clear hg_ hnew_; (first | rw [← Ny585.out] at ho32 | (simp only [Int.reduceToNat] at ho32; rw [← Ny585.out] at ho32)); replace HO571 := cR HO571 hb; replace HO580 := cR HO580 hb; have HO587 := Aside0.mk (Kd.R_lower (Kd.R_new' (Kd.R_new' (Kd.R_new' (Kd.R_new' ho32 (Kd.R_lt (uR HO564.out))) (Kd.R_lt (uR HO568.out))) (Kd.R_lt (uR HO575.out))) (Kd.R_lt (uR HO583.out))) (below_size (uW HB.out))); replace HO564 := Aside0.mk (Kd.R_elder' (uR HO564.out) (Kd.R_base ho32) hb); replace HO568 := Aside0.mk (Kd.R_elder' (uR HO568.out) (Kd.R_base ho32) hb); replace HO575 := Aside0.mk (Kd.R_elder' (uR HO575.out) (Kd.R_base ho32) hb); replace HO583 := Aside0.mk (Kd.R_elder' (uR HO583.out) (Kd.R_base ho32) hb); replace HB := cW HB hb; clear hb ho32; obtain ⟨Ao33, co33, eo33⟩ := Kd.R_slice HO587.out; subst eo33) | (refine gL (some 50) rfl Tryz.func10 #[.slice Ao33 y585.length co33, .slice Ao25 t565.length co25] ?_; (with_reducible refine (diff_Of.calls (hL := ld) k (fun k_ => some k_ = (.slice Ao33 y585.length co33 : Value).ownBlock) _ _ y585 (fun k_ => some k_ = (.slice Ao25 t565.length co25 : Value).ownBlock) _ _ t565 t588 t591 _ ?side1 ?side2 A7.out).mono ?_); (case side1 => exact Kd.R_V (Kd.R_tight rfl (Kd.R_apart' (Kd.R_apart' (HO587.out) (Kd.R_typed HO571.out) (by decide)) (Kd.R_typed HO580.out) (by decide)))); (case side2 => exact Kd.R_V (Kd.R_tight rfl (Kd.R_apart' (Kd.R_apart' (HO568.out) (Kd.R_typed HO571.out) (by decide)) (Kd.R_typed HO580.out) (by decide)))); rintro e w34 ⟨v589, rfl, ho0, hb⟩; refine ⟨_, rfl, ?_⟩; replace HO564 := cR HO564 hb; replace HO568 := cR HO568 hb; replace HO575 := cR HO575 hb; replace HO583 := cR HO583 hb; replace HO587 := cR HO587 hb; have HO590 := Aside0.mk (Kd.R_lower (Kd.R_new' (Kd.R_new' (Kd.R_mono (ok' := fun k_ => True) ho0 (fun _ hk_ => trivial)) (Kd.R_lt (uR HO571.out))) (Kd.R_lt (uR HO580.out))) (below_size (uW HB.out))); replace HO571 := Aside0.mk (Kd.R_elder' (uR HO571.out) (Kd.R_base ho0) hb); replace HO580 := Aside0.mk (Kd.R_elder' (uR HO580.out) (Kd.R_base ho0) hb); replace HB := cW HB hb; (try clear hb); (try clear ho0)) | (go_at_call 14; (with_reducible refine (diff_Text.calls (hL := ld) k _ _ t569 t592 _ ?side1 ?side2 A13.out).mono ?_); (case side1 => exact uC <| (Kd.R_reads' HO571.out).2.2); (case side2 => exact (Kd.R_reads' HO571.out).2.1); rintro e w35 ⟨rfl, hb⟩; replace HO564 := cR HO564 hb; replace HO568 := cR HO568 hb; replace HO571 := cR HO571 hb; replace HO575 := cR HO575 hb; replace HO580 := cR HO580 hb; replace HO583 := cR HO583 hb; replace HO587 := cR HO587 hb; replace HO590 := cR HO590 hb; replace HB := cW HB hb; (try clear hb); obtain ⟨Ao36, co36, eo36⟩ := Kd.R_slice HO575.out; subst eo36) | (go_at_call 13; (with_reducible refine (r08_Same.calls k _ _ t573 _ _ t565 true _ ?side1 ?side2 ?side3 ?side4 A15.out).mono ?_); (case side1 => exact uC <| (Kd.R_reads' HO575.out).2.2); (case side2 => exact (Kd.R_reads' HO575.out).2.1); (case side3 => exact uC <| (Kd.R_reads' HO568.out).2.2); (case side4 => exact (Kd.R_reads' HO568.out).2.1); rintro e w' ⟨rfl, ⟨nd, rfl⟩⟩; obtain ⟨Ao37, co37, eo37⟩ := Kd.R_slice HO580.out; subst eo37) | (go_at_call 19; (with_reducible refine (diff_Same.calls k _ _ t569 _ _ t577 true _ ?side1 ?side2 ?side3 ?side4 A17.out).mono ?_); (case side1 => exact uC <| (Kd.R_reads' HO571.out).2.2); (case side2 => exact (Kd.R_reads' HO571.out).2.1); (case side3 => exact uC <| (Kd.R_reads' HO580.out).2.2); (case side4 => exact (Kd.R_reads' HO580.out).2.1); rintro e w' ⟨rfl, ⟨nd, rfl⟩⟩) | (go_at_call 19; (refine (diff_Same.calls k _ _ t569 _ _ ([] : List (S48)) false _ ?side1 ?side2 ?side3 ?side4 A19.out).mono ?_); (case side1 => exact uC <| (Kd.R_reads' HO571.out).2.2); (case side2 => exact (Kd.R_reads' HO571.out).2.1); (case side3 => exact Kd.C_nil _ _); (case side4 => exact Nat.le_refl _); rintro e w' ⟨rfl, ⟨nd, rfl⟩⟩) | (go_at_call 14; (refine (diff_Text.calls (hL := ld) k _ _ ([] : List (S48)) t596 _ ?side1 ?side2 A21.out).mono ?_); (case side1 => exact Kd.C_nil _ _); (case side2 => exact Nat.le_refl _); rintro e w38 ⟨rfl, hb⟩; replace HO564 := cR HO564 hb; replace HO568 := cR HO568 hb; replace HO571 := cR HO571 hb; replace HO575 := cR HO575 hb; replace HO580 := cR HO580 hb; replace HO583 := cR HO583 hb; replace HO587 := cR HO587 hb; replace HO590 := cR HO590 hb; replace HB := cW HB hb; (try clear hb)))
     go_ret
     exact ⟨re_, uW HB.out⟩
   ·
    replace c18 := Bool.eq_false_iff.mpr c18
    subst c18
    rw [if_neg (show ¬ (false = true) by decide)] at H
    exact absurd H (by simp)
  ·
   replace c16 := Bool.eq_false_iff.mpr c16
   subst c16
   rw [if_neg (show ¬ (false = true) by decide)] at H
   exact absurd H (by simp)
 ·
  rw [if_neg c8] at H
  exact absurd H (by simp)
def r08_Great.l0 : Nat → List (S45) → Int → Option (Bool)
 | 0, _, _ => none
 | k + 1, x0, x3 => if x3 < (x0.length : Int) then (if 0 ≤ x3 then (if (((rd_T45 x0 x3).f1).size : Int) > 300 then (some true) else (r08_Great.l0 k x0 (wrap64 (x3 + 1)))) else (none)) else (some false)
def r08_Great.f (k : Nat) (l0 : List (S45)) : Option (Bool) := if (l0.length : Int) > 100 then (some true) else (r08_Great.l0 k l0 0)
theorem r08_Great.mono_l : ∀ k, (∀ y0 y1, LeC (r08_Great.l0 k y0 y1) (r08_Great.l0 (k + 1) y0 y1))
 | 0 => fun _ _ => ⟨fun r h => by simp [r08_Great.l0] at h⟩
 | k + 1 => by have ih0 := r08_Great.mono_l k; exact fun _ _ => by unfold r08_Great.l0; exact lm
theorem r08_Great.mono : ∀ a0 k, LeO (r08_Great.f k a0) (r08_Great.f (k + 1) a0) := by
 intro a0 k
 have ih0 := r08_Great.mono_l k
 unfold r08_Great.f
 exact lo
instance r08_Great.mI {a0 k} : LeC (r08_Great.f k a0) (r08_Great.f (k + 1) a0) := ⟨r08_Great.mono _ _⟩
theorem r08_Great.calls (k : Nat) (A0 : Option Addr) (c0 : Nat) (l0 : List (S45)) (r : Bool) (w : World) (hr0 : Kd.C k45 w A0 l0.length l0) (hc0 : l0.length ≤ c0) (h : r08_Great.f k l0 = some r) :
 Calls Tryz.prog 9 #[.slice A0 l0.length c0] w fun e w' => e = .returned (.bool r) ∧ Drawn0 w w' := by
 have HR0 := Aside0.mk hr0
 have HC0 := Aside0.mk hc0
 clear hr0 hc0
 have H : (if (l0.length : Int) > 100 then (some true) else (r08_Great.l0 k l0 0)) = some r := h
 clear h
 by_cases c2 : (l0.length : Int) > 100
 ·
  rw [if_pos c2] at H
  have c2b0 : decide (100 < (l0.length : Int)) = true := decide_eq_true c2
  have c2b1 : decide (100 < l0.length) = true := decide_eq_true (by omega)
  clear c2
  obtain rfl := Option.some.inj H
  go_enter Tryz.func9, Tryz.ntmps9
  go_wp2
  go_ret
  exact ⟨rs_, dr_⟩
 ·
  rw [if_neg c2] at H
  have c2b0 : decide (100 < (l0.length : Int)) = false := decide_eq_false c2
  have c2b1 : decide (100 < l0.length) = false := decide_eq_false (by omega)
  clear c2
  have H' := Aside0.mk H
  clear H
  go_enter Tryz.func9, Tryz.ntmps9
  go_wp2
  go_loopg [3] k (fun kq v3 w' => ∃ (x3_1 : Int), v3 = .int .i64 x3_1 ∧ Aside0 (r08_Great.l0 kq l0 x3_1 = some r) ∧ Aside0 (kq ≤ k) ∧ Drawn0 w w')
  case atStart => exact ⟨(0), rs_, H', ⟨Nat.le_refl _⟩, dr_⟩
  case round =>
   clear H'
   try clear c2
   try clear c2b0
   try clear c2b1
   try clear p2
   obtain ⟨x3_1, rfl, HA, HK1, ⟨m1, rfl⟩⟩ := hrel
   cases gk with
   | zero => exact absurd HA.out (by simp [r08_Great.l0])
   | succ k1 =>
    have H := HA.out
    clear HA
    simp only [r08_Great.l0] at H
    by_cases c3 : x3_1 < (l0.length : Int)
    ·
     rw [if_pos c3] at H
     have c3b0 : decide (x3_1 < (l0.length : Int)) = true := decide_eq_true c3
     clear c3
     obtain ⟨c4b0, H⟩ := gdd H
     by_cases c5 : (((rd_T45 l0 x3_1).f1).size : Int) > 300
     ·
      rw [if_pos c5] at H
      have c5b0 : decide (300 < (((rd_T45 l0 x3_1).f1).size : Int)) = true := decide_eq_true c5
      have c5b1 : decide (300 < ((rd_T45 l0 x3_1).f1).size) = true := decide_eq_true (by omega)
      clear c5
      obtain rfl := Option.some.inj H
      have p597 : 0 ≤ (x3_1 : Int) := od
      have q597 : x3_1 < (l0.length : Int) := od
      obtain ⟨ad597, e597, hx597_0, hx597_1, hx597_2, hx597_3⟩ := at_T45 HR0.out x3_1 p597 q597
      cases e597
      replace p597 := eq_true p597
      replace q597 := eq_true q597
      go_wp2
      go_ret
      exact ⟨rs_, dr_⟩
     ·
      rw [if_neg c5] at H
      have c5b0 : decide (300 < (((rd_T45 l0 x3_1).f1).size : Int)) = false := decide_eq_false c5
      have c5b1 : decide (300 < ((rd_T45 l0 x3_1).f1).size) = false := decide_eq_false (by omega)
      clear c5
      have H' := Aside0.mk H
      clear H
      have p597 : 0 ≤ (x3_1 : Int) := od
      have q597 : x3_1 < (l0.length : Int) := od
      obtain ⟨ad597, e597, hx597_0, hx597_1, hx597_2, hx597_3⟩ := at_T45 HR0.out x3_1 p597 q597
      cases e597
      replace p597 := eq_true p597
      replace q597 := eq_true q597
      go_wp2
      go_roundg k1
      case measure => have := HK1.out; omega
      case rel => exact ⟨(wrap64 (x3_1 + 1)), rs_, H', ⟨by have := HK1.out; omega⟩, dr_⟩
    ·
     rw [if_neg c3] at H
     have c3b0 : decide (x3_1 < (l0.length : Int)) = false := decide_eq_false c3
     clear c3
     obtain rfl := Option.some.inj H
     go_wp2
     go_ret
     exact ⟨rs_, dr_⟩
def r09_Same.l0 : Nat → List (S48) → List (S48) → Int → Option (Bool)
 | 0, _, _, _ => none
 | k + 1, x0, x1, x5 => if x5 < (x0.length : Int) then (if 0 ≤ x5 then (if x5 < (x1.length : Int) then (if ((!(((rd_T48 x0 x5).f0.f0) == ((rd_T48 x1 x5).f0.f0)) || (!((((rd_T48 x0 x5).f0.f1).toList) == (((rd_T48 x1 x5).f0.f1).toList)) || ((!(((rd_T48 x0 x5).f0.f2.f0) == ((rd_T48 x1 x5).f0.f2.f0)) || (!(((rd_T48 x0 x5).f0.f2.f1) == ((rd_T48 x1 x5).f0.f2.f1))))))) || (!(((rd_T48 x0 x5).f1) == ((rd_T48 x1 x5).f1)))) = true then (some false) else (r09_Same.l0 k x0 x1 (wrap64 (x5 + 1)))) else (none)) else (none)) else (some true)
def r09_Same.f (k : Nat) (l0 : List (S48)) (l1 : List (S48)) : Option (Bool) := if (l0.length : Int) = (l1.length : Int) then (r09_Same.l0 k l0 l1 0) else (some false)
theorem r09_Same.mono_l : ∀ k, (∀ y0 y1 y2, LeC (r09_Same.l0 k y0 y1 y2) (r09_Same.l0 (k + 1) y0 y1 y2))
 | 0 => fun _ _ _ => ⟨fun r h => by simp [r09_Same.l0] at h⟩
 | k + 1 => by have ih0 := r09_Same.mono_l k; exact fun _ _ _ => by unfold r09_Same.l0; exact lm
theorem r09_Same.mono : ∀ a0 a1 k, LeO (r09_Same.f k a0 a1) (r09_Same.f (k + 1) a0 a1) := by
 intro a0 a1 k
 have ih0 := r09_Same.mono_l k
 unfold r09_Same.f
 exact lo
instance r09_Same.mI {a0 a1 k} : LeC (r09_Same.f k a0 a1) (r09_Same.f (k + 1) a0 a1) := ⟨r09_Same.mono _ _ _⟩
theorem r09_Same.calls (k : Nat) (A0 : Option Addr) (c0 : Nat) (l0 : List (S48)) (A1 : Option Addr) (c1 : Nat) (l1 : List (S48)) (r : Bool) (w : World) (hr0 : Kd.C k48 w A0 l0.length l0) (hc0 : l0.length ≤ c0) (hr1 : Kd.C k48 w A1 l1.length l1) (hc1 : l1.length ≤ c1) (h : r09_Same.f k l0 l1 = some r) :
 Calls Tryz.prog 12 #[.slice A0 l0.length c0, .slice A1 l1.length c1] w fun e w' => e = .returned (.bool r) ∧ Drawn0 w w' := by
 have hu48 := Tryz.underlying48
 have HR0 := Aside0.mk hr0
 have HC0 := Aside0.mk hc0
 clear hr0 hc0
 have HR1 := Aside0.mk hr1
 have HC1 := Aside0.mk hc1
 clear hr1 hc1
 have H : (if (l0.length : Int) = (l1.length : Int) then (r09_Same.l0 k l0 l1 0) else (some false)) = some r := h
 clear h
 by_cases c3 : (l0.length : Int) = (l1.length : Int)
 ·
  rw [if_pos c3] at H
  have c3b0 : ((l0.length : Int) == (l1.length : Int)) = true := beq_iff_eq.mpr c3
  have c3b1 : ((l0.length : Int) != (l1.length : Int)) = false := bne_eq_false_iff_eq.mpr c3
  have c3b2 : (l0.length == l1.length) = true := by first | simpa using c3 | (simp at c3 ⊢; omega)
  clear c3
  have H' := Aside0.mk H
  clear H
  go_enter Tryz.func12, Tryz.ntmps12
  go_wp2
  repeat (go_quiet (fail); try go_wp2)
  go_loopg [5] k (fun kq v5 w' => ∃ (x5_1 : Int), v5 = .int .i64 x5_1 ∧ Aside0 (r09_Same.l0 kq l0 l1 x5_1 = some r) ∧ Aside0 (kq ≤ k) ∧ Drawn0 w w')
  case atStart => exact ⟨(0), rs_, H', ⟨Nat.le_refl _⟩, dr_⟩
  case round =>
   clear H'
   try clear c1
   try clear p2
   try clear c3
   try clear c3b0
   try clear c3b1
   try clear c3b2
   obtain ⟨x5_1, rfl, HA, HK1, ⟨m1, rfl⟩⟩ := hrel
   cases gk with
   | zero => exact absurd HA.out (by simp [r09_Same.l0])
   | succ k1 =>
    have H := HA.out
    clear HA
    simp only [r09_Same.l0] at H
    by_cases c4 : x5_1 < (l0.length : Int)
    ·
     rw [if_pos c4] at H
     have c4b0 : decide (x5_1 < (l0.length : Int)) = true := decide_eq_true c4
     clear c4
     obtain ⟨c5b0, H⟩ := gdd H
     obtain ⟨c6b0, H⟩ := gdd H
     by_cases c7 : ((!(((rd_T48 l0 x5_1).f0.f0) == ((rd_T48 l1 x5_1).f0.f0)) || (!((((rd_T48 l0 x5_1).f0.f1).toList) == (((rd_T48 l1 x5_1).f0.f1).toList)) || ((!(((rd_T48 l0 x5_1).f0.f2.f0) == ((rd_T48 l1 x5_1).f0.f2.f0)) || (!(((rd_T48 l0 x5_1).f0.f2.f1) == ((rd_T48 l1 x5_1).f0.f2.f1))))))) || (!(((rd_T48 l0 x5_1).f1) == ((rd_T48 l1 x5_1).f1)))) = true
     ·
      rw [if_pos c7] at H
      have c7b0 : ((!(((rd_T48 l0 x5_1).f0.f0) == ((rd_T48 l1 x5_1).f0.f0)) || (!((((rd_T48 l0 x5_1).f0.f1).toList) == (((rd_T48 l1 x5_1).f0.f1).toList)) || ((!(((rd_T48 l0 x5_1).f0.f2.f0) == ((rd_T48 l1 x5_1).f0.f2.f0)) || (!(((rd_T48 l0 x5_1).f0.f2.f1) == ((rd_T48 l1 x5_1).f0.f2.f1))))))) || (!(((rd_T48 l0 x5_1).f1) == ((rd_T48 l1 x5_1).f1)))) = true := c7
      clear c7
      obtain rfl := Option.some.inj H
      have p598 : 0 ≤ (x5_1 : Int) := od
      have q598 : x5_1 < (l0.length : Int) := od
      obtain ⟨ad598, e598, hx598_0, hx598_1, hx598_2, hx598_3, hx598_4⟩ := at_T48 HR0.out x5_1 p598 q598
      cases e598
      replace p598 := eq_true p598
      replace q598 := eq_true q598
      have p599 : 0 ≤ (x5_1 : Int) := od
      have q599 : x5_1 < (l1.length : Int) := od
      obtain ⟨ad599, e599, hx599_0, hx599_1, hx599_2, hx599_3, hx599_4⟩ := at_T48 HR1.out x5_1 p599 q599
      cases e599
      replace p599 := eq_true p599
      replace q599 := eq_true q599
      go_wp2
      repeat (go_quiet (fail); try go_wp2)
      go_ret
      exact ⟨rs_, dr_⟩
     ·
      rw [if_neg c7] at H
      have c7b0 : ((!(((rd_T48 l0 x5_1).f0.f0) == ((rd_T48 l1 x5_1).f0.f0)) || (!((((rd_T48 l0 x5_1).f0.f1).toList) == (((rd_T48 l1 x5_1).f0.f1).toList)) || ((!(((rd_T48 l0 x5_1).f0.f2.f0) == ((rd_T48 l1 x5_1).f0.f2.f0)) || (!(((rd_T48 l0 x5_1).f0.f2.f1) == ((rd_T48 l1 x5_1).f0.f2.f1))))))) || (!(((rd_T48 l0 x5_1).f1) == ((rd_T48 l1 x5_1).f1)))) = false := by simpa using c7
      clear c7
      have H' := Aside0.mk H
      clear H
      have p598 : 0 ≤ (x5_1 : Int) := od
      have q598 : x5_1 < (l0.length : Int) := od
      obtain ⟨ad598, e598, hx598_0, hx598_1, hx598_2, hx598_3, hx598_4⟩ := at_T48 HR0.out x5_1 p598 q598
      cases e598
      replace p598 := eq_true p598
      replace q598 := eq_true q598
      have p599 : 0 ≤ (x5_1 : Int) := od
      have q599 : x5_1 < (l1.length : Int) := od
      obtain ⟨ad599, e599, hx599_0, hx599_1, hx599_2, hx599_3, hx599_4⟩ := at_T48 HR1.out x5_1 p599 q599
      cases e599
      replace p599 := eq_true p599
      replace q599 := eq_true q599
      go_wp2
      repeat (go_quiet (fail); try go_wp2)
      go_roundg k1
      case measure => have := HK1.out; omega
      case rel => exact ⟨(wrap64 (x5_1 + 1)), rs_, H', ⟨by have := HK1.out; omega⟩, dr_⟩
    ·
     rw [if_neg c4] at H
     have c4b0 : decide (x5_1 < (l0.length : Int)) = false := decide_eq_false c4
     clear c4
     obtain rfl := Option.some.inj H
     go_wp2
     repeat (go_quiet (fail); try go_wp2)
     go_ret
     exact ⟨rs_, dr_⟩
 ·
  rw [if_neg c3] at H
  have c3b0 : ((l0.length : Int) == (l1.length : Int)) = false := beq_eq_false_iff_ne.mpr c3
  have c3b1 : ((l0.length : Int) != (l1.length : Int)) = true := bne_iff_ne.mpr c3
  have c3b2 : (l0.length == l1.length) = false := by first | simpa using c3 | (simp at c3 ⊢; omega)
  obtain rfl := Option.some.inj H
  go_enter Tryz.func12, Tryz.ntmps12
  go_wp2
  repeat (go_quiet (fail); try go_wp2)
  go_ret
  exact ⟨rs_, dr_⟩
def r09_Great.l0 : Nat → List (S48) → Int → Option (Bool)
 | 0, _, _ => none
 | k + 1, x0, x3 => if x3 < (x0.length : Int) then (if 0 ≤ x3 then (if (((rd_T48 x0 x3).f0.f1).size : Int) > 300 then (some true) else (r09_Great.l0 k x0 (wrap64 (x3 + 1)))) else (none)) else (some false)
def r09_Great.f (k : Nat) (l0 : List (S48)) : Option (Bool) := if (l0.length : Int) > 100 then (some true) else (r09_Great.l0 k l0 0)
theorem r09_Great.mono_l : ∀ k, (∀ y0 y1, LeC (r09_Great.l0 k y0 y1) (r09_Great.l0 (k + 1) y0 y1))
 | 0 => fun _ _ => ⟨fun r h => by simp [r09_Great.l0] at h⟩
 | k + 1 => by have ih0 := r09_Great.mono_l k; exact fun _ _ => by unfold r09_Great.l0; exact lm
theorem r09_Great.mono : ∀ a0 k, LeO (r09_Great.f k a0) (r09_Great.f (k + 1) a0) := by
 intro a0 k
 have ih0 := r09_Great.mono_l k
 unfold r09_Great.f
 exact lo
instance r09_Great.mI {a0 k} : LeC (r09_Great.f k a0) (r09_Great.f (k + 1) a0) := ⟨r09_Great.mono _ _⟩
theorem r09_Great.calls (k : Nat) (A0 : Option Addr) (c0 : Nat) (l0 : List (S48)) (r : Bool) (w : World) (hr0 : Kd.C k48 w A0 l0.length l0) (hc0 : l0.length ≤ c0) (h : r09_Great.f k l0 = some r) :
 Calls Tryz.prog 16 #[.slice A0 l0.length c0] w fun e w' => e = .returned (.bool r) ∧ Drawn0 w w' := by
 have HR0 := Aside0.mk hr0
 have HC0 := Aside0.mk hc0
 clear hr0 hc0
 have H : (if (l0.length : Int) > 100 then (some true) else (r09_Great.l0 k l0 0)) = some r := h
 clear h
 by_cases c2 : (l0.length : Int) > 100
 ·
  rw [if_pos c2] at H
  have c2b0 : decide (100 < (l0.length : Int)) = true := decide_eq_true c2
  have c2b1 : decide (100 < l0.length) = true := decide_eq_true (by omega)
  clear c2
  obtain rfl := Option.some.inj H
  go_enter Tryz.func16, Tryz.ntmps16
  go_wp2
  go_ret
  exact ⟨rs_, dr_⟩
 ·
  rw [if_neg c2] at H
  have c2b0 : decide (100 < (l0.length : Int)) = false := decide_eq_false c2
  have c2b1 : decide (100 < l0.length) = false := decide_eq_false (by omega)
  clear c2
  have H' := Aside0.mk H
  clear H
  go_enter Tryz.func16, Tryz.ntmps16
  go_wp2
  go_loopg [3] k (fun kq v3 w' => ∃ (x3_1 : Int), v3 = .int .i64 x3_1 ∧ Aside0 (r09_Great.l0 kq l0 x3_1 = some r) ∧ Aside0 (kq ≤ k) ∧ Drawn0 w w')
  case atStart => exact ⟨(0), rs_, H', ⟨Nat.le_refl _⟩, dr_⟩
  case round =>
   clear H'
   try clear c1
   try clear c2
   try clear c2b0
   try clear c2b1
   try clear p2
   obtain ⟨x3_1, rfl, HA, HK1, ⟨m1, rfl⟩⟩ := hrel
   cases gk with
   | zero => exact absurd HA.out (by simp [r09_Great.l0])
   | succ k1 =>
    have H := HA.out
    clear HA
    simp only [r09_Great.l0] at H
    by_cases c3 : x3_1 < (l0.length : Int)
    ·
     rw [if_pos c3] at H
     have c3b0 : decide (x3_1 < (l0.length : Int)) = true := decide_eq_true c3
     clear c3
     obtain ⟨c4b0, H⟩ := gdd H
     by_cases c5 : (((rd_T48 l0 x3_1).f0.f1).size : Int) > 300
     ·
      rw [if_pos c5] at H
      have c5b0 : decide (300 < (((rd_T48 l0 x3_1).f0.f1).size : Int)) = true := decide_eq_true c5
      have c5b1 : decide (300 < ((rd_T48 l0 x3_1).f0.f1).size) = true := decide_eq_true (by omega)
      clear c5
      obtain rfl := Option.some.inj H
      have p600 : 0 ≤ (x3_1 : Int) := od
      have q600 : x3_1 < (l0.length : Int) := od
      obtain ⟨ad600, e600, hx600_0, hx600_1, hx600_2, hx600_3, hx600_4⟩ := at_T48 HR0.out x3_1 p600 q600
      cases e600
      replace p600 := eq_true p600
      replace q600 := eq_true q600
      go_wp2
      go_ret
      exact ⟨rs_, dr_⟩
     ·
      rw [if_neg c5] at H
      have c5b0 : decide (300 < (((rd_T48 l0 x3_1).f0.f1).size : Int)) = false := decide_eq_false c5
      have c5b1 : decide (300 < ((rd_T48 l0 x3_1).f0.f1).size) = false := decide_eq_false (by omega)
      clear c5
      have H' := Aside0.mk H
      clear H
      have p600 : 0 ≤ (x3_1 : Int) := od
      have q600 : x3_1 < (l0.length : Int) := od
      obtain ⟨ad600, e600, hx600_0, hx600_1, hx600_2, hx600_3, hx600_4⟩ := at_T48 HR0.out x3_1 p600 q600
      cases e600
      replace p600 := eq_true p600
      replace q600 := eq_true q600
      go_wp2
      go_roundg k1
      case measure => have := HK1.out; omega
      case rel => exact ⟨(wrap64 (x3_1 + 1)), rs_, H', ⟨by have := HK1.out; omega⟩, dr_⟩
    ·
     rw [if_neg c3] at H
     have c3b0 : decide (x3_1 < (l0.length : Int)) = false := decide_eq_false c3
     clear c3
     obtain rfl := Option.some.inj H
     go_wp2
     go_ret
     exact ⟨rs_, dr_⟩
def r09_Right.l0 : Nat → List (S48) → List (S45) → Int → Option (Bool)
 | 0, _, _, _ => none
 | k + 1, x0, x3, x4 => if x4 < (x0.length : Int) then (if 0 ≤ x4 then (if (rd_T48 x0 x4).f1 = true then (if (!(((rd_T48 x0 x4).f0.f2.f0) == 0) || (((rd_T48 x0 x4).f0.f2.f1))) = true then (some false) else (if x3.length < 3518437208883 then (r09_Right.l0 k x0 (x3 ++ [(⟨(rd_T48 x0 x4).f0.f0, (rd_T48 x0 x4).f0.f1, (⟨(rd_T48 x0 x4).f0.f2.f0, (rd_T48 x0 x4).f0.f2.f1⟩ : S43)⟩ : S45)]) (wrap64 (x4 + 1))) else (none))) else (if x3.length < 3518437208883 then (r09_Right.l0 k x0 (x3 ++ [(⟨(rd_T48 x0 x4).f0.f0, (rd_T48 x0 x4).f0.f1, (⟨(rd_T48 x0 x4).f0.f2.f0, (rd_T48 x0 x4).f0.f2.f1⟩ : S43)⟩ : S45)]) (wrap64 (x4 + 1))) else (none))) else (none)) else ((r08_Right.f k x3).bind fun t611 => (some t611))
def r09_Right.f (k : Nat) (l0 : List (S48)) : Option (Bool) := r09_Right.l0 k l0 ([] : List (S45)) 0
theorem r09_Right.mono_l : ∀ k, (∀ y0 y1 y2, LeC (r09_Right.l0 k y0 y1 y2) (r09_Right.l0 (k + 1) y0 y1 y2))
 | 0 => fun _ _ _ => ⟨fun r h => by simp [r09_Right.l0] at h⟩
 | k + 1 => by have ih0 := r09_Right.mono_l k; exact fun _ _ _ => by unfold r09_Right.l0; exact lm
theorem r09_Right.mono : ∀ a0 k, LeO (r09_Right.f k a0) (r09_Right.f (k + 1) a0) := by
 intro a0 k
 have ih0 := r09_Right.mono_l k
 unfold r09_Right.f
 exact lo
instance r09_Right.mI {a0 k} : LeC (r09_Right.f k a0) (r09_Right.f (k + 1) a0) := ⟨r09_Right.mono _ _⟩
theorem r09_Right.calls (k : Nat) (A0 : Option Addr) (c0 : Nat) (l0 : List (S48)) (r : Bool) (w : World) (hr0 : Kd.C k48 w A0 l0.length l0) (hc0 : l0.length ≤ c0) (h : r09_Right.f k l0 = some r) :
 Calls Tryz.prog 22 #[.slice A0 l0.length c0] w fun e w' => e = .returned (.bool r) ∧ Below w.heap.size w w' := by
 have hu43 := Tryz.underlying43
 have hu45 := Tryz.underlying45
 have HR0 := Aside0.mk hr0
 have HC0 := Aside0.mk hc0
 clear hr0 hc0
 have HB := Aside0.mk (Below.refl w.heap.size w)
 have H : (r09_Right.l0 k l0 ([] : List (S45)) 0) = some r := h
 clear h
 have H' := Aside0.mk H
 clear H
 go_enter Tryz.func22, Tryz.ntmps22
 go_wp2
 go_loopg [3, 4] k (fun kq v3 v4 w' => ∃ (x3_1 : List (S45)) (x4_1 : Int), v4 = .int .i64 x4_1 ∧ Aside0 (r09_Right.l0 kq l0 x3_1 x4_1 = some r) ∧ Aside0 (kq ≤ k) ∧ Aside0 (Kd.R k45 45 w' w.heap.size (fun _ => True) v3 x3_1) ∧ Aside0 (Below w.heap.size w w'))
 case atStart => exact ⟨(([] : List (S45))), (0), rs_, H', ⟨Nat.le_refl _⟩, ⟨nl_⟩, ⟨uW HB.out⟩⟩
 case round =>
  clear H'
  obtain ⟨x3_1, x4_1, rfl, HA, HK1, HO_3, HB⟩ := hrel
  cases gk with
  | zero => exact absurd HA.out (by simp [r09_Right.l0])
  | succ k1 =>
   have H := HA.out
   clear HA
   simp only [r09_Right.l0] at H
   by_cases c2 : x4_1 < (l0.length : Int)
   ·
    rw [if_pos c2] at H
    have c2b0 : decide (x4_1 < (l0.length : Int)) = true := decide_eq_true c2
    clear c2
    obtain ⟨c3b0, H⟩ := gdd H
    obtain ⟨bq4, hbq4⟩ : ∃ b_ : Bool, b_ = ((rd_T48 l0 x4_1).f1) := ⟨_, rfl⟩
    replace H : (if bq4 = true then (if (!(((rd_T48 l0 x4_1).f0.f2.f0) == 0) || (((rd_T48 l0 x4_1).f0.f2.f1))) = true then (some false) else (if x3_1.length < 3518437208883 then (r09_Right.l0 k1 l0 (x3_1 ++ [(⟨(rd_T48 l0 x4_1).f0.f0, (rd_T48 l0 x4_1).f0.f1, (⟨(rd_T48 l0 x4_1).f0.f2.f0, (rd_T48 l0 x4_1).f0.f2.f1⟩ : S43)⟩ : S45)]) (wrap64 (x4_1 + 1))) else (none))) else (if x3_1.length < 3518437208883 then (r09_Right.l0 k1 l0 (x3_1 ++ [(⟨(rd_T48 l0 x4_1).f0.f0, (rd_T48 l0 x4_1).f0.f1, (⟨(rd_T48 l0 x4_1).f0.f2.f0, (rd_T48 l0 x4_1).f0.f2.f1⟩ : S43)⟩ : S45)]) (wrap64 (x4_1 + 1))) else (none))) = some r := by rw [← hbq4] at H; exact H
    have Nbq4 := Aside0.mk hbq4
    clear hbq4
    by_cases c5 : bq4 = true
    ·
     subst c5
     rw [if_pos rfl] at H
     by_cases c6 : (!(((rd_T48 l0 x4_1).f0.f2.f0) == 0) || (((rd_T48 l0 x4_1).f0.f2.f1))) = true
     ·
      rw [if_pos c6] at H
      have c6b0 : (!(((rd_T48 l0 x4_1).f0.f2.f0) == 0) || (((rd_T48 l0 x4_1).f0.f2.f1))) = true := c6
      clear c6
      obtain rfl := Option.some.inj H
      have p601 : 0 ≤ (x4_1 : Int) := od
      have q601 : x4_1 < (l0.length : Int) := od
      obtain ⟨ad601, e601, hx601_0, hx601_1, hx601_2, hx601_3, hx601_4⟩ := at_T48 HR0.out x4_1 p601 q601
      (try rw [← Nbq4.out] at hx601_3)
      (try rw [← Nbq4.out] at hx601_4)
      cases e601
      replace hx601_0 := kc HB hx601_0
      replace hx601_1 := kc HB hx601_1
      replace hx601_2 := kc HB hx601_2
      replace hx601_3 := kc HB hx601_3
      replace hx601_4 := kc HB hx601_4
      replace p601 := eq_true p601
      replace q601 := eq_true q601
      have p602 : 0 ≤ (x4_1 : Int) := od
      have q602 : x4_1 < (l0.length : Int) := od
      obtain ⟨ad602, e602, hx602_0, hx602_1, hx602_2, hx602_3, hx602_4⟩ := at_T48 HR0.out x4_1 p602 q602
      (try rw [← Nbq4.out] at hx602_3)
      (try rw [← Nbq4.out] at hx602_4)
      obtain rfl : ad601 = ad602 := (by injection e602)
      replace hx602_0 := kc HB hx602_0
      replace hx602_1 := kc HB hx602_1
      replace hx602_2 := kc HB hx602_2
      replace hx602_3 := kc HB hx602_3
      replace hx602_4 := kc HB hx602_4
      replace p602 := eq_true p602
      replace q602 := eq_true q602
      go_wp2
      go_ret
      exact ⟨re_, uW HB.out⟩
     ·
      rw [if_neg c6] at H
      have c6b0 : (!(((rd_T48 l0 x4_1).f0.f2.f0) == 0) || (((rd_T48 l0 x4_1).f0.f2.f1))) = false := by simpa using c6
      clear c6
      obtain ⟨c7, H⟩ := gd H
      have LMc7 := Aside0.mk c7
      clear c7
      obtain ⟨y604, hy604⟩ : ∃ y_ : List (S45), y_ = (x3_1 ++ [(⟨(rd_T48 l0 x4_1).f0.f0, (rd_T48 l0 x4_1).f0.f1, (⟨(rd_T48 l0 x4_1).f0.f2.f0, (rd_T48 l0 x4_1).f0.f2.f1⟩ : S43)⟩ : S45)]) := ⟨_, rfl⟩
      replace H : (r09_Right.l0 k1 l0 y604 (wrap64 (x4_1 + 1))) = some r := by first | (rw [hy604]; with_reducible exact H) | (have H2_ := (Option.bind_some _ _).symm.trans H; rw [hy604]; with_reducible exact H2_) | (have H2_ := (Option.bind_some _ _).symm.trans H; with_reducible exact H2_) | with_reducible exact H | (rw [hy604]; exact H) | exact H
      have Ny604 := Aside0.mk hy604
      clear hy604
      have H' := Aside0.mk H
      clear H
      have p601 : 0 ≤ (x4_1 : Int) := od
      have q601 : x4_1 < (l0.length : Int) := od
      obtain ⟨ad601, e601, hx601_0, hx601_1, hx601_2, hx601_3, hx601_4⟩ := at_T48 HR0.out x4_1 p601 q601
      (try rw [← Nbq4.out] at hx601_3)
      (try rw [← Nbq4.out] at hx601_4)
      cases e601
      replace hx601_0 := kc HB hx601_0
      replace hx601_1 := kc HB hx601_1
      replace hx601_2 := kc HB hx601_2
      replace hx601_3 := kc HB hx601_3
      replace hx601_4 := kc HB hx601_4
      replace p601 := eq_true p601
      replace q601 := eq_true q601
      have p602 : 0 ≤ (x4_1 : Int) := od
      have q602 : x4_1 < (l0.length : Int) := od
      obtain ⟨ad602, e602, hx602_0, hx602_1, hx602_2, hx602_3, hx602_4⟩ := at_T48 HR0.out x4_1 p602 q602
      (try rw [← Nbq4.out] at hx602_3)
      (try rw [← Nbq4.out] at hx602_4)
      obtain rfl : ad601 = ad602 := (by injection e602)
      replace hx602_0 := kc HB hx602_0
      replace hx602_1 := kc HB hx602_1
      replace hx602_2 := kc HB hx602_2
      replace hx602_3 := kc HB hx602_3
      replace hx602_4 := kc HB hx602_4
      replace p602 := eq_true p602
      replace q602 := eq_true q602
      have p603 : 0 ≤ (x4_1 : Int) := od
      have q603 : x4_1 < (l0.length : Int) := od
      obtain ⟨ad603, e603, hx603_0, hx603_1, hx603_2, hx603_3, hx603_4⟩ := at_T48 HR0.out x4_1 p603 q603
      (try rw [← Nbq4.out] at hx603_3)
      (try rw [← Nbq4.out] at hx603_4)
      obtain rfl : ad601 = ad603 := (by injection e603)
      replace hx603_0 := kc HB hx603_0
      replace hx603_1 := kc HB hx603_1
      replace hx603_2 := kc HB hx603_2
      replace hx603_3 := kc HB hx603_3
      replace hx603_4 := kc HB hx603_4
      replace p603 := eq_true p603
      replace q603 := eq_true q603
      go_wp2_with (first | ((with_reducible refine gate_builtin (b := .append) (xs := #[.tmp 26, .tmp 32]) rfl ?_); at_builtin; refine Kd.R_append k45 (w0 := w) w.heap.size rfl (.tmp 26) (.tmp 32) 22 45 (.agg #[(.int .i64 0), (.string ⟨#[]⟩), (.int .i64 0), (.bool false)]) 40 rfl Tryz.underlying22 info45 rfl (by decide) (by omega) u3 x3_1 (⟨(rd_T48 l0 x4_1).f0.f0, (rd_T48 l0 x4_1).f0.f1, (⟨(rd_T48 l0 x4_1).f0.f2.f0, (rd_T48 l0 x4_1).f0.f2.f1⟩ : S43)⟩ : S45) [.int .i64 ((rd_T48 l0 x4_1).f0.f0), .string ((rd_T48 l0 x4_1).f0.f1), .int .i64 ((rd_T48 l0 x4_1).f0.f2.f0), .bool ((rd_T48 l0 x4_1).f0.f2.f1)] (fun _ => True) (fun _ => False) rfl rfl ?aP (fun _ hk => hk.elim) ?aF ?aO ?aB ?aS ?aL ?_; (case aP => exact k45_mkM _ _ _ (⟨(rd_T48 l0 x4_1).f0.f0, (rd_T48 l0 x4_1).f0.f1, (⟨(rd_T48 l0 x4_1).f0.f2.f0, (rd_T48 l0 x4_1).f0.f2.f1⟩ : S43)⟩ : S45)); (case aB => exact (uW HB.out)); (case aF => exact (fun _ _ => trivial)); (case aO => exact (uR HO_3.out)); (case aS => exact (below_size (uW HB.out))); (case aL => have := LMc7.out; omega); intro v605 w8 ho hb hg hat; rw [← Ny604.out] at ho; replace HB := Aside0.mk (hb); have HO606 := Aside0.mk (ho); clear HO_3; clear ho hb hg hat))
      go_roundg k1
      case measure => have := HK1.out; omega
      case rel => exact ⟨(y604), (wrap64 (x4_1 + 1)), rs_, (by first | exact H' | (rw [← Nbq4.out]; exact H')), ⟨by have := HK1.out; omega⟩, ⟨uR HO606.out⟩, ⟨uW HB.out⟩⟩
    ·
     replace c5 := Bool.eq_false_iff.mpr c5
     subst c5
     rw [if_neg (show ¬ (false = true) by decide)] at H
     obtain ⟨c9, H⟩ := gd H
     have LMc9 := Aside0.mk c9
     clear c9
     obtain ⟨y608, hy608⟩ : ∃ y_ : List (S45), y_ = (x3_1 ++ [(⟨(rd_T48 l0 x4_1).f0.f0, (rd_T48 l0 x4_1).f0.f1, (⟨(rd_T48 l0 x4_1).f0.f2.f0, (rd_T48 l0 x4_1).f0.f2.f1⟩ : S43)⟩ : S45)]) := ⟨_, rfl⟩
     replace H : (r09_Right.l0 k1 l0 y608 (wrap64 (x4_1 + 1))) = some r := by first | (rw [hy608]; with_reducible exact H) | (have H2_ := (Option.bind_some _ _).symm.trans H; rw [hy608]; with_reducible exact H2_) | (have H2_ := (Option.bind_some _ _).symm.trans H; with_reducible exact H2_) | with_reducible exact H | (rw [hy608]; exact H) | exact H
     have Ny608 := Aside0.mk hy608
     clear hy608
     have H' := Aside0.mk H
     clear H
     have p601 : 0 ≤ (x4_1 : Int) := od
     have q601 : x4_1 < (l0.length : Int) := od
     obtain ⟨ad601, e601, hx601_0, hx601_1, hx601_2, hx601_3, hx601_4⟩ := at_T48 HR0.out x4_1 p601 q601
     (try rw [← Nbq4.out] at hx601_3)
     (try rw [← Nbq4.out] at hx601_4)
     cases e601
     replace hx601_0 := kc HB hx601_0
     replace hx601_1 := kc HB hx601_1
     replace hx601_2 := kc HB hx601_2
     replace hx601_3 := kc HB hx601_3
     replace hx601_4 := kc HB hx601_4
     replace p601 := eq_true p601
     replace q601 := eq_true q601
     have p607 : 0 ≤ (x4_1 : Int) := od
     have q607 : x4_1 < (l0.length : Int) := od
     obtain ⟨ad607, e607, hx607_0, hx607_1, hx607_2, hx607_3, hx607_4⟩ := at_T48 HR0.out x4_1 p607 q607
     (try rw [← Nbq4.out] at hx607_3)
     (try rw [← Nbq4.out] at hx607_4)
     obtain rfl : ad601 = ad607 := (by injection e607)
     replace hx607_0 := kc HB hx607_0
     replace hx607_1 := kc HB hx607_1
     replace hx607_2 := kc HB hx607_2
     replace hx607_3 := kc HB hx607_3
     replace hx607_4 := kc HB hx607_4
     replace p607 := eq_true p607
     replace q607 := eq_true q607
     go_wp2_with (first | ((with_reducible refine gate_builtin (b := .append) (xs := #[.tmp 26, .tmp 32]) rfl ?_); at_builtin; refine Kd.R_append k45 (w0 := w) w.heap.size rfl (.tmp 26) (.tmp 32) 22 45 (.agg #[(.int .i64 0), (.string ⟨#[]⟩), (.int .i64 0), (.bool false)]) 40 rfl Tryz.underlying22 info45 rfl (by decide) (by omega) u3 x3_1 (⟨(rd_T48 l0 x4_1).f0.f0, (rd_T48 l0 x4_1).f0.f1, (⟨(rd_T48 l0 x4_1).f0.f2.f0, (rd_T48 l0 x4_1).f0.f2.f1⟩ : S43)⟩ : S45) [.int .i64 ((rd_T48 l0 x4_1).f0.f0), .string ((rd_T48 l0 x4_1).f0.f1), .int .i64 ((rd_T48 l0 x4_1).f0.f2.f0), .bool ((rd_T48 l0 x4_1).f0.f2.f1)] (fun _ => True) (fun _ => False) rfl rfl ?aP (fun _ hk => hk.elim) ?aF ?aO ?aB ?aS ?aL ?_; (case aP => exact k45_mkM _ _ _ (⟨(rd_T48 l0 x4_1).f0.f0, (rd_T48 l0 x4_1).f0.f1, (⟨(rd_T48 l0 x4_1).f0.f2.f0, (rd_T48 l0 x4_1).f0.f2.f1⟩ : S43)⟩ : S45)); (case aB => exact (uW HB.out)); (case aF => exact (fun _ _ => trivial)); (case aO => exact (uR HO_3.out)); (case aS => exact (below_size (uW HB.out))); (case aL => have := LMc9.out; omega); intro v609 w10 ho hb hg hat; rw [← Ny608.out] at ho; replace HB := Aside0.mk (hb); have HO610 := Aside0.mk (ho); clear HO_3; clear ho hb hg hat))
     go_roundg k1
     case measure => have := HK1.out; omega
     case rel => exact ⟨(y608), (wrap64 (x4_1 + 1)), rs_, (by first | exact H' | (rw [← Nbq4.out]; exact H')), ⟨by have := HK1.out; omega⟩, ⟨uR HO610.out⟩, ⟨uW HB.out⟩⟩
   ·
    rw [if_neg c2] at H
    have c2b0 : decide (x4_1 < (l0.length : Int)) = false := decide_eq_false c2
    clear c2
    obtain ⟨t611, A11, H⟩ := bs H
    try dsimp only at H
    obtain rfl := Option.some.inj H
    obtain ⟨Ao12, co12, eo12⟩ := Kd.R_slice HO_3.out
    subst eo12
    go_wp2_with (first | (refine gL (some 35) rfl Tryz.func27 #[.slice Ao12 x3_1.length co12] ?_; (with_reducible refine (r08_Right.calls k1 _ _ x3_1 t611 _ ?side1 ?side2 A11.out).mono ?_); (case side1 => exact uC <| (Kd.R_reads' HO_3.out).2.2); (case side2 => exact (Kd.R_reads' HO_3.out).2.1); rintro e w13 ⟨rfl, hb⟩; refine ⟨_, rfl, ?_⟩; replace HO_3 := cR HO_3 hb; replace HB := cW HB hb; (try clear hb)))
    go_ret
    exact ⟨re_, uW HB.out⟩
end Go.Proofs.YtgcbejidponoaaaGreatDoor.X
