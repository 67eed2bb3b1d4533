/- Printed by a program of this session's own: what functions of the program compute, and that the machine computes it. No condition of its own. -/
import Derived.Test.YtgcbejidponoaaaGreatDoorM3
import Derived.Test.YtgcbejidponoaaaGreatDoorM4
import Derived.Test.YtgcbejidponoaaaGreatDoorM6
import Derived.Test.YtgcbejidponoaaaGreatDoorM7
namespace Go.Proofs.YtgcbejidponoaaaGreatDoor.X
open Go.RowKit Go.Proofs.YtgcbejidponoaaaGreatDoorW.PrintWords Go.Proofs.YtgcbejidponoaaaGreatDoorW.PrintLast Go.Proofs.YtgcbejidponoaaaGreatDoorW.PrintMore
attribute [local go_sem] max2_int min2_int max_two min_two max_three min_three max_four min_four
set_option linter.unusedVariables false
set_option linter.unusedSimpArgs false
set_option maxHeartbeats 8000000
set_option maxRecDepth 100000
def diff_one.f (k : Nat) (a0 : ByteArray) : Option (Int × ByteArray × Int × Bool × Bool × Int) := (strings_CutPrefix.f a0 (⟨#[33]⟩ : ByteArray)).bind fun bt389 => (if bt389.2 = true then ((diff_leaves.f k bt389.1).bind fun bt391 => (some (bt391.1, bt391.2.1, bt391.2.2.1, bt391.2.2.2.1, bt391.2.2.2.2.1, bt391.2.2.2.2.2))) else ((row_Parse.f k a0).bind fun bt397 => (if bt397.2 = 0 then (if (bt397.1.length : Int) = 0 then (some (0, (⟨#[]⟩ : ByteArray), 0, false, false, 2)) else (if 0 < (bt397.1.length : Int) then (some ((rd_T45 bt397.1 0).f0, (rd_T45 bt397.1 0).f1, (rd_T45 bt397.1 0).f2.f0, (rd_T45 bt397.1 0).f2.f1, false, 0)) else (none))) else (some (0, (⟨#[]⟩ : ByteArray), 0, false, false, bt397.2)))))
theorem diff_one.mono : ∀ a0 k, LeO (diff_one.f k a0) (diff_one.f (k + 1) a0) := by
 intro a0 k
 unfold diff_one.f
 exact lo
instance diff_one.mI {a0 k} : LeC (diff_one.f k a0) (diff_one.f (k + 1) a0) := ⟨diff_one.mono _ _⟩
theorem diff_one.calls (k : Nat) (a0 : ByteArray) (r1 : Int) (r2 : ByteArray) (r3 : Int) (r4 : Bool) (r5 : Bool) (r6 : Int) (w : World) (hL : LD w) (h : diff_one.f k a0 = some (r1, r2, r3, r4, r5, r6)) :
 Calls Tryz.prog 40 #[.string a0] w fun e w' => e = .returned (.tuple #[.agg #[.int .i64 r1, .string r2, .int .i64 r3, .bool r4, .bool r5], .int .i64 r6]) ∧ Below w.heap.size w w' := by
 have HL0 := Aside0.mk hL
 clear hL
 have hu48 := Tryz.underlying48
 have hu45 := Tryz.underlying45
 have HB := Aside0.mk (Below.refl w.heap.size w)
 have H : ((strings_CutPrefix.f a0 (⟨#[33]⟩ : ByteArray)).bind fun bt389 => (if bt389.2 = true then ((diff_leaves.f k bt389.1).bind fun bt391 => (some (bt391.1, bt391.2.1, bt391.2.2.1, bt391.2.2.2.1, bt391.2.2.2.2.1, bt391.2.2.2.2.2))) else ((row_Parse.f k a0).bind fun bt397 => (if bt397.2 = 0 then (if (bt397.1.length : Int) = 0 then (some (0, (⟨#[]⟩ : ByteArray), 0, false, false, 2)) else (if 0 < (bt397.1.length : Int) then (some ((rd_T45 bt397.1 0).f0, (rd_T45 bt397.1 0).f1, (rd_T45 bt397.1 0).f2.f0, (rd_T45 bt397.1 0).f2.f1, false, 0)) else (none))) else (some (0, (⟨#[]⟩ : ByteArray), 0, false, false, bt397.2)))))) = some (r1, r2, r3, r4, r5, r6) := h
 clear h
 obtain ⟨⟨t389, t390⟩, A2, H⟩ := bs H
 try dsimp only at H
 by_cases c3 : t390 = true
 ·
  subst c3
  rw [if_pos rfl] at H
  obtain ⟨⟨t391, t392, t393, t394, t395, t396⟩, A4, H⟩ := bs H
  try dsimp only at H
  simp only [Option.some.injEq, Prod.mk.injEq] at H
  obtain ⟨rfl, rfl, rfl, rfl, rfl, rfl⟩ := H
  go_enter Tryz.func40, Tryz.ntmps40
  go_wp2_with (first | ((with_reducible refine gate_dst (N := 2) rfl ?_); refine bx (N := 2) #[.int .i64 0, .string (⟨#[]⟩ : ByteArray), .int .i64 0, .bool false, .bool false] 48 ?_; intro gb388 hg w5 hbox hb; have BK388 := Aside0.mk (hbox); have GW388 := gw hg (uW HB.out); have GE388 := GW388; replace HB := cW HB hb; clear hb hbox hg) | (refine gL (some 10) rfl Tryz.func57 #[.string a0, .string (⟨#[33]⟩ : ByteArray)] ?_; (with_reducible refine (strings_CutPrefix.calls a0 (⟨#[33]⟩ : ByteArray) t389 true _ A2.out).mono ?_); rintro e w' ⟨rfl, ⟨nd, rfl⟩⟩; refine ⟨_, rfl, ?_⟩; (try (rw [drewN_self w5]; generalize hq_ : World.drewN w5 _ = w5; have n0_ : Aside0 (w5.heap[gb388]? = some (.cells #[.int .i64 0, .string (⟨#[]⟩ : ByteArray), .int .i64 0, .bool false, .bool false] 48 (0, 0))) := ⟨by rw [← hq_]; exact (uB BK388.out)⟩; have n1_ : Aside0 (Below w.heap.size w w5) := ⟨by rw [← hq_]; exact bl⟩; clear BK388 HB hq_; have BK388 := n0_; have HB := n1_; clear n0_ n1_))) | (refine gL (some 15) rfl Tryz.func58 #[.string t389] ?_; (with_reducible refine (diff_leaves.calls (hL := ld) k t389 t391 t392 t393 t394 t395 t396 _ A4.out).mono ?_); rintro e w6 ⟨rfl, hb⟩; refine ⟨_, rfl, ?_⟩; replace BK388 := cB BK388 hb; replace HB := Aside0.mk (below_step bl hb); (try clear hb); obtain ⟨hcz7_0, hcz7_1, hcz7_2, hcz7_3, hcz7_4, hfz7_0, hfz7_1, hfz7_2, hfz7_3, hfz7_4⟩ := z5 BK388) | ((with_reducible refine gate_store (t := 48) (p := 2) rfl ?_); refine store_event (t := 48) (p := 2) (v := ?vo_w8) (w1 := (((((w6.setCell ⟨gb388, 0, none⟩ (.int .i64 t391)).setCell ⟨gb388, 1, none⟩ (.string t392)).setCell ⟨gb388, 2, none⟩ (.int .i64 t393)).setCell ⟨gb388, 3, none⟩ (.bool t394)).setCell ⟨gb388, 4, none⟩ (.bool t395))) ?hg ?ho ?hn ?hr ?_; (case ho => rfl); (case hg => rfl); (case hn => rfl); (case hr => first | (go_simp; done) | (go_simp; rfl)); intro w8 hw; have n0_ : Aside0 (w8.heap[gb388]? = some (.cells #[.int .i64 t391, .string t392, .int .i64 t393, .bool t394, .bool t395] 48 (0, 0))) := ⟨(by rw [hw]; exact (by (with_reducible repeat (first | refine blk_drewN ?_ _ | refine blk_drew ?_ | refine blk_alloc ?_ _)); refine blk_put (cs := #[.int .i64 t391, .string t392, .int .i64 t393, .bool t394, .bool false]) ?_ 4 _ rfl; (with_reducible repeat (first | refine blk_drewN ?_ _ | refine blk_drew ?_ | refine blk_alloc ?_ _)); refine blk_put (cs := #[.int .i64 t391, .string t392, .int .i64 t393, .bool false, .bool false]) ?_ 3 _ rfl; (with_reducible repeat (first | refine blk_drewN ?_ _ | refine blk_drew ?_ | refine blk_alloc ?_ _)); refine blk_put (cs := #[.int .i64 t391, .string t392, .int .i64 0, .bool false, .bool false]) ?_ 2 _ rfl; (with_reducible repeat (first | refine blk_drewN ?_ _ | refine blk_drew ?_ | refine blk_alloc ?_ _)); refine blk_put (cs := #[.int .i64 t391, .string (⟨#[]⟩ : ByteArray), .int .i64 0, .bool false, .bool false]) ?_ 1 _ rfl; (with_reducible repeat (first | refine blk_drewN ?_ _ | refine blk_drew ?_ | refine blk_alloc ?_ _)); refine blk_put (cs := #[.int .i64 0, .string (⟨#[]⟩ : ByteArray), .int .i64 0, .bool false, .bool false]) ?_ 0 _ rfl; exact uB <| BK388.out))⟩; have n1_ : Aside0 (Below w.heap.size w w8) := ⟨(by rw [hw]; exact bl)⟩; clear hw; clear BK388; clear HB; have BK388 := n0_; have HB := n1_; clear n0_ n1_))
  refine bodyPost_ret (results_ct rfl _ _ gb388 48 #[.int .i64 t391, .string t392, .int .i64 t393, .bool t394, .bool t395] (0, 0) _ rfl (uB BK388.out) Tryz.underlying48 rfl (by kernel_rfl)) rfl ?_
  exact ⟨re_, bl⟩
 ·
  replace c3 := Bool.eq_false_iff.mpr c3
  subst c3
  rw [if_neg (show ¬ (false = true) by decide)] at H
  obtain ⟨⟨t397, t398⟩, A9, H⟩ := bs H
  try dsimp only at H
  by_cases c10 : t398 = 0
  ·
   rw [if_pos c10] at H
   have c10b0 : (t398 == 0) = true := beq_iff_eq.mpr c10
   have c10b1 : (t398 != 0) = false := bne_eq_false_iff_eq.mpr c10
   clear c10
   by_cases c11 : (t397.length : Int) = 0
   ·
    rw [if_pos c11] at H
    have c11b0 : ((t397.length : Int) == 0) = true := beq_iff_eq.mpr c11
    have c11b1 : ((t397.length : Int) != 0) = false := bne_eq_false_iff_eq.mpr c11
    clear c11
    simp only [Option.some.injEq, Prod.mk.injEq] at H
    obtain ⟨rfl, rfl, rfl, rfl, rfl, rfl⟩ := H
    go_enter Tryz.func40, Tryz.ntmps40
    go_wp2_with (first | ((with_reducible refine gate_dst (N := 2) rfl ?_); refine bx (N := 2) #[.int .i64 0, .string (⟨#[]⟩ : ByteArray), .int .i64 0, .bool false, .bool false] 48 ?_; intro gb388 hg w12 hbox hb; have BK388 := Aside0.mk (hbox); have GW388 := gw hg (uW HB.out); have GE388 := GW388; replace HB := cW HB hb; clear hb hbox hg) | (refine gL (some 10) rfl Tryz.func57 #[.string a0, .string (⟨#[33]⟩ : ByteArray)] ?_; (with_reducible refine (strings_CutPrefix.calls a0 (⟨#[33]⟩ : ByteArray) t389 false _ A2.out).mono ?_); rintro e w' ⟨rfl, ⟨nd, rfl⟩⟩; refine ⟨_, rfl, ?_⟩; (try (rw [drewN_self w12]; generalize hq_ : World.drewN w12 _ = w12; have n0_ : Aside0 (w12.heap[gb388]? = some (.cells #[.int .i64 0, .string (⟨#[]⟩ : ByteArray), .int .i64 0, .bool false, .bool false] 48 (0, 0))) := ⟨by rw [← hq_]; exact (uB BK388.out)⟩; have n1_ : Aside0 (Below w.heap.size w w12) := ⟨by rw [← hq_]; exact bl⟩; clear BK388 HB hq_; have BK388 := n0_; have HB := n1_; clear n0_ n1_))) | (refine gL (some 20) rfl Tryz.func59 #[.string a0] ?_; (with_reducible refine (row_Parse.calls (hL := ld) k a0 t397 t398 _ A9.out).mono ?_); rintro e w13 ⟨v399, rfl, ho0, hb⟩; refine ⟨_, rfl, ?_⟩; have HO400 := Aside0.mk (Kd.R_lower ho0 (below_size bl)); replace BK388 := cB BK388 hb; replace HB := Aside0.mk (below_step bl hb); (try clear hb); (try clear ho0); obtain ⟨Ao14, co14, eo14⟩ := Kd.R_slice HO400.out; subst eo14; obtain ⟨hcz15_0, hcz15_1, hcz15_2, hcz15_3, hcz15_4, hfz15_0, hfz15_1, hfz15_2, hfz15_3, hfz15_4⟩ := z5 BK388) | ((with_reducible refine gate_store (t := 48) (p := 2) rfl ?_); refine store_event (t := 48) (p := 2) (v := ?vo_w16) (w1 := (((((w13.setCell ⟨gb388, 0, none⟩ (.int .i64 0)).setCell ⟨gb388, 1, none⟩ (.string (⟨#[]⟩ : ByteArray))).setCell ⟨gb388, 2, none⟩ (.int .i64 0)).setCell ⟨gb388, 3, none⟩ (.bool false)).setCell ⟨gb388, 4, none⟩ (.bool false))) ?hg ?ho ?hn ?hr ?_; (case ho => rfl); (case hg => rfl); (case hn => rfl); (case hr => first | (go_simp; done) | (go_simp; rfl)); intro w16 hw; have n0_ : Aside0 (Kd.R k45 45 w16 w.heap.size (fun _ => True) (.slice Ao14 t397.length co14) t397) := ⟨(by rw [hw]; exact (by exact uR <| Kd.R_mono (Kd.R_far (p := ⟨gb388, 4, none⟩) (Kd.R_far (p := ⟨gb388, 3, none⟩) (Kd.R_far (p := ⟨gb388, 2, none⟩) (Kd.R_far (p := ⟨gb388, 1, none⟩) (Kd.R_far (p := ⟨gb388, 0, none⟩) (Kd.R_types HO400.out BK388.out (by decide)) (fun _ hk => hk.2) (.int .i64 0)) (fun _ hk => hk.2) (.string (⟨#[]⟩ : ByteArray))) (fun _ hk => hk.2) (.int .i64 0)) (fun _ hk => hk.2) (.bool false)) (fun _ hk => hk.2) (.bool false)) (fun _ hk => trivial)))⟩; have n1_ : Aside0 (w16.heap[gb388]? = some (.cells #[.int .i64 0, .string (⟨#[]⟩ : ByteArray), .int .i64 0, .bool false, .bool false] 48 (0, 0))) := ⟨(by rw [hw]; exact (by (with_reducible repeat (first | refine blk_drewN ?_ _ | refine blk_drew ?_ | refine blk_alloc ?_ _)); refine blk_put (cs := #[.int .i64 0, .string (⟨#[]⟩ : ByteArray), .int .i64 0, .bool false, .bool false]) ?_ 4 _ rfl; (with_reducible repeat (first | refine blk_drewN ?_ _ | refine blk_drew ?_ | refine blk_alloc ?_ _)); refine blk_put (cs := #[.int .i64 0, .string (⟨#[]⟩ : ByteArray), .int .i64 0, .bool false, .bool false]) ?_ 3 _ rfl; (with_reducible repeat (first | refine blk_drewN ?_ _ | refine blk_drew ?_ | refine blk_alloc ?_ _)); refine blk_put (cs := #[.int .i64 0, .string (⟨#[]⟩ : ByteArray), .int .i64 0, .bool false, .bool false]) ?_ 2 _ rfl; (with_reducible repeat (first | refine blk_drewN ?_ _ | refine blk_drew ?_ | refine blk_alloc ?_ _)); refine blk_put (cs := #[.int .i64 0, .string (⟨#[]⟩ : ByteArray), .int .i64 0, .bool false, .bool false]) ?_ 1 _ rfl; (with_reducible repeat (first | refine blk_drewN ?_ _ | refine blk_drew ?_ | refine blk_alloc ?_ _)); refine blk_put (cs := #[.int .i64 0, .string (⟨#[]⟩ : ByteArray), .int .i64 0, .bool false, .bool false]) ?_ 0 _ rfl; exact uB <| BK388.out))⟩; have n2_ : Aside0 (Below w.heap.size w w16) := ⟨(by rw [hw]; exact bl)⟩; clear hw; clear HO400; clear BK388; clear HB; have HO400 := n0_; have BK388 := n1_; have HB := n2_; clear n0_ n1_ n2_))
    refine bodyPost_ret (results_ct rfl _ _ gb388 48 #[.int .i64 0, .string (⟨#[]⟩ : ByteArray), .int .i64 0, .bool false, .bool false] (0, 0) _ rfl (uB BK388.out) Tryz.underlying48 rfl (by kernel_rfl)) rfl ?_
    exact ⟨re_, bl⟩
   ·
    rw [if_neg c11] at H
    have c11b0 : ((t397.length : Int) == 0) = false := beq_eq_false_iff_ne.mpr c11
    have c11b1 : ((t397.length : Int) != 0) = true := bne_iff_ne.mpr c11
    have c11b2 : ¬ (t397 = []) := fun h_ => c11 (by rw [h_]; rfl)
    obtain ⟨c17, H⟩ := gd H
    have c17b0 : decide (0 < (t397.length : Int)) = true := decide_eq_true c17
    have c17b1 : decide (0 < t397.length) = true := decide_eq_true (by omega)
    clear c17
    simp only [Option.some.injEq, Prod.mk.injEq] at H
    obtain ⟨rfl, rfl, rfl, rfl, rfl, rfl⟩ := H
    go_enter Tryz.func40, Tryz.ntmps40
    go_wp2_with (first | ((with_reducible refine gate_dst (N := 2) rfl ?_); refine bx (N := 2) #[.int .i64 0, .string (⟨#[]⟩ : ByteArray), .int .i64 0, .bool false, .bool false] 48 ?_; intro gb388 hg w18 hbox hb; have BK388 := Aside0.mk (hbox); have GW388 := gw hg (uW HB.out); have GE388 := GW388; replace HB := cW HB hb; clear hb hbox hg) | (refine gL (some 10) rfl Tryz.func57 #[.string a0, .string (⟨#[33]⟩ : ByteArray)] ?_; (with_reducible refine (strings_CutPrefix.calls a0 (⟨#[33]⟩ : ByteArray) t389 false _ A2.out).mono ?_); rintro e w' ⟨rfl, ⟨nd, rfl⟩⟩; refine ⟨_, rfl, ?_⟩; (try (rw [drewN_self w18]; generalize hq_ : World.drewN w18 _ = w18; have n0_ : Aside0 (w18.heap[gb388]? = some (.cells #[.int .i64 0, .string (⟨#[]⟩ : ByteArray), .int .i64 0, .bool false, .bool false] 48 (0, 0))) := ⟨by rw [← hq_]; exact (uB BK388.out)⟩; have n1_ : Aside0 (Below w.heap.size w w18) := ⟨by rw [← hq_]; exact bl⟩; clear BK388 HB hq_; have BK388 := n0_; have HB := n1_; clear n0_ n1_))) | (refine gL (some 20) rfl Tryz.func59 #[.string a0] ?_; (with_reducible refine (row_Parse.calls (hL := ld) k a0 t397 t398 _ A9.out).mono ?_); rintro e w19 ⟨v399, rfl, ho0, hb⟩; refine ⟨_, rfl, ?_⟩; have HO400 := Aside0.mk (Kd.R_lower ho0 (below_size bl)); replace BK388 := cB BK388 hb; replace HB := Aside0.mk (below_step bl hb); (try clear hb); (try clear ho0); obtain ⟨Ao20, co20, eo20⟩ := Kd.R_slice HO400.out; subst eo20; have p401 : 0 ≤ (0 : Int) := (by omega); have q401 : 0 < (t397.length : Int) := od; obtain ⟨ad401, e401, hx401_0, hx401_1, hx401_2, hx401_3⟩ := at_T45 (Kd.R_reads' HO400.out).2.2 0 p401 q401; cases e401; have qi401 : (0 < t397.length) = True := eq_true (by omega); (try rw [show ((0 : Int)).toNat = 0 from rfl] at hx401_0); (try rw [show 0 * 4 = 0 from rfl] at hx401_0); (try rw [Addr.add_zero'] at hx401_0); (try rw [show ((0 : Int)).toNat = 0 from rfl] at hx401_1); (try rw [show 0 * 4 = 0 from rfl] at hx401_1); (try rw [Addr.add_zero'] at hx401_1); (try rw [show ((0 : Int)).toNat = 0 from rfl] at hx401_2); (try rw [show 0 * 4 = 0 from rfl] at hx401_2); (try rw [Addr.add_zero'] at hx401_2); (try rw [show ((0 : Int)).toNat = 0 from rfl] at hx401_3); (try rw [show 0 * 4 = 0 from rfl] at hx401_3); (try rw [Addr.add_zero'] at hx401_3); replace p401 := eq_true p401; replace q401 := eq_true q401; obtain ⟨hcz21_0, hcz21_1, hcz21_2, hcz21_3, hcz21_4, hfz21_0, hfz21_1, hfz21_2, hfz21_3, hfz21_4⟩ := z5 BK388) | ((with_reducible refine gate_store (t := 48) (p := 2) rfl ?_); refine store_event (t := 48) (p := 2) (v := ?vo_w22) (w1 := (((((w19.setCell ⟨gb388, 0, none⟩ (.int .i64 ((rd_T45 t397 0).f0))).setCell ⟨gb388, 1, none⟩ (.string ((rd_T45 t397 0).f1))).setCell ⟨gb388, 2, none⟩ (.int .i64 ((rd_T45 t397 0).f2.f0))).setCell ⟨gb388, 3, none⟩ (.bool ((rd_T45 t397 0).f2.f1))).setCell ⟨gb388, 4, none⟩ (.bool false))) ?hg ?ho ?hn ?hr ?_; (case ho => rfl); (case hg => rfl); (case hn => rfl); (case hr => first | (go_simp; done) | (go_simp; rfl)); intro w22 hw; have n0_ : Aside0 (Kd.R k45 45 w22 w.heap.size (fun _ => True) (.slice (some ad401) t397.length co20) t397) := ⟨(by rw [hw]; exact (by exact uR <| Kd.R_mono (Kd.R_far (p := ⟨gb388, 4, none⟩) (Kd.R_far (p := ⟨gb388, 3, none⟩) (Kd.R_far (p := ⟨gb388, 2, none⟩) (Kd.R_far (p := ⟨gb388, 1, none⟩) (Kd.R_far (p := ⟨gb388, 0, none⟩) (Kd.R_types HO400.out BK388.out (by decide)) (fun _ hk => hk.2) (.int .i64 ((rd_T45 t397 0).f0))) (fun _ hk => hk.2) (.string ((rd_T45 t397 0).f1))) (fun _ hk => hk.2) (.int .i64 ((rd_T45 t397 0).f2.f0))) (fun _ hk => hk.2) (.bool ((rd_T45 t397 0).f2.f1))) (fun _ hk => hk.2) (.bool false)) (fun _ hk => trivial)))⟩; have n1_ : Aside0 (w22.heap[gb388]? = some (.cells #[.int .i64 ((rd_T45 t397 0).f0), .string ((rd_T45 t397 0).f1), .int .i64 ((rd_T45 t397 0).f2.f0), .bool ((rd_T45 t397 0).f2.f1), .bool false] 48 (0, 0))) := ⟨(by rw [hw]; exact (by (with_reducible repeat (first | refine blk_drewN ?_ _ | refine blk_drew ?_ | refine blk_alloc ?_ _)); refine blk_put (cs := #[.int .i64 ((rd_T45 t397 0).f0), .string ((rd_T45 t397 0).f1), .int .i64 ((rd_T45 t397 0).f2.f0), .bool ((rd_T45 t397 0).f2.f1), .bool false]) ?_ 4 _ rfl; (with_reducible repeat (first | refine blk_drewN ?_ _ | refine blk_drew ?_ | refine blk_alloc ?_ _)); refine blk_put (cs := #[.int .i64 ((rd_T45 t397 0).f0), .string ((rd_T45 t397 0).f1), .int .i64 ((rd_T45 t397 0).f2.f0), .bool false, .bool false]) ?_ 3 _ rfl; (with_reducible repeat (first | refine blk_drewN ?_ _ | refine blk_drew ?_ | refine blk_alloc ?_ _)); refine blk_put (cs := #[.int .i64 ((rd_T45 t397 0).f0), .string ((rd_T45 t397 0).f1), .int .i64 0, .bool false, .bool false]) ?_ 2 _ rfl; (with_reducible repeat (first | refine blk_drewN ?_ _ | refine blk_drew ?_ | refine blk_alloc ?_ _)); refine blk_put (cs := #[.int .i64 ((rd_T45 t397 0).f0), .string (⟨#[]⟩ : ByteArray), .int .i64 0, .bool false, .bool false]) ?_ 1 _ rfl; (with_reducible repeat (first | refine blk_drewN ?_ _ | refine blk_drew ?_ | refine blk_alloc ?_ _)); refine blk_put (cs := #[.int .i64 0, .string (⟨#[]⟩ : ByteArray), .int .i64 0, .bool false, .bool false]) ?_ 0 _ rfl; exact uB <| BK388.out))⟩; have n2_ : Aside0 (Below w.heap.size w w22) := ⟨(by rw [hw]; exact bl)⟩; clear hw; clear HO400; clear BK388; clear HB; have HO400 := n0_; have BK388 := n1_; have HB := n2_; clear n0_ n1_ n2_))
    refine bodyPost_ret (results_ct rfl _ _ gb388 48 #[.int .i64 ((rd_T45 t397 0).f0), .string ((rd_T45 t397 0).f1), .int .i64 ((rd_T45 t397 0).f2.f0), .bool ((rd_T45 t397 0).f2.f1), .bool false] (0, 0) _ rfl (uB BK388.out) Tryz.underlying48 rfl (by kernel_rfl)) rfl ?_
    exact ⟨re_, bl⟩
  ·
   rw [if_neg c10] at H
   have c10b0 : (t398 == 0) = false := beq_eq_false_iff_ne.mpr c10
   have c10b1 : (t398 != 0) = true := bne_iff_ne.mpr c10
   simp only [Option.some.injEq, Prod.mk.injEq] at H
   obtain ⟨rfl, rfl, rfl, rfl, rfl, rfl⟩ := H
   go_enter Tryz.func40, Tryz.ntmps40
   go_wp2_with (first | ((with_reducible refine gate_dst (N := 2) rfl ?_); refine bx (N := 2) #[.int .i64 0, .string (⟨#[]⟩ : ByteArray), .int .i64 0, .bool false, .bool false] 48 ?_; intro gb388 hg w23 hbox hb; have BK388 := Aside0.mk (hbox); have GW388 := gw hg (uW HB.out); have GE388 := GW388; replace HB := cW HB hb; clear hb hbox hg) | (refine gL (some 10) rfl Tryz.func57 #[.string a0, .string (⟨#[33]⟩ : ByteArray)] ?_; (with_reducible refine (strings_CutPrefix.calls a0 (⟨#[33]⟩ : ByteArray) t389 false _ A2.out).mono ?_); rintro e w' ⟨rfl, ⟨nd, rfl⟩⟩; refine ⟨_, rfl, ?_⟩; (try (rw [drewN_self w23]; generalize hq_ : World.drewN w23 _ = w23; have n0_ : Aside0 (w23.heap[gb388]? = some (.cells #[.int .i64 0, .string (⟨#[]⟩ : ByteArray), .int .i64 0, .bool false, .bool false] 48 (0, 0))) := ⟨by rw [← hq_]; exact (uB BK388.out)⟩; have n1_ : Aside0 (Below w.heap.size w w23) := ⟨by rw [← hq_]; exact bl⟩; clear BK388 HB hq_; have BK388 := n0_; have HB := n1_; clear n0_ n1_))) | (refine gL (some 20) rfl Tryz.func59 #[.string a0] ?_; (with_reducible refine (row_Parse.calls (hL := ld) k a0 t397 t398 _ A9.out).mono ?_); rintro e w24 ⟨v399, rfl, ho0, hb⟩; refine ⟨_, rfl, ?_⟩; have HO400 := Aside0.mk (Kd.R_lower ho0 (below_size bl)); replace BK388 := cB BK388 hb; replace HB := Aside0.mk (below_step bl hb); (try clear hb); (try clear ho0); obtain ⟨hcz25_0, hcz25_1, hcz25_2, hcz25_3, hcz25_4, hfz25_0, hfz25_1, hfz25_2, hfz25_3, hfz25_4⟩ := z5 BK388) | ((with_reducible refine gate_store (t := 48) (p := 2) rfl ?_); refine store_event (t := 48) (p := 2) (v := ?vo_w26) (w1 := (((((w24.setCell ⟨gb388, 0, none⟩ (.int .i64 0)).setCell ⟨gb388, 1, none⟩ (.string (⟨#[]⟩ : ByteArray))).setCell ⟨gb388, 2, none⟩ (.int .i64 0)).setCell ⟨gb388, 3, none⟩ (.bool false)).setCell ⟨gb388, 4, none⟩ (.bool false))) ?hg ?ho ?hn ?hr ?_; (case ho => rfl); (case hg => rfl); (case hn => rfl); (case hr => first | (go_simp; done) | (go_simp; rfl)); intro w26 hw; have n0_ : Aside0 (Kd.R k45 45 w26 w.heap.size (fun _ => True) v399 t397) := ⟨(by rw [hw]; exact (by exact uR <| Kd.R_mono (Kd.R_far (p := ⟨gb388, 4, none⟩) (Kd.R_far (p := ⟨gb388, 3, none⟩) (Kd.R_far (p := ⟨gb388, 2, none⟩) (Kd.R_far (p := ⟨gb388, 1, none⟩) (Kd.R_far (p := ⟨gb388, 0, none⟩) (Kd.R_types HO400.out BK388.out (by decide)) (fun _ hk => hk.2) (.int .i64 0)) (fun _ hk => hk.2) (.string (⟨#[]⟩ : ByteArray))) (fun _ hk => hk.2) (.int .i64 0)) (fun _ hk => hk.2) (.bool false)) (fun _ hk => hk.2) (.bool false)) (fun _ hk => trivial)))⟩; have n1_ : Aside0 (w26.heap[gb388]? = some (.cells #[.int .i64 0, .string (⟨#[]⟩ : ByteArray), .int .i64 0, .bool false, .bool false] 48 (0, 0))) := ⟨(by rw [hw]; exact (by (with_reducible repeat (first | refine blk_drewN ?_ _ | refine blk_drew ?_ | refine blk_alloc ?_ _)); refine blk_put (cs := #[.int .i64 0, .string (⟨#[]⟩ : ByteArray), .int .i64 0, .bool false, .bool false]) ?_ 4 _ rfl; (with_reducible repeat (first | refine blk_drewN ?_ _ | refine blk_drew ?_ | refine blk_alloc ?_ _)); refine blk_put (cs := #[.int .i64 0, .string (⟨#[]⟩ : ByteArray), .int .i64 0, .bool false, .bool false]) ?_ 3 _ rfl; (with_reducible repeat (first | refine blk_drewN ?_ _ | refine blk_drew ?_ | refine blk_alloc ?_ _)); refine blk_put (cs := #[.int .i64 0, .string (⟨#[]⟩ : ByteArray), .int .i64 0, .bool false, .bool false]) ?_ 2 _ rfl; (with_reducible repeat (first | refine blk_drewN ?_ _ | refine blk_drew ?_ | refine blk_alloc ?_ _)); refine blk_put (cs := #[.int .i64 0, .string (⟨#[]⟩ : ByteArray), .int .i64 0, .bool false, .bool false]) ?_ 1 _ rfl; (with_reducible repeat (first | refine blk_drewN ?_ _ | refine blk_drew ?_ | refine blk_alloc ?_ _)); refine blk_put (cs := #[.int .i64 0, .string (⟨#[]⟩ : ByteArray), .int .i64 0, .bool false, .bool false]) ?_ 0 _ rfl; exact uB <| BK388.out))⟩; have n2_ : Aside0 (Below w.heap.size w w26) := ⟨(by rw [hw]; exact bl)⟩; clear hw; clear HO400; clear BK388; clear HB; have HO400 := n0_; have BK388 := n1_; have HB := n2_; clear n0_ n1_ n2_))
   refine bodyPost_ret (results_ct rfl _ _ gb388 48 #[.int .i64 0, .string (⟨#[]⟩ : ByteArray), .int .i64 0, .bool false, .bool false] (0, 0) _ rfl (uB BK388.out) Tryz.underlying48 rfl (by kernel_rfl)) rfl ?_
   exact ⟨re_, bl⟩
def diff_Parse.l0 : Nat → List (S48) → List ByteArray → Int → Int → Option ((List (S48)) × Int)
 | 0, _, _, _, _ => none
 | k + 1, x2, x11, x12, x13 => if x13 < x12 then (if 0 ≤ x13 then (if x13 < (x11.length : Int) then ((diff_one.f k (rdOf ByteArray.empty x11 x13)).bind fun bt406 => (if bt406.2.2.2.2.2 = 0 then (if x2.length < 2932031007402 then (diff_Parse.l0 k (x2 ++ [(⟨(⟨bt406.1, bt406.2.1, (⟨bt406.2.2.1, bt406.2.2.2.1⟩ : S43)⟩ : S45), bt406.2.2.2.2.1⟩ : S48)]) x11 x12 (wrap64 (x13 + 1))) else (none)) else (some (([] : List (S48)), bt406.2.2.2.2.2)))) else (none)) else (none)) else ((diff_right.f k x2).bind fun t416 => (if t416 = true then (some (x2, 0)) else (some (([] : List (S48)), 9))))
def diff_Parse.f (k : Nat) (a0 : ByteArray) : Option ((List (S48)) × Int) := if a0.toList = ([45] : List UInt8) then (some (([] : List (S48)), 0)) else ((word_Split.f k a0 59).bind fun t402 => (diff_Parse.l0 k ([] : List (S48)) t402 (t402.length : Int) 0))
theorem diff_Parse.mono_l : ∀ k, (∀ y0 y1 y2 y3, LeC (diff_Parse.l0 k y0 y1 y2 y3) (diff_Parse.l0 (k + 1) y0 y1 y2 y3))
 | 0 => fun _ _ _ _ => ⟨fun r h => by simp [diff_Parse.l0] at h⟩
 | k + 1 => by have ih0 := diff_Parse.mono_l k; exact fun _ _ _ _ => by unfold diff_Parse.l0; exact lm
theorem diff_Parse.mono : ∀ a0 k, LeO (diff_Parse.f k a0) (diff_Parse.f (k + 1) a0) := by
 intro a0 k
 have ih0 := diff_Parse.mono_l k
 unfold diff_Parse.f
 exact lo
instance diff_Parse.mI {a0 k} : LeC (diff_Parse.f k a0) (diff_Parse.f (k + 1) a0) := ⟨diff_Parse.mono _ _⟩
theorem diff_Parse.calls (k : Nat) (a0 : ByteArray) (r1 : List (S48)) (r2 : Int) (w : World) (hL : LD w) (h : diff_Parse.f k a0 = some (r1, r2)) :
 Calls Tryz.prog 20 #[.string a0] w fun e w' => ∃ v0_ : Value, e = .returned (.tuple #[v0_, .int .i64 r2]) ∧ Kd.R k48 48 w' w.heap.size (fun _ => True) v0_ r1 ∧ Below w.heap.size w w' := by
 have HL0 := Aside0.mk hL
 clear hL
 have hu48 := Tryz.underlying48
 have HB := Aside0.mk (Below.refl w.heap.size w)
 have H : (if a0.toList = ([45] : List UInt8) then (some (([] : List (S48)), 0)) else ((word_Split.f k a0 59).bind fun t402 => (diff_Parse.l0 k ([] : List (S48)) t402 (t402.length : Int) 0))) = some (r1, r2) := h
 clear h
 by_cases c2 : a0.toList = ([45] : List UInt8)
 ·
  rw [if_pos c2] at H
  have c2b0 : (a0.toList == ([45] : List UInt8)) = true := beq_iff_eq.mpr c2
  have c2b1 : (a0.toList != ([45] : List UInt8)) = false := bne_eq_false_iff_eq.mpr c2
  clear c2
  simp only [Option.some.injEq, Prod.mk.injEq] at H
  obtain ⟨rfl, rfl⟩ := H
  go_enter Tryz.func20, Tryz.ntmps20
  go_wp2
  go_ret2
  exact ⟨_, re_, nl_, uW HB.out⟩
 ·
  rw [if_neg c2] at H
  have c2b0 : (a0.toList == ([45] : List UInt8)) = false := beq_eq_false_iff_ne.mpr c2
  have c2b1 : (a0.toList != ([45] : List UInt8)) = true := bne_iff_ne.mpr c2
  obtain ⟨t402, A3, H⟩ := bs H
  try dsimp only at H
  have H' := Aside0.mk H
  clear H
  go_enter Tryz.func20, Tryz.ntmps20
  go_wp2_with (first | (refine gL (some 11) rfl Tryz.func39 #[.string a0, .int .u8 59] ?_; (with_reducible refine (word_Split.calls k a0 59 t402 _ A3.out).mono ?_); rintro e w4 ⟨v403, rfl, ho0, hb⟩; refine ⟨_, rfl, ?_⟩; have HO404 := Aside0.mk (Kd.R_lower ho0 (below_size (uW HB.out))); replace HB := cW HB hb; (try clear hb); (try clear ho0); obtain ⟨Ao5, co5, eo5⟩ := Kd.R_slice HO404.out; subst eo5))
  (try simp only [Act.put, List.setIfInBounds_toArray, List.set_cons_zero, List.set_cons_succ])
  go_loopg [2, 13] k (fun kq v2 v13 w' => ∃ (x2_1 : List (S48)) (x13_1 : Int), v13 = .int .i64 x13_1 ∧ Aside0 (diff_Parse.l0 kq x2_1 t402 (t402.length : Int) x13_1 = some (r1, r2)) ∧ Aside0 (kq ≤ k) ∧ Aside0 (Kd.R k48 48 w' w.heap.size (fun _ => True) v2 x2_1) ∧ Aside0 (Kd.R Kd.string 9 w' w.heap.size (fun _ => True) (.slice Ao5 t402.length co5) t402) ∧ Aside0 (Below w.heap.size w w'))
  case atStart => exact ⟨(([] : List (S48))), (0), rs_, H', ⟨Nat.le_refl _⟩, ⟨nl_⟩, ⟨uR HO404.out⟩, ⟨uW HB.out⟩⟩
  case round =>
   clear H'
   try clear c2
   try clear c2b0
   try clear c2b1
   try clear p2
   try clear c3
   obtain ⟨x2_1, x13_1, rfl, HA, HK1, HO_2, HO_11, HB⟩ := hrel
   cases gk with
   | zero => exact absurd HA.out (by simp [diff_Parse.l0])
   | succ k1 =>
    have H := HA.out
    clear HA
    simp only [diff_Parse.l0] at H
    by_cases c6 : x13_1 < (t402.length : Int)
    ·
     rw [if_pos c6] at H
     have c6b0 : decide (x13_1 < (t402.length : Int)) = true := decide_eq_true c6
     clear c6
     obtain ⟨c7b0, H⟩ := gdd H
     obtain ⟨c8b0, H⟩ := gdd H
     obtain ⟨⟨t406, t407, t408, t409, t410, t411⟩, A9, H⟩ := bs H
     try dsimp only at H
     by_cases c10 : t411 = 0
     ·
      rw [if_pos c10] at H
      have c10b0 : (t411 == 0) = true := beq_iff_eq.mpr c10
      have c10b1 : (t411 != 0) = false := bne_eq_false_iff_eq.mpr c10
      clear c10
      obtain ⟨c11, H⟩ := gd H
      have LMc11 := Aside0.mk c11
      clear c11
      obtain ⟨y413, hy413⟩ : ∃ y_ : List (S48), y_ = (x2_1 ++ [(⟨(⟨t406, t407, (⟨t408, t409⟩ : S43)⟩ : S45), t410⟩ : S48)]) := ⟨_, rfl⟩
      replace H : (diff_Parse.l0 k1 y413 t402 (t402.length : Int) (wrap64 (x13_1 + 1))) = some (r1, r2) := by first | (rw [hy413]; with_reducible exact H) | (have H2_ := (Option.bind_some _ _).symm.trans H; rw [hy413]; with_reducible exact H2_) | (have H2_ := (Option.bind_some _ _).symm.trans H; with_reducible exact H2_) | with_reducible exact H | (rw [hy413]; exact H) | exact H
      have Ny413 := Aside0.mk hy413
      clear hy413
      have H' := Aside0.mk H
      clear H
      have p405 : 0 ≤ (x13_1 : Int) := od
      have q405 : x13_1 < (t402.length : Int) := od
      obtain ⟨ad405, e405, hx405_0⟩ := Kd.at_string (Kd.R_reads' HO_11.out).2.2 x13_1 p405 q405
      cases e405
      replace p405 := eq_true p405
      replace q405 := eq_true q405
      go_wp2_with (first | (refine gL (some 19) rfl Tryz.func40 #[.string (rdOf ByteArray.empty t402 x13_1)] ?_; (with_reducible refine (diff_one.calls (hL := ld) k1 (rdOf ByteArray.empty t402 x13_1) t406 t407 t408 t409 t410 t411 _ A9.out).mono ?_); rintro e w12 ⟨rfl, hb⟩; refine ⟨_, rfl, ?_⟩; replace HO_2 := cR HO_2 hb; replace HO_11 := cR HO_11 hb; replace HB := cW HB hb; (try clear hb)) | ((with_reducible refine gate_dst (N := 6) rfl ?_); refine bx (N := 6) #[.int .i64 0, .string (⟨#[]⟩ : ByteArray), .int .i64 0, .bool false, .bool false] 48 ?_; intro gb412 hg w13 hbox hb; replace HO_2 := Aside0.mk (Kd.R_below (Kd.R_elderB (uR HO_2.out) gb412 (Nat.le_of_eq hg.symm)) hb); replace HO_11 := cR HO_11 hb; have BK412 := Aside0.mk (hbox); have GW412 := gw hg (uW HB.out); have GE412 := GW412; replace HB := cW HB hb; clear hb hbox hg; obtain ⟨hcz14_0, hcz14_1, hcz14_2, hcz14_3, hcz14_4, hfz14_0, hfz14_1, hfz14_2, hfz14_3, hfz14_4⟩ := z5 BK412) | ((with_reducible refine gate_store (t := 48) (p := 6) rfl ?_); refine store_event (t := 48) (p := 6) (v := ?vo_w15) (w1 := (((((w13.setCell ⟨gb412, 0, none⟩ (.int .i64 t406)).setCell ⟨gb412, 1, none⟩ (.string t407)).setCell ⟨gb412, 2, none⟩ (.int .i64 t408)).setCell ⟨gb412, 3, none⟩ (.bool t409)).setCell ⟨gb412, 4, none⟩ (.bool t410))) ?hg ?ho ?hn ?hr ?_; (case ho => rfl); (case hg => rfl); (case hn => rfl); (case hr => first | (go_simp; done) | (go_simp; rfl)); intro w15 hw; have n0_ : Aside0 (Kd.R k48 48 w15 w.heap.size (fun k_ => k_ ≠ gb412) u2 x2_1) := ⟨(by rw [hw]; exact (by exact uR <| Kd.R_mono (Kd.R_far (p := ⟨gb412, 4, none⟩) (Kd.R_far (p := ⟨gb412, 3, none⟩) (Kd.R_far (p := ⟨gb412, 2, none⟩) (Kd.R_far (p := ⟨gb412, 1, none⟩) (Kd.R_far (p := ⟨gb412, 0, none⟩) (Kd.R_mono HO_2.out (fun k_ hk => (⟨hk, hk.2⟩ : _ ∧ k_ ≠ gb412))) (fun _ hk => hk.2) (.int .i64 t406)) (fun _ hk => hk.2) (.string t407)) (fun _ hk => hk.2) (.int .i64 t408)) (fun _ hk => hk.2) (.bool t409)) (fun _ hk => hk.2) (.bool t410)) (fun _ hk => hk.1.2)))⟩; have n1_ : Aside0 (Kd.R Kd.string 9 w15 w.heap.size (fun _ => True) (.slice (some ad405) t402.length co5) t402) := ⟨(by rw [hw]; exact (by exact uR <| Kd.R_mono (Kd.R_far (p := ⟨gb412, 4, none⟩) (Kd.R_far (p := ⟨gb412, 3, none⟩) (Kd.R_far (p := ⟨gb412, 2, none⟩) (Kd.R_far (p := ⟨gb412, 1, none⟩) (Kd.R_far (p := ⟨gb412, 0, none⟩) (Kd.R_types HO_11.out BK412.out (by decide)) (fun _ hk => hk.2) (.int .i64 t406)) (fun _ hk => hk.2) (.string t407)) (fun _ hk => hk.2) (.int .i64 t408)) (fun _ hk => hk.2) (.bool t409)) (fun _ hk => hk.2) (.bool t410)) (fun _ hk => trivial)))⟩; have n2_ : Aside0 (w15.heap[gb412]? = some (.cells #[.int .i64 t406, .string t407, .int .i64 t408, .bool t409, .bool t410] 48 (0, 0))) := ⟨(by rw [hw]; exact (by (with_reducible repeat (first | refine blk_drewN ?_ _ | refine blk_drew ?_ | refine blk_alloc ?_ _)); refine blk_put (cs := #[.int .i64 t406, .string t407, .int .i64 t408, .bool t409, .bool false]) ?_ 4 _ rfl; (with_reducible repeat (first | refine blk_drewN ?_ _ | refine blk_drew ?_ | refine blk_alloc ?_ _)); refine blk_put (cs := #[.int .i64 t406, .string t407, .int .i64 t408, .bool false, .bool false]) ?_ 3 _ rfl; (with_reducible repeat (first | refine blk_drewN ?_ _ | refine blk_drew ?_ | refine blk_alloc ?_ _)); refine blk_put (cs := #[.int .i64 t406, .string t407, .int .i64 0, .bool false, .bool false]) ?_ 2 _ rfl; (with_reducible repeat (first | refine blk_drewN ?_ _ | refine blk_drew ?_ | refine blk_alloc ?_ _)); refine blk_put (cs := #[.int .i64 t406, .string (⟨#[]⟩ : ByteArray), .int .i64 0, .bool false, .bool false]) ?_ 1 _ rfl; (with_reducible repeat (first | refine blk_drewN ?_ _ | refine blk_drew ?_ | refine blk_alloc ?_ _)); refine blk_put (cs := #[.int .i64 0, .string (⟨#[]⟩ : ByteArray), .int .i64 0, .bool false, .bool false]) ?_ 0 _ rfl; exact uB <| BK412.out))⟩; have n3_ : Aside0 (Below w.heap.size w w15) := ⟨(by rw [hw]; exact bl)⟩; clear hw; clear HO_2; clear HO_11; clear BK412; clear HB; have HO_2 := n0_; have HO_11 := n1_; have BK412 := n2_; have HB := n3_; clear n0_ n1_ n2_ n3_; obtain ⟨hcz16_0, hcz16_1, hcz16_2, hcz16_3, hcz16_4, hfz16_0, hfz16_1, hfz16_2, hfz16_3, hfz16_4⟩ := z5 BK412) | ((with_reducible refine gate_builtin (b := .append) (xs := #[.tmp 25, .tmp 27]) rfl ?_); at_builtin; refine Kd.R_append k48 (w0 := w) w.heap.size rfl (.tmp 25) (.tmp 27) 25 48 (.agg #[(.int .i64 0), (.string ⟨#[]⟩), (.int .i64 0), (.bool false), (.bool false)]) 48 rfl Tryz.underlying25 info48 rfl (by decide) (by omega) u2 x2_1 (⟨(⟨t406, t407, (⟨t408, t409⟩ : S43)⟩ : S45), t410⟩ : S48) [.int .i64 t406, .string t407, .int .i64 t408, .bool t409, .bool t410] (fun k_ => k_ ≠ gb412) (fun _ => False) rfl rfl ?aP (fun _ hk => hk.elim) ?aF ?aO ?aB ?aS ?aL ?_; (case aP => exact k48_mkM _ _ _ (⟨(⟨t406, t407, (⟨t408, t409⟩ : S43)⟩ : S45), t410⟩ : S48)); (case aB => exact bl); (case aF => exact (fun k_ hk => Kd.freshB (g := gb412) (o := .cells #[.int .i64 t406, .string t407, .int .i64 t408, .bool t409, .bool t410] 48 (0, 0)) (uB BK412.out) k_ hk)); (case aO => exact (uR HO_2.out)); (case aS => exact (below_size bl)); (case aL => have := LMc11.out; omega); intro v414 w17 ho hb hg hat; rw [← Ny413.out] at ho; replace HO_11 := Aside0.mk (Kd.R_over' (uR HO_11.out) (Kd.R_typed (uR HO_2.out)) (by decide) hg); replace BK412 := Aside0.mk (blk_grown (g := gb412) (o := .cells #[.int .i64 t406, .string t407, .int .i64 t408, .bool t409, .bool t410] 48 (0, 0)) (uB BK412.out) hg (Kd.R_away HO_2.out (fun _ hk => hk))); replace HB := Aside0.mk (hb); have HO415 := Aside0.mk (ho); clear HO_2; clear ho hb hg hat))
      go_roundg k1
      case measure => have := HK1.out; omega
      case rel => exact ⟨(y413), (wrap64 (x13_1 + 1)), rs_, H', ⟨by have := HK1.out; omega⟩, ⟨by exact uR <| Kd.R_mono HO415.out (fun _ hk => trivial)⟩, ⟨uR HO_11.out⟩, ⟨bl⟩⟩
     ·
      rw [if_neg c10] at H
      have c10b0 : (t411 == 0) = false := beq_eq_false_iff_ne.mpr c10
      have c10b1 : (t411 != 0) = true := bne_iff_ne.mpr c10
      simp only [Option.some.injEq, Prod.mk.injEq] at H
      obtain ⟨rfl, rfl⟩ := H
      have p405 : 0 ≤ (x13_1 : Int) := od
      have q405 : x13_1 < (t402.length : Int) := od
      obtain ⟨ad405, e405, hx405_0⟩ := Kd.at_string (Kd.R_reads' HO_11.out).2.2 x13_1 p405 q405
      cases e405
      replace p405 := eq_true p405
      replace q405 := eq_true q405
      go_wp2_with (first | (refine gL (some 19) rfl Tryz.func40 #[.string (rdOf ByteArray.empty t402 x13_1)] ?_; (with_reducible refine (diff_one.calls (hL := ld) k1 (rdOf ByteArray.empty t402 x13_1) t406 t407 t408 t409 t410 t411 _ A9.out).mono ?_); rintro e w18 ⟨rfl, hb⟩; refine ⟨_, rfl, ?_⟩; replace HO_2 := cR HO_2 hb; replace HO_11 := cR HO_11 hb; replace HB := cW HB hb; (try clear hb)) | ((with_reducible refine gate_dst (N := 6) rfl ?_); refine bx (N := 6) #[.int .i64 0, .string (⟨#[]⟩ : ByteArray), .int .i64 0, .bool false, .bool false] 48 ?_; intro gb412 hg w19 hbox hb; replace HO_2 := Aside0.mk (Kd.R_below (Kd.R_elderB (uR HO_2.out) gb412 (Nat.le_of_eq hg.symm)) hb); replace HO_11 := cR HO_11 hb; have BK412 := Aside0.mk (hbox); have GW412 := gw hg (uW HB.out); have GE412 := GW412; replace HB := cW HB hb; clear hb hbox hg; obtain ⟨hcz20_0, hcz20_1, hcz20_2, hcz20_3, hcz20_4, hfz20_0, hfz20_1, hfz20_2, hfz20_3, hfz20_4⟩ := z5 BK412) | ((with_reducible refine gate_store (t := 48) (p := 6) rfl ?_); refine store_event (t := 48) (p := 6) (v := ?vo_w21) (w1 := (((((w19.setCell ⟨gb412, 0, none⟩ (.int .i64 t406)).setCell ⟨gb412, 1, none⟩ (.string t407)).setCell ⟨gb412, 2, none⟩ (.int .i64 t408)).setCell ⟨gb412, 3, none⟩ (.bool t409)).setCell ⟨gb412, 4, none⟩ (.bool t410))) ?hg ?ho ?hn ?hr ?_; (case ho => rfl); (case hg => rfl); (case hn => rfl); (case hr => first | (go_simp; done) | (go_simp; rfl)); intro w21 hw; have n0_ : Aside0 (Kd.R k48 48 w21 w.heap.size (fun k_ => k_ ≠ gb412) u2 x2_1) := ⟨(by rw [hw]; exact (by exact uR <| Kd.R_mono (Kd.R_far (p := ⟨gb412, 4, none⟩) (Kd.R_far (p := ⟨gb412, 3, none⟩) (Kd.R_far (p := ⟨gb412, 2, none⟩) (Kd.R_far (p := ⟨gb412, 1, none⟩) (Kd.R_far (p := ⟨gb412, 0, none⟩) (Kd.R_mono HO_2.out (fun k_ hk => (⟨hk, hk.2⟩ : _ ∧ k_ ≠ gb412))) (fun _ hk => hk.2) (.int .i64 t406)) (fun _ hk => hk.2) (.string t407)) (fun _ hk => hk.2) (.int .i64 t408)) (fun _ hk => hk.2) (.bool t409)) (fun _ hk => hk.2) (.bool t410)) (fun _ hk => hk.1.2)))⟩; have n1_ : Aside0 (Kd.R Kd.string 9 w21 w.heap.size (fun _ => True) (.slice (some ad405) t402.length co5) t402) := ⟨(by rw [hw]; exact (by exact uR <| Kd.R_mono (Kd.R_far (p := ⟨gb412, 4, none⟩) (Kd.R_far (p := ⟨gb412, 3, none⟩) (Kd.R_far (p := ⟨gb412, 2, none⟩) (Kd.R_far (p := ⟨gb412, 1, none⟩) (Kd.R_far (p := ⟨gb412, 0, none⟩) (Kd.R_types HO_11.out BK412.out (by decide)) (fun _ hk => hk.2) (.int .i64 t406)) (fun _ hk => hk.2) (.string t407)) (fun _ hk => hk.2) (.int .i64 t408)) (fun _ hk => hk.2) (.bool t409)) (fun _ hk => hk.2) (.bool t410)) (fun _ hk => trivial)))⟩; have n2_ : Aside0 (w21.heap[gb412]? = some (.cells #[.int .i64 t406, .string t407, .int .i64 t408, .bool t409, .bool t410] 48 (0, 0))) := ⟨(by rw [hw]; exact (by (with_reducible repeat (first | refine blk_drewN ?_ _ | refine blk_drew ?_ | refine blk_alloc ?_ _)); refine blk_put (cs := #[.int .i64 t406, .string t407, .int .i64 t408, .bool t409, .bool false]) ?_ 4 _ rfl; (with_reducible repeat (first | refine blk_drewN ?_ _ | refine blk_drew ?_ | refine blk_alloc ?_ _)); refine blk_put (cs := #[.int .i64 t406, .string t407, .int .i64 t408, .bool false, .bool false]) ?_ 3 _ rfl; (with_reducible repeat (first | refine blk_drewN ?_ _ | refine blk_drew ?_ | refine blk_alloc ?_ _)); refine blk_put (cs := #[.int .i64 t406, .string t407, .int .i64 0, .bool false, .bool false]) ?_ 2 _ rfl; (with_reducible repeat (first | refine blk_drewN ?_ _ | refine blk_drew ?_ | refine blk_alloc ?_ _)); refine blk_put (cs := #[.int .i64 t406, .string (⟨#[]⟩ : ByteArray), .int .i64 0, .bool false, .bool false]) ?_ 1 _ rfl; (with_reducible repeat (first | refine blk_drewN ?_ _ | refine blk_drew ?_ | refine blk_alloc ?_ _)); refine blk_put (cs := #[.int .i64 0, .string (⟨#[]⟩ : ByteArray), .int .i64 0, .bool false, .bool false]) ?_ 0 _ rfl; exact uB <| BK412.out))⟩; have n3_ : Aside0 (Below w.heap.size w w21) := ⟨(by rw [hw]; exact bl)⟩; clear hw; clear HO_2; clear HO_11; clear BK412; clear HB; have HO_2 := n0_; have HO_11 := n1_; have BK412 := n2_; have HB := n3_; clear n0_ n1_ n2_ n3_))
      go_ret2
      exact ⟨_, re_, nl_, bl⟩
    ·
     rw [if_neg c6] at H
     have c6b0 : decide (x13_1 < (t402.length : Int)) = false := decide_eq_false c6
     clear c6
     obtain ⟨t416, A22, H⟩ := bs H
     try dsimp only at H
     by_cases c23 : t416 = true
     ·
      subst c23
      rw [if_pos rfl] at H
      simp only [Option.some.injEq, Prod.mk.injEq] at H
      obtain ⟨rfl, rfl⟩ := H
      obtain ⟨Ao24, co24, eo24⟩ := Kd.R_slice HO_2.out
      subst eo24
      go_wp2_with (first | (refine gL (some 31) rfl Tryz.func36 #[.slice Ao24 x2_1.length co24] ?_; (with_reducible refine (diff_right.calls (hL := ld) k1 _ _ x2_1 true _ ?side1 ?side2 A22.out).mono ?_); (case side1 => exact uC <| (Kd.R_reads' HO_2.out).2.2); (case side2 => exact (Kd.R_reads' HO_2.out).2.1); rintro e w25 ⟨rfl, hb⟩; refine ⟨_, rfl, ?_⟩; replace HO_2 := cR HO_2 hb; replace HO_11 := cR HO_11 hb; replace HB := cW HB hb; (try clear hb)))
      go_ret2
      exact ⟨_, re_, uR HO_2.out, uW HB.out⟩
     ·
      replace c23 := Bool.eq_false_iff.mpr c23
      subst c23
      rw [if_neg (show ¬ (false = true) by decide)] at H
      simp only [Option.some.injEq, Prod.mk.injEq] at H
      obtain ⟨rfl, rfl⟩ := H
      obtain ⟨Ao26, co26, eo26⟩ := Kd.R_slice HO_2.out
      subst eo26
      go_wp2_with (first | (refine gL (some 31) rfl Tryz.func36 #[.slice Ao26 x2_1.length co26] ?_; (with_reducible refine (diff_right.calls (hL := ld) k1 _ _ x2_1 false _ ?side1 ?side2 A22.out).mono ?_); (case side1 => exact uC <| (Kd.R_reads' HO_2.out).2.2); (case side2 => exact (Kd.R_reads' HO_2.out).2.1); rintro e w27 ⟨rfl, hb⟩; refine ⟨_, rfl, ?_⟩; replace HO_2 := cR HO_2 hb; replace HO_11 := cR HO_11 hb; replace HB := cW HB hb; (try clear hb)))
      go_ret2
      exact ⟨_, re_, nl_, uW HB.out⟩
def r02_Split.l0 : Nat → ByteArray → Int → List ByteArray → Int → Int → Option (List ByteArray)
 | 0, _, _, _, _, _ => none
 | k + 1, x0, x1, x5, x6, x7 => if x7 < (x0.size : Int) then (if 0 ≤ x7 then (if (bt x0 x7) = x1 then (if 0 ≤ x6 then (if x6 ≤ x7 then (if x7 ≤ (x0.size : Int) then (if x5.length < 8796093022208 then (r02_Split.l0 k x0 x1 (x5 ++ [x0.extract (x6 : Int).toNat (x7 : Int).toNat]) (wrap64 (x7 + 1)) (wrap64 (x7 + 1))) else (none)) else (none)) else (none)) else (none)) else (r02_Split.l0 k x0 x1 x5 x6 (wrap64 (x7 + 1)))) else (none)) else (if 0 ≤ x6 then (if x6 ≤ (x0.size : Int) then (if x5.length < 8796093022208 then (some (x5 ++ [x0.extract (x6 : Int).toNat x0.size])) else (none)) else (none)) else (none))
def r02_Split.f (k : Nat) (a0 : ByteArray) (a1 : Int) : Option (List ByteArray) := r02_Split.l0 k a0 a1 ([] : List ByteArray) 0 0
theorem r02_Split.mono_l : ∀ k, (∀ y0 y1 y2 y3 y4, LeC (r02_Split.l0 k y0 y1 y2 y3 y4) (r02_Split.l0 (k + 1) y0 y1 y2 y3 y4))
 | 0 => fun _ _ _ _ _ => ⟨fun r h => by simp [r02_Split.l0] at h⟩
 | k + 1 => by have ih0 := r02_Split.mono_l k; exact fun _ _ _ _ _ => by unfold r02_Split.l0; exact lm
theorem r02_Split.mono : ∀ a0 a1 k, LeO (r02_Split.f k a0 a1) (r02_Split.f (k + 1) a0 a1) := by
 intro a0 a1 k
 have ih0 := r02_Split.mono_l k
 unfold r02_Split.f
 exact lo
instance r02_Split.mI {a0 a1 k} : LeC (r02_Split.f k a0 a1) (r02_Split.f (k + 1) a0 a1) := ⟨r02_Split.mono _ _ _⟩
theorem r02_Split.calls (k : Nat) (a0 : ByteArray) (a1 : Int) (r : List ByteArray) (w : World) (h : r02_Split.f k a0 a1 = some r) :
 Calls Tryz.prog 41 #[.string a0, .int .u8 a1] w fun e w' => ∃ v0_ : Value, e = .returned (v0_) ∧ Kd.R Kd.string 9 w' w.heap.size (fun _ => True) v0_ r ∧ Below w.heap.size w w' := by
 have HB := Aside0.mk (Below.refl w.heap.size w)
 have H : (r02_Split.l0 k a0 a1 ([] : List ByteArray) 0 0) = some r := h
 clear h
 have H' := Aside0.mk H
 clear H
 go_enter Tryz.func41, Tryz.ntmps41
 go_wp2
 go_loopg [5, 6, 7] k (fun kq v5 v6 v7 w' => ∃ (x5_1 : List ByteArray) (x6_1 : Int) (x7_1 : Int), v6 = .int .i64 x6_1 ∧ v7 = .int .i64 x7_1 ∧ Aside0 (r02_Split.l0 kq a0 a1 x5_1 x6_1 x7_1 = some r) ∧ Aside0 (kq ≤ k) ∧ Aside0 (Kd.R Kd.string 9 w' w.heap.size (fun _ => True) v5 x5_1) ∧ Aside0 (Below w.heap.size w w'))
 case atStart => exact ⟨(([] : List ByteArray)), (0), (0), rs_, rs_, H', ⟨Nat.le_refl _⟩, ⟨nl_⟩, ⟨uW HB.out⟩⟩
 case round =>
  clear H'
  try clear p2
  obtain ⟨x5_1, x6_1, x7_1, rfl, rfl, HA, HK1, HO_5, HB⟩ := hrel
  cases gk with
  | zero => exact absurd HA.out (by simp [r02_Split.l0])
  | succ k1 =>
   have H := HA.out
   clear HA
   simp only [r02_Split.l0] at H
   by_cases c3 : x7_1 < (a0.size : Int)
   ·
    rw [if_pos c3] at H
    have c3b0 : decide (x7_1 < (a0.size : Int)) = true := decide_eq_true c3
    clear c3
    obtain ⟨c4b0, H⟩ := gdd H
    by_cases c6 : (bt a0 x7_1) = a1
    ·
     rw [if_pos c6] at H
     have c6b0 : ((bt a0 x7_1) == a1) = true := beq_iff_eq.mpr c6
     have c6b1 : ((bt a0 x7_1) != a1) = false := bne_eq_false_iff_eq.mpr c6
     clear c6
     obtain ⟨c7, H⟩ := gd H
     have c7b0 := eq_true c7
     have c7b1 : decide (0 ≤ x6_1) = true := decide_eq_true c7
     clear c7
     obtain ⟨c8, H⟩ := gd H
     have c8b0 := eq_true c8
     have c8b1 : decide (x6_1 ≤ x7_1) = true := decide_eq_true c8
     clear c8
     obtain ⟨c9, H⟩ := gd H
     have c9b0 := eq_true c9
     have c9b1 : decide (x7_1 ≤ (a0.size : Int)) = true := decide_eq_true c9
     clear c9
     obtain ⟨c10, H⟩ := gd H
     have LMc10 := Aside0.mk c10
     clear c10
     obtain ⟨y417, hy417⟩ : ∃ y_ : List ByteArray, y_ = (x5_1 ++ [a0.extract (x6_1 : Int).toNat (x7_1 : Int).toNat]) := ⟨_, rfl⟩
     replace H : (r02_Split.l0 k1 a0 a1 y417 (wrap64 (x7_1 + 1)) (wrap64 (x7_1 + 1))) = some r := by first | (rw [hy417]; with_reducible exact H) | (have H2_ := (Option.bind_some _ _).symm.trans H; rw [hy417]; with_reducible exact H2_) | (have H2_ := (Option.bind_some _ _).symm.trans H; with_reducible exact H2_) | with_reducible exact H | (rw [hy417]; exact H) | exact H
     have Ny417 := Aside0.mk hy417
     clear hy417
     have H' := Aside0.mk H
     clear H
     have p5 : 0 ≤ (x7_1 : Int) := od
     have q5 : x7_1 < (a0.size : Int) := od
     have hx5 := bt_at a0 x7_1
     replace p5 := eq_true p5
     replace q5 := eq_true q5
     go_wp2_with (first | ((with_reducible refine gate_builtin (b := .append) (xs := #[.tmp 19, .tmp 24]) rfl ?_); at_builtin; refine Kd.R_append Kd.string (w0 := w) w.heap.size rfl (.tmp 19) (.tmp 24) 52 9 (.string ⟨#[]⟩) 16 rfl Tryz.underlying52 info9 rfl (by decide) (by omega) u5 x5_1 (a0.extract (x6_1 : Int).toNat (x7_1 : Int).toNat) [.string (a0.extract (x6_1 : Int).toNat (x7_1 : Int).toNat)] (fun _ => True) (fun _ => False) rfl rfl ?aP (fun _ hk => hk.elim) ?aF ?aO ?aB ?aS ?aL ?_; (case aP => exact rfl); (case aB => exact (uW HB.out)); (case aF => exact (fun _ _ => trivial)); (case aO => exact (uR HO_5.out)); (case aS => exact (below_size (uW HB.out))); (case aL => have := LMc10.out; omega); intro v418 w11 ho hb hg hat; rw [← Ny417.out] at ho; replace HB := Aside0.mk (hb); have HO419 := Aside0.mk (ho); clear HO_5; clear ho hb hg hat))
     go_roundg k1
     case measure => have := HK1.out; omega
     case rel => exact ⟨(y417), (wrap64 (x7_1 + 1)), (wrap64 (x7_1 + 1)), rs_, rs_, H', ⟨by have := HK1.out; omega⟩, ⟨uR HO419.out⟩, ⟨uW HB.out⟩⟩
    ·
     rw [if_neg c6] at H
     have c6b0 : ((bt a0 x7_1) == a1) = false := beq_eq_false_iff_ne.mpr c6
     have c6b1 : ((bt a0 x7_1) != a1) = true := bne_iff_ne.mpr c6
     have H' := Aside0.mk H
     clear H
     have p5 : 0 ≤ (x7_1 : Int) := od
     have q5 : x7_1 < (a0.size : Int) := od
     have hx5 := bt_at a0 x7_1
     replace p5 := eq_true p5
     replace q5 := eq_true q5
     go_wp2
     go_roundg k1
     case measure => have := HK1.out; omega
     case rel => exact ⟨(x5_1), (x6_1), (wrap64 (x7_1 + 1)), rs_, rs_, H', ⟨by have := HK1.out; omega⟩, ⟨uR HO_5.out⟩, ⟨uW HB.out⟩⟩
   ·
    rw [if_neg c3] at H
    have c3b0 : decide (x7_1 < (a0.size : Int)) = false := decide_eq_false c3
    clear c3
    by_cases c12 : 0 ≤ x6_1
    ·
     rw [if_pos c12] at H
     have c12b0 := eq_true c12
     have c12b1 : decide (0 ≤ x6_1) = true := decide_eq_true c12
     clear c12
     obtain ⟨c13, H⟩ := gd H
     have c13b0 := eq_true c13
     have c13b1 : decide (x6_1 ≤ (a0.size : Int)) = true := decide_eq_true c13
     clear c13
     obtain ⟨c14, H⟩ := gd H
     have LMc14 := Aside0.mk c14
     clear c14
     obtain ⟨y420, hy420⟩ : ∃ y_ : List ByteArray, y_ = (x5_1 ++ [a0.extract (x6_1 : Int).toNat a0.size]) := ⟨_, rfl⟩
     replace H : (some y420) = some r := by first | (rw [hy420]; with_reducible exact H) | (have H2_ := (Option.bind_some _ _).symm.trans H; rw [hy420]; with_reducible exact H2_) | (have H2_ := (Option.bind_some _ _).symm.trans H; with_reducible exact H2_) | with_reducible exact H | (rw [hy420]; exact H) | exact H
     have Ny420 := Aside0.mk hy420
     clear hy420
     obtain rfl := Option.some.inj H
     go_wp2_with (first | ((with_reducible refine gate_builtin (b := .append) (xs := #[.tmp 28, .tmp 32]) rfl ?_); at_builtin; refine Kd.R_append Kd.string (w0 := w) w.heap.size rfl (.tmp 28) (.tmp 32) 52 9 (.string ⟨#[]⟩) 16 rfl Tryz.underlying52 info9 rfl (by decide) (by omega) u5 x5_1 (a0.extract (x6_1 : Int).toNat a0.size) [.string (a0.extract (x6_1 : Int).toNat a0.size)] (fun _ => True) (fun _ => False) rfl rfl ?aP (fun _ hk => hk.elim) ?aF ?aO ?aB ?aS ?aL ?_; (case aP => exact rfl); (case aB => exact (uW HB.out)); (case aF => exact (fun _ _ => trivial)); (case aO => exact (uR HO_5.out)); (case aS => exact (below_size (uW HB.out))); (case aL => have := LMc14.out; omega); intro v421 w15 ho hb hg hat; rw [← Ny420.out] at ho; replace HB := Aside0.mk (hb); have HO422 := Aside0.mk (ho); clear HO_5; clear ho hb hg hat))
     go_ret
     exact ⟨_, re_, uR HO422.out, uW HB.out⟩
    ·
     rw [if_neg c12] at H
     exact absurd H (by simp)
def r02_Join.l0 : Nat → ByteArray → List ByteArray → ByteArray → Int → Option (ByteArray)
 | 0, _, _, _, _ => none
 | k + 1, x0, x1, x5, x6 => if x6 < (x1.length : Int) then (if x6 > 0 then (if x5.size + x0.size ≤ 9223372036854775807 then (if 0 ≤ x6 then (if (x5 ++ x0).size + (rdOf ByteArray.empty x1 x6).size ≤ 9223372036854775807 then (r02_Join.l0 k x0 x1 ((x5 ++ x0) ++ (rdOf ByteArray.empty x1 x6)) (wrap64 (x6 + 1))) else (none)) else (none)) else (none)) else (if 0 ≤ x6 then (if x5.size + (rdOf ByteArray.empty x1 x6).size ≤ 9223372036854775807 then (r02_Join.l0 k x0 x1 (x5 ++ (rdOf ByteArray.empty x1 x6)) (wrap64 (x6 + 1))) else (none)) else (none))) else (some x5)
def r02_Join.f (k : Nat) (a0 : ByteArray) (l1 : List ByteArray) : Option (ByteArray) := r02_Join.l0 k a0 l1 (⟨#[]⟩ : ByteArray) 0
theorem r02_Join.mono_l : ∀ k, (∀ y0 y1 y2 y3, LeC (r02_Join.l0 k y0 y1 y2 y3) (r02_Join.l0 (k + 1) y0 y1 y2 y3))
 | 0 => fun _ _ _ _ => ⟨fun r h => by simp [r02_Join.l0] at h⟩
 | k + 1 => by have ih0 := r02_Join.mono_l k; exact fun _ _ _ _ => by unfold r02_Join.l0; exact lm
theorem r02_Join.mono : ∀ a0 a1 k, LeO (r02_Join.f k a0 a1) (r02_Join.f (k + 1) a0 a1) := by
 intro a0 a1 k
 have ih0 := r02_Join.mono_l k
 unfold r02_Join.f
 exact lo
instance r02_Join.mI {a0 a1 k} : LeC (r02_Join.f k a0 a1) (r02_Join.f (k + 1) a0 a1) := ⟨r02_Join.mono _ _ _⟩
theorem r02_Join.calls (k : Nat) (a0 : ByteArray) (A1 : Option Addr) (c1 : Nat) (l1 : List ByteArray) (r : ByteArray) (w : World) (hr1 : Kd.C Kd.string w A1 l1.length l1) (hc1 : l1.length ≤ c1) (h : r02_Join.f k a0 l1 = some r) :
 Calls Tryz.prog 35 #[.string a0, .slice A1 l1.length c1] w fun e w' => e = .returned (.string r) ∧ Drawn0 w w' := by
 have HR1 := Aside0.mk hr1
 have HC1 := Aside0.mk hc1
 clear hr1 hc1
 have H : (r02_Join.l0 k a0 l1 (⟨#[]⟩ : ByteArray) 0) = some r := h
 clear h
 have H' := Aside0.mk H
 clear H
 go_enter Tryz.func35, Tryz.ntmps35
 go_wp2
 go_loopg [5, 6] k (fun kq v5 v6 w' => ∃ (x5_1 : ByteArray) (x6_1 : Int), v5 = .string x5_1 ∧ v6 = .int .i64 x6_1 ∧ Aside0 (r02_Join.l0 kq a0 l1 x5_1 x6_1 = some r) ∧ Aside0 (kq ≤ k) ∧ Drawn0 w w')
 case atStart => exact ⟨((⟨#[]⟩ : ByteArray)), (0), rs_, rs_, H', ⟨Nat.le_refl _⟩, dr_⟩
 case round =>
  clear H'
  try clear c1
  try clear p2
  obtain ⟨x5_1, x6_1, rfl, rfl, HA, HK1, ⟨m1, rfl⟩⟩ := hrel
  cases gk with
  | zero => exact absurd HA.out (by simp [r02_Join.l0])
  | succ k1 =>
   have H := HA.out
   clear HA
   simp only [r02_Join.l0] at H
   by_cases c3 : x6_1 < (l1.length : Int)
   ·
    rw [if_pos c3] at H
    have c3b0 : decide (x6_1 < (l1.length : Int)) = true := decide_eq_true c3
    clear c3
    by_cases c4 : x6_1 > 0
    ·
     rw [if_pos c4] at H
     have c4b0 : decide (0 < x6_1) = true := decide_eq_true c4
     clear c4
     obtain ⟨c5, H⟩ := gd H
     have c5b0 := eq_true c5
     have c5b1 : decide (x5_1.size + a0.size ≤ 9223372036854775807) = true := decide_eq_true c5
     try have c5b2 : (9223372036854775807 < x5_1.size + a0.size) = False := eq_false (Nat.not_lt.2 c5)
     obtain ⟨c6b0, H⟩ := gdd H
     obtain ⟨c7, H⟩ := gd H
     have c7b0 := eq_true c7
     have c7b1 : decide ((x5_1 ++ a0).size + (rdOf ByteArray.empty l1 x6_1).size ≤ 9223372036854775807) = true := decide_eq_true c7
     try have c7b2 : (9223372036854775807 < (x5_1 ++ a0).size + (rdOf ByteArray.empty l1 x6_1).size) = False := eq_false (Nat.not_lt.2 c7)
     try have c7b8 := c7b2
     try simp only [ByteArray.size_append] at c7b8
     have H' := Aside0.mk H
     clear H
     have p423 : 0 ≤ (x6_1 : Int) := od
     have q423 : x6_1 < (l1.length : Int) := od
     obtain ⟨ad423, e423, hx423_0⟩ := Kd.at_string HR1.out x6_1 p423 q423
     cases e423
     replace p423 := eq_true p423
     replace q423 := eq_true q423
     go_wp2
     go_roundg k1
     case measure => have := HK1.out; omega
     case rel => exact ⟨((x5_1 ++ a0) ++ (rdOf ByteArray.empty l1 x6_1)), (wrap64 (x6_1 + 1)), rs_, rs_, H', ⟨by have := HK1.out; omega⟩, dr_⟩
    ·
     rw [if_neg c4] at H
     have c4b0 : decide (0 < x6_1) = false := decide_eq_false c4
     clear c4
     obtain ⟨c8b0, H⟩ := gdd H
     obtain ⟨c9, H⟩ := gd H
     have c9b0 := eq_true c9
     have c9b1 : decide (x5_1.size + (rdOf ByteArray.empty l1 x6_1).size ≤ 9223372036854775807) = true := decide_eq_true c9
     try have c9b2 : (9223372036854775807 < x5_1.size + (rdOf ByteArray.empty l1 x6_1).size) = False := eq_false (Nat.not_lt.2 c9)
     have H' := Aside0.mk H
     clear H
     have p424 : 0 ≤ (x6_1 : Int) := od
     have q424 : x6_1 < (l1.length : Int) := od
     obtain ⟨ad424, e424, hx424_0⟩ := Kd.at_string HR1.out x6_1 p424 q424
     cases e424
     replace p424 := eq_true p424
     replace q424 := eq_true q424
     go_wp2
     go_roundg k1
     case measure => have := HK1.out; omega
     case rel => exact ⟨(x5_1 ++ (rdOf ByteArray.empty l1 x6_1)), (wrap64 (x6_1 + 1)), rs_, rs_, H', ⟨by have := HK1.out; omega⟩, dr_⟩
   ·
    rw [if_neg c3] at H
    have c3b0 : decide (x6_1 < (l1.length : Int)) = false := decide_eq_false c3
    clear c3
    obtain rfl := Option.some.inj H
    go_wp2
    go_ret
    exact ⟨rs_, dr_⟩
def r02_small.f (a0 : Int) : Option (Bool) := if a0 ≥ 97 then (some (decide (a0 ≤ 122))) else (some false)
theorem r02_small.calls (a0 : Int) (r : Bool) (w : World) (h : r02_small.f a0 = some r) :
 Calls Tryz.prog 139 #[.int .u8 a0] w fun e w' => e = .returned (.bool r) ∧ Drawn0 w w' := by
 have H : (if a0 ≥ 97 then (some (decide (a0 ≤ 122))) else (some false)) = some r := h
 clear h
 by_cases c2 : a0 ≥ 97
 ·
  rw [if_pos c2] at H
  have c2b0 : decide (97 ≤ a0) = true := decide_eq_true c2
  clear c2
  obtain rfl := Option.some.inj H
  go_enter Tryz.func139, Tryz.ntmps139
  go_wp2
  go_ret
  exact ⟨rs_, dr_⟩
 ·
  rw [if_neg c2] at H
  have c2b0 : decide (97 ≤ a0) = false := decide_eq_false c2
  clear c2
  obtain rfl := Option.some.inj H
  go_enter Tryz.func139, Tryz.ntmps139
  go_wp2
  go_ret
  exact ⟨rs_, dr_⟩
def r02_digit.f (a0 : Int) : Option (Bool) := if a0 ≥ 48 then (some (decide (a0 ≤ 57))) else (some false)
theorem r02_digit.calls (a0 : Int) (r : Bool) (w : World) (h : r02_digit.f a0 = some r) :
 Calls Tryz.prog 140 #[.int .u8 a0] w fun e w' => e = .returned (.bool r) ∧ Drawn0 w w' := by
 have H : (if a0 ≥ 48 then (some (decide (a0 ≤ 57))) else (some false)) = some r := h
 clear h
 by_cases c2 : a0 ≥ 48
 ·
  rw [if_pos c2] at H
  have c2b0 : decide (48 ≤ a0) = true := decide_eq_true c2
  clear c2
  obtain rfl := Option.some.inj H
  go_enter Tryz.func140, Tryz.ntmps140
  go_wp2
  go_ret
  exact ⟨rs_, dr_⟩
 ·
  rw [if_neg c2] at H
  have c2b0 : decide (48 ≤ a0) = false := decide_eq_false c2
  clear c2
  obtain rfl := Option.some.inj H
  go_enter Tryz.func140, Tryz.ntmps140
  go_wp2
  go_ret
  exact ⟨rs_, dr_⟩
end Go.Proofs.YtgcbejidponoaaaGreatDoor.X
