/- Printed by a program of this session's own: what functions of the program compute, and that the machine computes it. -/
import Derived.Test.YtklhjponikgkkaaXx0
import Derived.Test.YtklhjponikgkkaaXx3
import Derived.Test.YtklhjponikgkkaaXxS
namespace Go.Proofs.Ytklhjponikgkkaa.X
open Go.RowKit Go.Proofs.YtklhjponikgkkaaW.PrintWords Go.Proofs.YtklhjponikgkkaaW.PrintLast Go.Proofs.YtklhjponikgkkaaW.PrintMore
attribute [local go_sem] max2_int min2_int max_two min_two max_three min_three max_four min_four   -- for this text's walks alone
set_option linter.unusedVariables false
set_option linter.unusedSimpArgs false

/-! ### chain_At: function 31 -/
def chain_At.f (k : Nat) (l0 : List (S96)) (a1 : Int) : Option (Int × Int × Bool × Int × Int) := (chain_newest.f k l0 a1).bind fun t137 => (if t137 ≥ 0 then (if 0 ≤ t137 then (if t137 < (l0.length : Int) then (some ((rd_T96 l0 t137).f1.f0, (rd_T96 l0 t137).f1.f1.f0, (rd_T96 l0 t137).f1.f1.f1, (rd_T96 l0 t137).f1.f2, (rd_T96 l0 t137).f1.f3)) else (none)) else (none)) else (some (0, 0, false, 0, 0)))
theorem chain_At.mono : ∀ a0 a1 k, LeO (chain_At.f k a0 a1) (chain_At.f (k + 1) a0 a1) := by
 intro a0 a1 k
 unfold chain_At.f
 repeat' first
  | (with_reducible exact chain_newest.mono _ _ _)
  | (with_reducible exact LeO.refl _)
  | (with_reducible exact LeO.none _)
  | (with_reducible refine LeO.ite ?_ ?_)
  | (with_reducible refine LeO.bind ?_ (fun _ => ?_))
  | exact chain_newest.mono _ _ _
  | exact LeO.none _
  | refine LeO.ite ?_ ?_
  | refine LeO.bind ?_ (fun _ => ?_)
set_option maxHeartbeats 8000000 in
set_option maxRecDepth 100000 in
theorem chain_At.calls (k : Nat) (A0 : Option Addr) (c0 : Nat) (l0 : List (S96)) (a1 : Int) (r1 : Int) (r2 : Int) (r3 : Bool) (r4 : Int) (r5 : Int) (w : World) (hr0 : Kd.C k96 w A0 l0.length l0) (hc0 : l0.length ≤ c0) (h : chain_At.f k l0 a1 = some (r1, r2, r3, r4, r5)) :
 Calls Try.prog 31 #[.slice A0 l0.length c0, .int .i64 a1] w fun e w' => e = .returned (.agg #[.int .i64 r1, .int .i64 r2, .bool r3, .int .i64 r4, .int .i64 r5]) ∧ Below w.heap.size w w' := by
 have hu54 := Try.underlying54
 have HR0 := Aside0.mk hr0
 have HC0 := Aside0.mk hc0
 clear hr0 hc0
 have HB := Aside0.mk (Below.refl w.heap.size w)
 have H : ((chain_newest.f k l0 a1).bind fun t137 => (if t137 ≥ 0 then (if 0 ≤ t137 then (if t137 < (l0.length : Int) then (some ((rd_T96 l0 t137).f1.f0, (rd_T96 l0 t137).f1.f1.f0, (rd_T96 l0 t137).f1.f1.f1, (rd_T96 l0 t137).f1.f2, (rd_T96 l0 t137).f1.f3)) else (none)) else (none)) else (some (0, 0, false, 0, 0)))) = some (r1, r2, r3, r4, r5) := h
 clear h
 replace H := Option.bind_eq_some_iff.mp H
 obtain ⟨t137, A30, H⟩ := H
 replace H : (if t137 ≥ 0 then (if 0 ≤ t137 then (if t137 < (l0.length : Int) then (some ((rd_T96 l0 t137).f1.f0, (rd_T96 l0 t137).f1.f1.f0, (rd_T96 l0 t137).f1.f1.f1, (rd_T96 l0 t137).f1.f2, (rd_T96 l0 t137).f1.f3)) else (none)) else (none)) else (some (0, 0, false, 0, 0))) = some (r1, r2, r3, r4, r5) := H
 have A3 := Aside0.mk A30
 clear A30
 by_cases c4 : t137 ≥ 0
 ·
  rw [if_pos c4] at H
  have c4b0 : decide (0 ≤ t137) = true := decide_eq_true c4
  clear c4
  obtain ⟨c5, H⟩ := gd H
  have c5b0 : decide (0 ≤ t137) = true := decide_eq_true c5
  clear c5
  obtain ⟨c6, H⟩ := gd H
  have c6b0 : decide (t137 < (l0.length : Int)) = true := decide_eq_true c6
  clear c6
  simp only [Option.some.injEq, Prod.mk.injEq] at H
  obtain ⟨rfl, rfl, rfl, rfl, rfl⟩ := H
  go_enter Try.func31, Try.ntmps31
  go_wp2_with (first | ((with_reducible refine gate_dst (N := 4) rfl ?_); refine box_event ?hg (N := 4) ?hd (cs := #[.int .i64 0, .int .i64 0, .bool false, .int .i64 0, .int .i64 0]) (t := 54) ?hr ?_; (case hd => rfl); (case hg => rfl); (case hr => first | (go_simp; done) | (go_simp; rfl)); intro gb136 hg w7 hbox hb; have BK136 := Aside0.mk (hbox); have GW136 := Aside0.mk ((by rw [hg]; exact (below_size (uW HB.out)) : w.heap.size ≤ gb136)); have GE136 := Aside0.mk ((by rw [hg]; exact (below_size (uW HB.out)) : w.heap.size ≤ gb136)); replace HB := cW HB hb; clear hb hbox hg) | ((with_reducible refine gate_callee (f := 51) rfl ?_); refine goesL_ (some 8) rfl rfl Try.func51 (by kernel_rfl) rfl #[.slice A0 l0.length c0, .int .i64 a1] rfl (by (try simp only [List.map_toArray, List.map_cons, List.map_nil]); first | done | rfl | (simp only [List.length_drop, List.length_take]; rfl)) ?_; (with_reducible refine (chain_newest.calls k _ _ l0 a1 t137 _ ?side1 ?side2 A3.out).mono ?_); (case side1 => repeat (first | exact (Kd.C_below HR0.out HB.out) | (with_reducible refine Kd.C_alloc ?_ _) | (with_reducible refine Kd.C_drewN ?_ _) | (with_reducible refine Kd.C_drew ?_))); (case side2 => exact HC0.out); rintro e w' ⟨rfl, ⟨nd, rfl⟩⟩; refine ⟨_, rfl, ?_⟩; (try (rw [drewN_self w7]; generalize hq_ : World.drewN w7 _ = w7; have n0_ : Aside0 (w7.heap[gb136]? = some (.cells #[.int .i64 0, .int .i64 0, .bool false, .int .i64 0, .int .i64 0] 54 (0, 0))) := ⟨by rw [← hq_]; exact (uB BK136.out)⟩; have n1_ : Aside0 (Below w.heap.size w w7) := ⟨by rw [← hq_]; exact (by repeat (first | (with_reducible first | exact HB.out | apply below_alloc | apply pw_below_drewN | apply below_drew1 | refine below_set ?_ GE136.out) | exact HB.out))⟩; clear BK136 HB hq_; have BK136 := n0_; have HB := n1_; clear n0_ n1_)); have p138 : 0 ≤ (t137 : Int) := od; have q138 : t137 < (l0.length : Int) := od; obtain ⟨ad138, e138, hx138_0, hx138_1, hx138_2, hx138_3, hx138_4, hx138_5⟩ := at_T96 HR0.out t137 p138 q138; cases e138; replace hx138_0 := kc HB hx138_0; replace hx138_1 := kc HB hx138_1; replace hx138_2 := kc HB hx138_2; replace hx138_3 := kc HB hx138_3; replace hx138_4 := kc HB hx138_4; replace hx138_5 := kc HB hx138_5; replace p138 := eq_true p138; replace q138 := eq_true q138; have hcz8_0 : w7.cell? ⟨gb136, 0, none⟩ = some (.int .i64 0) := (blk_cell BK136.out 0).trans rfl; have hcz8_1 : w7.cell? ⟨gb136, 1, none⟩ = some (.int .i64 0) := (blk_cell BK136.out 1).trans rfl; have hcz8_2 : w7.cell? ⟨gb136, 2, none⟩ = some (.bool false) := (blk_cell BK136.out 2).trans rfl; have hcz8_3 : w7.cell? ⟨gb136, 3, none⟩ = some (.int .i64 0) := (blk_cell BK136.out 3).trans rfl; have hcz8_4 : w7.cell? ⟨gb136, 4, none⟩ = some (.int .i64 0) := (blk_cell BK136.out 4).trans rfl; have hfz8_0 := blk_frozen BK136.out 0; have hfz8_1 := blk_frozen BK136.out 1; have hfz8_2 := blk_frozen BK136.out 2; have hfz8_3 := blk_frozen BK136.out 3; have hfz8_4 := blk_frozen BK136.out 4) | ((with_reducible refine gate_store (t := 54) (p := 4) rfl ?_); refine store_event (t := 54) (p := 4) (v := ?vo_w9) (w1 := (((((w7.setCell ⟨gb136, 0, none⟩ (.int .i64 ((rd_T96 l0 t137).f1.f0))).setCell ⟨gb136, 1, none⟩ (.int .i64 ((rd_T96 l0 t137).f1.f1.f0))).setCell ⟨gb136, 2, none⟩ (.bool ((rd_T96 l0 t137).f1.f1.f1))).setCell ⟨gb136, 3, none⟩ (.int .i64 ((rd_T96 l0 t137).f1.f2))).setCell ⟨gb136, 4, none⟩ (.int .i64 ((rd_T96 l0 t137).f1.f3)))) ?hg ?ho ?hn ?hr ?_; (case ho => rfl); (case hg => rfl); (case hn => rfl); (case hr => first | (go_simp; done) | (go_simp; rfl)); intro w9 hw; have n0_ : Aside0 (w9.heap[gb136]? = some (.cells #[.int .i64 ((rd_T96 l0 t137).f1.f0), .int .i64 ((rd_T96 l0 t137).f1.f1.f0), .bool ((rd_T96 l0 t137).f1.f1.f1), .int .i64 ((rd_T96 l0 t137).f1.f2), .int .i64 ((rd_T96 l0 t137).f1.f3)] 54 (0, 0))) := ⟨(by rw [hw]; exact (by (with_reducible repeat (first | refine blk_drewN ?_ _ | refine blk_drew ?_ | refine blk_alloc ?_ _)); refine blk_put (cs := #[.int .i64 ((rd_T96 l0 t137).f1.f0), .int .i64 ((rd_T96 l0 t137).f1.f1.f0), .bool ((rd_T96 l0 t137).f1.f1.f1), .int .i64 ((rd_T96 l0 t137).f1.f2), .int .i64 0]) ?_ 4 _ rfl; (with_reducible repeat (first | refine blk_drewN ?_ _ | refine blk_drew ?_ | refine blk_alloc ?_ _)); refine blk_put (cs := #[.int .i64 ((rd_T96 l0 t137).f1.f0), .int .i64 ((rd_T96 l0 t137).f1.f1.f0), .bool ((rd_T96 l0 t137).f1.f1.f1), .int .i64 0, .int .i64 0]) ?_ 3 _ rfl; (with_reducible repeat (first | refine blk_drewN ?_ _ | refine blk_drew ?_ | refine blk_alloc ?_ _)); refine blk_put (cs := #[.int .i64 ((rd_T96 l0 t137).f1.f0), .int .i64 ((rd_T96 l0 t137).f1.f1.f0), .bool false, .int .i64 0, .int .i64 0]) ?_ 2 _ rfl; (with_reducible repeat (first | refine blk_drewN ?_ _ | refine blk_drew ?_ | refine blk_alloc ?_ _)); refine blk_put (cs := #[.int .i64 ((rd_T96 l0 t137).f1.f0), .int .i64 0, .bool false, .int .i64 0, .int .i64 0]) ?_ 1 _ rfl; (with_reducible repeat (first | refine blk_drewN ?_ _ | refine blk_drew ?_ | refine blk_alloc ?_ _)); refine blk_put (cs := #[.int .i64 0, .int .i64 0, .bool false, .int .i64 0, .int .i64 0]) ?_ 0 _ rfl; exact uB <| BK136.out))⟩; have n1_ : Aside0 (Below w.heap.size w w9) := ⟨(by rw [hw]; exact (by repeat (first | (with_reducible first | exact HB.out | apply below_alloc | apply pw_below_drewN | apply below_drew1 | refine below_set ?_ GE136.out) | exact HB.out)))⟩; clear hw; clear BK136; clear HB; have BK136 := n0_; have HB := n1_; clear n0_ n1_))
  refine bodyPost_ret (results_cell_row rfl _ _ gb136 54 #[.int .i64 ((rd_T96 l0 t137).f1.f0), .int .i64 ((rd_T96 l0 t137).f1.f1.f0), .bool ((rd_T96 l0 t137).f1.f1.f1), .int .i64 ((rd_T96 l0 t137).f1.f2), .int .i64 ((rd_T96 l0 t137).f1.f3)] (0, 0) _ rfl (uB BK136.out) Try.underlying54 rfl (by kernel_rfl)) rfl ?_
  exact ⟨by first | rfl | (simp [errW_none, errW_some] <;> rfl) | (simp [*, errW_none, errW_some] <;> rfl), by repeat (first | (with_reducible first | exact HB.out | apply below_alloc | apply pw_below_drewN | apply below_drew1 | refine below_set ?_ GE136.out) | exact HB.out)⟩
 ·
  rw [if_neg c4] at H
  have c4b0 : decide (0 ≤ t137) = false := decide_eq_false c4
  clear c4
  simp only [Option.some.injEq, Prod.mk.injEq] at H
  obtain ⟨rfl, rfl, rfl, rfl, rfl⟩ := H
  go_enter Try.func31, Try.ntmps31
  go_wp2_with (first | ((with_reducible refine gate_dst (N := 4) rfl ?_); refine box_event ?hg (N := 4) ?hd (cs := #[.int .i64 0, .int .i64 0, .bool false, .int .i64 0, .int .i64 0]) (t := 54) ?hr ?_; (case hd => rfl); (case hg => rfl); (case hr => first | (go_simp; done) | (go_simp; rfl)); intro gb136 hg w10 hbox hb; have BK136 := Aside0.mk (hbox); have GW136 := Aside0.mk ((by rw [hg]; exact (below_size (uW HB.out)) : w.heap.size ≤ gb136)); have GE136 := Aside0.mk ((by rw [hg]; exact (below_size (uW HB.out)) : w.heap.size ≤ gb136)); replace HB := cW HB hb; clear hb hbox hg) | ((with_reducible refine gate_callee (f := 51) rfl ?_); refine goesL_ (some 8) rfl rfl Try.func51 (by kernel_rfl) rfl #[.slice A0 l0.length c0, .int .i64 a1] rfl (by (try simp only [List.map_toArray, List.map_cons, List.map_nil]); first | done | rfl | (simp only [List.length_drop, List.length_take]; rfl)) ?_; (with_reducible refine (chain_newest.calls k _ _ l0 a1 t137 _ ?side1 ?side2 A3.out).mono ?_); (case side1 => repeat (first | exact (Kd.C_below HR0.out HB.out) | (with_reducible refine Kd.C_alloc ?_ _) | (with_reducible refine Kd.C_drewN ?_ _) | (with_reducible refine Kd.C_drew ?_))); (case side2 => exact HC0.out); rintro e w' ⟨rfl, ⟨nd, rfl⟩⟩; refine ⟨_, rfl, ?_⟩; (try (rw [drewN_self w10]; generalize hq_ : World.drewN w10 _ = w10; have n0_ : Aside0 (w10.heap[gb136]? = some (.cells #[.int .i64 0, .int .i64 0, .bool false, .int .i64 0, .int .i64 0] 54 (0, 0))) := ⟨by rw [← hq_]; exact (uB BK136.out)⟩; have n1_ : Aside0 (Below w.heap.size w w10) := ⟨by rw [← hq_]; exact (by repeat (first | (with_reducible first | exact HB.out | apply below_alloc | apply pw_below_drewN | apply below_drew1 | refine below_set ?_ GE136.out) | exact HB.out))⟩; clear BK136 HB hq_; have BK136 := n0_; have HB := n1_; clear n0_ n1_)); have hcz11_0 : w10.cell? ⟨gb136, 0, none⟩ = some (.int .i64 0) := (blk_cell BK136.out 0).trans rfl; have hcz11_1 : w10.cell? ⟨gb136, 1, none⟩ = some (.int .i64 0) := (blk_cell BK136.out 1).trans rfl; have hcz11_2 : w10.cell? ⟨gb136, 2, none⟩ = some (.bool false) := (blk_cell BK136.out 2).trans rfl; have hcz11_3 : w10.cell? ⟨gb136, 3, none⟩ = some (.int .i64 0) := (blk_cell BK136.out 3).trans rfl; have hcz11_4 : w10.cell? ⟨gb136, 4, none⟩ = some (.int .i64 0) := (blk_cell BK136.out 4).trans rfl; have hfz11_0 := blk_frozen BK136.out 0; have hfz11_1 := blk_frozen BK136.out 1; have hfz11_2 := blk_frozen BK136.out 2; have hfz11_3 := blk_frozen BK136.out 3; have hfz11_4 := blk_frozen BK136.out 4) | ((with_reducible refine gate_store (t := 54) (p := 4) rfl ?_); refine store_event (t := 54) (p := 4) (v := ?vo_w12) (w1 := (((((w10.setCell ⟨gb136, 0, none⟩ (.int .i64 0)).setCell ⟨gb136, 1, none⟩ (.int .i64 0)).setCell ⟨gb136, 2, none⟩ (.bool false)).setCell ⟨gb136, 3, none⟩ (.int .i64 0)).setCell ⟨gb136, 4, none⟩ (.int .i64 0))) ?hg ?ho ?hn ?hr ?_; (case ho => rfl); (case hg => rfl); (case hn => rfl); (case hr => first | (go_simp; done) | (go_simp; rfl)); intro w12 hw; have n0_ : Aside0 (w12.heap[gb136]? = some (.cells #[.int .i64 0, .int .i64 0, .bool false, .int .i64 0, .int .i64 0] 54 (0, 0))) := ⟨(by rw [hw]; exact (by (with_reducible repeat (first | refine blk_drewN ?_ _ | refine blk_drew ?_ | refine blk_alloc ?_ _)); refine blk_put (cs := #[.int .i64 0, .int .i64 0, .bool false, .int .i64 0, .int .i64 0]) ?_ 4 _ rfl; (with_reducible repeat (first | refine blk_drewN ?_ _ | refine blk_drew ?_ | refine blk_alloc ?_ _)); refine blk_put (cs := #[.int .i64 0, .int .i64 0, .bool false, .int .i64 0, .int .i64 0]) ?_ 3 _ rfl; (with_reducible repeat (first | refine blk_drewN ?_ _ | refine blk_drew ?_ | refine blk_alloc ?_ _)); refine blk_put (cs := #[.int .i64 0, .int .i64 0, .bool false, .int .i64 0, .int .i64 0]) ?_ 2 _ rfl; (with_reducible repeat (first | refine blk_drewN ?_ _ | refine blk_drew ?_ | refine blk_alloc ?_ _)); refine blk_put (cs := #[.int .i64 0, .int .i64 0, .bool false, .int .i64 0, .int .i64 0]) ?_ 1 _ rfl; (with_reducible repeat (first | refine blk_drewN ?_ _ | refine blk_drew ?_ | refine blk_alloc ?_ _)); refine blk_put (cs := #[.int .i64 0, .int .i64 0, .bool false, .int .i64 0, .int .i64 0]) ?_ 0 _ rfl; exact uB <| BK136.out))⟩; have n1_ : Aside0 (Below w.heap.size w w12) := ⟨(by rw [hw]; exact (by repeat (first | (with_reducible first | exact HB.out | apply below_alloc | apply pw_below_drewN | apply below_drew1 | refine below_set ?_ GE136.out) | exact HB.out)))⟩; clear hw; clear BK136; clear HB; have BK136 := n0_; have HB := n1_; clear n0_ n1_))
  refine bodyPost_ret (results_cell_row rfl _ _ gb136 54 #[.int .i64 0, .int .i64 0, .bool false, .int .i64 0, .int .i64 0] (0, 0) _ rfl (uB BK136.out) Try.underlying54 rfl (by kernel_rfl)) rfl ?_
  exact ⟨by first | rfl | (simp [errW_none, errW_some] <;> rfl) | (simp [*, errW_none, errW_some] <;> rfl), by repeat (first | (with_reducible first | exact HB.out | apply below_alloc | apply pw_below_drewN | apply below_drew1 | refine below_set ?_ GE136.out) | exact HB.out)⟩

/-! ### cell_Empty: function 32 -/
def cell_Empty.f (a0_0 : Int) (a0_1 : Int) (a0_2 : Bool) (a0_3 : Int) (a0_4 : Int) : Option (Bool) := some (decide (a0_0 < 1))
set_option maxHeartbeats 8000000 in
set_option maxRecDepth 100000 in
theorem cell_Empty.calls (a0_0 : Int) (a0_1 : Int) (a0_2 : Bool) (a0_3 : Int) (a0_4 : Int) (r : Bool) (w : World) (h : cell_Empty.f a0_0 a0_1 a0_2 a0_3 a0_4 = some r) :
 Calls Try.prog 32 #[.agg #[.int .i64 a0_0, .int .i64 a0_1, .bool a0_2, .int .i64 a0_3, .int .i64 a0_4]] w fun e w' => e = .returned (.bool r) ∧ Below w.heap.size w w' := by
 have hu54 := Try.underlying54
 have HB := Aside0.mk (Below.refl w.heap.size w)
 have H : (some (decide (a0_0 < 1))) = some r := h
 clear h
 obtain rfl := Option.some.inj H
 go_enter Try.func32, Try.ntmps32
 go_wp2_with (first | ((with_reducible refine gate_dst (N := 1) rfl ?_); refine box_event ?hg (N := 1) ?hd (cs := #[.int .i64 a0_0, .int .i64 a0_1, .bool a0_2, .int .i64 a0_3, .int .i64 a0_4]) (t := 54) ?hr ?_; (case hd => rfl); (case hg => rfl); (case hr => first | (go_simp; done) | (go_simp; rfl)); intro gb139 hg w2 hbox hb; have BK139 := Aside0.mk (hbox); have GW139 := Aside0.mk ((by rw [hg]; exact (below_size (uW HB.out)) : w.heap.size ≤ gb139)); have GE139 := Aside0.mk ((by rw [hg]; exact (below_size (uW HB.out)) : w.heap.size ≤ gb139)); replace HB := cW HB hb; clear hb hbox hg; have hcz3_0 : w2.cell? ⟨gb139, 0, none⟩ = some (.int .i64 a0_0) := (blk_cell BK139.out 0).trans rfl; have hcz3_1 : w2.cell? ⟨gb139, 1, none⟩ = some (.int .i64 a0_1) := (blk_cell BK139.out 1).trans rfl; have hcz3_2 : w2.cell? ⟨gb139, 2, none⟩ = some (.bool a0_2) := (blk_cell BK139.out 2).trans rfl; have hcz3_3 : w2.cell? ⟨gb139, 3, none⟩ = some (.int .i64 a0_3) := (blk_cell BK139.out 3).trans rfl; have hcz3_4 : w2.cell? ⟨gb139, 4, none⟩ = some (.int .i64 a0_4) := (blk_cell BK139.out 4).trans rfl; have hfz3_0 := blk_frozen BK139.out 0; have hfz3_1 := blk_frozen BK139.out 1; have hfz3_2 := blk_frozen BK139.out 2; have hfz3_3 := blk_frozen BK139.out 3; have hfz3_4 := blk_frozen BK139.out 4))
 go_ret
 exact ⟨by first | rfl | (simp [errW_none, errW_some] <;> rfl) | (simp [*, errW_none, errW_some] <;> rfl), by repeat (first | (with_reducible first | exact HB.out | apply below_alloc | apply pw_below_drewN | apply below_drew1 | refine below_set ?_ GE139.out) | exact HB.out)⟩

-- NOT PRINTED: function 59 (api_Item_59)

-- NOT PRINTED: function 52 (api_Item_52)

-- NOT PRINTED: function 33 (api_Item_33)

/-! ### strings_Compare: function 35 -/
def strings_Compare.f (a0 : ByteArray) (a1 : ByteArray) : Option (Int) := some (Lib.compareBytes a0.data.toList a1.data.toList)
set_option maxHeartbeats 8000000 in
set_option maxRecDepth 100000 in
theorem strings_Compare.calls (a0 : ByteArray) (a1 : ByteArray) (r : Int) (w : World) (h : strings_Compare.f a0 a1 = some r) :
 Calls Try.prog 35 #[.string a0, .string a1] w fun e w' => e = .returned (.int .i64 r) ∧ Drawn0 w w' := by
 obtain rfl := Option.some.inj h
 exact (Try.strings_Compare a0 a1 w).mono fun e w' hh => ⟨hh.1, hh.2 ▸ Drawn0.refl _⟩

/-! ### emit_Take_1: function 34 -/
def emit_Take_1.f (a0_0 : Int) (a0_1 : ByteArray) (a0_2 : Int) (a0_3 : Int) (a0_4 : Bool) (a0_5 : Int) (a0_6 : Int) (a1_0 : Int) (a1_1 : ByteArray) (a1_2 : Int) (a1_3 : Int) (a1_4 : Bool) (a1_5 : Int) (a1_6 : Int) : Option (Int) := (strings_Compare.f a0_1 a1_1).bind fun t142 => (some t142)
set_option maxHeartbeats 8000000 in
set_option maxRecDepth 100000 in
theorem emit_Take_1.calls (a0_0 : Int) (a0_1 : ByteArray) (a0_2 : Int) (a0_3 : Int) (a0_4 : Bool) (a0_5 : Int) (a0_6 : Int) (a1_0 : Int) (a1_1 : ByteArray) (a1_2 : Int) (a1_3 : Int) (a1_4 : Bool) (a1_5 : Int) (a1_6 : Int) (r : Int) (w : World) (h : emit_Take_1.f a0_0 a0_1 a0_2 a0_3 a0_4 a0_5 a0_6 a1_0 a1_1 a1_2 a1_3 a1_4 a1_5 a1_6 = some r) :
 Calls Try.prog 34 #[.agg #[.int .i64 a0_0, .string a0_1, .int .i64 a0_2, .int .i64 a0_3, .bool a0_4, .int .i64 a0_5, .int .i64 a0_6], .agg #[.int .i64 a1_0, .string a1_1, .int .i64 a1_2, .int .i64 a1_3, .bool a1_4, .int .i64 a1_5, .int .i64 a1_6]] w fun e w' => e = .returned (.int .i64 r) ∧ Below w.heap.size w w' := by
 have hu56 := Try.underlying56
 have HB := Aside0.mk (Below.refl w.heap.size w)
 have H : ((strings_Compare.f a0_1 a1_1).bind fun t142 => (some t142)) = some r := h
 clear h
 replace H := Option.bind_eq_some_iff.mp H
 obtain ⟨t142, A30, H⟩ := H
 replace H : (some t142) = some r := H
 have A3 := Aside0.mk A30
 clear A30
 obtain rfl := Option.some.inj H
 go_enter Try.func34, Try.ntmps34
 go_wp2_with (first | ((with_reducible refine gate_dst (N := 2) rfl ?_); refine box_event ?hg (N := 2) ?hd (cs := #[.int .i64 a0_0, .string a0_1, .int .i64 a0_2, .int .i64 a0_3, .bool a0_4, .int .i64 a0_5, .int .i64 a0_6]) (t := 56) ?hr ?_; (case hd => rfl); (case hg => rfl); (case hr => first | (go_simp; done) | (go_simp; rfl)); intro gb140 hg w4 hbox hb; have BK140 := Aside0.mk (hbox); have GW140 := Aside0.mk ((by rw [hg]; exact (below_size (uW HB.out)) : w.heap.size ≤ gb140)); have GE140 := Aside0.mk ((by rw [hg]; exact (below_size (uW HB.out)) : w.heap.size ≤ gb140)); replace HB := cW HB hb; clear hb hbox hg) | ((with_reducible refine gate_dst (N := 3) rfl ?_); refine box_event ?hg (N := 3) ?hd (cs := #[.int .i64 a1_0, .string a1_1, .int .i64 a1_2, .int .i64 a1_3, .bool a1_4, .int .i64 a1_5, .int .i64 a1_6]) (t := 56) ?hr ?_; (case hd => rfl); (case hg => rfl); (case hr => first | (go_simp; done) | (go_simp; rfl)); intro gb141 hg w5 hbox hb; have BK141 := Aside0.mk (hbox); have GW141 := Aside0.mk ((by rw [hg]; exact (below_size (by repeat (first | (with_reducible first | exact HB.out | apply below_alloc | apply pw_below_drewN | apply below_drew1 | refine below_set ?_ GE140.out) | exact HB.out))) : w.heap.size ≤ gb141)); have GE141 := Aside0.mk ((by rw [hg]; exact (below_size (by repeat (first | (with_reducible first | exact HB.out | apply below_alloc | apply pw_below_drewN | apply below_drew1 | refine below_set ?_ GE140.out) | exact HB.out))) : w.heap.size ≤ gb141)); replace HB := Aside0.mk (below_step (by repeat (first | (with_reducible first | exact HB.out | apply below_alloc | apply pw_below_drewN | apply below_drew1 | refine below_set ?_ GE140.out) | exact HB.out)) hb); have NB140_141 := Aside0.mk ((by rw [hg]; exact Nat.ne_of_lt (blk_lt (g := gb140) (o := .cells #[.int .i64 a0_0, .string a0_1, .int .i64 a0_2, .int .i64 a0_3, .bool a0_4, .int .i64 a0_5, .int .i64 a0_6] 56 (0, 0)) (uB BK140.out)) : gb140 ≠ gb141)); have NB141_140 := Aside0.mk ((by rw [hg]; exact Nat.ne_of_gt (blk_lt (g := gb140) (o := .cells #[.int .i64 a0_0, .string a0_1, .int .i64 a0_2, .int .i64 a0_3, .bool a0_4, .int .i64 a0_5, .int .i64 a0_6] 56 (0, 0)) (uB BK140.out)) : gb141 ≠ gb140)); replace BK140 := cB BK140 hb; clear hb hbox hg; have hnb6 := NB140_141.out; have hnc6 := NB141_140.out; have hcz7_0 : w5.cell? ⟨gb140, 0, none⟩ = some (.int .i64 a0_0) := (blk_cell BK140.out 0).trans rfl; have hcz7_1 : w5.cell? ⟨gb140, 1, none⟩ = some (.string a0_1) := (blk_cell BK140.out 1).trans rfl; have hcz7_2 : w5.cell? ⟨gb140, 2, none⟩ = some (.int .i64 a0_2) := (blk_cell BK140.out 2).trans rfl; have hcz7_3 : w5.cell? ⟨gb140, 3, none⟩ = some (.int .i64 a0_3) := (blk_cell BK140.out 3).trans rfl; have hcz7_4 : w5.cell? ⟨gb140, 4, none⟩ = some (.bool a0_4) := (blk_cell BK140.out 4).trans rfl; have hcz7_5 : w5.cell? ⟨gb140, 5, none⟩ = some (.int .i64 a0_5) := (blk_cell BK140.out 5).trans rfl; have hcz7_6 : w5.cell? ⟨gb140, 6, none⟩ = some (.int .i64 a0_6) := (blk_cell BK140.out 6).trans rfl; have hfz7_0 := blk_frozen BK140.out 0; have hfz7_1 := blk_frozen BK140.out 1; have hfz7_2 := blk_frozen BK140.out 2; have hfz7_3 := blk_frozen BK140.out 3; have hfz7_4 := blk_frozen BK140.out 4; have hfz7_5 := blk_frozen BK140.out 5; have hfz7_6 := blk_frozen BK140.out 6; have hcz8_0 : w5.cell? ⟨gb141, 0, none⟩ = some (.int .i64 a1_0) := (blk_cell BK141.out 0).trans rfl; have hcz8_1 : w5.cell? ⟨gb141, 1, none⟩ = some (.string a1_1) := (blk_cell BK141.out 1).trans rfl; have hcz8_2 : w5.cell? ⟨gb141, 2, none⟩ = some (.int .i64 a1_2) := (blk_cell BK141.out 2).trans rfl; have hcz8_3 : w5.cell? ⟨gb141, 3, none⟩ = some (.int .i64 a1_3) := (blk_cell BK141.out 3).trans rfl; have hcz8_4 : w5.cell? ⟨gb141, 4, none⟩ = some (.bool a1_4) := (blk_cell BK141.out 4).trans rfl; have hcz8_5 : w5.cell? ⟨gb141, 5, none⟩ = some (.int .i64 a1_5) := (blk_cell BK141.out 5).trans rfl; have hcz8_6 : w5.cell? ⟨gb141, 6, none⟩ = some (.int .i64 a1_6) := (blk_cell BK141.out 6).trans rfl; have hfz8_0 := blk_frozen BK141.out 0; have hfz8_1 := blk_frozen BK141.out 1; have hfz8_2 := blk_frozen BK141.out 2; have hfz8_3 := blk_frozen BK141.out 3; have hfz8_4 := blk_frozen BK141.out 4; have hfz8_5 := blk_frozen BK141.out 5; have hfz8_6 := blk_frozen BK141.out 6) | ((with_reducible refine gate_callee (f := 35) rfl ?_); refine goesL_ (some 9) rfl rfl Try.func35 (by kernel_rfl) rfl #[.string a0_1, .string a1_1] rfl (by (try simp only [List.map_toArray, List.map_cons, List.map_nil]); first | done | rfl | (simp only [List.length_drop, List.length_take]; rfl)) ?_; (with_reducible refine (strings_Compare.calls a0_1 a1_1 t142 _ A3.out).mono ?_); rintro e w' ⟨rfl, ⟨nd, rfl⟩⟩; refine ⟨_, rfl, ?_⟩))
 go_ret
 exact ⟨by first | rfl | (simp [errW_none, errW_some] <;> rfl) | (simp [*, errW_none, errW_some] <;> rfl), by repeat (first | (with_reducible first | exact HB.out | apply below_alloc | apply pw_below_drewN | apply below_drew1 | refine below_set ?_ GE140.out | refine below_set ?_ GE141.out) | exact HB.out)⟩

theorem api_Item_with_34_59.goesV_ {P : Program} {ops : Array Oper} {Q : Exit → Act → World → Prop} {oi : Oper} {N : Option Tmp} {a : Act} {w : World} {K : Act → World → Prop} {f : FuncId} {fn : Func} {cal : Operand} {as_ : Array Operand} {ts : Array TypeId} (hf : P.funcs[f]? = some fn) (hname : (fn.name == "runtime.NumGoroutine") = false) (hb : fn.body.isSome = true) (args : Array Value)
 (hw : Region.wanted oi (yielded ops a.tmps) = true) (hN : oi.dst = N) (hop : oi.op = .call { callee := .value cal, args := as_, argTypes := ts }) (hev : a.eval cal = .func (.func f) #[] #[]) (hargs : as_.map a.eval = args)
 (h : Calls P f args w fun e w' => ∃ v, e = .returned v ∧ K (a.put N v) w') : if Region.wanted oi (yielded ops a.tmps) = true then Oper.wp P oi a w K Q else K (a.put N undef) w := by
 refine call_ f args hw hN ?_ h
 have he := enters_ hf hname hb args w
 unfold execOp
 simp [hop, resolve, Deferred.ofValue, invoke, hev, hargs, he]
theorem api_Item_with_34_59.goesVL_ {P : Program} {ops : Array Oper} {Q : Exit → Act → World → Prop} {rest : List Oper} {oi : Oper} {a : Act} {w : World} (N : Option Tmp) (hd : oi.dst = N) (hg : oi.guard = none) {f : FuncId} {fn : Func} {cal : Operand} {as_ : Array Operand} {ts : Array TypeId} (hf : P.funcs[f]? = some fn) (hname : (fn.name == "runtime.NumGoroutine") = false) (hb : fn.body.isSome = true) (args : Array Value)
 (hop : oi.op = .call { callee := .value cal, args := as_, argTypes := ts }) (hev : a.eval cal = .func (.func f) #[] #[]) (hargs : as_.map a.eval = args)
 (h : Calls P f args w fun e w' => ∃ v, e = .returned v ∧ wpList P ops Q rest (a.put N v) w') : wpList P ops Q (oi :: rest) a w := by
 refine wpList_plain hg fun K hK => ?_
 have he := enters_ hf hname hb args w
 have hrun : (execOp a.eval oi).run P w = .ok (.enter f args) w := by
  unfold execOp
  simp [hop, resolve, Deferred.ofValue, invoke, hev, hargs, he]
 unfold Oper.wp
 rw [hrun, Oper.upon_enter]
 refine h.mono fun e w'' hh => ?_
 obtain ⟨v, rfl, hk⟩ := hh
 subst hd
 exact hK _ _ hk
/-! ### api_Item_with_34_59: function 59 -/
mutual
def api_Item_with_34_59.l0 : Nat → List (S56) → Int → Int → Int → Option (Unit)
 | 0, _, _, _, _ => none
 | k + 1, x0, x1, x2, x8 => if x8 < x2 then (api_Item_with_34_59.l1 k x0 x1 x2 x8 x8) else (some ())
def api_Item_with_34_59.l1 : Nat → List (S56) → Int → Int → Int → Int → Option (Unit)
 | 0, _, _, _, _, _ => none
 | k + 1, x0, x1, x2, x8, x9 => if x9 > x1 then (if 0 ≤ x9 then (if x9 < (x0.length : Int) then (if 0 ≤ (wrap64 (x9 - 1)) then (if (wrap64 (x9 - 1)) < (x0.length : Int) then ((emit_Take_1.f ((rd_T56 x0 x9).f0) ((rd_T56 x0 x9).f1) ((rd_T56 x0 x9).f2.f0) ((rd_T56 x0 x9).f2.f1.f0) ((rd_T56 x0 x9).f2.f1.f1) ((rd_T56 x0 x9).f2.f2) ((rd_T56 x0 x9).f2.f3) ((rd_T56 x0 (wrap64 (x9 - 1))).f0) ((rd_T56 x0 (wrap64 (x9 - 1))).f1) ((rd_T56 x0 (wrap64 (x9 - 1))).f2.f0) ((rd_T56 x0 (wrap64 (x9 - 1))).f2.f1.f0) ((rd_T56 x0 (wrap64 (x9 - 1))).f2.f1.f1) ((rd_T56 x0 (wrap64 (x9 - 1))).f2.f2) ((rd_T56 x0 (wrap64 (x9 - 1))).f2.f3)).bind fun t145 => (if t145 < 0 then (none) else (api_Item_with_34_59.l0 k x0 x1 x2 (wrap64 (x8 + 1))))) else (none)) else (none)) else (none)) else (none)) else (api_Item_with_34_59.l0 k x0 x1 x2 (wrap64 (x8 + 1)))
end
def api_Item_with_34_59.f (k : Nat) (l0 : List (S56)) (a1 : Int) (a2 : Int) : Option (Unit) := api_Item_with_34_59.l0 k l0 a1 a2 (wrap64 (a1 + 1))
theorem api_Item_with_34_59.mono_l : ∀ k, (∀ y0 y1 y2 y3, LeO (api_Item_with_34_59.l0 k y0 y1 y2 y3) (api_Item_with_34_59.l0 (k + 1) y0 y1 y2 y3)) ∧ (∀ y0 y1 y2 y3 y4, LeO (api_Item_with_34_59.l1 k y0 y1 y2 y3 y4) (api_Item_with_34_59.l1 (k + 1) y0 y1 y2 y3 y4))
 | 0 => ⟨fun _ _ _ _ r h => by simp [api_Item_with_34_59.l0] at h, fun _ _ _ _ _ r h => by simp [api_Item_with_34_59.l1] at h⟩
 | k + 1 => by
  obtain ⟨ih0, ih1⟩ := api_Item_with_34_59.mono_l k
  refine ⟨?_, ?_⟩
  ·
   intro y0 y1 y2 y3
   unfold api_Item_with_34_59.l0
   repeat' first
   | (with_reducible exact ih0 _ _ _ _)
   | (with_reducible exact ih1 _ _ _ _ _)
   | (with_reducible exact LeO.refl _)
   | (with_reducible exact LeO.none _)
   | (with_reducible refine LeO.ite ?_ ?_)
   | (with_reducible refine LeO.bind ?_ (fun _ => ?_))
   | exact ih0 _ _ _ _
   | exact ih1 _ _ _ _ _
   | exact LeO.none _
   | refine LeO.ite ?_ ?_
   | refine LeO.bind ?_ (fun _ => ?_)
  ·
   intro y0 y1 y2 y3 y4
   unfold api_Item_with_34_59.l1
   repeat' first
   | (with_reducible exact ih0 _ _ _ _)
   | (with_reducible exact ih1 _ _ _ _ _)
   | (with_reducible exact LeO.refl _)
   | (with_reducible exact LeO.none _)
   | (with_reducible refine LeO.ite ?_ ?_)
   | (with_reducible refine LeO.bind ?_ (fun _ => ?_))
   | exact ih0 _ _ _ _
   | exact ih1 _ _ _ _ _
   | exact LeO.none _
   | refine LeO.ite ?_ ?_
   | refine LeO.bind ?_ (fun _ => ?_)
theorem api_Item_with_34_59.mono : ∀ a0 a1 a2 k, LeO (api_Item_with_34_59.f k a0 a1 a2) (api_Item_with_34_59.f (k + 1) a0 a1 a2) := by
 intro a0 a1 a2 k
 obtain ⟨ih0, ih1⟩ := api_Item_with_34_59.mono_l k
 unfold api_Item_with_34_59.f
 repeat' first
  | (with_reducible exact ih0 _ _ _ _)
  | (with_reducible exact ih1 _ _ _ _ _)
  | (with_reducible exact LeO.refl _)
  | (with_reducible exact LeO.none _)
  | (with_reducible refine LeO.ite ?_ ?_)
  | (with_reducible refine LeO.bind ?_ (fun _ => ?_))
  | exact ih0 _ _ _ _
  | exact ih1 _ _ _ _ _
  | exact LeO.none _
  | refine LeO.ite ?_ ?_
  | refine LeO.bind ?_ (fun _ => ?_)
def api_Item_with_34_59.T4 : Bool × List (List Nat × List Nat) := (true, [([], []), ([], []), ([0, 1], [0, 1]), ([2], [2]), ([3], [3]), ([3], [3]), ([3], [3]), ([5, 6, 3], [3, 5, 6]), ([7, 3], [3, 7]), ([3], [3]), ([3], [3]), ([10, 3], [3, 10]), ([9, 11, 3], [3, 9, 11]), ([12, 3], [3, 12]), ([4, 8, 13, 3, 3], [3, 4, 8, 13]), ([14, 3], [3, 14]), ([3, 15], [3, 15])])
def api_Item_with_34_59.B4 : List Nat := [0, 0, 3, 7, 15, 15, 15, 111, 239, 15, 15, 1039, 3599, 7695, 16383, 32767, 65535]
theorem api_Item_with_34_59.tab4 : rtab .any (opsOf Try.f59 4) = api_Item_with_34_59.T4 := by kernel_rfl
theorem api_Item_with_34_59.bits4 : waitsOk api_Item_with_34_59.T4.2 api_Item_with_34_59.B4 = true := by kernel_rfl
set_option maxHeartbeats 8000000 in
set_option maxRecDepth 100000 in
theorem api_Item_with_34_59.calls (k : Nat) (A0 : Option Addr) (c0 : Nat) (l0 : List (S56)) (a1 : Int) (a2 : Int) (w : World) (hr0 : Kd.C k56 w A0 l0.length l0) (hc0 : l0.length ≤ c0) (h : api_Item_with_34_59.f k l0 a1 a2 = some ()) :
 Calls Try.prog 59 #[.slice A0 l0.length c0, .int .i64 a1, .int .i64 a2, .func (.func 34) #[] #[]] w fun e w' => e = .returned (.tuple #[]) ∧ Below w.heap.size w w' := by
 have hu56 := Try.underlying56
 have HR0 := Aside0.mk hr0
 have HC0 := Aside0.mk hc0
 clear hr0 hc0
 have HB := Aside0.mk (Below.refl w.heap.size w)
 have H : (api_Item_with_34_59.l0 k l0 a1 a2 (wrap64 (a1 + 1))) = some () := h
 clear h
 have H' := Aside0.mk H
 clear H
 have eg34 : ∀ args w, (callFunc 34 args).run Try.prog w = .ok (.enter 34 args) w := enters_of Try.func34 (by kernel_rfl) rfl
 go_enter Try.func59, Try.ntmps59
 go_wp2
 go_loopg [8] k (fun kq v8 w' => ∃ (x8_1 : Int), v8 = .int .i64 x8_1 ∧ Aside0 (api_Item_with_34_59.l0 kq l0 a1 a2 x8_1 = some ()) ∧ Aside0 (kq ≤ k) ∧ Aside0 (Below w.heap.size w w'))
 case atStart => exact ⟨(wrap64 (a1 + 1)), (by first | rfl | (simp; done) | (simp [*]; done)), H', ⟨Nat.le_refl _⟩, ⟨uW HB.out⟩⟩
 case round =>
  clear H'
  try clear p2
  obtain ⟨x8_1, rfl, HA, HK1, HB⟩ := hrel
  cases gk with
  | zero => exact absurd HA.out (by simp [api_Item_with_34_59.l0])
  | succ k1 =>
   have H := HA.out
   clear HA
   simp only [api_Item_with_34_59.l0] at H
   by_cases c4 : x8_1 < a2
   ·
    rw [if_pos c4] at H
    have c4b0 : decide (x8_1 < a2) = true := decide_eq_true c4
    clear c4
    have H' := Aside0.mk H
    clear H
    go_wp2
    go_loopg [9] k1 (fun kq v9 w' => ∃ (x9_2 : Int), v9 = .int .i64 x9_2 ∧ Aside0 (api_Item_with_34_59.l1 kq l0 a1 a2 x8_1 x9_2 = some ()) ∧ Aside0 (kq ≤ k1) ∧ Aside0 (Below w.heap.size w w'))
    case atStart => exact ⟨(x8_1), (by first | rfl | (simp; done) | (simp [*]; done)), H', ⟨Nat.le_refl _⟩, ⟨uW HB.out⟩⟩
    case round =>
     clear H'
     try clear p2
     try clear c4
     try clear c4b0
     try clear p2
     obtain ⟨x9_2, rfl, HA, HK2, HB⟩ := hrel
     cases gk with
     | zero => exact absurd HA.out (by simp [api_Item_with_34_59.l1])
     | succ k2 =>
      have H := HA.out
      clear HA
      simp only [api_Item_with_34_59.l1] at H
      by_cases c5 : x9_2 > a1
      ·
       rw [if_pos c5] at H
       have c5b0 : decide (a1 < x9_2) = true := decide_eq_true c5
       clear c5
       obtain ⟨c6, H⟩ := gd H
       have c6b0 : decide (0 ≤ x9_2) = true := decide_eq_true c6
       clear c6
       obtain ⟨c7, H⟩ := gd H
       have c7b0 : decide (x9_2 < (l0.length : Int)) = true := decide_eq_true c7
       clear c7
       obtain ⟨ji8, hji8⟩ : ∃ j_ : Int, (wrap64 (x9_2 - 1)) = j_ := ⟨_, rfl⟩
       replace H : (if 0 ≤ (ji8) then (if (ji8) < (l0.length : Int) then ((emit_Take_1.f ((rd_T56 l0 x9_2).f0) ((rd_T56 l0 x9_2).f1) ((rd_T56 l0 x9_2).f2.f0) ((rd_T56 l0 x9_2).f2.f1.f0) ((rd_T56 l0 x9_2).f2.f1.f1) ((rd_T56 l0 x9_2).f2.f2) ((rd_T56 l0 x9_2).f2.f3) ((rd_T56 l0 (ji8)).f0) ((rd_T56 l0 (ji8)).f1) ((rd_T56 l0 (ji8)).f2.f0) ((rd_T56 l0 (ji8)).f2.f1.f0) ((rd_T56 l0 (ji8)).f2.f1.f1) ((rd_T56 l0 (ji8)).f2.f2) ((rd_T56 l0 (ji8)).f2.f3)).bind fun t145 => (if t145 < 0 then (none) else (api_Item_with_34_59.l0 k2 l0 a1 a2 (wrap64 (x8_1 + 1))))) else (none)) else (none)) = some () := by first | (rw [hji8] at H; exact H) | (simp only [hji8] at H ⊢; exact H)
       have hji8w : (IntKind.i64.wrap (x9_2 - 1)) = ji8 := (i64_w _).trans hji8
       obtain ⟨c9, H⟩ := gd H
       have c9b0 : decide (0 ≤ (ji8)) = true := decide_eq_true c9
       clear c9
       obtain ⟨c10, H⟩ := gd H
       have c10b0 : decide ((ji8) < (l0.length : Int)) = true := decide_eq_true c10
       clear c10
       replace H := Option.bind_eq_some_iff.mp H
       obtain ⟨t145, A110, H⟩ := H
       replace H : (if t145 < 0 then (none) else (api_Item_with_34_59.l0 k2 l0 a1 a2 (wrap64 (x8_1 + 1)))) = some () := H
       have A11 := Aside0.mk A110
       clear A110
       by_cases c12 : t145 < 0
       ·
        rw [if_pos c12] at H
        have c12b0 : decide (t145 < 0) = true := decide_eq_true c12
        clear c12
        exact absurd H (by simp)
       ·
        rw [if_neg c12] at H
        have c12b0 : decide (t145 < 0) = false := decide_eq_false c12
        clear c12
        have H' := Aside0.mk H
        clear H
        try go_wp2
        have n0_ := Aside0.mk (below_drew1 HB.out)
        clear HB
        have HB := n0_
        clear n0_
        have p143 : 0 ≤ (x9_2 : Int) := od
        have q143 : x9_2 < (l0.length : Int) := od
        obtain ⟨ad143, e143, hx143_0, hx143_1, hx143_2, hx143_3, hx143_4, hx143_5, hx143_6⟩ := at_T56 HR0.out x9_2 p143 q143
        have hw143_6 := hx143_6
        have hw143_5 := hx143_5
        have hw143_4 := hx143_4
        have hw143_3 := hx143_3
        have hw143_2 := hx143_2
        have hw143_1 := hx143_1
        have hw143_0 := hx143_0
        cases e143
        replace hx143_0 := kc HB hx143_0
        replace hx143_1 := kc HB hx143_1
        replace hx143_2 := kc HB hx143_2
        replace hx143_3 := kc HB hx143_3
        replace hx143_4 := kc HB hx143_4
        replace hx143_5 := kc HB hx143_5
        replace hx143_6 := kc HB hx143_6
        replace p143 := eq_true p143
        replace q143 := eq_true q143
        have p144 : 0 ≤ ((ji8) : Int) := od
        have q144 : (ji8) < (l0.length : Int) := od
        obtain ⟨ad144, e144, hx144_0, hx144_1, hx144_2, hx144_3, hx144_4, hx144_5, hx144_6⟩ := at_T56 HR0.out (ji8) p144 q144
        have hw144_6 := hx144_6
        have hw144_5 := hx144_5
        have hw144_4 := hx144_4
        have hw144_3 := hx144_3
        have hw144_2 := hx144_2
        have hw144_1 := hx144_1
        have hw144_0 := hx144_0
        obtain rfl : ad143 = ad144 := (by injection e144)
        replace hx144_0 := kc HB hx144_0
        replace hx144_1 := kc HB hx144_1
        replace hx144_2 := kc HB hx144_2
        replace hx144_3 := kc HB hx144_3
        replace hx144_4 := kc HB hx144_4
        replace hx144_5 := kc HB hx144_5
        replace hx144_6 := kc HB hx144_6
        replace p144 := eq_true p144
        replace q144 := eq_true q144
        refine start_ (n := 17) (S := fun w' => w'.cell? (ad143.add ((x9_2).toNat * 7)) = some (.int .i64 ((rd_T56 l0 x9_2).f0)) ∧ w'.cell? ⟨(ad143.add ((x9_2).toNat * 7)).block, (ad143.add ((x9_2).toNat * 7)).off + 1, none⟩ = some (.string ((rd_T56 l0 x9_2).f1)) ∧ w'.cell? ⟨(ad143.add ((x9_2).toNat * 7)).block, (ad143.add ((x9_2).toNat * 7)).off + 2, none⟩ = some (.int .i64 ((rd_T56 l0 x9_2).f2.f0)) ∧ w'.cell? ⟨(ad143.add ((x9_2).toNat * 7)).block, (ad143.add ((x9_2).toNat * 7)).off + 3, none⟩ = some (.int .i64 ((rd_T56 l0 x9_2).f2.f1.f0)) ∧ w'.cell? ⟨(ad143.add ((x9_2).toNat * 7)).block, (ad143.add ((x9_2).toNat * 7)).off + 4, none⟩ = some (.bool ((rd_T56 l0 x9_2).f2.f1.f1)) ∧ w'.cell? ⟨(ad143.add ((x9_2).toNat * 7)).block, (ad143.add ((x9_2).toNat * 7)).off + 5, none⟩ = some (.int .i64 ((rd_T56 l0 x9_2).f2.f2)) ∧ w'.cell? ⟨(ad143.add ((x9_2).toNat * 7)).block, (ad143.add ((x9_2).toNat * 7)).off + 6, none⟩ = some (.int .i64 ((rd_T56 l0 x9_2).f2.f3)) ∧ w'.cell? (ad143.add (((ji8)).toNat * 7)) = some (.int .i64 ((rd_T56 l0 (ji8)).f0)) ∧ w'.cell? ⟨(ad143.add (((ji8)).toNat * 7)).block, (ad143.add (((ji8)).toNat * 7)).off + 1, none⟩ = some (.string ((rd_T56 l0 (ji8)).f1)) ∧ w'.cell? ⟨(ad143.add (((ji8)).toNat * 7)).block, (ad143.add (((ji8)).toNat * 7)).off + 2, none⟩ = some (.int .i64 ((rd_T56 l0 (ji8)).f2.f0)) ∧ w'.cell? ⟨(ad143.add (((ji8)).toNat * 7)).block, (ad143.add (((ji8)).toNat * 7)).off + 3, none⟩ = some (.int .i64 ((rd_T56 l0 (ji8)).f2.f1.f0)) ∧ w'.cell? ⟨(ad143.add (((ji8)).toNat * 7)).block, (ad143.add (((ji8)).toNat * 7)).off + 4, none⟩ = some (.bool ((rd_T56 l0 (ji8)).f2.f1.f1)) ∧ w'.cell? ⟨(ad143.add (((ji8)).toNat * 7)).block, (ad143.add (((ji8)).toNat * 7)).off + 5, none⟩ = some (.int .i64 ((rd_T56 l0 (ji8)).f2.f2)) ∧ w'.cell? ⟨(ad143.add (((ji8)).toNat * 7)).block, (ad143.add (((ji8)).toNat * 7)).off + 6, none⟩ = some (.int .i64 ((rd_T56 l0 (ji8)).f2.f3))) (ds := []) #[false, false, false, false, false, false, false, false, false, false, false, false, false, false, false, false, false] (by kernel_rfl) rfl rfl ⟨(kc HB hw143_0), (kc HB hw143_1), (kc HB hw143_2), (kc HB hw143_3), (kc HB hw143_4), (kc HB hw143_5), (kc HB hw143_6), (kc HB hw144_0), (kc HB hw144_1), (kc HB hw144_2), (kc HB hw144_3), (kc HB hw144_4), (kc HB hw144_5), (kc HB hw144_6)⟩ (fun hHeld => ?_); refine with_tabW api_Item_with_34_59.tab4 api_Item_with_34_59.bits4 (fun HT_ HW_ => ?_)
        generalize wr.drew = w13 at HB hx143_0 hx143_1 hx143_2 hx143_3 hx143_4 hx143_5 hx143_6 hx144_0 hx144_1 hx144_2 hx144_3 hx144_4 hx144_5 hx144_6 hHeld ⊢
        refine pu 0 (some 18) rfl rfl (ao HT_) (fun _ _ _ h => h) ya aa ?_
        refine pu 1 (some 19) rfl rfl (ao HT_) (fun _ _ _ h => h) ya aa ?_
        refine pu 2 (some 20) rfl rfl (ao HT_) (fun _ _ _ h => h) ya aa ?_
        refine pu 3 (some 21) rfl rfl (ao HT_) (fun _ _ _ h => h) ya aa ?_
        refine pu 4 (some 22) rfl rfl (ao HT_) (fun _ _ _ h => h) ya aa ?_
        refine pu 5 (some 23) rfl rfl (ao HT_) (fun _ _ _ h => h) ya aa ?_
        refine pu 6 (some 24) rfl rfl (ao HT_) (fun _ _ _ h => h) ya aa ?_
        refine pu 7 (some 25) rfl rfl (ao HT_) (fun _ _ _ h => h) ya aa ?_
        refine pu 9 (some 27) rfl rfl (ao HT_) (fun _ _ _ h => h) ya aa ?_
        refine pu 10 (some 28) rfl rfl (ao HT_) (fun _ _ _ h => h) ya aa ?_
        refine pu 11 (some 29) rfl rfl (ao HT_) (fun _ _ _ h => h) ya aa ?_
        refine pu 12 (some 30) rfl rfl (ao HT_) (fun _ _ _ h => h) ya aa ?_
        refine tk 8 (some 26) rfl rfl (tw HT_ HW_) (fun _ _ _ h => h) (Or.inl ⟨by rfl, by rintro w' ⟨s0, s1, s2, s3, s4, s5, s6, s7, s8, s9, s10, s11, s12, s13⟩; go_simp; with_reducible rfl⟩) hHeld aa ?_
        refine tk 13 (some 31) rfl rfl (tw HT_ HW_) (fun _ _ _ h => h) (Or.inl ⟨by rfl, by rintro w' ⟨s0, s1, s2, s3, s4, s5, s6, s7, s8, s9, s10, s11, s12, s13⟩; go_simp; with_reducible rfl⟩) hHeld aa ?_
        refine one_ (i := 14) (N := some 32) #[true, true, true, true, true, true, true, true, true, true, true, true, true, true, true, false, false] rfl rfl (one_of HT_.out (by kernel_rfl)) (by decide) (fun K hK => ?_)
        refine api_Item_with_34_59.goesV_ Try.func34 (by kernel_rfl) rfl #[.agg #[.int .i64 ((rd_T56 l0 x9_2).f0), .string ((rd_T56 l0 x9_2).f1), .int .i64 ((rd_T56 l0 x9_2).f2.f0), .int .i64 ((rd_T56 l0 x9_2).f2.f1.f0), .bool ((rd_T56 l0 x9_2).f2.f1.f1), .int .i64 ((rd_T56 l0 x9_2).f2.f2), .int .i64 ((rd_T56 l0 x9_2).f2.f3)], .agg #[.int .i64 ((rd_T56 l0 (ji8)).f0), .string ((rd_T56 l0 (ji8)).f1), .int .i64 ((rd_T56 l0 (ji8)).f2.f0), .int .i64 ((rd_T56 l0 (ji8)).f2.f1.f0), .bool ((rd_T56 l0 (ji8)).f2.f1.f1), .int .i64 ((rd_T56 l0 (ji8)).f2.f2), .int .i64 ((rd_T56 l0 (ji8)).f2.f3)]] (by rfl) rfl rfl (by rfl) (by (try simp only [List.map_toArray, List.map_cons, List.map_nil]); first | done | (simp only [hji8]; rfl) | rfl | (simp only [List.length_drop, List.length_take]; rfl)) ?_
        with_reducible refine (emit_Take_1.calls ((rd_T56 l0 x9_2).f0) ((rd_T56 l0 x9_2).f1) ((rd_T56 l0 x9_2).f2.f0) ((rd_T56 l0 x9_2).f2.f1.f0) ((rd_T56 l0 x9_2).f2.f1.f1) ((rd_T56 l0 x9_2).f2.f2) ((rd_T56 l0 x9_2).f2.f3) ((rd_T56 l0 (ji8)).f0) ((rd_T56 l0 (ji8)).f1) ((rd_T56 l0 (ji8)).f2.f0) ((rd_T56 l0 (ji8)).f2.f1.f0) ((rd_T56 l0 (ji8)).f2.f1.f1) ((rd_T56 l0 (ji8)).f2.f2) ((rd_T56 l0 (ji8)).f2.f3) t145 _ A11.out).mono ?_
        rintro e w14 ⟨rfl, hb⟩
        refine ⟨_, rfl, ?_⟩
        have n0_ := cW HB hb
        clear HB
        have HB := n0_
        clear n0_
        (try clear hb)
        (try clear hb2)
        (try clear hk)
        (try clear hi)
        refine hK.out _ _ ⟨(kc HB hw143_0), (kc HB hw143_1), (kc HB hw143_2), (kc HB hw143_3), (kc HB hw143_4), (kc HB hw143_5), (kc HB hw143_6), (kc HB hw144_0), (kc HB hw144_1), (kc HB hw144_2), (kc HB hw144_3), (kc HB hw144_4), (kc HB hw144_5), (kc HB hw144_6)⟩ (fun hHeld => ?_)
        clear hK K
        refine norm_ (a' := ?_) ?_ ?_
        rotate_left
        ·
         show Act.put _ (some 32) _ = _
         simp only [Act.put, List.setIfInBounds_toArray, List.set_cons_zero, List.set_cons_succ, i64_w, i32_w]
         rfl
        refine pu 15 (some 33) rfl rfl (ao HT_) (fun _ _ _ h => h) ya aa ?_
        refine pu 16 (some 34) rfl rfl (ao HT_) (fun _ _ _ h => h) ya aa ?_
        refine done_ (done_of HT_.out (by kernel_rfl)) ?_
        try go_wp2
        go_roundg k2
        case measure => have := HK1.out; have := HK2.out; omega
        case rel => exact ⟨(wrap64 (x8_1 + 1)), (by first | rfl | (simp; done) | (simp [*]; done)), H', ⟨by have := HK1.out; have := HK2.out; omega⟩, ⟨uW HB.out⟩⟩
      ·
       rw [if_neg c5] at H
       have c5b0 : decide (a1 < x9_2) = false := decide_eq_false c5
       clear c5
       have H' := Aside0.mk H
       clear H
       try go_wp2
       have n0_ := Aside0.mk (below_drew1 HB.out)
       clear HB
       have HB := n0_
       clear n0_
       refine start_ (n := 17) (S := fun w' => True) (ds := []) #[false, false, false, false, false, false, false, false, false, false, false, false, false, false, false, false, false] (by kernel_rfl) rfl rfl trivial (fun hHeld => ?_); refine with_tabW api_Item_with_34_59.tab4 api_Item_with_34_59.bits4 (fun HT_ HW_ => ?_)
       generalize wr.drew = w15 at HB hHeld ⊢
       refine pu 0 (some 18) rfl rfl (ao HT_) (fun _ _ _ h => h) ya aa ?_
       refine pu 1 (some 19) rfl rfl (ao HT_) (fun _ _ _ h => h) ya aa ?_
       refine pu 2 (some 20) rfl rfl (ao HT_) (fun _ _ _ h => h) ya aa ?_
       refine pu 3 (some 21) rfl rfl (ao HT_) (fun _ _ _ h => h) ya aa ?_
       refine pu (v := undef) 4 (some 22) rfl rfl (ao HT_) (fun _ _ _ h => h) (Or.inr ⟨by rfl, rfl⟩) aa ?_
       refine pu (v := undef) 5 (some 23) rfl rfl (ao HT_) (fun _ _ _ h => h) (Or.inr ⟨by rfl, rfl⟩) aa ?_
       refine pu (v := undef) 6 (some 24) rfl rfl (ao HT_) (fun _ _ _ h => h) (Or.inr ⟨by rfl, rfl⟩) aa ?_
       refine pu (v := undef) 7 (some 25) rfl rfl (ao HT_) (fun _ _ _ h => h) (Or.inr ⟨by rfl, rfl⟩) aa ?_
       refine pu (v := undef) 8 (some 26) rfl rfl (ao HT_) (fun _ _ _ h => h) (Or.inr ⟨by rfl, rfl⟩) aa ?_
       refine pu (v := undef) 9 (some 27) rfl rfl (ao HT_) (fun _ _ _ h => h) (Or.inr ⟨by rfl, rfl⟩) aa ?_
       refine pu (v := undef) 10 (some 28) rfl rfl (ao HT_) (fun _ _ _ h => h) (Or.inr ⟨by rfl, rfl⟩) aa ?_
       refine pu (v := undef) 11 (some 29) rfl rfl (ao HT_) (fun _ _ _ h => h) (Or.inr ⟨by rfl, rfl⟩) aa ?_
       refine pu (v := undef) 12 (some 30) rfl rfl (ao HT_) (fun _ _ _ h => h) (Or.inr ⟨by rfl, rfl⟩) aa ?_
       refine pu (v := undef) 13 (some 31) rfl rfl (ao HT_) (fun _ _ _ h => h) (Or.inr ⟨by rfl, rfl⟩) aa ?_
       refine pu (v := undef) 14 (some 32) rfl rfl (ao HT_) (fun _ _ _ h => h) (Or.inr ⟨by rfl, rfl⟩) aa ?_
       refine pu (v := undef) 15 (some 33) rfl rfl (ao HT_) (fun _ _ _ h => h) (Or.inr ⟨by rfl, rfl⟩) aa ?_
       refine pu 16 (some 34) rfl rfl (ao HT_) (fun _ _ _ h => h) ya aa ?_
       refine done_ (done_of HT_.out (by kernel_rfl)) ?_
       try go_wp2
       go_roundg k2
       case measure => have := HK1.out; have := HK2.out; omega
       case rel => exact ⟨(wrap64 (x8_1 + 1)), (by first | rfl | (simp; done) | (simp [*]; done)), H', ⟨by have := HK1.out; have := HK2.out; omega⟩, ⟨uW HB.out⟩⟩
   ·
    rw [if_neg c4] at H
    have c4b0 : decide (x8_1 < a2) = false := decide_eq_false c4
    clear c4
    go_wp2
    first | go_end0 | ((try simp only [Exit.inBlock, Exit.then]); refine bodyPost_ret (results_none rfl _ _ _) rfl ?_)
    exact ⟨by first | rfl | (simp [errW_none, errW_some] <;> rfl) | (simp [*, errW_none, errW_some] <;> rfl), uW HB.out⟩

/-! ### api_Item_with_34_52: function 52 -/
mutual
def api_Item_with_34_52.l0 : Nat → List (S56) → Int → Int → Int → Int → Option (Unit)
 | 0, _, _, _, _, _ => none
 | k + 1, x0, x1, x6, x7, x8 => if x8 ≤ x1 then ((api_Item_with_34_59.f k x0 x7 x8).bind fun _ => (api_Item_with_34_52.l0 k x0 x1 x6 x8 (wrap64 (x8 + x6)))) else ((api_Item_with_34_59.f k x0 x7 x1).bind fun _ => (api_Item_with_34_52.l1 k x1 x6))
def api_Item_with_34_52.l1 : Nat → Int → Int → Option (Unit)
 | 0, _, _ => none
 | k + 1, x1, x6 => if x6 < x1 then (api_Item_with_34_52.l2 k x1 x6 0 (wrap64 (2 * x6))) else (some ())
def api_Item_with_34_52.l2 : Nat → Int → Int → Int → Int → Option (Unit)
 | 0, _, _, _, _ => none
 | k + 1, x1, x6, x7, x8 => if x8 ≤ x1 then (none) else (if (wrap64 (x7 + x6)) < x1 then (none) else (api_Item_with_34_52.l1 k x1 (wrap64 (x6 * 2))))
end
def api_Item_with_34_52.f (k : Nat) (l0 : List (S56)) (a1 : Int) : Option (Unit) := api_Item_with_34_52.l0 k l0 a1 20 0 20
theorem api_Item_with_34_52.mono_l : ∀ k, (∀ y0 y1 y2 y3 y4, LeO (api_Item_with_34_52.l0 k y0 y1 y2 y3 y4) (api_Item_with_34_52.l0 (k + 1) y0 y1 y2 y3 y4)) ∧ (∀ y0 y1, LeO (api_Item_with_34_52.l1 k y0 y1) (api_Item_with_34_52.l1 (k + 1) y0 y1)) ∧ (∀ y0 y1 y2 y3, LeO (api_Item_with_34_52.l2 k y0 y1 y2 y3) (api_Item_with_34_52.l2 (k + 1) y0 y1 y2 y3))
 | 0 => ⟨fun _ _ _ _ _ r h => by simp [api_Item_with_34_52.l0] at h, fun _ _ r h => by simp [api_Item_with_34_52.l1] at h, fun _ _ _ _ r h => by simp [api_Item_with_34_52.l2] at h⟩
 | k + 1 => by
  obtain ⟨ih0, ih1, ih2⟩ := api_Item_with_34_52.mono_l k
  refine ⟨?_, ?_, ?_⟩
  ·
   intro y0 y1 y2 y3 y4
   unfold api_Item_with_34_52.l0
   repeat' first
   | (with_reducible exact ih0 _ _ _ _ _)
   | (with_reducible exact ih1 _ _)
   | (with_reducible exact ih2 _ _ _ _)
   | (with_reducible exact api_Item_with_34_59.mono _ _ _ _)
   | (with_reducible exact LeO.refl _)
   | (with_reducible exact LeO.none _)
   | (with_reducible refine LeO.ite ?_ ?_)
   | (with_reducible refine LeO.bind ?_ (fun _ => ?_))
   | exact ih0 _ _ _ _ _
   | exact ih1 _ _
   | exact ih2 _ _ _ _
   | exact api_Item_with_34_59.mono _ _ _ _
   | exact LeO.none _
   | refine LeO.ite ?_ ?_
   | refine LeO.bind ?_ (fun _ => ?_)
  ·
   intro y0 y1
   unfold api_Item_with_34_52.l1
   repeat' first
   | (with_reducible exact ih0 _ _ _ _ _)
   | (with_reducible exact ih1 _ _)
   | (with_reducible exact ih2 _ _ _ _)
   | (with_reducible exact api_Item_with_34_59.mono _ _ _ _)
   | (with_reducible exact LeO.refl _)
   | (with_reducible exact LeO.none _)
   | (with_reducible refine LeO.ite ?_ ?_)
   | (with_reducible refine LeO.bind ?_ (fun _ => ?_))
   | exact ih0 _ _ _ _ _
   | exact ih1 _ _
   | exact ih2 _ _ _ _
   | exact api_Item_with_34_59.mono _ _ _ _
   | exact LeO.none _
   | refine LeO.ite ?_ ?_
   | refine LeO.bind ?_ (fun _ => ?_)
  ·
   intro y0 y1 y2 y3
   unfold api_Item_with_34_52.l2
   repeat' first
   | (with_reducible exact ih0 _ _ _ _ _)
   | (with_reducible exact ih1 _ _)
   | (with_reducible exact ih2 _ _ _ _)
   | (with_reducible exact api_Item_with_34_59.mono _ _ _ _)
   | (with_reducible exact LeO.refl _)
   | (with_reducible exact LeO.none _)
   | (with_reducible refine LeO.ite ?_ ?_)
   | (with_reducible refine LeO.bind ?_ (fun _ => ?_))
   | exact ih0 _ _ _ _ _
   | exact ih1 _ _
   | exact ih2 _ _ _ _
   | exact api_Item_with_34_59.mono _ _ _ _
   | exact LeO.none _
   | refine LeO.ite ?_ ?_
   | refine LeO.bind ?_ (fun _ => ?_)
theorem api_Item_with_34_52.mono : ∀ a0 a1 k, LeO (api_Item_with_34_52.f k a0 a1) (api_Item_with_34_52.f (k + 1) a0 a1) := by
 intro a0 a1 k
 obtain ⟨ih0, ih1, ih2⟩ := api_Item_with_34_52.mono_l k
 unfold api_Item_with_34_52.f
 repeat' first
  | (with_reducible exact ih0 _ _ _ _ _)
  | (with_reducible exact ih1 _ _)
  | (with_reducible exact ih2 _ _ _ _)
  | (with_reducible exact api_Item_with_34_59.mono _ _ _ _)
  | (with_reducible exact LeO.refl _)
  | (with_reducible exact LeO.none _)
  | (with_reducible refine LeO.ite ?_ ?_)
  | (with_reducible refine LeO.bind ?_ (fun _ => ?_))
  | exact ih0 _ _ _ _ _
  | exact ih1 _ _
  | exact ih2 _ _ _ _
  | exact api_Item_with_34_59.mono _ _ _ _
  | exact LeO.none _
  | refine LeO.ite ?_ ?_
  | refine LeO.bind ?_ (fun _ => ?_)
set_option maxHeartbeats 8000000 in
set_option maxRecDepth 100000 in
theorem api_Item_with_34_52.calls (k : Nat) (A0 : Option Addr) (c0 : Nat) (l0 : List (S56)) (a1 : Int) (w : World) (hr0 : Kd.C k56 w A0 l0.length l0) (hc0 : l0.length ≤ c0) (h : api_Item_with_34_52.f k l0 a1 = some ()) :
 Calls Try.prog 52 #[.slice A0 l0.length c0, .int .i64 a1, .func (.func 34) #[] #[]] w fun e w' => e = .returned (.tuple #[]) ∧ Below w.heap.size w w' := by
 have HR0 := Aside0.mk hr0
 have HC0 := Aside0.mk hc0
 clear hr0 hc0
 have HB := Aside0.mk (Below.refl w.heap.size w)
 have H : (api_Item_with_34_52.l0 k l0 a1 20 0 20) = some () := h
 clear h
 have H' := Aside0.mk H
 clear H
 go_enter Try.func52, Try.ntmps52
 go_wp2
 go_loopg [7, 8] k (fun kq v7 v8 w' => ∃ (x7_1 : Int) (x8_1 : Int), v7 = .int .i64 x7_1 ∧ v8 = .int .i64 x8_1 ∧ Aside0 (api_Item_with_34_52.l0 kq l0 a1 20 x7_1 x8_1 = some ()) ∧ Aside0 (kq ≤ k) ∧ Aside0 (Below w.heap.size w w'))
 case atStart => exact ⟨(0), (20), (by first | rfl | (simp; done) | (simp [*]; done)), (by first | rfl | (simp; done) | (simp [*]; done)), H', ⟨Nat.le_refl _⟩, ⟨uW HB.out⟩⟩
 case round =>
  clear H'
  try clear p2
  obtain ⟨x7_1, x8_1, rfl, rfl, HA, HK1, HB⟩ := hrel
  cases gk with
  | zero => exact absurd HA.out (by simp [api_Item_with_34_52.l0])
  | succ k1 =>
   have H := HA.out
   clear HA
   simp only [api_Item_with_34_52.l0] at H
   by_cases c3 : x8_1 ≤ a1
   ·
    rw [if_pos c3] at H
    have c3b0 : decide (x8_1 ≤ a1) = true := decide_eq_true c3
    clear c3
    replace H := Option.bind_eq_some_iff.mp H
    obtain ⟨_, A40, H⟩ := H
    replace H : (api_Item_with_34_52.l0 k1 l0 a1 20 x8_1 (wrap64 (x8_1 + 20))) = some () := H
    have A4 := Aside0.mk A40
    clear A40
    have H' := Aside0.mk H
    clear H
    go_wp2_with (first | ((with_reducible refine gate_callee (f := 59) rfl ?_); refine goesL_ (some 18) rfl rfl Try.func59 (by kernel_rfl) rfl #[.slice A0 l0.length c0, .int .i64 x7_1, .int .i64 x8_1, (.func (.func 34) #[] #[])] rfl (by (try simp only [List.map_toArray, List.map_cons, List.map_nil]); first | done | rfl | (simp only [List.length_drop, List.length_take]; rfl)) ?_; (with_reducible refine (api_Item_with_34_59.calls k1 _ _ l0 x7_1 x8_1  _ ?side1 ?side2 A4.out).mono ?_); (case side1 => repeat (first | exact (Kd.C_below HR0.out HB.out) | (with_reducible refine Kd.C_alloc ?_ _) | (with_reducible refine Kd.C_drewN ?_ _) | (with_reducible refine Kd.C_drew ?_))); (case side2 => exact HC0.out); rintro e w5 ⟨rfl, hb⟩; refine ⟨_, rfl, ?_⟩; replace HB := cW HB hb; (try clear hb)))
    go_roundg k1
    case measure => have := HK1.out; omega
    case rel => exact ⟨(x8_1), (wrap64 (x8_1 + 20)), (by first | rfl | (simp; done) | (simp [*]; done)), (by first | rfl | (simp; done) | (simp [*]; done)), H', ⟨by have := HK1.out; omega⟩, ⟨uW HB.out⟩⟩
   ·
    rw [if_neg c3] at H
    have c3b0 : decide (x8_1 ≤ a1) = false := decide_eq_false c3
    clear c3
    replace H := Option.bind_eq_some_iff.mp H
    obtain ⟨_, A60, H⟩ := H
    replace H : (api_Item_with_34_52.l1 k1 a1 20) = some () := H
    have A6 := Aside0.mk A60
    clear A60
    have H' := Aside0.mk H
    clear H
    go_wp2_with (first | ((with_reducible refine gate_callee (f := 59) rfl ?_); refine goesL_ (some 27) rfl rfl Try.func59 (by kernel_rfl) rfl #[.slice A0 l0.length c0, .int .i64 x7_1, .int .i64 a1, (.func (.func 34) #[] #[])] rfl (by (try simp only [List.map_toArray, List.map_cons, List.map_nil]); first | done | rfl | (simp only [List.length_drop, List.length_take]; rfl)) ?_; (with_reducible refine (api_Item_with_34_59.calls k1 _ _ l0 x7_1 a1  _ ?side1 ?side2 A6.out).mono ?_); (case side1 => repeat (first | exact (Kd.C_below HR0.out HB.out) | (with_reducible refine Kd.C_alloc ?_ _) | (with_reducible refine Kd.C_drewN ?_ _) | (with_reducible refine Kd.C_drew ?_))); (case side2 => exact HC0.out); rintro e w7 ⟨rfl, hb⟩; refine ⟨_, rfl, ?_⟩; replace HB := cW HB hb; (try clear hb)))
    (try simp only [Act.put, List.setIfInBounds_toArray, List.set_cons_zero, List.set_cons_succ])
    go_loopg [6] k1 (fun kq v6 w' => ∃ (x6_2 : Int), v6 = .int .i64 x6_2 ∧ Aside0 (api_Item_with_34_52.l1 kq a1 x6_2 = some ()) ∧ Aside0 (kq ≤ k1) ∧ Aside0 (Below w.heap.size w w'))
    case atStart => exact ⟨(20), (by first | rfl | (simp; done) | (simp [*]; done)), H', ⟨Nat.le_refl _⟩, ⟨uW HB.out⟩⟩
    case round =>
     clear H'
     try clear p2
     try clear c3
     try clear c3b0
     try clear p6
     try clear p2
     obtain ⟨x6_2, rfl, HA, HK2, HB⟩ := hrel
     cases gk with
     | zero => exact absurd HA.out (by simp [api_Item_with_34_52.l1])
     | succ k2 =>
      have H := HA.out
      clear HA
      simp only [api_Item_with_34_52.l1] at H
      by_cases c8 : x6_2 < a1
      ·
       rw [if_pos c8] at H
       have c8b0 : decide (x6_2 < a1) = true := decide_eq_true c8
       clear c8
       have H' := Aside0.mk H
       clear H
       go_wp2
       go_loopg [7, 8] k2 (fun kq v7 v8 w' => ∃ (x7_3 : Int) (x8_3 : Int), v7 = .int .i64 x7_3 ∧ v8 = .int .i64 x8_3 ∧ Aside0 (api_Item_with_34_52.l2 kq a1 x6_2 x7_3 x8_3 = some ()) ∧ Aside0 (kq ≤ k2) ∧ Aside0 (Below w.heap.size w w'))
       case atStart => exact ⟨(0), (wrap64 (2 * x6_2)), (by first | rfl | (simp; done) | (simp [*]; done)), (by first | rfl | (simp; done) | (simp [*]; done)), H', ⟨Nat.le_refl _⟩, ⟨uW HB.out⟩⟩
       case round =>
        clear H'
        try clear p2
        try clear c3
        try clear c3b0
        try clear p6
        try clear c8
        try clear c8b0
        try clear p2
        try clear p6
        obtain ⟨x7_3, x8_3, rfl, rfl, HA, HK3, HB⟩ := hrel
        cases gk with
        | zero => exact absurd HA.out (by simp [api_Item_with_34_52.l2])
        | succ k3 =>
         have H := HA.out
         clear HA
         simp only [api_Item_with_34_52.l2] at H
         obtain ⟨c9, H⟩ := gn H
         have c9b0 : decide (x8_3 ≤ a1) = false := decide_eq_false c9
         clear c9
         obtain ⟨c10, H⟩ := gn H
         have c10b0 : decide ((wrap64 (x7_3 + x6_2)) < a1) = false := decide_eq_false c10
         clear c10
         have H' := Aside0.mk H
         clear H
         go_wp2
         go_roundg k3
         case measure => have := HK1.out; have := HK2.out; have := HK3.out; omega
         case rel => exact ⟨(wrap64 (x6_2 * 2)), (by first | rfl | (simp; done) | (simp [*]; done)), H', ⟨by have := HK1.out; have := HK2.out; have := HK3.out; omega⟩, ⟨uW HB.out⟩⟩
      ·
       rw [if_neg c8] at H
       have c8b0 : decide (x6_2 < a1) = false := decide_eq_false c8
       clear c8
       go_wp2
       first | go_end0 | ((try simp only [Exit.inBlock, Exit.then]); refine bodyPost_ret (results_none rfl _ _ _) rfl ?_)
       exact ⟨by first | rfl | (simp [errW_none, errW_some] <;> rfl) | (simp [*, errW_none, errW_some] <;> rfl), uW HB.out⟩

/-! ### api_Item_with_34_33: function 33 -/
def api_Item_with_34_33.f (k : Nat) (l0 : List (S56)) : Option (Unit) := (api_Item_with_34_52.f k l0 (l0.length : Int)).bind fun _ => (some ())
theorem api_Item_with_34_33.mono : ∀ a0 k, LeO (api_Item_with_34_33.f k a0) (api_Item_with_34_33.f (k + 1) a0) := by
 intro a0 k
 unfold api_Item_with_34_33.f
 repeat' first
  | (with_reducible exact api_Item_with_34_52.mono _ _ _)
  | (with_reducible exact LeO.refl _)
  | (with_reducible exact LeO.none _)
  | (with_reducible refine LeO.ite ?_ ?_)
  | (with_reducible refine LeO.bind ?_ (fun _ => ?_))
  | exact api_Item_with_34_52.mono _ _ _
  | exact LeO.none _
  | refine LeO.ite ?_ ?_
  | refine LeO.bind ?_ (fun _ => ?_)
set_option maxHeartbeats 8000000 in
set_option maxRecDepth 100000 in
theorem api_Item_with_34_33.calls (k : Nat) (A0 : Option Addr) (c0 : Nat) (l0 : List (S56)) (w : World) (hr0 : Kd.C k56 w A0 l0.length l0) (hc0 : l0.length ≤ c0) (h : api_Item_with_34_33.f k l0 = some ()) :
 Calls Try.prog 33 #[.slice A0 l0.length c0, .func (.func 34) #[] #[]] w fun e w' => e = .returned (.tuple #[]) ∧ Below w.heap.size w w' := by
 have HR0 := Aside0.mk hr0
 have HC0 := Aside0.mk hc0
 clear hr0 hc0
 have HB := Aside0.mk (Below.refl w.heap.size w)
 have H : ((api_Item_with_34_52.f k l0 (l0.length : Int)).bind fun _ => (some ())) = some () := h
 clear h
 replace H := Option.bind_eq_some_iff.mp H
 obtain ⟨_, A20, H⟩ := H
 replace H : (some ()) = some () := H
 have A2 := Aside0.mk A20
 clear A20
 go_enter Try.func33, Try.ntmps33
 go_wp2_with (first | ((with_reducible refine gate_callee (f := 52) rfl ?_); refine goesL_ (some 8) rfl rfl Try.func52 (by kernel_rfl) rfl #[.slice A0 l0.length c0, .int .i64 (l0.length : Int), (.func (.func 34) #[] #[])] rfl (by (try simp only [List.map_toArray, List.map_cons, List.map_nil]); first | done | rfl | (simp only [List.length_drop, List.length_take]; rfl)) ?_; (with_reducible refine (api_Item_with_34_52.calls k _ _ l0 (l0.length : Int)  _ ?side1 ?side2 A2.out).mono ?_); (case side1 => repeat (first | exact HR0.out | (with_reducible refine Kd.C_alloc ?_ _) | (with_reducible refine Kd.C_drewN ?_ _) | (with_reducible refine Kd.C_drew ?_))); (case side2 => exact HC0.out); rintro e w3 ⟨rfl, hb⟩; refine ⟨_, rfl, ?_⟩; replace HB := cW HB hb; (try clear hb)))
 first | go_end0 | ((try simp only [Exit.inBlock, Exit.then]); refine bodyPost_ret (results_none rfl _ _ _) rfl ?_)
 exact ⟨by first | rfl | (simp [errW_none, errW_some] <;> rfl) | (simp [*, errW_none, errW_some] <;> rfl), uW HB.out⟩

end Go.Proofs.Ytklhjponikgkkaa.X
