/- Printed by a program of this session's own: what functions of the program compute, and that the machine computes it. No condition of its own. -/
import Derived.Test.YtofaindjbhmopaaM3
import Derived.Test.YtofaindjbhmopaaM9
namespace Go.Proofs.Ytofaindjbhmopaa.X
open Go.RowKit Go.Proofs.YtofaindjbhmopaaW.PrintWords Go.Proofs.YtofaindjbhmopaaW.PrintLast Go.Proofs.YtofaindjbhmopaaW.PrintMore
attribute [local go_sem] max2_int min2_int max_two min_two max_three min_three max_four min_four
set_option linter.unusedVariables false
set_option linter.unusedSimpArgs false
set_option maxHeartbeats 8000000
set_option maxRecDepth 100000
def r01_Add.j0 : Nat → Bool → Int → Bool → Int → Bool → Option (Int × Bool)
 | 0, _, _, _, _, _ => none
 | k + 1, x13, x361000, x361001, x362000, x362001 => if x13 = true then (some (9223372036854775807, true)) else (if x361000 < 0 then (if x362000 < (wrap64 ((-9223372036854775808) - x361000)) then (some ((-9223372036854775808), true)) else (some (wrap64 (x361000 + x362000), false))) else (some (wrap64 (x361000 + x362000), false)))
def r01_Add.f (k : Nat) (a0_0 : Int) (a0_1 : Bool) (a1_0 : Int) (a1_1 : Bool) : Option (Int × Bool) := if a0_1 = true then (some (a0_0, a0_1)) else (if a1_1 = true then (some (a1_0, a1_1)) else (if a0_0 > 0 then (r01_Add.j0 k (decide (a1_0 > (wrap64 (9223372036854775807 - a0_0)))) a0_0 a0_1 a1_0 a1_1) else (r01_Add.j0 k false a0_0 a0_1 a1_0 a1_1)))
theorem r01_Add.mono_l : ∀ k, (∀ y0 y1 y2 y3 y4, LeC (r01_Add.j0 k y0 y1 y2 y3 y4) (r01_Add.j0 (k + 1) y0 y1 y2 y3 y4))
 | 0 => fun _ _ _ _ _ => ⟨fun r h => by simp [r01_Add.j0] at h⟩
 | k + 1 => by have ih0 := r01_Add.mono_l k; exact fun _ _ _ _ _ => by unfold r01_Add.j0; exact lm
theorem r01_Add.mono : ∀ a0 a1 a2 a3 k, LeO (r01_Add.f k a0 a1 a2 a3) (r01_Add.f (k + 1) a0 a1 a2 a3) := by
 intro a0 a1 a2 a3 k
 have ih0 := r01_Add.mono_l k
 unfold r01_Add.f
 exact lo
instance r01_Add.mI {a0 a1 a2 a3 k} : LeC (r01_Add.f k a0 a1 a2 a3) (r01_Add.f (k + 1) a0 a1 a2 a3) := ⟨r01_Add.mono _ _ _ _ _⟩
theorem r01_Add.calls (k : Nat) (a0_0 : Int) (a0_1 : Bool) (a1_0 : Int) (a1_1 : Bool) (r1 : Int) (r2 : Bool) (w : World) (h : r01_Add.f k a0_0 a0_1 a1_0 a1_1 = some (r1, r2)) :
 Calls Try.prog 45 #[.agg #[.int .i64 a0_0, .bool a0_1], .agg #[.int .i64 a1_0, .bool a1_1]] w fun e w' => e = .returned (.agg #[.int .i64 r1, .bool r2]) ∧ Below w.heap.size w w' := by
 have hu50 := Try.underlying50
 have HB := Aside0.mk (Below.refl w.heap.size w)
 have H : (if a0_1 = true then (some (a0_0, a0_1)) else (if a1_1 = true then (some (a1_0, a1_1)) else (if a0_0 > 0 then (r01_Add.j0 k (decide (a1_0 > (wrap64 (9223372036854775807 - a0_0)))) a0_0 a0_1 a1_0 a1_1) else (r01_Add.j0 k false a0_0 a0_1 a1_0 a1_1)))) = some (r1, r2) := h
 clear h
 by_cases c3 : a0_1 = true
 ·
  subst c3
  rw [if_pos rfl] at H
  simp only [Option.some.injEq, Prod.mk.injEq] at H
  obtain ⟨rfl, rfl⟩ := H
  go_enter Try.func45, Try.ntmps45
  go_wp2_with (first | ((with_reducible refine gate_dst (N := 2) rfl ?_); refine bx (N := 2) #[.int .i64 a0_0, .bool true] 50 ?_; intro gb360 hg w4 hbox hb; have BK360 := Aside0.mk (hbox); have GW360 := gw hg (uW HB.out); have GE360 := GW360; replace HB := cW HB hb; clear hb hbox hg) | ((with_reducible refine gate_dst (N := 3) rfl ?_); refine bx (N := 3) #[.int .i64 a1_0, .bool a1_1] 50 ?_; intro gb361 hg w5 hbox hb; have BK361 := Aside0.mk (hbox); have GW361 := gw hg bl; have GE361 := GW361; replace HB := Aside0.mk (below_step bl hb); have NB360_361 := Aside0.mk ((by rw [hg]; exact Nat.ne_of_lt (blk_lt (g := gb360) (o := .cells #[.int .i64 a0_0, .bool true] 50 (0, 0)) (uB BK360.out)) : gb360 ≠ gb361)); have NB361_360 := Aside0.mk ((by rw [hg]; exact Nat.ne_of_gt (blk_lt (g := gb360) (o := .cells #[.int .i64 a0_0, .bool true] 50 (0, 0)) (uB BK360.out)) : gb361 ≠ gb360)); replace BK360 := cB BK360 hb; clear hb hbox hg) | ((with_reducible refine gate_dst (N := 4) rfl ?_); refine bx (N := 4) #[.int .i64 0, .bool false] 50 ?_; intro gb362 hg w6 hbox hb; have BK362 := Aside0.mk (hbox); have GW362 := gw hg bl; have GE362 := GW362; replace HB := Aside0.mk (below_step bl hb); have NB360_362 := Aside0.mk ((by rw [hg]; exact Nat.ne_of_lt (blk_lt (g := gb360) (o := .cells #[.int .i64 a0_0, .bool true] 50 (0, 0)) (uB BK360.out)) : gb360 ≠ gb362)); have NB362_360 := Aside0.mk ((by rw [hg]; exact Nat.ne_of_gt (blk_lt (g := gb360) (o := .cells #[.int .i64 a0_0, .bool true] 50 (0, 0)) (uB BK360.out)) : gb362 ≠ gb360)); replace BK360 := cB BK360 hb; have NB361_362 := Aside0.mk ((by rw [hg]; exact Nat.ne_of_lt (blk_lt (g := gb361) (o := .cells #[.int .i64 a1_0, .bool a1_1] 50 (0, 0)) (uB BK361.out)) : gb361 ≠ gb362)); have NB362_361 := Aside0.mk ((by rw [hg]; exact Nat.ne_of_gt (blk_lt (g := gb361) (o := .cells #[.int .i64 a1_0, .bool a1_1] 50 (0, 0)) (uB BK361.out)) : gb362 ≠ gb361)); replace BK361 := cB BK361 hb; clear hb hbox hg; have hnb7 := NB360_361.out; have hnc7 := NB361_360.out; have hnb8 := NB360_362.out; have hnc8 := NB362_360.out; obtain ⟨hcz9_0, hcz9_1, hfz9_0, hfz9_1⟩ := z2 BK360; have hnb10 := NB362_361.out; have hnc10 := NB361_362.out; obtain ⟨hcz11_0, hcz11_1, hfz11_0, hfz11_1⟩ := z2 BK362))
  refine bodyPost_ret (results_cell_row rfl _ _ gb362 50 #[.int .i64 a0_0, .bool true] (0, 0) _ rfl (by (with_reducible repeat (first | refine blk_drewN ?_ _ | refine blk_drew ?_ | refine blk_alloc ?_ _)); refine blk_put (cs := #[.int .i64 a0_0, .bool false]) ?_ 1 _ rfl; (with_reducible repeat (first | refine blk_drewN ?_ _ | refine blk_drew ?_ | refine blk_alloc ?_ _)); refine blk_put (cs := #[.int .i64 0, .bool false]) ?_ 0 _ rfl; exact uB <| BK362.out) Try.underlying50 rfl (by kernel_rfl)) rfl ?_
  exact ⟨re_, bl⟩
 ·
  replace c3 := Bool.eq_false_iff.mpr c3
  subst c3
  rw [if_neg (show ¬ (false = true) by decide)] at H
  by_cases c12 : a1_1 = true
  ·
   subst c12
   rw [if_pos rfl] at H
   simp only [Option.some.injEq, Prod.mk.injEq] at H
   obtain ⟨rfl, rfl⟩ := H
   go_enter Try.func45, Try.ntmps45
   go_wp2_with (first | ((with_reducible refine gate_dst (N := 2) rfl ?_); refine bx (N := 2) #[.int .i64 a0_0, .bool false] 50 ?_; intro gb360 hg w13 hbox hb; have BK360 := Aside0.mk (hbox); have GW360 := gw hg (uW HB.out); have GE360 := GW360; replace HB := cW HB hb; clear hb hbox hg) | ((with_reducible refine gate_dst (N := 3) rfl ?_); refine bx (N := 3) #[.int .i64 a1_0, .bool true] 50 ?_; intro gb361 hg w14 hbox hb; have BK361 := Aside0.mk (hbox); have GW361 := gw hg bl; have GE361 := GW361; replace HB := Aside0.mk (below_step bl hb); have NB360_361 := Aside0.mk ((by rw [hg]; exact Nat.ne_of_lt (blk_lt (g := gb360) (o := .cells #[.int .i64 a0_0, .bool false] 50 (0, 0)) (uB BK360.out)) : gb360 ≠ gb361)); have NB361_360 := Aside0.mk ((by rw [hg]; exact Nat.ne_of_gt (blk_lt (g := gb360) (o := .cells #[.int .i64 a0_0, .bool false] 50 (0, 0)) (uB BK360.out)) : gb361 ≠ gb360)); replace BK360 := cB BK360 hb; clear hb hbox hg) | ((with_reducible refine gate_dst (N := 4) rfl ?_); refine bx (N := 4) #[.int .i64 0, .bool false] 50 ?_; intro gb362 hg w15 hbox hb; have BK362 := Aside0.mk (hbox); have GW362 := gw hg bl; have GE362 := GW362; replace HB := Aside0.mk (below_step bl hb); have NB360_362 := Aside0.mk ((by rw [hg]; exact Nat.ne_of_lt (blk_lt (g := gb360) (o := .cells #[.int .i64 a0_0, .bool false] 50 (0, 0)) (uB BK360.out)) : gb360 ≠ gb362)); have NB362_360 := Aside0.mk ((by rw [hg]; exact Nat.ne_of_gt (blk_lt (g := gb360) (o := .cells #[.int .i64 a0_0, .bool false] 50 (0, 0)) (uB BK360.out)) : gb362 ≠ gb360)); replace BK360 := cB BK360 hb; have NB361_362 := Aside0.mk ((by rw [hg]; exact Nat.ne_of_lt (blk_lt (g := gb361) (o := .cells #[.int .i64 a1_0, .bool true] 50 (0, 0)) (uB BK361.out)) : gb361 ≠ gb362)); have NB362_361 := Aside0.mk ((by rw [hg]; exact Nat.ne_of_gt (blk_lt (g := gb361) (o := .cells #[.int .i64 a1_0, .bool true] 50 (0, 0)) (uB BK361.out)) : gb362 ≠ gb361)); replace BK361 := cB BK361 hb; clear hb hbox hg; have hnb16 := NB360_361.out; have hnc16 := NB361_360.out; have hnb17 := NB360_362.out; have hnc17 := NB362_360.out; obtain ⟨hcz18_0, hcz18_1, hfz18_0, hfz18_1⟩ := z2 BK360; have hnb19 := NB361_362.out; have hnc19 := NB362_361.out; obtain ⟨hcz20_0, hcz20_1, hfz20_0, hfz20_1⟩ := z2 BK361; obtain ⟨hcz21_0, hcz21_1, hfz21_0, hfz21_1⟩ := z2 BK362))
   refine bodyPost_ret (results_cell_row rfl _ _ gb362 50 #[.int .i64 a1_0, .bool true] (0, 0) _ rfl (by (with_reducible repeat (first | refine blk_drewN ?_ _ | refine blk_drew ?_ | refine blk_alloc ?_ _)); refine blk_put (cs := #[.int .i64 a1_0, .bool false]) ?_ 1 _ rfl; (with_reducible repeat (first | refine blk_drewN ?_ _ | refine blk_drew ?_ | refine blk_alloc ?_ _)); refine blk_put (cs := #[.int .i64 0, .bool false]) ?_ 0 _ rfl; exact uB <| BK362.out) Try.underlying50 rfl (by kernel_rfl)) rfl ?_
   exact ⟨re_, bl⟩
  ·
   replace c12 := Bool.eq_false_iff.mpr c12
   subst c12
   rw [if_neg (show ¬ (false = true) by decide)] at H
   have HC22 := Aside0.mk H
   clear H
   go_enter Try.func45, Try.ntmps45
   go_upto_region 5 with (first | ((with_reducible refine gate_dst (N := 2) rfl ?_); refine bx (N := 2) #[.int .i64 a0_0, .bool false] 50 ?_; intro gb360 hg w23 hbox hb; have BK360 := Aside0.mk (hbox); have GW360 := gw hg (uW HB.out); have GE360 := GW360; replace HB := cW HB hb; clear hb hbox hg) | ((with_reducible refine gate_dst (N := 3) rfl ?_); refine bx (N := 3) #[.int .i64 a1_0, .bool false] 50 ?_; intro gb361 hg w24 hbox hb; have BK361 := Aside0.mk (hbox); have GW361 := gw hg bl; have GE361 := GW361; replace HB := Aside0.mk (below_step bl hb); have NB360_361 := Aside0.mk ((by rw [hg]; exact Nat.ne_of_lt (blk_lt (g := gb360) (o := .cells #[.int .i64 a0_0, .bool false] 50 (0, 0)) (uB BK360.out)) : gb360 ≠ gb361)); have NB361_360 := Aside0.mk ((by rw [hg]; exact Nat.ne_of_gt (blk_lt (g := gb360) (o := .cells #[.int .i64 a0_0, .bool false] 50 (0, 0)) (uB BK360.out)) : gb361 ≠ gb360)); replace BK360 := cB BK360 hb; clear hb hbox hg) | ((with_reducible refine gate_dst (N := 4) rfl ?_); refine bx (N := 4) #[.int .i64 0, .bool false] 50 ?_; intro gb362 hg w25 hbox hb; have BK362 := Aside0.mk (hbox); have GW362 := gw hg bl; have GE362 := GW362; replace HB := Aside0.mk (below_step bl hb); have NB360_362 := Aside0.mk ((by rw [hg]; exact Nat.ne_of_lt (blk_lt (g := gb360) (o := .cells #[.int .i64 a0_0, .bool false] 50 (0, 0)) (uB BK360.out)) : gb360 ≠ gb362)); have NB362_360 := Aside0.mk ((by rw [hg]; exact Nat.ne_of_gt (blk_lt (g := gb360) (o := .cells #[.int .i64 a0_0, .bool false] 50 (0, 0)) (uB BK360.out)) : gb362 ≠ gb360)); replace BK360 := cB BK360 hb; have NB361_362 := Aside0.mk ((by rw [hg]; exact Nat.ne_of_lt (blk_lt (g := gb361) (o := .cells #[.int .i64 a1_0, .bool false] 50 (0, 0)) (uB BK361.out)) : gb361 ≠ gb362)); have NB362_361 := Aside0.mk ((by rw [hg]; exact Nat.ne_of_gt (blk_lt (g := gb361) (o := .cells #[.int .i64 a1_0, .bool false] 50 (0, 0)) (uB BK361.out)) : gb362 ≠ gb361)); replace BK361 := cB BK361 hb; clear hb hbox hg; have hnb26 := NB360_361.out; have hnc26 := NB361_360.out; have hnb27 := NB360_362.out; have hnc27 := NB362_360.out; obtain ⟨hcz28_0, hcz28_1, hfz28_0, hfz28_1⟩ := z2 BK360; have hnb29 := NB361_362.out; have hnc29 := NB362_361.out; obtain ⟨hcz30_0, hcz30_1, hfz30_0, hfz30_1⟩ := z2 BK361))
   (try simp only [Act.put, List.setIfInBounds_toArray, List.set_cons_zero, List.set_cons_succ])
   go_cut [13] (fun v13 wc => ∃ (kq : Nat) (x13_21 : Bool), v13 = .bool x13_21 ∧ Aside0 (r01_Add.j0 kq x13_21 a0_0 false a1_0 false = some (r1, r2)) ∧ Aside0 (kq ≤ k) ∧ Aside0 (wc.heap[gb360]? = some (.cells #[.int .i64 a0_0, .bool false] 50 (0, 0))) ∧ Aside0 (wc.heap[gb361]? = some (.cells #[.int .i64 a1_0, .bool false] 50 (0, 0))) ∧ Aside0 (wc.heap[gb362]? = some (.cells #[.int .i64 0, .bool false] 50 (0, 0))) ∧ Aside0 (Below w.heap.size w wc))
   case first =>
    have H := HC22.out
    clear HC22
    by_cases c31 : a0_0 > 0
    ·
     rw [if_pos c31] at H
     have c31b0 : decide (0 < a0_0) = true := decide_eq_true c31
     clear c31
     (first | rw [c31b0] | (simp only [i64_w, i32_w]; rw [c31b0]) | skip)
     have H' := Aside0.mk H
     clear H
     have hnb32 := NB360_361.out
     have hnc32 := NB361_360.out
     have hnb33 := NB360_362.out
     have hnc33 := NB362_360.out
     obtain ⟨hcz34_0, hcz34_1, hfz34_0, hfz34_1⟩ := z2 BK360
     have hnb35 := NB361_362.out
     have hnc35 := NB362_361.out
     obtain ⟨hcz36_0, hcz36_1, hfz36_0, hfz36_1⟩ := z2 BK361
     go_wp2
     go_meet
     case rel => exact ⟨_, (decide (a1_0 > (wrap64 (9223372036854775807 - a0_0)))), rs_, H', ⟨by first | omega | exact Nat.le_refl _⟩, ⟨uB BK360.out⟩, ⟨uB BK361.out⟩, ⟨uB BK362.out⟩, ⟨bl⟩⟩
    ·
     rw [if_neg c31] at H
     have c31b0 : decide (0 < a0_0) = false := decide_eq_false c31
     clear c31
     (first | rw [c31b0] | (simp only [i64_w, i32_w]; rw [c31b0]) | skip)
     have H' := Aside0.mk H
     clear H
     have hnb37 := NB360_361.out
     have hnc37 := NB361_360.out
     have hnb38 := NB360_362.out
     have hnc38 := NB362_360.out
     obtain ⟨hcz39_0, hcz39_1, hfz39_0, hfz39_1⟩ := z2 BK360
     go_wp2
     go_meet
     case rel => exact ⟨_, (false), rs_, H', ⟨by first | omega | exact Nat.le_refl _⟩, ⟨uB BK360.out⟩, ⟨uB BK361.out⟩, ⟨uB BK362.out⟩, ⟨bl⟩⟩
   case rest =>
    clear HC22
    try clear c1
    try clear c2
    try clear p2
    try clear c3
    try clear c4
    try clear p6
    try clear c7
    try clear c8
    try clear c10
    try clear c12
    try clear c16
    try clear c17
    try clear c19
    try clear c26
    try clear c27
    try clear c29
    try clear c31
    try clear c31b0
    try clear c32
    try clear c33
    try clear c35
    try clear c37
    try clear c38
    try clear hcz11_0
    try clear hcz11_1
    try clear hcz18_0
    try clear hcz18_1
    try clear hcz20_0
    try clear hcz20_1
    try clear hcz21_0
    try clear hcz21_1
    try clear hcz28_0
    try clear hcz28_1
    try clear hcz30_0
    try clear hcz30_1
    try clear hcz34_0
    try clear hcz34_1
    try clear hcz36_0
    try clear hcz36_1
    try clear hcz39_0
    try clear hcz39_1
    try clear hcz9_0
    try clear hcz9_1
    try clear hfz11_0
    try clear hfz11_1
    try clear hfz18_0
    try clear hfz18_1
    try clear hfz20_0
    try clear hfz20_1
    try clear hfz21_0
    try clear hfz21_1
    try clear hfz28_0
    try clear hfz28_1
    try clear hfz30_0
    try clear hfz30_1
    try clear hfz34_0
    try clear hfz34_1
    try clear hfz36_0
    try clear hfz36_1
    try clear hfz39_0
    try clear hfz39_1
    try clear hfz9_0
    try clear hfz9_1
    obtain ⟨kq, x13_21, rfl, HA, HJ21, BK360, BK361, BK362, HB⟩ := hcut
    cases kq with
    | zero => exact absurd HA.out (by simp [r01_Add.j0])
    | succ kj21 =>
     have H := HA.out
     clear HA
     simp only [r01_Add.j0] at H
     by_cases c40 : x13_21 = true
     ·
      subst c40
      rw [if_pos rfl] at H
      simp only [Option.some.injEq, Prod.mk.injEq] at H
      obtain ⟨rfl, rfl⟩ := H
      have hnb41 := NB362_360.out
      have hnc41 := NB360_362.out
      have hnb42 := NB362_361.out
      have hnc42 := NB361_362.out
      obtain ⟨hcz43_0, hcz43_1, hfz43_0, hfz43_1⟩ := z2 BK362
      go_wp2
      refine bodyPost_ret (results_cell_row rfl _ _ gb362 50 #[.int .i64 9223372036854775807, .bool true] (0, 0) _ rfl (by (with_reducible repeat (first | refine blk_drewN ?_ _ | refine blk_drew ?_ | refine blk_alloc ?_ _)); refine blk_put (cs := #[.int .i64 9223372036854775807, .bool false]) ?_ 1 _ rfl; (with_reducible repeat (first | refine blk_drewN ?_ _ | refine blk_drew ?_ | refine blk_alloc ?_ _)); refine blk_put (cs := #[.int .i64 0, .bool false]) ?_ 0 _ rfl; exact uB <| BK362.out) Try.underlying50 rfl (by kernel_rfl)) rfl ?_
      exact ⟨re_, bl⟩
     ·
      replace c40 := Bool.eq_false_iff.mpr c40
      subst c40
      rw [if_neg (show ¬ (false = true) by decide)] at H
      by_cases c44 : a0_0 < 0
      ·
       rw [if_pos c44] at H
       have c44b0 : decide (a0_0 < 0) = true := decide_eq_true c44
       clear c44
       by_cases c45 : a1_0 < (wrap64 ((-9223372036854775808) - a0_0))
       ·
        rw [if_pos c45] at H
        have c45b0 : decide (a1_0 < (wrap64 ((-9223372036854775808) - a0_0))) = true := decide_eq_true c45
        clear c45
        simp only [Option.some.injEq, Prod.mk.injEq] at H
        obtain ⟨rfl, rfl⟩ := H
        have hnb46 := NB360_361.out
        have hnc46 := NB361_360.out
        have hnb47 := NB360_362.out
        have hnc47 := NB362_360.out
        obtain ⟨hcz48_0, hcz48_1, hfz48_0, hfz48_1⟩ := z2 BK360
        have hnb49 := NB361_362.out
        have hnc49 := NB362_361.out
        obtain ⟨hcz50_0, hcz50_1, hfz50_0, hfz50_1⟩ := z2 BK361
        obtain ⟨hcz51_0, hcz51_1, hfz51_0, hfz51_1⟩ := z2 BK362
        go_wp2
        refine bodyPost_ret (results_cell_row rfl _ _ gb362 50 #[.int .i64 (-9223372036854775808), .bool true] (0, 0) _ rfl (by (with_reducible repeat (first | refine blk_drewN ?_ _ | refine blk_drew ?_ | refine blk_alloc ?_ _)); refine blk_put (cs := #[.int .i64 (-9223372036854775808), .bool false]) ?_ 1 _ rfl; (with_reducible repeat (first | refine blk_drewN ?_ _ | refine blk_drew ?_ | refine blk_alloc ?_ _)); refine blk_put (cs := #[.int .i64 0, .bool false]) ?_ 0 _ rfl; exact uB <| BK362.out) Try.underlying50 rfl (by kernel_rfl)) rfl ?_
        exact ⟨re_, bl⟩
       ·
        rw [if_neg c45] at H
        have c45b0 : decide (a1_0 < (wrap64 ((-9223372036854775808) - a0_0))) = false := decide_eq_false c45
        clear c45
        simp only [Option.some.injEq, Prod.mk.injEq] at H
        obtain ⟨rfl, rfl⟩ := H
        have hnb52 := NB360_361.out
        have hnc52 := NB361_360.out
        have hnb53 := NB360_362.out
        have hnc53 := NB362_360.out
        obtain ⟨hcz54_0, hcz54_1, hfz54_0, hfz54_1⟩ := z2 BK360
        have hnb55 := NB361_362.out
        have hnc55 := NB362_361.out
        obtain ⟨hcz56_0, hcz56_1, hfz56_0, hfz56_1⟩ := z2 BK361
        obtain ⟨hcz57_0, hcz57_1, hfz57_0, hfz57_1⟩ := z2 BK362
        go_wp2
        refine bodyPost_ret (results_cell_row rfl _ _ gb362 50 #[.int .i64 (wrap64 (a0_0 + a1_0)), .bool false] (0, 0) _ rfl (by (with_reducible repeat (first | refine blk_drewN ?_ _ | refine blk_drew ?_ | refine blk_alloc ?_ _)); refine blk_put (cs := #[.int .i64 (wrap64 (a0_0 + a1_0)), .bool false]) ?_ 1 _ rfl; (with_reducible repeat (first | refine blk_drewN ?_ _ | refine blk_drew ?_ | refine blk_alloc ?_ _)); refine blk_put (cs := #[.int .i64 0, .bool false]) ?_ 0 _ rfl; exact uB <| BK362.out) Try.underlying50 rfl (by kernel_rfl)) rfl ?_
        exact ⟨re_, bl⟩
      ·
       rw [if_neg c44] at H
       have c44b0 : decide (a0_0 < 0) = false := decide_eq_false c44
       clear c44
       simp only [Option.some.injEq, Prod.mk.injEq] at H
       obtain ⟨rfl, rfl⟩ := H
       have hnb58 := NB360_361.out
       have hnc58 := NB361_360.out
       have hnb59 := NB360_362.out
       have hnc59 := NB362_360.out
       obtain ⟨hcz60_0, hcz60_1, hfz60_0, hfz60_1⟩ := z2 BK360
       have hnb61 := NB361_362.out
       have hnc61 := NB362_361.out
       obtain ⟨hcz62_0, hcz62_1, hfz62_0, hfz62_1⟩ := z2 BK361
       obtain ⟨hcz63_0, hcz63_1, hfz63_0, hfz63_1⟩ := z2 BK362
       go_wp2
       refine bodyPost_ret (results_cell_row rfl _ _ gb362 50 #[.int .i64 (wrap64 (a0_0 + a1_0)), .bool false] (0, 0) _ rfl (by (with_reducible repeat (first | refine blk_drewN ?_ _ | refine blk_drew ?_ | refine blk_alloc ?_ _)); refine blk_put (cs := #[.int .i64 (wrap64 (a0_0 + a1_0)), .bool false]) ?_ 1 _ rfl; (with_reducible repeat (first | refine blk_drewN ?_ _ | refine blk_drew ?_ | refine blk_alloc ?_ _)); refine blk_put (cs := #[.int .i64 0, .bool false]) ?_ 0 _ rfl; exact uB <| BK362.out) Try.underlying50 rfl (by kernel_rfl)) rfl ?_
       exact ⟨re_, bl⟩
def r06_Fold.j0 : Nat → Int → Int → Int → Bool → Int → Int → Option (Int × Int × Bool × Int × Int)
 | 0, _, _, _, _, _, _ => none
 | k + 1, x1, x364000, x364001, x364002, x364003, x364004 => (r01_Add.f k x364001 x364002 x1 false).bind fun bt365 => (if x1 < x364003 then (if x1 > x364004 then (some (x364000, bt365.1, bt365.2, x1, x1)) else (some (x364000, bt365.1, bt365.2, x1, x364004))) else (if x1 > x364004 then (some (x364000, bt365.1, bt365.2, x364003, x1)) else (some (x364000, bt365.1, bt365.2, x364003, x364004))))
def r06_Fold.f (k : Nat) (a0_0 : Int) (a0_1 : Int) (a0_2 : Bool) (a0_3 : Int) (a0_4 : Int) (a1 : Int) : Option (Int × Int × Bool × Int × Int) := if a0_0 < 1 then (some (1, a1, false, a1, a1)) else (if a0_0 < 9223372036854775807 then (r06_Fold.j0 k a1 (wrap64 (a0_0 + 1)) a0_1 a0_2 a0_3 a0_4) else (r06_Fold.j0 k a1 a0_0 a0_1 a0_2 a0_3 a0_4))
theorem r06_Fold.mono_l : ∀ k, (∀ y0 y1 y2 y3 y4 y5, LeC (r06_Fold.j0 k y0 y1 y2 y3 y4 y5) (r06_Fold.j0 (k + 1) y0 y1 y2 y3 y4 y5))
 | 0 => fun _ _ _ _ _ _ => ⟨fun r h => by simp [r06_Fold.j0] at h⟩
 | k + 1 => by have ih0 := r06_Fold.mono_l k; exact fun _ _ _ _ _ _ => by unfold r06_Fold.j0; exact lm
theorem r06_Fold.mono : ∀ a0 a1 a2 a3 a4 a5 k, LeO (r06_Fold.f k a0 a1 a2 a3 a4 a5) (r06_Fold.f (k + 1) a0 a1 a2 a3 a4 a5) := by
 intro a0 a1 a2 a3 a4 a5 k
 have ih0 := r06_Fold.mono_l k
 unfold r06_Fold.f
 exact lo
instance r06_Fold.mI {a0 a1 a2 a3 a4 a5 k} : LeC (r06_Fold.f k a0 a1 a2 a3 a4 a5) (r06_Fold.f (k + 1) a0 a1 a2 a3 a4 a5) := ⟨r06_Fold.mono _ _ _ _ _ _ _⟩
theorem r06_Fold.calls (k : Nat) (a0_0 : Int) (a0_1 : Int) (a0_2 : Bool) (a0_3 : Int) (a0_4 : Int) (a1 : Int) (r1 : Int) (r2 : Int) (r3 : Bool) (r4 : Int) (r5 : Int) (w : World) (h : r06_Fold.f k a0_0 a0_1 a0_2 a0_3 a0_4 a1 = some (r1, r2, r3, r4, r5)) :
 Calls Try.prog 24 #[.agg #[.int .i64 a0_0, .int .i64 a0_1, .bool a0_2, .int .i64 a0_3, .int .i64 a0_4], .int .i64 a1] w fun e w' => e = .returned (.agg #[.int .i64 r1, .int .i64 r2, .bool r3, .int .i64 r4, .int .i64 r5]) ∧ Below w.heap.size w w' := by
 have hu52 := Try.underlying52
 have hu50 := Try.underlying50
 have HB := Aside0.mk (Below.refl w.heap.size w)
 have H : (if a0_0 < 1 then (some (1, a1, false, a1, a1)) else (if a0_0 < 9223372036854775807 then (r06_Fold.j0 k a1 (wrap64 (a0_0 + 1)) a0_1 a0_2 a0_3 a0_4) else (r06_Fold.j0 k a1 a0_0 a0_1 a0_2 a0_3 a0_4))) = some (r1, r2, r3, r4, r5) := h
 clear h
 by_cases c3 : a0_0 < 1
 ·
  rw [if_pos c3] at H
  have c3b0 : decide (a0_0 < 1) = true := decide_eq_true c3
  clear c3
  simp only [Option.some.injEq, Prod.mk.injEq] at H
  obtain ⟨rfl, rfl, rfl, rfl, rfl⟩ := H
  go_enter Try.func24, Try.ntmps24
  go_wp2_with (first | ((with_reducible refine gate_dst (N := 2) rfl ?_); refine bx (N := 2) #[.int .i64 a0_0, .int .i64 a0_1, .bool a0_2, .int .i64 a0_3, .int .i64 a0_4] 52 ?_; intro gb363 hg w4 hbox hb; have BK363 := Aside0.mk (hbox); have GW363 := gw hg (uW HB.out); have GE363 := GW363; replace HB := cW HB hb; clear hb hbox hg) | ((with_reducible refine gate_dst (N := 4) rfl ?_); refine bx (N := 4) #[.int .i64 0, .int .i64 0, .bool false, .int .i64 0, .int .i64 0] 52 ?_; intro gb364 hg w5 hbox hb; have BK364 := Aside0.mk (hbox); have GW364 := gw hg bl; have GE364 := GW364; replace HB := Aside0.mk (below_step bl hb); have NB363_364 := Aside0.mk ((by rw [hg]; exact Nat.ne_of_lt (blk_lt (g := gb363) (o := .cells #[.int .i64 a0_0, .int .i64 a0_1, .bool a0_2, .int .i64 a0_3, .int .i64 a0_4] 52 (0, 0)) (uB BK363.out)) : gb363 ≠ gb364)); have NB364_363 := Aside0.mk ((by rw [hg]; exact Nat.ne_of_gt (blk_lt (g := gb363) (o := .cells #[.int .i64 a0_0, .int .i64 a0_1, .bool a0_2, .int .i64 a0_3, .int .i64 a0_4] 52 (0, 0)) (uB BK363.out)) : gb364 ≠ gb363)); replace BK363 := cB BK363 hb; clear hb hbox hg; have hnb6 := NB363_364.out; have hnc6 := NB364_363.out; obtain ⟨hcz7_0, hcz7_1, hcz7_2, hcz7_3, hcz7_4, hfz7_0, hfz7_1, hfz7_2, hfz7_3, hfz7_4⟩ := z5 BK363; obtain ⟨hcz8_0, hcz8_1, hcz8_2, hcz8_3, hcz8_4, hfz8_0, hfz8_1, hfz8_2, hfz8_3, hfz8_4⟩ := z5 BK364) | ((with_reducible refine gate_store (t := 52) (p := 4) rfl ?_); refine store_event (t := 52) (p := 4) (v := ?vo_w9) (w1 := (((((w5.setCell ⟨gb364, 0, none⟩ (.int .i64 1)).setCell ⟨gb364, 1, none⟩ (.int .i64 a1)).setCell ⟨gb364, 2, none⟩ (.bool false)).setCell ⟨gb364, 3, none⟩ (.int .i64 a1)).setCell ⟨gb364, 4, none⟩ (.int .i64 a1))) ?hg ?ho ?hn ?hr ?_; (case ho => rfl); (case hg => rfl); (case hn => rfl); (case hr => first | (go_simp; done) | (go_simp; rfl)); intro w9 hw; have n0_ : Aside0 (w9.heap[gb363]? = some (.cells #[.int .i64 a0_0, .int .i64 a0_1, .bool a0_2, .int .i64 a0_3, .int .i64 a0_4] 52 (0, 0))) := ⟨(by rw [hw]; exact (by (with_reducible repeat (first | refine blk_drewN ?_ _ | refine blk_drew ?_ | refine blk_alloc ?_ _)); refine blk_far ?_ NB363_364.out _; (with_reducible repeat (first | refine blk_drewN ?_ _ | refine blk_drew ?_ | refine blk_alloc ?_ _)); refine blk_far ?_ NB363_364.out _; (with_reducible repeat (first | refine blk_drewN ?_ _ | refine blk_drew ?_ | refine blk_alloc ?_ _)); refine blk_far ?_ NB363_364.out _; (with_reducible repeat (first | refine blk_drewN ?_ _ | refine blk_drew ?_ | refine blk_alloc ?_ _)); refine blk_far ?_ NB363_364.out _; (with_reducible repeat (first | refine blk_drewN ?_ _ | refine blk_drew ?_ | refine blk_alloc ?_ _)); refine blk_far ?_ NB363_364.out _; exact uB <| BK363.out))⟩; have n1_ : Aside0 (w9.heap[gb364]? = some (.cells #[.int .i64 1, .int .i64 a1, .bool false, .int .i64 a1, .int .i64 a1] 52 (0, 0))) := ⟨(by rw [hw]; exact (by (with_reducible repeat (first | refine blk_drewN ?_ _ | refine blk_drew ?_ | refine blk_alloc ?_ _)); refine blk_put (cs := #[.int .i64 1, .int .i64 a1, .bool false, .int .i64 a1, .int .i64 0]) ?_ 4 _ rfl; (with_reducible repeat (first | refine blk_drewN ?_ _ | refine blk_drew ?_ | refine blk_alloc ?_ _)); refine blk_put (cs := #[.int .i64 1, .int .i64 a1, .bool false, .int .i64 0, .int .i64 0]) ?_ 3 _ rfl; (with_reducible repeat (first | refine blk_drewN ?_ _ | refine blk_drew ?_ | refine blk_alloc ?_ _)); refine blk_put (cs := #[.int .i64 1, .int .i64 a1, .bool false, .int .i64 0, .int .i64 0]) ?_ 2 _ rfl; (with_reducible repeat (first | refine blk_drewN ?_ _ | refine blk_drew ?_ | refine blk_alloc ?_ _)); refine blk_put (cs := #[.int .i64 1, .int .i64 0, .bool false, .int .i64 0, .int .i64 0]) ?_ 1 _ rfl; (with_reducible repeat (first | refine blk_drewN ?_ _ | refine blk_drew ?_ | refine blk_alloc ?_ _)); refine blk_put (cs := #[.int .i64 0, .int .i64 0, .bool false, .int .i64 0, .int .i64 0]) ?_ 0 _ rfl; exact uB <| BK364.out))⟩; have n2_ : Aside0 (Below w.heap.size w w9) := ⟨(by rw [hw]; exact bl)⟩; clear hw; clear BK363; clear BK364; clear HB; have BK363 := n0_; have BK364 := n1_; have HB := n2_; clear n0_ n1_ n2_))
  refine bodyPost_ret (results_cell_row rfl _ _ gb364 52 #[.int .i64 1, .int .i64 a1, .bool false, .int .i64 a1, .int .i64 a1] (0, 0) _ rfl (uB BK364.out) Try.underlying52 rfl (by kernel_rfl)) rfl ?_
  exact ⟨re_, bl⟩
 ·
  rw [if_neg c3] at H
  have c3b0 : decide (a0_0 < 1) = false := decide_eq_false c3
  clear c3
  have HC10 := Aside0.mk H
  clear H
  go_enter Try.func24, Try.ntmps24
  go_upto_if 15 with (first | ((with_reducible refine gate_dst (N := 2) rfl ?_); refine bx (N := 2) #[.int .i64 a0_0, .int .i64 a0_1, .bool a0_2, .int .i64 a0_3, .int .i64 a0_4] 52 ?_; intro gb363 hg w11 hbox hb; have BK363 := Aside0.mk (hbox); have GW363 := gw hg (uW HB.out); have GE363 := GW363; replace HB := cW HB hb; clear hb hbox hg) | ((with_reducible refine gate_dst (N := 4) rfl ?_); refine bx (N := 4) #[.int .i64 0, .int .i64 0, .bool false, .int .i64 0, .int .i64 0] 52 ?_; intro gb364 hg w12 hbox hb; have BK364 := Aside0.mk (hbox); have GW364 := gw hg bl; have GE364 := GW364; replace HB := Aside0.mk (below_step bl hb); have NB363_364 := Aside0.mk ((by rw [hg]; exact Nat.ne_of_lt (blk_lt (g := gb363) (o := .cells #[.int .i64 a0_0, .int .i64 a0_1, .bool a0_2, .int .i64 a0_3, .int .i64 a0_4] 52 (0, 0)) (uB BK363.out)) : gb363 ≠ gb364)); have NB364_363 := Aside0.mk ((by rw [hg]; exact Nat.ne_of_gt (blk_lt (g := gb363) (o := .cells #[.int .i64 a0_0, .int .i64 a0_1, .bool a0_2, .int .i64 a0_3, .int .i64 a0_4] 52 (0, 0)) (uB BK363.out)) : gb364 ≠ gb363)); replace BK363 := cB BK363 hb; clear hb hbox hg; have hnb13 := NB363_364.out; have hnc13 := NB364_363.out; obtain ⟨hcz14_0, hcz14_1, hcz14_2, hcz14_3, hcz14_4, hfz14_0, hfz14_1, hfz14_2, hfz14_3, hfz14_4⟩ := z5 BK363))
  (try simp only [Act.put, List.setIfInBounds_toArray, List.set_cons_zero, List.set_cons_succ])
  go_cut [] (fun wc => ∃ (kq : Nat) (x364000_9 : Int), Aside0 (r06_Fold.j0 kq a1 x364000_9 a0_1 a0_2 a0_3 a0_4 = some (r1, r2, r3, r4, r5)) ∧ Aside0 (kq ≤ k) ∧ Aside0 (wc.heap[gb363]? = some (.cells #[.int .i64 x364000_9, .int .i64 a0_1, .bool a0_2, .int .i64 a0_3, .int .i64 a0_4] 52 (0, 0))) ∧ Aside0 (wc.heap[gb364]? = some (.cells #[.int .i64 0, .int .i64 0, .bool false, .int .i64 0, .int .i64 0] 52 (0, 0))) ∧ Aside0 (Below w.heap.size w wc))
  case first =>
   have H := HC10.out
   clear HC10
   by_cases c15 : a0_0 < 9223372036854775807
   ·
    rw [if_pos c15] at H
    have c15b0 : decide (a0_0 < 9223372036854775807) = true := decide_eq_true c15
    clear c15
    (first | rw [c15b0] | (simp only [i64_w, i32_w]; rw [c15b0]) | skip)
    have H' := Aside0.mk H
    clear H
    have hnb16 := NB363_364.out
    have hnc16 := NB364_363.out
    obtain ⟨hcz17_0, hcz17_1, hcz17_2, hcz17_3, hcz17_4, hfz17_0, hfz17_1, hfz17_2, hfz17_3, hfz17_4⟩ := z5 BK363
    go_wp2
    go_meet
    case rel => exact ⟨_, (wrap64 (a0_0 + 1)), H', ⟨by first | omega | exact Nat.le_refl _⟩, ⟨by (with_reducible repeat (first | refine blk_drewN ?_ _ | refine blk_drew ?_ | refine blk_alloc ?_ _)); refine blk_put (cs := #[.int .i64 a0_0, .int .i64 a0_1, .bool a0_2, .int .i64 a0_3, .int .i64 a0_4]) ?_ 0 _ rfl; exact uB <| BK363.out⟩, ⟨by (with_reducible repeat (first | refine blk_drewN ?_ _ | refine blk_drew ?_ | refine blk_alloc ?_ _)); refine blk_far ?_ NB364_363.out _; exact uB <| BK364.out⟩, ⟨bl⟩⟩
   ·
    rw [if_neg c15] at H
    have c15b0 : decide (a0_0 < 9223372036854775807) = false := decide_eq_false c15
    clear c15
    (first | rw [c15b0] | (simp only [i64_w, i32_w]; rw [c15b0]) | skip)
    have H' := Aside0.mk H
    clear H
    go_wp2
    go_meet
    case rel => exact ⟨_, (a0_0), H', ⟨by first | omega | exact Nat.le_refl _⟩, ⟨uB BK363.out⟩, ⟨uB BK364.out⟩, ⟨bl⟩⟩
  case rest =>
   clear HC10
   try clear c1
   try clear c2
   try clear p2
   try clear c3
   try clear c3b0
   try clear c6
   try clear p6
   try clear c13
   try clear c15
   try clear c15b0
   try clear c16
   try clear hcz14_0
   try clear hcz14_1
   try clear hcz14_2
   try clear hcz14_3
   try clear hcz14_4
   try clear hcz17_0
   try clear hcz17_1
   try clear hcz17_2
   try clear hcz17_3
   try clear hcz17_4
   try clear hcz7_0
   try clear hcz7_1
   try clear hcz7_2
   try clear hcz7_3
   try clear hcz7_4
   try clear hcz8_0
   try clear hcz8_1
   try clear hcz8_2
   try clear hcz8_3
   try clear hcz8_4
   try clear hfz14_0
   try clear hfz14_1
   try clear hfz14_2
   try clear hfz14_3
   try clear hfz14_4
   try clear hfz17_0
   try clear hfz17_1
   try clear hfz17_2
   try clear hfz17_3
   try clear hfz17_4
   try clear hfz7_0
   try clear hfz7_1
   try clear hfz7_2
   try clear hfz7_3
   try clear hfz7_4
   try clear hfz8_0
   try clear hfz8_1
   try clear hfz8_2
   try clear hfz8_3
   try clear hfz8_4
   obtain ⟨kq, x364000_9, HA, HJ9, BK363, BK364, HB⟩ := hcut
   cases kq with
   | zero => exact absurd HA.out (by simp [r06_Fold.j0])
   | succ kj9 =>
    have H := HA.out
    clear HA
    simp only [r06_Fold.j0] at H
    obtain ⟨⟨t365, t366⟩, A18, H⟩ := bs H
    try dsimp only at H
    by_cases c19 : a1 < a0_3
    ·
     rw [if_pos c19] at H
     have c19b0 : decide (a1 < a0_3) = true := decide_eq_true c19
     clear c19
     by_cases c20 : a1 > a0_4
     ·
      rw [if_pos c20] at H
      have c20b0 : decide (a0_4 < a1) = true := decide_eq_true c20
      clear c20
      simp only [Option.some.injEq, Prod.mk.injEq] at H
      obtain ⟨rfl, rfl, rfl, rfl, rfl⟩ := H
      have hnb21 := NB363_364.out
      have hnc21 := NB364_363.out
      have hcz22_0 : wc.cell? ⟨gb363, 0, none⟩ = some (.int .i64 x364000_9) := (blk_cell BK363.out 0).trans rfl
      have hcz22_1 : wc.cell? ⟨gb363, 1, none⟩ = some (.int .i64 a0_1) := (blk_cell BK363.out 1).trans rfl
      have hcz22_2 : wc.cell? ⟨gb363, 2, none⟩ = some (.bool a0_2) := (blk_cell BK363.out 2).trans rfl
      have hcz22_3 : wc.cell? ⟨gb363, 3, none⟩ = some (.int .i64 a0_3) := (blk_cell BK363.out 3).trans rfl
      have hcz22_4 : wc.cell? ⟨gb363, 4, none⟩ = some (.int .i64 a0_4) := (blk_cell BK363.out 4).trans rfl
      have hfz22_0 := blk_frozen BK363.out 0
      have hfz22_1 := blk_frozen BK363.out 1
      have hfz22_2 := blk_frozen BK363.out 2
      have hfz22_3 := blk_frozen BK363.out 3
      have hfz22_4 := blk_frozen BK363.out 4
      go_wp2_with (first | (refine gL (some 24) rfl Try.func45 #[.agg #[.int .i64 a0_1, .bool a0_2], .agg #[.int .i64 a1, .bool false]] ?_; (with_reducible refine (r01_Add.calls kj9 a0_1 a0_2 a1 false t365 t366 _ A18.out).mono ?_); rintro e w23 ⟨rfl, hb⟩; refine ⟨_, rfl, ?_⟩; replace BK363 := cB BK363 hb; replace BK364 := cB BK364 hb; replace HB := Aside0.mk (below_step bl hb); (try clear hb); obtain ⟨hcz24_0, hcz24_1, hcz24_2, hcz24_3, hcz24_4, hfz24_0, hfz24_1, hfz24_2, hfz24_3, hfz24_4⟩ := z5 BK363; obtain ⟨hcz25_0, hcz25_1, hcz25_2, hcz25_3, hcz25_4, hfz25_0, hfz25_1, hfz25_2, hfz25_3, hfz25_4⟩ := z5 BK364) | ((with_reducible refine gate_store (t := 52) (p := 4) rfl ?_); refine store_event (t := 52) (p := 4) (v := ?vo_w26) (w1 := (((((((((w23.setCell ⟨gb363, 1, none⟩ (.int .i64 t365)).setCell ⟨gb363, 2, none⟩ (.bool t366)).setCell ⟨gb363, 3, none⟩ (.int .i64 a1)).setCell ⟨gb363, 4, none⟩ (.int .i64 a1)).setCell ⟨gb364, 0, none⟩ (.int .i64 x364000_9)).setCell ⟨gb364, 1, none⟩ (.int .i64 t365)).setCell ⟨gb364, 2, none⟩ (.bool t366)).setCell ⟨gb364, 3, none⟩ (.int .i64 a1)).setCell ⟨gb364, 4, none⟩ (.int .i64 a1))) ?hg ?ho ?hn ?hr ?_; (case ho => rfl); (case hg => rfl); (case hn => rfl); (case hr => first | (go_simp; done) | (go_simp; rfl)); intro w26 hw; have n0_ : Aside0 (w26.heap[gb363]? = some (.cells #[.int .i64 x364000_9, .int .i64 t365, .bool t366, .int .i64 a1, .int .i64 a1] 52 (0, 0))) := ⟨(by rw [hw]; exact (by (with_reducible repeat (first | refine blk_drewN ?_ _ | refine blk_drew ?_ | refine blk_alloc ?_ _)); refine blk_far ?_ NB363_364.out _; (with_reducible repeat (first | refine blk_drewN ?_ _ | refine blk_drew ?_ | refine blk_alloc ?_ _)); refine blk_far ?_ NB363_364.out _; (with_reducible repeat (first | refine blk_drewN ?_ _ | refine blk_drew ?_ | refine blk_alloc ?_ _)); refine blk_far ?_ NB363_364.out _; (with_reducible repeat (first | refine blk_drewN ?_ _ | refine blk_drew ?_ | refine blk_alloc ?_ _)); refine blk_far ?_ NB363_364.out _; (with_reducible repeat (first | refine blk_drewN ?_ _ | refine blk_drew ?_ | refine blk_alloc ?_ _)); refine blk_far ?_ NB363_364.out _; (with_reducible repeat (first | refine blk_drewN ?_ _ | refine blk_drew ?_ | refine blk_alloc ?_ _)); refine blk_put (cs := #[.int .i64 x364000_9, .int .i64 t365, .bool t366, .int .i64 a1, .int .i64 a0_4]) ?_ 4 _ rfl; (with_reducible repeat (first | refine blk_drewN ?_ _ | refine blk_drew ?_ | refine blk_alloc ?_ _)); refine blk_put (cs := #[.int .i64 x364000_9, .int .i64 t365, .bool t366, .int .i64 a0_3, .int .i64 a0_4]) ?_ 3 _ rfl; (with_reducible repeat (first | refine blk_drewN ?_ _ | refine blk_drew ?_ | refine blk_alloc ?_ _)); refine blk_put (cs := #[.int .i64 x364000_9, .int .i64 t365, .bool a0_2, .int .i64 a0_3, .int .i64 a0_4]) ?_ 2 _ rfl; (with_reducible repeat (first | refine blk_drewN ?_ _ | refine blk_drew ?_ | refine blk_alloc ?_ _)); refine blk_put (cs := #[.int .i64 x364000_9, .int .i64 a0_1, .bool a0_2, .int .i64 a0_3, .int .i64 a0_4]) ?_ 1 _ rfl; exact uB <| BK363.out))⟩; have n1_ : Aside0 (w26.heap[gb364]? = some (.cells #[.int .i64 x364000_9, .int .i64 t365, .bool t366, .int .i64 a1, .int .i64 a1] 52 (0, 0))) := ⟨(by rw [hw]; exact (by (with_reducible repeat (first | refine blk_drewN ?_ _ | refine blk_drew ?_ | refine blk_alloc ?_ _)); refine blk_put (cs := #[.int .i64 x364000_9, .int .i64 t365, .bool t366, .int .i64 a1, .int .i64 0]) ?_ 4 _ rfl; (with_reducible repeat (first | refine blk_drewN ?_ _ | refine blk_drew ?_ | refine blk_alloc ?_ _)); refine blk_put (cs := #[.int .i64 x364000_9, .int .i64 t365, .bool t366, .int .i64 0, .int .i64 0]) ?_ 3 _ rfl; (with_reducible repeat (first | refine blk_drewN ?_ _ | refine blk_drew ?_ | refine blk_alloc ?_ _)); refine blk_put (cs := #[.int .i64 x364000_9, .int .i64 t365, .bool false, .int .i64 0, .int .i64 0]) ?_ 2 _ rfl; (with_reducible repeat (first | refine blk_drewN ?_ _ | refine blk_drew ?_ | refine blk_alloc ?_ _)); refine blk_put (cs := #[.int .i64 x364000_9, .int .i64 0, .bool false, .int .i64 0, .int .i64 0]) ?_ 1 _ rfl; (with_reducible repeat (first | refine blk_drewN ?_ _ | refine blk_drew ?_ | refine blk_alloc ?_ _)); refine blk_put (cs := #[.int .i64 0, .int .i64 0, .bool false, .int .i64 0, .int .i64 0]) ?_ 0 _ rfl; (with_reducible repeat (first | refine blk_drewN ?_ _ | refine blk_drew ?_ | refine blk_alloc ?_ _)); refine blk_far ?_ NB364_363.out _; (with_reducible repeat (first | refine blk_drewN ?_ _ | refine blk_drew ?_ | refine blk_alloc ?_ _)); refine blk_far ?_ NB364_363.out _; (with_reducible repeat (first | refine blk_drewN ?_ _ | refine blk_drew ?_ | refine blk_alloc ?_ _)); refine blk_far ?_ NB364_363.out _; (with_reducible repeat (first | refine blk_drewN ?_ _ | refine blk_drew ?_ | refine blk_alloc ?_ _)); refine blk_far ?_ NB364_363.out _; exact uB <| BK364.out))⟩; have n2_ : Aside0 (Below w.heap.size w w26) := ⟨(by rw [hw]; exact bl)⟩; clear hw; clear BK363; clear BK364; clear HB; have BK363 := n0_; have BK364 := n1_; have HB := n2_; clear n0_ n1_ n2_))
      refine bodyPost_ret (results_cell_row rfl _ _ gb364 52 #[.int .i64 x364000_9, .int .i64 t365, .bool t366, .int .i64 a1, .int .i64 a1] (0, 0) _ rfl (uB BK364.out) Try.underlying52 rfl (by kernel_rfl)) rfl ?_
      exact ⟨re_, bl⟩
     ·
      rw [if_neg c20] at H
      have c20b0 : decide (a0_4 < a1) = false := decide_eq_false c20
      clear c20
      simp only [Option.some.injEq, Prod.mk.injEq] at H
      obtain ⟨rfl, rfl, rfl, rfl, rfl⟩ := H
      have hnb27 := NB363_364.out
      have hnc27 := NB364_363.out
      have hcz28_0 : wc.cell? ⟨gb363, 0, none⟩ = some (.int .i64 x364000_9) := (blk_cell BK363.out 0).trans rfl
      have hcz28_1 : wc.cell? ⟨gb363, 1, none⟩ = some (.int .i64 a0_1) := (blk_cell BK363.out 1).trans rfl
      have hcz28_2 : wc.cell? ⟨gb363, 2, none⟩ = some (.bool a0_2) := (blk_cell BK363.out 2).trans rfl
      have hcz28_3 : wc.cell? ⟨gb363, 3, none⟩ = some (.int .i64 a0_3) := (blk_cell BK363.out 3).trans rfl
      have hcz28_4 : wc.cell? ⟨gb363, 4, none⟩ = some (.int .i64 a0_4) := (blk_cell BK363.out 4).trans rfl
      have hfz28_0 := blk_frozen BK363.out 0
      have hfz28_1 := blk_frozen BK363.out 1
      have hfz28_2 := blk_frozen BK363.out 2
      have hfz28_3 := blk_frozen BK363.out 3
      have hfz28_4 := blk_frozen BK363.out 4
      go_wp2_with (first | (refine gL (some 24) rfl Try.func45 #[.agg #[.int .i64 a0_1, .bool a0_2], .agg #[.int .i64 a1, .bool false]] ?_; (with_reducible refine (r01_Add.calls kj9 a0_1 a0_2 a1 false t365 t366 _ A18.out).mono ?_); rintro e w29 ⟨rfl, hb⟩; refine ⟨_, rfl, ?_⟩; replace BK363 := cB BK363 hb; replace BK364 := cB BK364 hb; replace HB := Aside0.mk (below_step bl hb); (try clear hb); obtain ⟨hcz30_0, hcz30_1, hcz30_2, hcz30_3, hcz30_4, hfz30_0, hfz30_1, hfz30_2, hfz30_3, hfz30_4⟩ := z5 BK363; obtain ⟨hcz31_0, hcz31_1, hcz31_2, hcz31_3, hcz31_4, hfz31_0, hfz31_1, hfz31_2, hfz31_3, hfz31_4⟩ := z5 BK364) | ((with_reducible refine gate_store (t := 52) (p := 4) rfl ?_); refine store_event (t := 52) (p := 4) (v := ?vo_w32) (w1 := ((((((((w29.setCell ⟨gb363, 1, none⟩ (.int .i64 t365)).setCell ⟨gb363, 2, none⟩ (.bool t366)).setCell ⟨gb363, 3, none⟩ (.int .i64 a1)).setCell ⟨gb364, 0, none⟩ (.int .i64 x364000_9)).setCell ⟨gb364, 1, none⟩ (.int .i64 t365)).setCell ⟨gb364, 2, none⟩ (.bool t366)).setCell ⟨gb364, 3, none⟩ (.int .i64 a1)).setCell ⟨gb364, 4, none⟩ (.int .i64 a0_4))) ?hg ?ho ?hn ?hr ?_; (case ho => rfl); (case hg => rfl); (case hn => rfl); (case hr => first | (go_simp; done) | (go_simp; rfl)); intro w32 hw; have n0_ : Aside0 (w32.heap[gb363]? = some (.cells #[.int .i64 x364000_9, .int .i64 t365, .bool t366, .int .i64 a1, .int .i64 a0_4] 52 (0, 0))) := ⟨(by rw [hw]; exact (by (with_reducible repeat (first | refine blk_drewN ?_ _ | refine blk_drew ?_ | refine blk_alloc ?_ _)); refine blk_far ?_ NB363_364.out _; (with_reducible repeat (first | refine blk_drewN ?_ _ | refine blk_drew ?_ | refine blk_alloc ?_ _)); refine blk_far ?_ NB363_364.out _; (with_reducible repeat (first | refine blk_drewN ?_ _ | refine blk_drew ?_ | refine blk_alloc ?_ _)); refine blk_far ?_ NB363_364.out _; (with_reducible repeat (first | refine blk_drewN ?_ _ | refine blk_drew ?_ | refine blk_alloc ?_ _)); refine blk_far ?_ NB363_364.out _; (with_reducible repeat (first | refine blk_drewN ?_ _ | refine blk_drew ?_ | refine blk_alloc ?_ _)); refine blk_far ?_ NB363_364.out _; (with_reducible repeat (first | refine blk_drewN ?_ _ | refine blk_drew ?_ | refine blk_alloc ?_ _)); refine blk_put (cs := #[.int .i64 x364000_9, .int .i64 t365, .bool t366, .int .i64 a0_3, .int .i64 a0_4]) ?_ 3 _ rfl; (with_reducible repeat (first | refine blk_drewN ?_ _ | refine blk_drew ?_ | refine blk_alloc ?_ _)); refine blk_put (cs := #[.int .i64 x364000_9, .int .i64 t365, .bool a0_2, .int .i64 a0_3, .int .i64 a0_4]) ?_ 2 _ rfl; (with_reducible repeat (first | refine blk_drewN ?_ _ | refine blk_drew ?_ | refine blk_alloc ?_ _)); refine blk_put (cs := #[.int .i64 x364000_9, .int .i64 a0_1, .bool a0_2, .int .i64 a0_3, .int .i64 a0_4]) ?_ 1 _ rfl; exact uB <| BK363.out))⟩; have n1_ : Aside0 (w32.heap[gb364]? = some (.cells #[.int .i64 x364000_9, .int .i64 t365, .bool t366, .int .i64 a1, .int .i64 a0_4] 52 (0, 0))) := ⟨(by rw [hw]; exact (by (with_reducible repeat (first | refine blk_drewN ?_ _ | refine blk_drew ?_ | refine blk_alloc ?_ _)); refine blk_put (cs := #[.int .i64 x364000_9, .int .i64 t365, .bool t366, .int .i64 a1, .int .i64 0]) ?_ 4 _ rfl; (with_reducible repeat (first | refine blk_drewN ?_ _ | refine blk_drew ?_ | refine blk_alloc ?_ _)); refine blk_put (cs := #[.int .i64 x364000_9, .int .i64 t365, .bool t366, .int .i64 0, .int .i64 0]) ?_ 3 _ rfl; (with_reducible repeat (first | refine blk_drewN ?_ _ | refine blk_drew ?_ | refine blk_alloc ?_ _)); refine blk_put (cs := #[.int .i64 x364000_9, .int .i64 t365, .bool false, .int .i64 0, .int .i64 0]) ?_ 2 _ rfl; (with_reducible repeat (first | refine blk_drewN ?_ _ | refine blk_drew ?_ | refine blk_alloc ?_ _)); refine blk_put (cs := #[.int .i64 x364000_9, .int .i64 0, .bool false, .int .i64 0, .int .i64 0]) ?_ 1 _ rfl; (with_reducible repeat (first | refine blk_drewN ?_ _ | refine blk_drew ?_ | refine blk_alloc ?_ _)); refine blk_put (cs := #[.int .i64 0, .int .i64 0, .bool false, .int .i64 0, .int .i64 0]) ?_ 0 _ rfl; (with_reducible repeat (first | refine blk_drewN ?_ _ | refine blk_drew ?_ | refine blk_alloc ?_ _)); refine blk_far ?_ NB364_363.out _; (with_reducible repeat (first | refine blk_drewN ?_ _ | refine blk_drew ?_ | refine blk_alloc ?_ _)); refine blk_far ?_ NB364_363.out _; (with_reducible repeat (first | refine blk_drewN ?_ _ | refine blk_drew ?_ | refine blk_alloc ?_ _)); refine blk_far ?_ NB364_363.out _; exact uB <| BK364.out))⟩; have n2_ : Aside0 (Below w.heap.size w w32) := ⟨(by rw [hw]; exact bl)⟩; clear hw; clear BK363; clear BK364; clear HB; have BK363 := n0_; have BK364 := n1_; have HB := n2_; clear n0_ n1_ n2_))
      refine bodyPost_ret (results_cell_row rfl _ _ gb364 52 #[.int .i64 x364000_9, .int .i64 t365, .bool t366, .int .i64 a1, .int .i64 a0_4] (0, 0) _ rfl (uB BK364.out) Try.underlying52 rfl (by kernel_rfl)) rfl ?_
      exact ⟨re_, bl⟩
    ·
     rw [if_neg c19] at H
     have c19b0 : decide (a1 < a0_3) = false := decide_eq_false c19
     clear c19
     by_cases c33 : a1 > a0_4
     ·
      rw [if_pos c33] at H
      have c33b0 : decide (a0_4 < a1) = true := decide_eq_true c33
      clear c33
      simp only [Option.some.injEq, Prod.mk.injEq] at H
      obtain ⟨rfl, rfl, rfl, rfl, rfl⟩ := H
      have hnb34 := NB363_364.out
      have hnc34 := NB364_363.out
      have hcz35_0 : wc.cell? ⟨gb363, 0, none⟩ = some (.int .i64 x364000_9) := (blk_cell BK363.out 0).trans rfl
      have hcz35_1 : wc.cell? ⟨gb363, 1, none⟩ = some (.int .i64 a0_1) := (blk_cell BK363.out 1).trans rfl
      have hcz35_2 : wc.cell? ⟨gb363, 2, none⟩ = some (.bool a0_2) := (blk_cell BK363.out 2).trans rfl
      have hcz35_3 : wc.cell? ⟨gb363, 3, none⟩ = some (.int .i64 a0_3) := (blk_cell BK363.out 3).trans rfl
      have hcz35_4 : wc.cell? ⟨gb363, 4, none⟩ = some (.int .i64 a0_4) := (blk_cell BK363.out 4).trans rfl
      have hfz35_0 := blk_frozen BK363.out 0
      have hfz35_1 := blk_frozen BK363.out 1
      have hfz35_2 := blk_frozen BK363.out 2
      have hfz35_3 := blk_frozen BK363.out 3
      have hfz35_4 := blk_frozen BK363.out 4
      go_wp2_with (first | (refine gL (some 24) rfl Try.func45 #[.agg #[.int .i64 a0_1, .bool a0_2], .agg #[.int .i64 a1, .bool false]] ?_; (with_reducible refine (r01_Add.calls kj9 a0_1 a0_2 a1 false t365 t366 _ A18.out).mono ?_); rintro e w36 ⟨rfl, hb⟩; refine ⟨_, rfl, ?_⟩; replace BK363 := cB BK363 hb; replace BK364 := cB BK364 hb; replace HB := Aside0.mk (below_step bl hb); (try clear hb); obtain ⟨hcz37_0, hcz37_1, hcz37_2, hcz37_3, hcz37_4, hfz37_0, hfz37_1, hfz37_2, hfz37_3, hfz37_4⟩ := z5 BK363; obtain ⟨hcz38_0, hcz38_1, hcz38_2, hcz38_3, hcz38_4, hfz38_0, hfz38_1, hfz38_2, hfz38_3, hfz38_4⟩ := z5 BK364) | ((with_reducible refine gate_store (t := 52) (p := 4) rfl ?_); refine store_event (t := 52) (p := 4) (v := ?vo_w39) (w1 := ((((((((w36.setCell ⟨gb363, 1, none⟩ (.int .i64 t365)).setCell ⟨gb363, 2, none⟩ (.bool t366)).setCell ⟨gb363, 4, none⟩ (.int .i64 a1)).setCell ⟨gb364, 0, none⟩ (.int .i64 x364000_9)).setCell ⟨gb364, 1, none⟩ (.int .i64 t365)).setCell ⟨gb364, 2, none⟩ (.bool t366)).setCell ⟨gb364, 3, none⟩ (.int .i64 a0_3)).setCell ⟨gb364, 4, none⟩ (.int .i64 a1))) ?hg ?ho ?hn ?hr ?_; (case ho => rfl); (case hg => rfl); (case hn => rfl); (case hr => first | (go_simp; done) | (go_simp; rfl)); intro w39 hw; have n0_ : Aside0 (w39.heap[gb363]? = some (.cells #[.int .i64 x364000_9, .int .i64 t365, .bool t366, .int .i64 a0_3, .int .i64 a1] 52 (0, 0))) := ⟨(by rw [hw]; exact (by (with_reducible repeat (first | refine blk_drewN ?_ _ | refine blk_drew ?_ | refine blk_alloc ?_ _)); refine blk_far ?_ NB363_364.out _; (with_reducible repeat (first | refine blk_drewN ?_ _ | refine blk_drew ?_ | refine blk_alloc ?_ _)); refine blk_far ?_ NB363_364.out _; (with_reducible repeat (first | refine blk_drewN ?_ _ | refine blk_drew ?_ | refine blk_alloc ?_ _)); refine blk_far ?_ NB363_364.out _; (with_reducible repeat (first | refine blk_drewN ?_ _ | refine blk_drew ?_ | refine blk_alloc ?_ _)); refine blk_far ?_ NB363_364.out _; (with_reducible repeat (first | refine blk_drewN ?_ _ | refine blk_drew ?_ | refine blk_alloc ?_ _)); refine blk_far ?_ NB363_364.out _; (with_reducible repeat (first | refine blk_drewN ?_ _ | refine blk_drew ?_ | refine blk_alloc ?_ _)); refine blk_put (cs := #[.int .i64 x364000_9, .int .i64 t365, .bool t366, .int .i64 a0_3, .int .i64 a0_4]) ?_ 4 _ rfl; (with_reducible repeat (first | refine blk_drewN ?_ _ | refine blk_drew ?_ | refine blk_alloc ?_ _)); refine blk_put (cs := #[.int .i64 x364000_9, .int .i64 t365, .bool a0_2, .int .i64 a0_3, .int .i64 a0_4]) ?_ 2 _ rfl; (with_reducible repeat (first | refine blk_drewN ?_ _ | refine blk_drew ?_ | refine blk_alloc ?_ _)); refine blk_put (cs := #[.int .i64 x364000_9, .int .i64 a0_1, .bool a0_2, .int .i64 a0_3, .int .i64 a0_4]) ?_ 1 _ rfl; exact uB <| BK363.out))⟩; have n1_ : Aside0 (w39.heap[gb364]? = some (.cells #[.int .i64 x364000_9, .int .i64 t365, .bool t366, .int .i64 a0_3, .int .i64 a1] 52 (0, 0))) := ⟨(by rw [hw]; exact (by (with_reducible repeat (first | refine blk_drewN ?_ _ | refine blk_drew ?_ | refine blk_alloc ?_ _)); refine blk_put (cs := #[.int .i64 x364000_9, .int .i64 t365, .bool t366, .int .i64 a0_3, .int .i64 0]) ?_ 4 _ rfl; (with_reducible repeat (first | refine blk_drewN ?_ _ | refine blk_drew ?_ | refine blk_alloc ?_ _)); refine blk_put (cs := #[.int .i64 x364000_9, .int .i64 t365, .bool t366, .int .i64 0, .int .i64 0]) ?_ 3 _ rfl; (with_reducible repeat (first | refine blk_drewN ?_ _ | refine blk_drew ?_ | refine blk_alloc ?_ _)); refine blk_put (cs := #[.int .i64 x364000_9, .int .i64 t365, .bool false, .int .i64 0, .int .i64 0]) ?_ 2 _ rfl; (with_reducible repeat (first | refine blk_drewN ?_ _ | refine blk_drew ?_ | refine blk_alloc ?_ _)); refine blk_put (cs := #[.int .i64 x364000_9, .int .i64 0, .bool false, .int .i64 0, .int .i64 0]) ?_ 1 _ rfl; (with_reducible repeat (first | refine blk_drewN ?_ _ | refine blk_drew ?_ | refine blk_alloc ?_ _)); refine blk_put (cs := #[.int .i64 0, .int .i64 0, .bool false, .int .i64 0, .int .i64 0]) ?_ 0 _ rfl; (with_reducible repeat (first | refine blk_drewN ?_ _ | refine blk_drew ?_ | refine blk_alloc ?_ _)); refine blk_far ?_ NB364_363.out _; (with_reducible repeat (first | refine blk_drewN ?_ _ | refine blk_drew ?_ | refine blk_alloc ?_ _)); refine blk_far ?_ NB364_363.out _; (with_reducible repeat (first | refine blk_drewN ?_ _ | refine blk_drew ?_ | refine blk_alloc ?_ _)); refine blk_far ?_ NB364_363.out _; exact uB <| BK364.out))⟩; have n2_ : Aside0 (Below w.heap.size w w39) := ⟨(by rw [hw]; exact bl)⟩; clear hw; clear BK363; clear BK364; clear HB; have BK363 := n0_; have BK364 := n1_; have HB := n2_; clear n0_ n1_ n2_))
      refine bodyPost_ret (results_cell_row rfl _ _ gb364 52 #[.int .i64 x364000_9, .int .i64 t365, .bool t366, .int .i64 a0_3, .int .i64 a1] (0, 0) _ rfl (uB BK364.out) Try.underlying52 rfl (by kernel_rfl)) rfl ?_
      exact ⟨re_, bl⟩
     ·
      rw [if_neg c33] at H
      have c33b0 : decide (a0_4 < a1) = false := decide_eq_false c33
      clear c33
      simp only [Option.some.injEq, Prod.mk.injEq] at H
      obtain ⟨rfl, rfl, rfl, rfl, rfl⟩ := H
      have hnb40 := NB363_364.out
      have hnc40 := NB364_363.out
      have hcz41_0 : wc.cell? ⟨gb363, 0, none⟩ = some (.int .i64 x364000_9) := (blk_cell BK363.out 0).trans rfl
      have hcz41_1 : wc.cell? ⟨gb363, 1, none⟩ = some (.int .i64 a0_1) := (blk_cell BK363.out 1).trans rfl
      have hcz41_2 : wc.cell? ⟨gb363, 2, none⟩ = some (.bool a0_2) := (blk_cell BK363.out 2).trans rfl
      have hcz41_3 : wc.cell? ⟨gb363, 3, none⟩ = some (.int .i64 a0_3) := (blk_cell BK363.out 3).trans rfl
      have hcz41_4 : wc.cell? ⟨gb363, 4, none⟩ = some (.int .i64 a0_4) := (blk_cell BK363.out 4).trans rfl
      have hfz41_0 := blk_frozen BK363.out 0
      have hfz41_1 := blk_frozen BK363.out 1
      have hfz41_2 := blk_frozen BK363.out 2
      have hfz41_3 := blk_frozen BK363.out 3
      have hfz41_4 := blk_frozen BK363.out 4
      go_wp2_with (first | (refine gL (some 24) rfl Try.func45 #[.agg #[.int .i64 a0_1, .bool a0_2], .agg #[.int .i64 a1, .bool false]] ?_; (with_reducible refine (r01_Add.calls kj9 a0_1 a0_2 a1 false t365 t366 _ A18.out).mono ?_); rintro e w42 ⟨rfl, hb⟩; refine ⟨_, rfl, ?_⟩; replace BK363 := cB BK363 hb; replace BK364 := cB BK364 hb; replace HB := Aside0.mk (below_step bl hb); (try clear hb); obtain ⟨hcz43_0, hcz43_1, hcz43_2, hcz43_3, hcz43_4, hfz43_0, hfz43_1, hfz43_2, hfz43_3, hfz43_4⟩ := z5 BK363; obtain ⟨hcz44_0, hcz44_1, hcz44_2, hcz44_3, hcz44_4, hfz44_0, hfz44_1, hfz44_2, hfz44_3, hfz44_4⟩ := z5 BK364) | ((with_reducible refine gate_store (t := 52) (p := 4) rfl ?_); refine store_event (t := 52) (p := 4) (v := ?vo_w45) (w1 := (((((((w42.setCell ⟨gb363, 1, none⟩ (.int .i64 t365)).setCell ⟨gb363, 2, none⟩ (.bool t366)).setCell ⟨gb364, 0, none⟩ (.int .i64 x364000_9)).setCell ⟨gb364, 1, none⟩ (.int .i64 t365)).setCell ⟨gb364, 2, none⟩ (.bool t366)).setCell ⟨gb364, 3, none⟩ (.int .i64 a0_3)).setCell ⟨gb364, 4, none⟩ (.int .i64 a0_4))) ?hg ?ho ?hn ?hr ?_; (case ho => rfl); (case hg => rfl); (case hn => rfl); (case hr => first | (go_simp; done) | (go_simp; rfl)); intro w45 hw; have n0_ : Aside0 (w45.heap[gb363]? = some (.cells #[.int .i64 x364000_9, .int .i64 t365, .bool t366, .int .i64 a0_3, .int .i64 a0_4] 52 (0, 0))) := ⟨(by rw [hw]; exact (by (with_reducible repeat (first | refine blk_drewN ?_ _ | refine blk_drew ?_ | refine blk_alloc ?_ _)); refine blk_far ?_ NB363_364.out _; (with_reducible repeat (first | refine blk_drewN ?_ _ | refine blk_drew ?_ | refine blk_alloc ?_ _)); refine blk_far ?_ NB363_364.out _; (with_reducible repeat (first | refine blk_drewN ?_ _ | refine blk_drew ?_ | refine blk_alloc ?_ _)); refine blk_far ?_ NB363_364.out _; (with_reducible repeat (first | refine blk_drewN ?_ _ | refine blk_drew ?_ | refine blk_alloc ?_ _)); refine blk_far ?_ NB363_364.out _; (with_reducible repeat (first | refine blk_drewN ?_ _ | refine blk_drew ?_ | refine blk_alloc ?_ _)); refine blk_far ?_ NB363_364.out _; (with_reducible repeat (first | refine blk_drewN ?_ _ | refine blk_drew ?_ | refine blk_alloc ?_ _)); refine blk_put (cs := #[.int .i64 x364000_9, .int .i64 t365, .bool a0_2, .int .i64 a0_3, .int .i64 a0_4]) ?_ 2 _ rfl; (with_reducible repeat (first | refine blk_drewN ?_ _ | refine blk_drew ?_ | refine blk_alloc ?_ _)); refine blk_put (cs := #[.int .i64 x364000_9, .int .i64 a0_1, .bool a0_2, .int .i64 a0_3, .int .i64 a0_4]) ?_ 1 _ rfl; exact uB <| BK363.out))⟩; have n1_ : Aside0 (w45.heap[gb364]? = some (.cells #[.int .i64 x364000_9, .int .i64 t365, .bool t366, .int .i64 a0_3, .int .i64 a0_4] 52 (0, 0))) := ⟨(by rw [hw]; exact (by (with_reducible repeat (first | refine blk_drewN ?_ _ | refine blk_drew ?_ | refine blk_alloc ?_ _)); refine blk_put (cs := #[.int .i64 x364000_9, .int .i64 t365, .bool t366, .int .i64 a0_3, .int .i64 0]) ?_ 4 _ rfl; (with_reducible repeat (first | refine blk_drewN ?_ _ | refine blk_drew ?_ | refine blk_alloc ?_ _)); refine blk_put (cs := #[.int .i64 x364000_9, .int .i64 t365, .bool t366, .int .i64 0, .int .i64 0]) ?_ 3 _ rfl; (with_reducible repeat (first | refine blk_drewN ?_ _ | refine blk_drew ?_ | refine blk_alloc ?_ _)); refine blk_put (cs := #[.int .i64 x364000_9, .int .i64 t365, .bool false, .int .i64 0, .int .i64 0]) ?_ 2 _ rfl; (with_reducible repeat (first | refine blk_drewN ?_ _ | refine blk_drew ?_ | refine blk_alloc ?_ _)); refine blk_put (cs := #[.int .i64 x364000_9, .int .i64 0, .bool false, .int .i64 0, .int .i64 0]) ?_ 1 _ rfl; (with_reducible repeat (first | refine blk_drewN ?_ _ | refine blk_drew ?_ | refine blk_alloc ?_ _)); refine blk_put (cs := #[.int .i64 0, .int .i64 0, .bool false, .int .i64 0, .int .i64 0]) ?_ 0 _ rfl; (with_reducible repeat (first | refine blk_drewN ?_ _ | refine blk_drew ?_ | refine blk_alloc ?_ _)); refine blk_far ?_ NB364_363.out _; (with_reducible repeat (first | refine blk_drewN ?_ _ | refine blk_drew ?_ | refine blk_alloc ?_ _)); refine blk_far ?_ NB364_363.out _; exact uB <| BK364.out))⟩; have n2_ : Aside0 (Below w.heap.size w w45) := ⟨(by rw [hw]; exact bl)⟩; clear hw; clear BK363; clear BK364; clear HB; have BK363 := n0_; have BK364 := n1_; have HB := n2_; clear n0_ n1_ n2_))
      refine bodyPost_ret (results_cell_row rfl _ _ gb364 52 #[.int .i64 x364000_9, .int .i64 t365, .bool t366, .int .i64 a0_3, .int .i64 a0_4] (0, 0) _ rfl (uB BK364.out) Try.underlying52 rfl (by kernel_rfl)) rfl ?_
      exact ⟨re_, bl⟩
def r10_Put.f (k : Nat) (l0 : List (S82)) (l1 : List (S82)) : Option ((List (S82)) × Int) := (some (([] : List (S82)) : List (S82))).bind fun y367 => (if y367.length + l0.length < 2932031007402 then ((some (y367 ++ l0 : List (S82))).bind fun y370 => (if y370.length + l1.length < 2932031007402 then ((some (y370 ++ l1 : List (S82))).bind fun y373 => ((r10_Right.f k y373).bind fun t376 => (if t376 = true then (some (y373, 0)) else (some (([] : List (S82)), 9))))) else (none))) else (none))
theorem r10_Put.mono : ∀ a0 a1 k, LeO (r10_Put.f k a0 a1) (r10_Put.f (k + 1) a0 a1) := by
 intro a0 a1 k
 unfold r10_Put.f
 exact lo
instance r10_Put.mI {a0 a1 k} : LeC (r10_Put.f k a0 a1) (r10_Put.f (k + 1) a0 a1) := ⟨r10_Put.mono _ _ _⟩
theorem r10_Put.calls (k : Nat) (A0 : Option Addr) (c0 : Nat) (l0 : List (S82)) (A1 : Option Addr) (c1 : Nat) (l1 : List (S82)) (r1 : List (S82)) (r2 : Int) (w : World) (hr0 : Kd.C k82 w A0 l0.length l0) (hc0 : l0.length ≤ c0) (hr1 : Kd.C k82 w A1 l1.length l1) (hc1 : l1.length ≤ c1) (h : r10_Put.f k l0 l1 = some (r1, r2)) :
 Calls Try.prog 53 #[.slice A0 l0.length c0, .slice A1 l1.length c1] w fun e w' => ∃ v0_ : Value, e = .returned (.tuple #[v0_, .int .i64 r2]) ∧ Kd.R k82 82 w' w.heap.size (fun _ => True) v0_ r1 ∧ Below w.heap.size w w' := by
 have HR0 := Aside0.mk hr0
 have HC0 := Aside0.mk hc0
 clear hr0 hc0
 have HR1 := Aside0.mk hr1
 have HC1 := Aside0.mk hc1
 clear hr1 hc1
 have HB := Aside0.mk (Below.refl w.heap.size w)
 have H : ((some (([] : List (S82)) : List (S82))).bind fun y367 => (if y367.length + l0.length < 2932031007402 then ((some (y367 ++ l0 : List (S82))).bind fun y370 => (if y370.length + l1.length < 2932031007402 then ((some (y370 ++ l1 : List (S82))).bind fun y373 => ((r10_Right.f k y373).bind fun t376 => (if t376 = true then (some (y373, 0)) else (some (([] : List (S82)), 9))))) else (none))) else (none))) = some (r1, r2) := h
 clear h
 obtain ⟨y367, Ny367, H⟩ := ys H
 try dsimp only at H
 by_cases c3 : y367.length + l0.length < 2932031007402
 ·
  rw [if_pos c3] at H
  have LMc3 := Aside0.mk c3
  clear c3
  obtain ⟨y370, Ny370, H⟩ := ys H
  try dsimp only at H
  obtain ⟨c4, H⟩ := gd H
  have LMc4 := Aside0.mk c4
  clear c4
  obtain ⟨y373, Ny373, H⟩ := ys H
  try dsimp only at H
  obtain ⟨t376, A5, H⟩ := bs H
  try dsimp only at H
  by_cases c6 : t376 = true
  ·
   subst c6
   rw [if_pos rfl] at H
   simp only [Option.some.injEq, Prod.mk.injEq] at H
   obtain ⟨rfl, rfl⟩ := H
   go_enter Try.func53, Try.ntmps53
   go_wp2_with (first | ((with_reducible refine gate_dst (N := 7) rfl ?_); refine Kd.R_lit k82 _ 82 ?hg (N := 7) ?hd (xs := ([] : List (S82))) (inner := []) (ok := fun _ => True) (okp := fun _ => True) ?hr ?hp (fun _ hk => hk) trivial (Below.refl _ _) (Nat.le_refl _) (by simp) ?_; (case hd => rfl); (case hg => rfl); (case hr => first | (go_simp; done) | (go_simp; rfl)); (case hp => exact (Reps.none _ _)); intro v368 w7 ho8 hb hg_ hnew_; clear hg_ hnew_; (first | rw [← Ny367.out] at ho8 | (simp only [Int.reduceToNat] at ho8; rw [← Ny367.out] at ho8)); have HO369 := Aside0.mk (Kd.R_lower ho8 (below_size (uW HB.out))); replace HB := cW HB hb; clear hb ho8) | ((with_reducible refine gate_builtin (b := .append) (xs := #[.tmp 7, .tmp 8]) rfl ?_); at_builtin; refine Kd.R_append_rows k82 (w0 := w) w.heap.size rfl (.tmp 7) (.tmp 8) 57 82 (.agg #[(.int .i64 0), (.int .i64 0), (.int .i64 0), (.bool false), (.int .i64 0), (.int .i64 0)]) 48 rfl Try.underlying57 info82 rfl (by decide) (by omega) v368 y367 l0 _ _ _ (fun _ => True) (fun _ => False) rfl rfl ?aO ?aR (fun _ _ h => h) (fun _ h => h.elim) ?aF ?aB ?aS ?aL ?_; (case aR => exact uC <| (Kd.C_below HR0.out HB.out)); (case aB => exact (uW HB.out)); (case aF => exact (fun _ _ => trivial)); (case aO => exact (uR HO369.out)); (case aS => exact (below_size (uW HB.out))); (case aL => have := LMc3.out; omega); intro v371 w9 ho hb hg hat; rw [← Ny370.out] at ho; replace HB := Aside0.mk (hb); have HO372 := Aside0.mk (ho); clear HO369; clear ho hb hg hat) | ((with_reducible refine gate_builtin (b := .append) (xs := #[.tmp 9, .tmp 10]) rfl ?_); at_builtin; refine Kd.R_append_rows k82 (w0 := w) w.heap.size rfl (.tmp 9) (.tmp 10) 57 82 (.agg #[(.int .i64 0), (.int .i64 0), (.int .i64 0), (.bool false), (.int .i64 0), (.int .i64 0)]) 48 rfl Try.underlying57 info82 rfl (by decide) (by omega) v371 y370 l1 _ _ _ (fun _ => True) (fun _ => False) rfl rfl ?aO ?aR (fun _ _ h => h) (fun _ h => h.elim) ?aF ?aB ?aS ?aL ?_; (case aR => exact uC <| (Kd.C_below HR1.out HB.out)); (case aB => exact (uW HB.out)); (case aF => exact (fun _ _ => trivial)); (case aO => exact (uR HO372.out)); (case aS => exact (below_size (uW HB.out))); (case aL => have := LMc4.out; omega); intro v374 w10 ho hb hg hat; rw [← Ny373.out] at ho; replace HB := Aside0.mk (hb); have HO375 := Aside0.mk (ho); clear HO372; clear ho hb hg hat; obtain ⟨Ao11, co11, eo11⟩ := Kd.R_slice HO375.out; subst eo11) | (refine gL (some 13) rfl Try.func34 #[.slice Ao11 y373.length co11] ?_; (with_reducible refine (r10_Right.calls k _ _ y373 true _ ?side1 ?side2 A5.out).mono ?_); (case side1 => exact uC <| (Kd.R_reads' HO375.out).2.2); (case side2 => exact (Kd.R_reads' HO375.out).2.1); rintro e w' ⟨rfl, ⟨nd, rfl⟩⟩; refine ⟨_, rfl, ?_⟩))
   go_ret2
   exact ⟨_, re_, uR HO375.out, uW HB.out⟩
  ·
   replace c6 := Bool.eq_false_iff.mpr c6
   subst c6
   rw [if_neg (show ¬ (false = true) by decide)] at H
   simp only [Option.some.injEq, Prod.mk.injEq] at H
   obtain ⟨rfl, rfl⟩ := H
   go_enter Try.func53, Try.ntmps53
   go_wp2_with (first | ((with_reducible refine gate_dst (N := 7) rfl ?_); refine Kd.R_lit k82 _ 82 ?hg (N := 7) ?hd (xs := ([] : List (S82))) (inner := []) (ok := fun _ => True) (okp := fun _ => True) ?hr ?hp (fun _ hk => hk) trivial (Below.refl _ _) (Nat.le_refl _) (by simp) ?_; (case hd => rfl); (case hg => rfl); (case hr => first | (go_simp; done) | (go_simp; rfl)); (case hp => exact (Reps.none _ _)); intro v368 w12 ho13 hb hg_ hnew_; clear hg_ hnew_; (first | rw [← Ny367.out] at ho13 | (simp only [Int.reduceToNat] at ho13; rw [← Ny367.out] at ho13)); have HO369 := Aside0.mk (Kd.R_lower ho13 (below_size (uW HB.out))); replace HB := cW HB hb; clear hb ho13) | ((with_reducible refine gate_builtin (b := .append) (xs := #[.tmp 7, .tmp 8]) rfl ?_); at_builtin; refine Kd.R_append_rows k82 (w0 := w) w.heap.size rfl (.tmp 7) (.tmp 8) 57 82 (.agg #[(.int .i64 0), (.int .i64 0), (.int .i64 0), (.bool false), (.int .i64 0), (.int .i64 0)]) 48 rfl Try.underlying57 info82 rfl (by decide) (by omega) v368 y367 l0 _ _ _ (fun _ => True) (fun _ => False) rfl rfl ?aO ?aR (fun _ _ h => h) (fun _ h => h.elim) ?aF ?aB ?aS ?aL ?_; (case aR => exact uC <| (Kd.C_below HR0.out HB.out)); (case aB => exact (uW HB.out)); (case aF => exact (fun _ _ => trivial)); (case aO => exact (uR HO369.out)); (case aS => exact (below_size (uW HB.out))); (case aL => have := LMc3.out; omega); intro v371 w14 ho hb hg hat; rw [← Ny370.out] at ho; replace HB := Aside0.mk (hb); have HO372 := Aside0.mk (ho); clear HO369; clear ho hb hg hat) | ((with_reducible refine gate_builtin (b := .append) (xs := #[.tmp 9, .tmp 10]) rfl ?_); at_builtin; refine Kd.R_append_rows k82 (w0 := w) w.heap.size rfl (.tmp 9) (.tmp 10) 57 82 (.agg #[(.int .i64 0), (.int .i64 0), (.int .i64 0), (.bool false), (.int .i64 0), (.int .i64 0)]) 48 rfl Try.underlying57 info82 rfl (by decide) (by omega) v371 y370 l1 _ _ _ (fun _ => True) (fun _ => False) rfl rfl ?aO ?aR (fun _ _ h => h) (fun _ h => h.elim) ?aF ?aB ?aS ?aL ?_; (case aR => exact uC <| (Kd.C_below HR1.out HB.out)); (case aB => exact (uW HB.out)); (case aF => exact (fun _ _ => trivial)); (case aO => exact (uR HO372.out)); (case aS => exact (below_size (uW HB.out))); (case aL => have := LMc4.out; omega); intro v374 w15 ho hb hg hat; rw [← Ny373.out] at ho; replace HB := Aside0.mk (hb); have HO375 := Aside0.mk (ho); clear HO372; clear ho hb hg hat; obtain ⟨Ao16, co16, eo16⟩ := Kd.R_slice HO375.out; subst eo16) | (refine gL (some 13) rfl Try.func34 #[.slice Ao16 y373.length co16] ?_; (with_reducible refine (r10_Right.calls k _ _ y373 false _ ?side1 ?side2 A5.out).mono ?_); (case side1 => exact uC <| (Kd.R_reads' HO375.out).2.2); (case side2 => exact (Kd.R_reads' HO375.out).2.1); rintro e w' ⟨rfl, ⟨nd, rfl⟩⟩; refine ⟨_, rfl, ?_⟩))
   go_ret2
   exact ⟨_, re_, nl_, uW HB.out⟩
 ·
  rw [if_neg c3] at H
  exact absurd H (by simp)
def r10_Fold.f (k : Nat) (l0 : List (S82)) (a1 : Int) (a2 : Int) : Option ((List (S82)) × Int) := if (l0.length : Int) > 0 then (if 0 ≤ (wrap64 ((l0.length : Int) - 1)) then (if (wrap64 ((l0.length : Int) - 1)) < (l0.length : Int) then ((r06_Fold.f k ((rd_T82 l0 (wrap64 ((l0.length : Int) - 1))).f1.f0) ((rd_T82 l0 (wrap64 ((l0.length : Int) - 1))).f1.f1.f0) ((rd_T82 l0 (wrap64 ((l0.length : Int) - 1))).f1.f1.f1) ((rd_T82 l0 (wrap64 ((l0.length : Int) - 1))).f1.f2) ((rd_T82 l0 (wrap64 ((l0.length : Int) - 1))).f1.f3) a2).bind fun bt379 => ((r10_Put.f k l0 (([(⟨a1, (⟨bt379.1, (⟨bt379.2.1, bt379.2.2.1⟩ : S50), bt379.2.2.2.1, bt379.2.2.2.2⟩ : S52)⟩ : S82)] : List (S82)))).bind fun bt387 => (some (bt387.1, bt387.2)))) else (none)) else (none)) else ((r06_Fold.f k 0 0 false 0 0 a2).bind fun bt391 => ((r10_Put.f k l0 (([(⟨a1, (⟨bt391.1, (⟨bt391.2.1, bt391.2.2.1⟩ : S50), bt391.2.2.2.1, bt391.2.2.2.2⟩ : S52)⟩ : S82)] : List (S82)))).bind fun bt399 => (some (bt399.1, bt399.2))))
theorem r10_Fold.mono : ∀ a0 a1 a2 k, LeO (r10_Fold.f k a0 a1 a2) (r10_Fold.f (k + 1) a0 a1 a2) := by
 intro a0 a1 a2 k
 unfold r10_Fold.f
 exact lo
instance r10_Fold.mI {a0 a1 a2 k} : LeC (r10_Fold.f k a0 a1 a2) (r10_Fold.f (k + 1) a0 a1 a2) := ⟨r10_Fold.mono _ _ _ _⟩
theorem r10_Fold.calls (k : Nat) (A0 : Option Addr) (c0 : Nat) (l0 : List (S82)) (a1 : Int) (a2 : Int) (r1 : List (S82)) (r2 : Int) (w : World) (hr0 : Kd.C k82 w A0 l0.length l0) (hc0 : l0.length ≤ c0) (h : r10_Fold.f k l0 a1 a2 = some (r1, r2)) :
 Calls Try.prog 31 #[.slice A0 l0.length c0, .int .i64 a1, .int .i64 a2] w fun e w' => ∃ v0_ : Value, e = .returned (.tuple #[v0_, .int .i64 r2]) ∧ Kd.R k82 82 w' w.heap.size (fun _ => True) v0_ r1 ∧ Below w.heap.size w w' := by
 have hu52 := Try.underlying52
 have hu82 := Try.underlying82
 have HR0 := Aside0.mk hr0
 have HC0 := Aside0.mk hc0
 clear hr0 hc0
 have HB := Aside0.mk (Below.refl w.heap.size w)
 have H : (if (l0.length : Int) > 0 then (if 0 ≤ (wrap64 ((l0.length : Int) - 1)) then (if (wrap64 ((l0.length : Int) - 1)) < (l0.length : Int) then ((r06_Fold.f k ((rd_T82 l0 (wrap64 ((l0.length : Int) - 1))).f1.f0) ((rd_T82 l0 (wrap64 ((l0.length : Int) - 1))).f1.f1.f0) ((rd_T82 l0 (wrap64 ((l0.length : Int) - 1))).f1.f1.f1) ((rd_T82 l0 (wrap64 ((l0.length : Int) - 1))).f1.f2) ((rd_T82 l0 (wrap64 ((l0.length : Int) - 1))).f1.f3) a2).bind fun bt379 => ((r10_Put.f k l0 (([(⟨a1, (⟨bt379.1, (⟨bt379.2.1, bt379.2.2.1⟩ : S50), bt379.2.2.2.1, bt379.2.2.2.2⟩ : S52)⟩ : S82)] : List (S82)))).bind fun bt387 => (some (bt387.1, bt387.2)))) else (none)) else (none)) else ((r06_Fold.f k 0 0 false 0 0 a2).bind fun bt391 => ((r10_Put.f k l0 (([(⟨a1, (⟨bt391.1, (⟨bt391.2.1, bt391.2.2.1⟩ : S50), bt391.2.2.2.1, bt391.2.2.2.2⟩ : S52)⟩ : S82)] : List (S82)))).bind fun bt399 => (some (bt399.1, bt399.2))))) = some (r1, r2) := h
 clear h
 by_cases c4 : (l0.length : Int) > 0
 ·
  rw [if_pos c4] at H
  have c4b0 : decide (0 < (l0.length : Int)) = true := decide_eq_true c4
  have c4b1 : decide (0 < l0.length) = true := decide_eq_true (by omega)
  clear c4
  obtain ⟨ji5, hji5⟩ : ∃ j_ : Int, (wrap64 ((l0.length : Int) - 1)) = j_ := ⟨_, rfl⟩
  (first | rw [hji5] at H | simp only [hji5] at H)
  have hji5w : (IntKind.i64.wrap ((l0.length : Int) - 1)) = ji5 := (i64_w _).trans hji5
  obtain ⟨c6b0, H⟩ := gdd H
  obtain ⟨c7b0, H⟩ := gdd H
  obtain ⟨⟨t379, t380, t381, t382, t383⟩, A8, H⟩ := bs H
  try dsimp only at H
  obtain ⟨y384, hy384⟩ : ∃ y_ : List (S82), y_ = (([(⟨a1, (⟨t379, (⟨t380, t381⟩ : S50), t382, t383⟩ : S52)⟩ : S82)] : List (S82))) := ⟨_, rfl⟩
  replace H : ((r10_Put.f k l0 y384).bind fun bt387 => (some (bt387.1, bt387.2))) = some (r1, r2) := by first | (rw [hy384]; with_reducible exact H) | (have H2_ := (Option.bind_some _ _).symm.trans H; rw [hy384]; with_reducible exact H2_) | (have H2_ := (Option.bind_some _ _).symm.trans H; with_reducible exact H2_) | with_reducible exact H | (rw [hy384]; exact H) | exact H
  have Ny384 := Aside0.mk hy384
  clear hy384
  obtain ⟨⟨t387, t388⟩, A9, H⟩ := bs H
  try dsimp only at H
  simp only [Option.some.injEq, Prod.mk.injEq] at H
  obtain ⟨rfl, rfl⟩ := H
  go_enter Try.func31, Try.ntmps31
  go_wp2_with (first | ((with_reducible refine gate_dst (N := 8) rfl ?_); refine bx (N := 8) #[.int .i64 0, .int .i64 0, .bool false, .int .i64 0, .int .i64 0] 52 ?_; intro gb377 hg w10 hbox hb; have BK377 := Aside0.mk (hbox); have GW377 := gw hg (uW HB.out); have GE377 := GW377; replace HB := cW HB hb; clear hb hbox hg; obtain ⟨hcz11_0, hcz11_1, hcz11_2, hcz11_3, hcz11_4, hfz11_0, hfz11_1, hfz11_2, hfz11_3, hfz11_4⟩ := z5 BK377) | ((with_reducible refine gate_store (t := 52) (p := 8) rfl ?_); refine store_event (t := 52) (p := 8) (v := ?vo_w12) (w1 := (((((w10.setCell ⟨gb377, 0, none⟩ (.int .i64 0)).setCell ⟨gb377, 1, none⟩ (.int .i64 0)).setCell ⟨gb377, 2, none⟩ (.bool false)).setCell ⟨gb377, 3, none⟩ (.int .i64 0)).setCell ⟨gb377, 4, none⟩ (.int .i64 0))) ?hg ?ho ?hn ?hr ?_; (case ho => rfl); (case hg => rfl); (case hn => rfl); (case hr => first | (go_simp; done) | (go_simp; rfl)); intro w12 hw; have n0_ : Aside0 (w12.heap[gb377]? = some (.cells #[.int .i64 0, .int .i64 0, .bool false, .int .i64 0, .int .i64 0] 52 (0, 0))) := ⟨(by rw [hw]; exact (by (with_reducible repeat (first | refine blk_drewN ?_ _ | refine blk_drew ?_ | refine blk_alloc ?_ _)); refine blk_put (cs := #[.int .i64 0, .int .i64 0, .bool false, .int .i64 0, .int .i64 0]) ?_ 4 _ rfl; (with_reducible repeat (first | refine blk_drewN ?_ _ | refine blk_drew ?_ | refine blk_alloc ?_ _)); refine blk_put (cs := #[.int .i64 0, .int .i64 0, .bool false, .int .i64 0, .int .i64 0]) ?_ 3 _ rfl; (with_reducible repeat (first | refine blk_drewN ?_ _ | refine blk_drew ?_ | refine blk_alloc ?_ _)); refine blk_put (cs := #[.int .i64 0, .int .i64 0, .bool false, .int .i64 0, .int .i64 0]) ?_ 2 _ rfl; (with_reducible repeat (first | refine blk_drewN ?_ _ | refine blk_drew ?_ | refine blk_alloc ?_ _)); refine blk_put (cs := #[.int .i64 0, .int .i64 0, .bool false, .int .i64 0, .int .i64 0]) ?_ 1 _ rfl; (with_reducible repeat (first | refine blk_drewN ?_ _ | refine blk_drew ?_ | refine blk_alloc ?_ _)); refine blk_put (cs := #[.int .i64 0, .int .i64 0, .bool false, .int .i64 0, .int .i64 0]) ?_ 0 _ rfl; exact uB <| BK377.out))⟩; have n1_ : Aside0 (Below w.heap.size w w12) := ⟨(by rw [hw]; exact bl)⟩; clear hw; clear BK377; clear HB; have BK377 := n0_; have HB := n1_; clear n0_ n1_; have p378 : 0 ≤ ((ji5) : Int) := od; have q378 : (ji5) < (l0.length : Int) := od; obtain ⟨ad378, e378, hx378_0, hx378_1, hx378_2, hx378_3, hx378_4, hx378_5⟩ := at_T82 HR0.out (ji5) p378 q378; cases e378; replace hx378_0 := kc HB hx378_0; replace hx378_1 := kc HB hx378_1; replace hx378_2 := kc HB hx378_2; replace hx378_3 := kc HB hx378_3; replace hx378_4 := kc HB hx378_4; replace hx378_5 := kc HB hx378_5; replace p378 := eq_true p378; replace q378 := eq_true q378; obtain ⟨hcz13_0, hcz13_1, hcz13_2, hcz13_3, hcz13_4, hfz13_0, hfz13_1, hfz13_2, hfz13_3, hfz13_4⟩ := z5 BK377) | ((with_reducible refine gate_store (t := 52) (p := 8) rfl ?_); refine store_event (t := 52) (p := 8) (v := ?vo_w14) (w1 := (((((w12.setCell ⟨gb377, 0, none⟩ (.int .i64 ((rd_T82 l0 (ji5)).f1.f0))).setCell ⟨gb377, 1, none⟩ (.int .i64 ((rd_T82 l0 (ji5)).f1.f1.f0))).setCell ⟨gb377, 2, none⟩ (.bool ((rd_T82 l0 (ji5)).f1.f1.f1))).setCell ⟨gb377, 3, none⟩ (.int .i64 ((rd_T82 l0 (ji5)).f1.f2))).setCell ⟨gb377, 4, none⟩ (.int .i64 ((rd_T82 l0 (ji5)).f1.f3)))) ?hg ?ho ?hn ?hr ?_; (case ho => rfl); (case hg => rfl); (case hn => rfl); (case hr => first | (go_simp; done) | (go_simp; rfl)); intro w14 hw; have n0_ : Aside0 (w14.heap[gb377]? = some (.cells #[.int .i64 ((rd_T82 l0 (ji5)).f1.f0), .int .i64 ((rd_T82 l0 (ji5)).f1.f1.f0), .bool ((rd_T82 l0 (ji5)).f1.f1.f1), .int .i64 ((rd_T82 l0 (ji5)).f1.f2), .int .i64 ((rd_T82 l0 (ji5)).f1.f3)] 52 (0, 0))) := ⟨(by rw [hw]; exact (by (with_reducible repeat (first | refine blk_drewN ?_ _ | refine blk_drew ?_ | refine blk_alloc ?_ _)); refine blk_put (cs := #[.int .i64 ((rd_T82 l0 (ji5)).f1.f0), .int .i64 ((rd_T82 l0 (ji5)).f1.f1.f0), .bool ((rd_T82 l0 (ji5)).f1.f1.f1), .int .i64 ((rd_T82 l0 (ji5)).f1.f2), .int .i64 0]) ?_ 4 _ rfl; (with_reducible repeat (first | refine blk_drewN ?_ _ | refine blk_drew ?_ | refine blk_alloc ?_ _)); refine blk_put (cs := #[.int .i64 ((rd_T82 l0 (ji5)).f1.f0), .int .i64 ((rd_T82 l0 (ji5)).f1.f1.f0), .bool ((rd_T82 l0 (ji5)).f1.f1.f1), .int .i64 0, .int .i64 0]) ?_ 3 _ rfl; (with_reducible repeat (first | refine blk_drewN ?_ _ | refine blk_drew ?_ | refine blk_alloc ?_ _)); refine blk_put (cs := #[.int .i64 ((rd_T82 l0 (ji5)).f1.f0), .int .i64 ((rd_T82 l0 (ji5)).f1.f1.f0), .bool false, .int .i64 0, .int .i64 0]) ?_ 2 _ rfl; (with_reducible repeat (first | refine blk_drewN ?_ _ | refine blk_drew ?_ | refine blk_alloc ?_ _)); refine blk_put (cs := #[.int .i64 ((rd_T82 l0 (ji5)).f1.f0), .int .i64 0, .bool false, .int .i64 0, .int .i64 0]) ?_ 1 _ rfl; (with_reducible repeat (first | refine blk_drewN ?_ _ | refine blk_drew ?_ | refine blk_alloc ?_ _)); refine blk_put (cs := #[.int .i64 0, .int .i64 0, .bool false, .int .i64 0, .int .i64 0]) ?_ 0 _ rfl; exact uB <| BK377.out))⟩; have n1_ : Aside0 (Below w.heap.size w w14) := ⟨(by rw [hw]; exact bl)⟩; clear hw; clear BK377; clear HB; have BK377 := n0_; have HB := n1_; clear n0_ n1_; obtain ⟨hcz15_0, hcz15_1, hcz15_2, hcz15_3, hcz15_4, hfz15_0, hfz15_1, hfz15_2, hfz15_3, hfz15_4⟩ := z5 BK377) | (refine gL (some 24) rfl Try.func24 #[.agg #[.int .i64 ((rd_T82 l0 (ji5)).f1.f0), .int .i64 ((rd_T82 l0 (ji5)).f1.f1.f0), .bool ((rd_T82 l0 (ji5)).f1.f1.f1), .int .i64 ((rd_T82 l0 (ji5)).f1.f2), .int .i64 ((rd_T82 l0 (ji5)).f1.f3)], .int .i64 a2] ?_ (hargs := by (try simp only [List.map_toArray, List.map_cons, List.map_nil]); first | done | (simp only [hji5]; rfl) | rfl); (with_reducible refine (r06_Fold.calls k ((rd_T82 l0 (ji5)).f1.f0) ((rd_T82 l0 (ji5)).f1.f1.f0) ((rd_T82 l0 (ji5)).f1.f1.f1) ((rd_T82 l0 (ji5)).f1.f2) ((rd_T82 l0 (ji5)).f1.f3) a2 t379 t380 t381 t382 t383 _ A8.out).mono ?_); rintro e w16 ⟨rfl, hb⟩; refine ⟨_, rfl, ?_⟩; replace BK377 := cB BK377 hb; replace HB := Aside0.mk (below_step bl hb); (try clear hb)) | ((with_reducible refine gate_dst (N := 26) rfl ?_); refine Kd.R_lit k82 _ 82 ?hg (N := 26) ?hd (xs := ([(⟨a1, (⟨t379, (⟨t380, t381⟩ : S50), t382, t383⟩ : S52)⟩ : S82)] : List (S82))) (inner := [.int .i64 a1, .int .i64 t379, .int .i64 t380, .bool t381, .int .i64 t382, .int .i64 t383]) (ok := fun _ => True) (okp := fun _ => True) ?hr ?hp (fun _ hk => hk) trivial (Below.refl _ _) (Nat.le_refl _) (by simp) ?_; (case hd => rfl); (case hg => rfl); (case hr => first | (go_simp; done) | (go_simp; rfl)); (case hp => exact (Reps.c6 (show Kd.M k82 _ _ _ (⟨a1, (⟨t379, (⟨t380, t381⟩ : S50), t382, t383⟩ : S52)⟩ : S82) [.int .i64 a1, .int .i64 t379, .int .i64 t380, .bool t381, .int .i64 t382, .int .i64 t383] from (k82_mkM _ _ _ (⟨a1, (⟨t379, (⟨t380, t381⟩ : S50), t382, t383⟩ : S52)⟩ : S82) )) (Reps.none _ _))); intro v385 w17 ho18 hb hg_ hnew_; clear hg_ hnew_; (first | rw [← Ny384.out] at ho18 | (simp only [Int.reduceToNat] at ho18; rw [← Ny384.out] at ho18)); have HO386 := Aside0.mk (Kd.R_lower ho18 (below_size bl)); replace BK377 := cB BK377 hb; replace HB := Aside0.mk (below_step bl hb); clear hb ho18; obtain ⟨Ao19, co19, eo19⟩ := Kd.R_slice HO386.out; subst eo19) | (refine gL (some 27) rfl Try.func53 #[.slice (some ad378) l0.length c0, .slice Ao19 y384.length co19] ?_; (with_reducible refine (r10_Put.calls k _ _ l0 _ _ y384 t387 t388 _ ?side1 ?side2 ?side3 ?side4 A9.out).mono ?_); (case side1 => exact uC <| (Kd.C_below HR0.out HB.out)); (case side2 => exact HC0.out); (case side3 => exact uC <| (Kd.R_reads' HO386.out).2.2); (case side4 => exact (Kd.R_reads' HO386.out).2.1); rintro e w20 ⟨v389, rfl, ho0, hb⟩; refine ⟨_, rfl, ?_⟩; have HO390 := Aside0.mk (Kd.R_lower (Kd.R_new' ho0 (Kd.R_lt (uR HO386.out))) (below_size bl)); replace HO386 := Aside0.mk (Kd.R_elder' (uR HO386.out) (Kd.R_base ho0) hb); replace BK377 := cB BK377 hb; replace HB := Aside0.mk (below_step bl hb); (try clear hb); (try clear ho0)))
  go_ret2
  exact ⟨_, by first | rfl | (simp [errW_none, errW_some] <;> rfl) | (simp only [← hji5]; first | rfl | (simp [errW_none, errW_some] <;> rfl)) | (simp [*, errW_none, errW_some] <;> rfl), by exact uR <| Kd.R_mono HO390.out (fun _ hk => trivial), bl⟩
 ·
  rw [if_neg c4] at H
  have c4b0 : decide (0 < (l0.length : Int)) = false := decide_eq_false c4
  have c4b1 : decide (0 < l0.length) = false := decide_eq_false (by omega)
  clear c4
  obtain ⟨⟨t391, t392, t393, t394, t395⟩, A21, H⟩ := bs H
  try dsimp only at H
  obtain ⟨y396, hy396⟩ : ∃ y_ : List (S82), y_ = (([(⟨a1, (⟨t391, (⟨t392, t393⟩ : S50), t394, t395⟩ : S52)⟩ : S82)] : List (S82))) := ⟨_, rfl⟩
  replace H : ((r10_Put.f k l0 y396).bind fun bt399 => (some (bt399.1, bt399.2))) = some (r1, r2) := by first | (rw [hy396]; with_reducible exact H) | (have H2_ := (Option.bind_some _ _).symm.trans H; rw [hy396]; with_reducible exact H2_) | (have H2_ := (Option.bind_some _ _).symm.trans H; with_reducible exact H2_) | with_reducible exact H | (rw [hy396]; exact H) | exact H
  have Ny396 := Aside0.mk hy396
  clear hy396
  obtain ⟨⟨t399, t400⟩, A22, H⟩ := bs H
  try dsimp only at H
  simp only [Option.some.injEq, Prod.mk.injEq] at H
  obtain ⟨rfl, rfl⟩ := H
  go_enter Try.func31, Try.ntmps31
  go_wp2_with (first | ((with_reducible refine gate_dst (N := 8) rfl ?_); refine bx (N := 8) #[.int .i64 0, .int .i64 0, .bool false, .int .i64 0, .int .i64 0] 52 ?_; intro gb377 hg w23 hbox hb; have BK377 := Aside0.mk (hbox); have GW377 := gw hg (uW HB.out); have GE377 := GW377; replace HB := cW HB hb; clear hb hbox hg; obtain ⟨hcz24_0, hcz24_1, hcz24_2, hcz24_3, hcz24_4, hfz24_0, hfz24_1, hfz24_2, hfz24_3, hfz24_4⟩ := z5 BK377) | ((with_reducible refine gate_store (t := 52) (p := 8) rfl ?_); refine store_event (t := 52) (p := 8) (v := ?vo_w25) (w1 := (((((w23.setCell ⟨gb377, 0, none⟩ (.int .i64 0)).setCell ⟨gb377, 1, none⟩ (.int .i64 0)).setCell ⟨gb377, 2, none⟩ (.bool false)).setCell ⟨gb377, 3, none⟩ (.int .i64 0)).setCell ⟨gb377, 4, none⟩ (.int .i64 0))) ?hg ?ho ?hn ?hr ?_; (case ho => rfl); (case hg => rfl); (case hn => rfl); (case hr => first | (go_simp; done) | (go_simp; rfl)); intro w25 hw; have n0_ : Aside0 (w25.heap[gb377]? = some (.cells #[.int .i64 0, .int .i64 0, .bool false, .int .i64 0, .int .i64 0] 52 (0, 0))) := ⟨(by rw [hw]; exact (by (with_reducible repeat (first | refine blk_drewN ?_ _ | refine blk_drew ?_ | refine blk_alloc ?_ _)); refine blk_put (cs := #[.int .i64 0, .int .i64 0, .bool false, .int .i64 0, .int .i64 0]) ?_ 4 _ rfl; (with_reducible repeat (first | refine blk_drewN ?_ _ | refine blk_drew ?_ | refine blk_alloc ?_ _)); refine blk_put (cs := #[.int .i64 0, .int .i64 0, .bool false, .int .i64 0, .int .i64 0]) ?_ 3 _ rfl; (with_reducible repeat (first | refine blk_drewN ?_ _ | refine blk_drew ?_ | refine blk_alloc ?_ _)); refine blk_put (cs := #[.int .i64 0, .int .i64 0, .bool false, .int .i64 0, .int .i64 0]) ?_ 2 _ rfl; (with_reducible repeat (first | refine blk_drewN ?_ _ | refine blk_drew ?_ | refine blk_alloc ?_ _)); refine blk_put (cs := #[.int .i64 0, .int .i64 0, .bool false, .int .i64 0, .int .i64 0]) ?_ 1 _ rfl; (with_reducible repeat (first | refine blk_drewN ?_ _ | refine blk_drew ?_ | refine blk_alloc ?_ _)); refine blk_put (cs := #[.int .i64 0, .int .i64 0, .bool false, .int .i64 0, .int .i64 0]) ?_ 0 _ rfl; exact uB <| BK377.out))⟩; have n1_ : Aside0 (Below w.heap.size w w25) := ⟨(by rw [hw]; exact bl)⟩; clear hw; clear BK377; clear HB; have BK377 := n0_; have HB := n1_; clear n0_ n1_; obtain ⟨hcz26_0, hcz26_1, hcz26_2, hcz26_3, hcz26_4, hfz26_0, hfz26_1, hfz26_2, hfz26_3, hfz26_4⟩ := z5 BK377) | (refine gL (some 24) rfl Try.func24 #[.agg #[.int .i64 0, .int .i64 0, .bool false, .int .i64 0, .int .i64 0], .int .i64 a2] ?_; (with_reducible refine (r06_Fold.calls k 0 0 false 0 0 a2 t391 t392 t393 t394 t395 _ A21.out).mono ?_); rintro e w27 ⟨rfl, hb⟩; refine ⟨_, rfl, ?_⟩; replace BK377 := cB BK377 hb; replace HB := Aside0.mk (below_step bl hb); (try clear hb)) | ((with_reducible refine gate_dst (N := 26) rfl ?_); refine Kd.R_lit k82 _ 82 ?hg (N := 26) ?hd (xs := ([(⟨a1, (⟨t391, (⟨t392, t393⟩ : S50), t394, t395⟩ : S52)⟩ : S82)] : List (S82))) (inner := [.int .i64 a1, .int .i64 t391, .int .i64 t392, .bool t393, .int .i64 t394, .int .i64 t395]) (ok := fun _ => True) (okp := fun _ => True) ?hr ?hp (fun _ hk => hk) trivial (Below.refl _ _) (Nat.le_refl _) (by simp) ?_; (case hd => rfl); (case hg => rfl); (case hr => first | (go_simp; done) | (go_simp; rfl)); (case hp => exact (Reps.c6 (show Kd.M k82 _ _ _ (⟨a1, (⟨t391, (⟨t392, t393⟩ : S50), t394, t395⟩ : S52)⟩ : S82) [.int .i64 a1, .int .i64 t391, .int .i64 t392, .bool t393, .int .i64 t394, .int .i64 t395] from (k82_mkM _ _ _ (⟨a1, (⟨t391, (⟨t392, t393⟩ : S50), t394, t395⟩ : S52)⟩ : S82) )) (Reps.none _ _))); intro v397 w28 ho29 hb hg_ hnew_; clear hg_ hnew_; (first | rw [← Ny396.out] at ho29 | (simp only [Int.reduceToNat] at ho29; rw [← Ny396.out] at ho29)); have HO398 := Aside0.mk (Kd.R_lower ho29 (below_size bl)); replace BK377 := cB BK377 hb; replace HB := Aside0.mk (below_step bl hb); clear hb ho29; obtain ⟨Ao30, co30, eo30⟩ := Kd.R_slice HO398.out; subst eo30) | (refine gL (some 27) rfl Try.func53 #[.slice A0 l0.length c0, .slice Ao30 y396.length co30] ?_; (with_reducible refine (r10_Put.calls k _ _ l0 _ _ y396 t399 t400 _ ?side1 ?side2 ?side3 ?side4 A22.out).mono ?_); (case side1 => exact uC <| (Kd.C_below HR0.out HB.out)); (case side2 => exact HC0.out); (case side3 => exact uC <| (Kd.R_reads' HO398.out).2.2); (case side4 => exact (Kd.R_reads' HO398.out).2.1); rintro e w31 ⟨v401, rfl, ho0, hb⟩; refine ⟨_, rfl, ?_⟩; have HO402 := Aside0.mk (Kd.R_lower (Kd.R_new' ho0 (Kd.R_lt (uR HO398.out))) (below_size bl)); replace HO398 := Aside0.mk (Kd.R_elder' (uR HO398.out) (Kd.R_base ho0) hb); replace BK377 := cB BK377 hb; replace HB := Aside0.mk (below_step bl hb); (try clear hb); (try clear ho0)))
  go_ret2
  exact ⟨_, re_, by exact uR <| Kd.R_mono HO402.out (fun _ hk => trivial), bl⟩
end Go.Proofs.Ytofaindjbhmopaa.X
