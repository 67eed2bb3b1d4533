/- Printed by a program of this session's own: what functions of the program compute, and that the machine computes it. No condition of its own. -/
import Derived.Test.YteckidchnicjeaaGreatDoorM3
import Derived.Test.YteckidchnicjeaaGreatDoorM7
import Derived.Test.YteckidchnicjeaaGreatDoorM5
import Derived.Test.YteckidchnicjeaaGreatDoorM4
namespace Go.Proofs.YteckidchnicjeaaGreatDoor.X
open Go.RowKit Go.Proofs.YteckidchnicjeaaGreatDoorW.PrintWords Go.Proofs.YteckidchnicjeaaGreatDoorW.PrintLast Go.Proofs.YteckidchnicjeaaGreatDoorW.PrintMore
attribute [local go_sem] max2_int min2_int max_two min_two max_three min_three max_four min_four
set_option linter.unusedVariables false
set_option linter.unusedSimpArgs false
set_option maxHeartbeats 8000000
set_option maxRecDepth 100000
attribute [local go_sem high] eqA78
def diff_right.l0 : Nat → List (S60) → List (S78) → Int → Int → Option (Bool)
 | 0, _, _, _, _ => none
 | k + 1, x3, x6, x7, x8 => if x8 < x7 then (if 0 ≤ x8 then (if x8 < (x6.length : Int) then (if (rd_T78 x6 x8).f1 = true then ((diff_gone.f ((rd_T78 x6 x8).f0.f0) ((rd_T78 x6 x8).f0.f1) ((rd_T78 x6 x8).f0.f2.f0) ((rd_T78 x6 x8).f0.f2.f1)).bind fun bt361 => (if ((!(((rd_T78 x6 x8).f0.f0) == bt361.1) || (!((((rd_T78 x6 x8).f0.f1).toList) == bt361.2.1.toList) || ((!(((rd_T78 x6 x8).f0.f2.f0) == bt361.2.2.1) || (!(((rd_T78 x6 x8).f0.f2.f1) == bt361.2.2.2.1)))))) || (!(((rd_T78 x6 x8).f1) == bt361.2.2.2.2))) = true then (some false) else (if x3.length < 3518437208883 then (diff_right.l0 k (x3 ++ [(⟨(rd_T78 x6 x8).f0.f0, (rd_T78 x6 x8).f0.f1, (⟨(rd_T78 x6 x8).f0.f2.f0, (rd_T78 x6 x8).f0.f2.f1⟩ : S58)⟩ : S60)]) x6 x7 (wrap64 (x8 + 1))) else (none)))) else (if x3.length < 3518437208883 then (diff_right.l0 k (x3 ++ [(⟨(rd_T78 x6 x8).f0.f0, (rd_T78 x6 x8).f0.f1, (⟨(rd_T78 x6 x8).f0.f2.f0, (rd_T78 x6 x8).f0.f2.f1⟩ : S58)⟩ : S60)]) x6 x7 (wrap64 (x8 + 1))) else (none))) else (none)) else (none)) else ((row_Right.f k x3).bind fun t372 => (some t372))
def diff_right.f (k : Nat) (l0 : List (S78)) : Option (Bool) := diff_right.l0 k ([] : List (S60)) l0 (l0.length : Int) 0
theorem diff_right.mono_l : ∀ k, (∀ y0 y1 y2 y3, LeC (diff_right.l0 k y0 y1 y2 y3) (diff_right.l0 (k + 1) y0 y1 y2 y3))
 | 0 => fun _ _ _ _ => ⟨fun r h => by simp [diff_right.l0] at h⟩
 | k + 1 => by have ih0 := diff_right.mono_l k; exact fun _ _ _ _ => by unfold diff_right.l0; exact lm
theorem diff_right.mono : ∀ a0 k, LeO (diff_right.f k a0) (diff_right.f (k + 1) a0) := by
 intro a0 k
 have ih0 := diff_right.mono_l k
 unfold diff_right.f
 exact lo
instance diff_right.mI {a0 k} : LeC (diff_right.f k a0) (diff_right.f (k + 1) a0) := ⟨diff_right.mono _ _⟩
def diff_right.T5 : Bool × List (List Nat × List Nat) := (true, [([], []), ([0], [0]), ([1], [1]), ([2], [2]), ([2], [2]), ([4, 2], [2, 4]), ([5, 2, 2], [2, 5]), ([3, 6, 2], [2, 3, 6]), ([2, 7], [2, 7])])
def diff_right.B5 : List Nat := [0, 1, 3, 7, 7, 23, 55, 127, 255]
theorem diff_right.tab5 : rtab .any (opsOf Tryz.f73 5) = diff_right.T5 := by kernel_rfl
theorem diff_right.bits5 : waitsOk diff_right.T5.2 diff_right.B5 = true := by kernel_rfl
theorem diff_right.calls (k : Nat) (A0 : Option Addr) (c0 : Nat) (l0 : List (S78)) (r : Bool) (w : World) (hr0 : Kd.C k78 w A0 l0.length l0) (hc0 : l0.length ≤ c0) (hL : LD w) (h : diff_right.f k l0 = some r) :
 Calls Tryz.prog 73 #[.slice A0 l0.length c0] w fun e w' => e = .returned (.bool r) ∧ Below w.heap.size w w' := by
 have HL0 := Aside0.mk hL
 clear hL
 have hu78 := Tryz.underlying78
 have hu60 := Tryz.underlying60
 have HR0 := Aside0.mk hr0
 have HC0 := Aside0.mk hc0
 clear hr0 hc0
 have HB := Aside0.mk (Below.refl w.heap.size w)
 have H : (diff_right.l0 k ([] : List (S60)) l0 (l0.length : Int) 0) = some r := h
 clear h
 have H' := Aside0.mk H
 clear H
 go_enter Tryz.func73, Tryz.ntmps73
 go_wp2
 go_loopg [3, 8] k (fun kq v3 v8 w' => ∃ (x3_1 : List (S60)) (x8_1 : Int), v8 = .int .i64 x8_1 ∧ Aside0 (diff_right.l0 kq x3_1 l0 (l0.length : Int) x8_1 = some r) ∧ Aside0 (kq ≤ k) ∧ Aside0 (Kd.R k60 60 w' w.heap.size (fun _ => True) v3 x3_1) ∧ Aside0 (Below w.heap.size w w'))
 case atStart => exact ⟨(([] : List (S60))), (0), rs_, H', ⟨Nat.le_refl _⟩, ⟨nl_⟩, ⟨uW HB.out⟩⟩
 case round =>
  clear H'
  obtain ⟨x3_1, x8_1, rfl, HA, HK1, HO_3, HB⟩ := hrel
  cases gk with
  | zero => exact absurd HA.out (by simp [diff_right.l0])
  | succ k1 =>
   have H := HA.out
   clear HA
   simp only [diff_right.l0] at H
   by_cases c2 : x8_1 < (l0.length : Int)
   ·
    rw [if_pos c2] at H
    have c2b0 : decide (x8_1 < (l0.length : Int)) = true := decide_eq_true c2
    clear c2
    obtain ⟨c3b0, H⟩ := gdd H
    obtain ⟨c4b0, H⟩ := gdd H
    obtain ⟨bq5, hbq5⟩ : ∃ b_ : Bool, b_ = ((rd_T78 l0 x8_1).f1) := ⟨_, rfl⟩
    replace H : (if bq5 = true then ((diff_gone.f ((rd_T78 l0 x8_1).f0.f0) ((rd_T78 l0 x8_1).f0.f1) ((rd_T78 l0 x8_1).f0.f2.f0) ((rd_T78 l0 x8_1).f0.f2.f1)).bind fun bt361 => (if ((!(((rd_T78 l0 x8_1).f0.f0) == bt361.1) || (!((((rd_T78 l0 x8_1).f0.f1).toList) == bt361.2.1.toList) || ((!(((rd_T78 l0 x8_1).f0.f2.f0) == bt361.2.2.1) || (!(((rd_T78 l0 x8_1).f0.f2.f1) == bt361.2.2.2.1)))))) || (!((bq5) == bt361.2.2.2.2))) = true then (some false) else (if x3_1.length < 3518437208883 then (diff_right.l0 k1 (x3_1 ++ [(⟨(rd_T78 l0 x8_1).f0.f0, (rd_T78 l0 x8_1).f0.f1, (⟨(rd_T78 l0 x8_1).f0.f2.f0, (rd_T78 l0 x8_1).f0.f2.f1⟩ : S58)⟩ : S60)]) l0 (l0.length : Int) (wrap64 (x8_1 + 1))) else (none)))) else (if x3_1.length < 3518437208883 then (diff_right.l0 k1 (x3_1 ++ [(⟨(rd_T78 l0 x8_1).f0.f0, (rd_T78 l0 x8_1).f0.f1, (⟨(rd_T78 l0 x8_1).f0.f2.f0, (rd_T78 l0 x8_1).f0.f2.f1⟩ : S58)⟩ : S60)]) l0 (l0.length : Int) (wrap64 (x8_1 + 1))) else (none))) = some r := by rw [← hbq5] at H; exact H
    have Nbq5 := Aside0.mk hbq5
    clear hbq5
    by_cases c6 : bq5 = true
    ·
     subst c6
     rw [if_pos rfl] at H
     obtain ⟨⟨t361, t362, t363, t364, t365⟩, A7, H⟩ := bs H
     try dsimp only at H
     by_cases c8 : ((!(((rd_T78 l0 x8_1).f0.f0) == t361) || (!((((rd_T78 l0 x8_1).f0.f1).toList) == t362.toList) || ((!(((rd_T78 l0 x8_1).f0.f2.f0) == t363) || (!(((rd_T78 l0 x8_1).f0.f2.f1) == t364)))))) || (!((true) == t365))) = true
     ·
      rw [if_pos c8] at H
      have c8b0 : ((!(((rd_T78 l0 x8_1).f0.f0) == t361) || (!((((rd_T78 l0 x8_1).f0.f1).toList) == t362.toList) || ((!(((rd_T78 l0 x8_1).f0.f2.f0) == t363) || (!(((rd_T78 l0 x8_1).f0.f2.f1) == t364)))))) || (!((true) == t365))) = true := c8
      (try simp only [Bool.true_beq, Bool.false_beq, beq_true, beq_false] at c8b0)
      clear c8
      obtain rfl := Option.some.inj H
      have p359 : 0 ≤ (x8_1 : Int) := od
      have q359 : x8_1 < (l0.length : Int) := od
      obtain ⟨ad359, e359, hx359_0, hx359_1, hx359_2, hx359_3, hx359_4⟩ := at_T78 HR0.out x8_1 p359 q359
      (try rw [← Nbq5.out] at hx359_3)
      (try rw [← Nbq5.out] at hx359_4)
      cases e359
      replace hx359_0 := kc HB hx359_0
      replace hx359_1 := kc HB hx359_1
      replace hx359_2 := kc HB hx359_2
      replace hx359_3 := kc HB hx359_3
      replace hx359_4 := kc HB hx359_4
      replace p359 := eq_true p359
      replace q359 := eq_true q359
      try go_wp2_with (first | ((with_reducible refine gate_dst (N := 5) rfl ?_); refine bx (N := 5) #[.int .i64 0, .string (⟨#[]⟩ : ByteArray), .int .i64 0, .bool false, .bool false] 78 ?_; intro gb360 hg w9 hbox hb; replace HO_3 := cR HO_3 hb; have BK360 := Aside0.mk (hbox); have GW360 := gw hg (uW HB.out); have GE360 := GW360; replace HB := cW HB hb; clear hb hbox hg; obtain ⟨hcz10_0, hcz10_1, hcz10_2, hcz10_3, hcz10_4, hfz10_0, hfz10_1, hfz10_2, hfz10_3, hfz10_4⟩ := z5 BK360) | ((with_reducible refine gate_store (t := 78) (p := 5) rfl ?_); refine store_event (t := 78) (p := 5) (v := ?vo_w11) (w1 := (((((w9.setCell ⟨gb360, 0, none⟩ (.int .i64 ((rd_T78 l0 x8_1).f0.f0))).setCell ⟨gb360, 1, none⟩ (.string ((rd_T78 l0 x8_1).f0.f1))).setCell ⟨gb360, 2, none⟩ (.int .i64 ((rd_T78 l0 x8_1).f0.f2.f0))).setCell ⟨gb360, 3, none⟩ (.bool ((rd_T78 l0 x8_1).f0.f2.f1))).setCell ⟨gb360, 4, none⟩ (.bool true))) ?hg ?ho ?hn ?hr ?_; (case ho => rfl); (case hg => rfl); (case hn => rfl); (case hr => first | (go_simp; done) | (go_simp; rfl)); intro w11 hw; replace HO_3 := fgR (ok' := fun _ => True) hw HO_3 BK360 fun _ _ => trivial; replace HB : Aside0 (Below w.heap.size w w11) := fgW hw bl; replace BK360 := fgB hw BK360; clear hw))
      replace HO_3 := Aside0.mk (Kd.R_drew HO_3.out)
      replace BK360 := Aside0.mk (blk_drew BK360.out)
      replace HB := Aside0.mk (below_drew1 HB.out)
      refine start_ (n := 9) (S := fun w' => w'.cell? ⟨gb360, 0, none⟩ = some (.int .i64 ((rd_T78 l0 x8_1).f0.f0)) ∧ w'.cell? ⟨gb360, 1, none⟩ = some (.string ((rd_T78 l0 x8_1).f0.f1)) ∧ w'.cell? ⟨gb360, 2, none⟩ = some (.int .i64 ((rd_T78 l0 x8_1).f0.f2.f0)) ∧ w'.cell? ⟨gb360, 3, none⟩ = some (.bool ((rd_T78 l0 x8_1).f0.f2.f1)) ∧ w'.cell? ⟨gb360, 4, none⟩ = some (.bool true)) (ds := []) _ (by kernel_rfl) rfl rfl ⟨(blk_cell BK360.out 0).trans rfl, (blk_cell BK360.out 1).trans rfl, (blk_cell BK360.out 2).trans rfl, (blk_cell BK360.out 3).trans rfl, (blk_cell BK360.out 4).trans rfl⟩ (fun hHeld => ?_); refine with_tabW diff_right.tab5 diff_right.bits5 (fun HT_ HW_ => ?_)
      generalize w11.drew = w12 at HO_3 BK360 HB hHeld ⊢
      refine p1 0 (some 12) ?_
      refine t1 1 (some 13) rfl rfl hHeld (Or.inl ⟨by rfl, by rintro w' ⟨s0, s1, s2, s3, s4⟩; go_simp; with_reducible rfl⟩) ?_
      refine p1 2 (some 14) ?_
      refine p1 4 (some 16) ?_
      refine t1 3 (some 15) rfl rfl hHeld (Or.inl ⟨by rfl, by rintro w' ⟨s0, s1, s2, s3, s4⟩; go_simp; with_reducible rfl⟩) ?_
      refine t1 5 (some 17) rfl rfl hHeld (Or.inl ⟨by rfl, by rintro w' ⟨s0, s1, s2, s3, s4⟩; go_simp; with_reducible rfl⟩) ?_
      refine o1 6 (some 18) rfl rfl (fun K hK => ?_)
      refine gS Tryz.func92 #[.agg #[.int .i64 ((rd_T78 l0 x8_1).f0.f0), .string ((rd_T78 l0 x8_1).f0.f1), .int .i64 ((rd_T78 l0 x8_1).f0.f2.f0), .bool ((rd_T78 l0 x8_1).f0.f2.f1)]] ?_
      with_reducible refine (diff_gone.calls ((rd_T78 l0 x8_1).f0.f0) ((rd_T78 l0 x8_1).f0.f1) ((rd_T78 l0 x8_1).f0.f2.f0) ((rd_T78 l0 x8_1).f0.f2.f1) t361 t362 t363 t364 t365 _ A7.out).mono ?_
      rintro e w13 ⟨rfl, hb⟩
      refine ⟨_, rfl, ?_⟩
      replace HO_3 := cR HO_3 hb
      replace BK360 := cB BK360 hb
      replace HB := Aside0.mk (below_step bl hb)
      (try clear hb)
      refine hK.out _ _ ⟨(blk_cell BK360.out 0).trans rfl, (blk_cell BK360.out 1).trans rfl, (blk_cell BK360.out 2).trans rfl, (blk_cell BK360.out 3).trans rfl, (blk_cell BK360.out 4).trans rfl⟩ (fun hHeld => ?_)
      clear hK K
      refine norm_ (a' := ?_) ?_ ?_
      rotate_left
      ·
       show Act.put _ (some 18) _ = _
       simp only [Act.put, List.setIfInBounds_toArray, List.set_cons_zero, List.set_cons_succ, i64_w, i32_w]
       rfl
      refine p1 7 (some 19) ?_
      refine p1 8 (some 20) ?_
      refine done_ (done_of HT_.out (by kernel_rfl)) ?_
      try go_wp2
      go_ret
      exact ⟨re_, bl⟩
     ·
      rw [if_neg c8] at H
      have c8b0 : ((!(((rd_T78 l0 x8_1).f0.f0) == t361) || (!((((rd_T78 l0 x8_1).f0.f1).toList) == t362.toList) || ((!(((rd_T78 l0 x8_1).f0.f2.f0) == t363) || (!(((rd_T78 l0 x8_1).f0.f2.f1) == t364)))))) || (!((true) == t365))) = false := by simpa using c8
      (try simp only [Bool.true_beq, Bool.false_beq, beq_true, beq_false] at c8b0)
      clear c8
      obtain ⟨c14, H⟩ := gd H
      have LMc14 := Aside0.mk c14
      clear c14
      obtain ⟨y366, hy366⟩ : ∃ y_ : List (S60), y_ = (x3_1 ++ [(⟨(rd_T78 l0 x8_1).f0.f0, (rd_T78 l0 x8_1).f0.f1, (⟨(rd_T78 l0 x8_1).f0.f2.f0, (rd_T78 l0 x8_1).f0.f2.f1⟩ : S58)⟩ : S60)]) := ⟨_, rfl⟩
      replace H : (diff_right.l0 k1 y366 l0 (l0.length : Int) (wrap64 (x8_1 + 1))) = some r := by first | (rw [hy366]; with_reducible exact H) | (have H2_ := (Option.bind_some _ _).symm.trans H; rw [hy366]; with_reducible exact H2_) | (have H2_ := (Option.bind_some _ _).symm.trans H; with_reducible exact H2_) | with_reducible exact H | (rw [hy366]; exact H) | exact H
      have Ny366 := Aside0.mk hy366
      clear hy366
      have H' := Aside0.mk H
      clear H
      have p359 : 0 ≤ (x8_1 : Int) := od
      have q359 : x8_1 < (l0.length : Int) := od
      obtain ⟨ad359, e359, hx359_0, hx359_1, hx359_2, hx359_3, hx359_4⟩ := at_T78 HR0.out x8_1 p359 q359
      (try rw [← Nbq5.out] at hx359_3)
      (try rw [← Nbq5.out] at hx359_4)
      cases e359
      replace hx359_0 := kc HB hx359_0
      replace hx359_1 := kc HB hx359_1
      replace hx359_2 := kc HB hx359_2
      replace hx359_3 := kc HB hx359_3
      replace hx359_4 := kc HB hx359_4
      replace p359 := eq_true p359
      replace q359 := eq_true q359
      try go_wp2_with (first | ((with_reducible refine gate_dst (N := 5) rfl ?_); refine bx (N := 5) #[.int .i64 0, .string (⟨#[]⟩ : ByteArray), .int .i64 0, .bool false, .bool false] 78 ?_; intro gb360 hg w15 hbox hb; replace HO_3 := cR HO_3 hb; have BK360 := Aside0.mk (hbox); have GW360 := gw hg (uW HB.out); have GE360 := GW360; replace HB := cW HB hb; clear hb hbox hg; obtain ⟨hcz16_0, hcz16_1, hcz16_2, hcz16_3, hcz16_4, hfz16_0, hfz16_1, hfz16_2, hfz16_3, hfz16_4⟩ := z5 BK360) | ((with_reducible refine gate_store (t := 78) (p := 5) rfl ?_); refine store_event (t := 78) (p := 5) (v := ?vo_w17) (w1 := (((((w15.setCell ⟨gb360, 0, none⟩ (.int .i64 ((rd_T78 l0 x8_1).f0.f0))).setCell ⟨gb360, 1, none⟩ (.string ((rd_T78 l0 x8_1).f0.f1))).setCell ⟨gb360, 2, none⟩ (.int .i64 ((rd_T78 l0 x8_1).f0.f2.f0))).setCell ⟨gb360, 3, none⟩ (.bool ((rd_T78 l0 x8_1).f0.f2.f1))).setCell ⟨gb360, 4, none⟩ (.bool true))) ?hg ?ho ?hn ?hr ?_; (case ho => rfl); (case hg => rfl); (case hn => rfl); (case hr => first | (go_simp; done) | (go_simp; rfl)); intro w17 hw; replace HO_3 := fgR (ok' := fun _ => True) hw HO_3 BK360 fun _ _ => trivial; replace HB : Aside0 (Below w.heap.size w w17) := fgW hw bl; replace BK360 := fgB hw BK360; clear hw))
      replace HO_3 := Aside0.mk (Kd.R_drew HO_3.out)
      replace BK360 := Aside0.mk (blk_drew BK360.out)
      replace HB := Aside0.mk (below_drew1 HB.out)
      refine start_ (n := 9) (S := fun w' => w'.cell? ⟨gb360, 0, none⟩ = some (.int .i64 ((rd_T78 l0 x8_1).f0.f0)) ∧ w'.cell? ⟨gb360, 1, none⟩ = some (.string ((rd_T78 l0 x8_1).f0.f1)) ∧ w'.cell? ⟨gb360, 2, none⟩ = some (.int .i64 ((rd_T78 l0 x8_1).f0.f2.f0)) ∧ w'.cell? ⟨gb360, 3, none⟩ = some (.bool ((rd_T78 l0 x8_1).f0.f2.f1)) ∧ w'.cell? ⟨gb360, 4, none⟩ = some (.bool true)) (ds := []) _ (by kernel_rfl) rfl rfl ⟨(blk_cell BK360.out 0).trans rfl, (blk_cell BK360.out 1).trans rfl, (blk_cell BK360.out 2).trans rfl, (blk_cell BK360.out 3).trans rfl, (blk_cell BK360.out 4).trans rfl⟩ (fun hHeld => ?_); refine with_tabW diff_right.tab5 diff_right.bits5 (fun HT_ HW_ => ?_)
      generalize w17.drew = w18 at HO_3 BK360 HB hHeld ⊢
      refine p1 0 (some 12) ?_
      refine t1 1 (some 13) rfl rfl hHeld (Or.inl ⟨by rfl, by rintro w' ⟨s0, s1, s2, s3, s4⟩; go_simp; with_reducible rfl⟩) ?_
      refine p1 2 (some 14) ?_
      refine p1 4 (some 16) ?_
      refine t1 3 (some 15) rfl rfl hHeld (Or.inl ⟨by rfl, by rintro w' ⟨s0, s1, s2, s3, s4⟩; go_simp; with_reducible rfl⟩) ?_
      refine t1 5 (some 17) rfl rfl hHeld (Or.inl ⟨by rfl, by rintro w' ⟨s0, s1, s2, s3, s4⟩; go_simp; with_reducible rfl⟩) ?_
      refine o1 6 (some 18) rfl rfl (fun K hK => ?_)
      refine gS Tryz.func92 #[.agg #[.int .i64 ((rd_T78 l0 x8_1).f0.f0), .string ((rd_T78 l0 x8_1).f0.f1), .int .i64 ((rd_T78 l0 x8_1).f0.f2.f0), .bool ((rd_T78 l0 x8_1).f0.f2.f1)]] ?_
      with_reducible refine (diff_gone.calls ((rd_T78 l0 x8_1).f0.f0) ((rd_T78 l0 x8_1).f0.f1) ((rd_T78 l0 x8_1).f0.f2.f0) ((rd_T78 l0 x8_1).f0.f2.f1) t361 t362 t363 t364 t365 _ A7.out).mono ?_
      rintro e w19 ⟨rfl, hb⟩
      refine ⟨_, rfl, ?_⟩
      replace HO_3 := cR HO_3 hb
      replace BK360 := cB BK360 hb
      replace HB := Aside0.mk (below_step bl hb)
      (try clear hb)
      refine hK.out _ _ ⟨(blk_cell BK360.out 0).trans rfl, (blk_cell BK360.out 1).trans rfl, (blk_cell BK360.out 2).trans rfl, (blk_cell BK360.out 3).trans rfl, (blk_cell BK360.out 4).trans rfl⟩ (fun hHeld => ?_)
      clear hK K
      refine norm_ (a' := ?_) ?_ ?_
      rotate_left
      ·
       show Act.put _ (some 18) _ = _
       simp only [Act.put, List.setIfInBounds_toArray, List.set_cons_zero, List.set_cons_succ, i64_w, i32_w]
       rfl
      refine p1 7 (some 19) ?_
      refine p1 8 (some 20) ?_
      refine done_ (done_of HT_.out (by kernel_rfl)) ?_
      have hcz20_0 : w19.cell? ⟨gb360, 0, none⟩ = some (.int .i64 ((rd_T78 l0 x8_1).f0.f0)) := (blk_cell BK360.out 0).trans rfl
      have hcz20_1 : w19.cell? ⟨gb360, 1, none⟩ = some (.string ((rd_T78 l0 x8_1).f0.f1)) := (blk_cell BK360.out 1).trans rfl
      have hcz20_2 : w19.cell? ⟨gb360, 2, none⟩ = some (.int .i64 ((rd_T78 l0 x8_1).f0.f2.f0)) := (blk_cell BK360.out 2).trans rfl
      have hcz20_3 : w19.cell? ⟨gb360, 3, none⟩ = some (.bool ((rd_T78 l0 x8_1).f0.f2.f1)) := (blk_cell BK360.out 3).trans rfl
      have hcz20_4 : w19.cell? ⟨gb360, 4, none⟩ = some (.bool true) := (blk_cell BK360.out 4).trans (by first | rfl | (rw [← Nbq5.out]; rfl))
      have hfz20_0 := blk_frozen BK360.out 0
      have hfz20_1 := blk_frozen BK360.out 1
      have hfz20_2 := blk_frozen BK360.out 2
      have hfz20_3 := blk_frozen BK360.out 3
      have hfz20_4 := blk_frozen BK360.out 4
      try go_wp2_with (first | ((with_reducible refine gate_builtin (b := .append) (xs := #[.tmp 21, .tmp 24]) rfl ?_); at_builtin; refine Kd.R_append k60 (w0 := w) w.heap.size rfl (.tmp 21) (.tmp 24) 31 60 (.agg #[(.int .i64 0), (.string ⟨#[]⟩), (.int .i64 0), (.bool false)]) 40 rfl Tryz.underlying31 info60 rfl (by decide) (by omega) u3 x3_1 (⟨(rd_T78 l0 x8_1).f0.f0, (rd_T78 l0 x8_1).f0.f1, (⟨(rd_T78 l0 x8_1).f0.f2.f0, (rd_T78 l0 x8_1).f0.f2.f1⟩ : S58)⟩ : S60) [.int .i64 ((rd_T78 l0 x8_1).f0.f0), .string ((rd_T78 l0 x8_1).f0.f1), .int .i64 ((rd_T78 l0 x8_1).f0.f2.f0), .bool ((rd_T78 l0 x8_1).f0.f2.f1)] (fun _ => True) (fun _ => False) rfl rfl ?aP (fun _ hk => hk.elim) ?aF ?aO ?aB ?aS ?aL ?_; (case aP => exact k60_mkM _ _ _ (⟨(rd_T78 l0 x8_1).f0.f0, (rd_T78 l0 x8_1).f0.f1, (⟨(rd_T78 l0 x8_1).f0.f2.f0, (rd_T78 l0 x8_1).f0.f2.f1⟩ : S58)⟩ : S60)); (case aB => exact bl); (case aF => exact (fun _ _ => trivial)); (case aO => exact (uR HO_3.out)); (case aS => exact (below_size bl)); (case aL => have := LMc14.out; omega); intro v367 w21 ho hb hg hat; rw [← Ny366.out] at ho; replace BK360 := Aside0.mk (blk_grown (g := gb360) (o := .cells #[.int .i64 ((rd_T78 l0 x8_1).f0.f0), .string ((rd_T78 l0 x8_1).f0.f1), .int .i64 ((rd_T78 l0 x8_1).f0.f2.f0), .bool ((rd_T78 l0 x8_1).f0.f2.f1), .bool true] 78 (0, 0)) (uB BK360.out) hg (Kd.R_ne HO_3.out BK360.out (by decide))); replace HB := Aside0.mk (hb); have HO368 := Aside0.mk (ho); clear HO_3; clear ho hb hg hat))
      go_roundg k1
      case measure => have := HK1.out; omega
      case rel => exact ⟨(y366), (wrap64 (x8_1 + 1)), rs_, (by first | exact H' | (rw [← Nbq5.out]; exact H')), ⟨by have := HK1.out; omega⟩, ⟨uR HO368.out⟩, ⟨bl⟩⟩
    ·
     replace c6 := Bool.eq_false_iff.mpr c6
     subst c6
     rw [if_neg (show ¬ (false = true) by decide)] at H
     obtain ⟨c22, H⟩ := gd H
     have LMc22 := Aside0.mk c22
     clear c22
     obtain ⟨y369, hy369⟩ : ∃ y_ : List (S60), y_ = (x3_1 ++ [(⟨(rd_T78 l0 x8_1).f0.f0, (rd_T78 l0 x8_1).f0.f1, (⟨(rd_T78 l0 x8_1).f0.f2.f0, (rd_T78 l0 x8_1).f0.f2.f1⟩ : S58)⟩ : S60)]) := ⟨_, rfl⟩
     replace H : (diff_right.l0 k1 y369 l0 (l0.length : Int) (wrap64 (x8_1 + 1))) = some r := by first | (rw [hy369]; with_reducible exact H) | (have H2_ := (Option.bind_some _ _).symm.trans H; rw [hy369]; with_reducible exact H2_) | (have H2_ := (Option.bind_some _ _).symm.trans H; with_reducible exact H2_) | with_reducible exact H | (rw [hy369]; exact H) | exact H
     have Ny369 := Aside0.mk hy369
     clear hy369
     have H' := Aside0.mk H
     clear H
     have p359 : 0 ≤ (x8_1 : Int) := od
     have q359 : x8_1 < (l0.length : Int) := od
     obtain ⟨ad359, e359, hx359_0, hx359_1, hx359_2, hx359_3, hx359_4⟩ := at_T78 HR0.out x8_1 p359 q359
     (try rw [← Nbq5.out] at hx359_3)
     (try rw [← Nbq5.out] at hx359_4)
     cases e359
     replace hx359_0 := kc HB hx359_0
     replace hx359_1 := kc HB hx359_1
     replace hx359_2 := kc HB hx359_2
     replace hx359_3 := kc HB hx359_3
     replace hx359_4 := kc HB hx359_4
     replace p359 := eq_true p359
     replace q359 := eq_true q359
     try go_wp2_with (first | ((with_reducible refine gate_dst (N := 5) rfl ?_); refine bx (N := 5) #[.int .i64 0, .string (⟨#[]⟩ : ByteArray), .int .i64 0, .bool false, .bool false] 78 ?_; intro gb360 hg w23 hbox hb; replace HO_3 := cR HO_3 hb; have BK360 := Aside0.mk (hbox); have GW360 := gw hg (uW HB.out); have GE360 := GW360; replace HB := cW HB hb; clear hb hbox hg; obtain ⟨hcz24_0, hcz24_1, hcz24_2, hcz24_3, hcz24_4, hfz24_0, hfz24_1, hfz24_2, hfz24_3, hfz24_4⟩ := z5 BK360) | ((with_reducible refine gate_store (t := 78) (p := 5) rfl ?_); refine store_event (t := 78) (p := 5) (v := ?vo_w25) (w1 := (((((w23.setCell ⟨gb360, 0, none⟩ (.int .i64 ((rd_T78 l0 x8_1).f0.f0))).setCell ⟨gb360, 1, none⟩ (.string ((rd_T78 l0 x8_1).f0.f1))).setCell ⟨gb360, 2, none⟩ (.int .i64 ((rd_T78 l0 x8_1).f0.f2.f0))).setCell ⟨gb360, 3, none⟩ (.bool ((rd_T78 l0 x8_1).f0.f2.f1))).setCell ⟨gb360, 4, none⟩ (.bool false))) ?hg ?ho ?hn ?hr ?_; (case ho => rfl); (case hg => rfl); (case hn => rfl); (case hr => first | (go_simp; done) | (go_simp; rfl)); intro w25 hw; replace HO_3 := fgR (ok' := fun _ => True) hw HO_3 BK360 fun _ _ => trivial; replace HB : Aside0 (Below w.heap.size w w25) := fgW hw bl; replace BK360 := fgB hw BK360; clear hw))
     replace HO_3 := Aside0.mk (Kd.R_drew HO_3.out)
     replace BK360 := Aside0.mk (blk_drew BK360.out)
     replace HB := Aside0.mk (below_drew1 HB.out)
     refine start_ (n := 9) (S := fun w' => w'.cell? ⟨gb360, 0, none⟩ = some (.int .i64 ((rd_T78 l0 x8_1).f0.f0)) ∧ w'.cell? ⟨gb360, 1, none⟩ = some (.string ((rd_T78 l0 x8_1).f0.f1)) ∧ w'.cell? ⟨gb360, 2, none⟩ = some (.int .i64 ((rd_T78 l0 x8_1).f0.f2.f0)) ∧ w'.cell? ⟨gb360, 3, none⟩ = some (.bool ((rd_T78 l0 x8_1).f0.f2.f1)) ∧ w'.cell? ⟨gb360, 4, none⟩ = some (.bool false)) (ds := []) _ (by kernel_rfl) rfl rfl ⟨(blk_cell BK360.out 0).trans rfl, (blk_cell BK360.out 1).trans rfl, (blk_cell BK360.out 2).trans rfl, (blk_cell BK360.out 3).trans rfl, (blk_cell BK360.out 4).trans rfl⟩ (fun hHeld => ?_); refine with_tabW diff_right.tab5 diff_right.bits5 (fun HT_ HW_ => ?_)
     generalize w25.drew = w26 at HO_3 BK360 HB hHeld ⊢
     refine p1 0 (some 12) ?_
     refine t1 1 (some 13) rfl rfl hHeld (Or.inl ⟨by rfl, by rintro w' ⟨s0, s1, s2, s3, s4⟩; go_simp; with_reducible rfl⟩) ?_
     refine p1 2 (some 14) ?_
     refine p2 3 (some 15) ?_
     refine p2 4 (some 16) ?_
     refine p2 5 (some 17) ?_
     refine p2 6 (some 18) ?_
     refine p2 7 (some 19) ?_
     refine p1 8 (some 20) ?_
     refine done_ (done_of HT_.out (by kernel_rfl)) ?_
     have hcz27_0 : w26.cell? ⟨gb360, 0, none⟩ = some (.int .i64 ((rd_T78 l0 x8_1).f0.f0)) := (blk_cell BK360.out 0).trans rfl
     have hcz27_1 : w26.cell? ⟨gb360, 1, none⟩ = some (.string ((rd_T78 l0 x8_1).f0.f1)) := (blk_cell BK360.out 1).trans rfl
     have hcz27_2 : w26.cell? ⟨gb360, 2, none⟩ = some (.int .i64 ((rd_T78 l0 x8_1).f0.f2.f0)) := (blk_cell BK360.out 2).trans rfl
     have hcz27_3 : w26.cell? ⟨gb360, 3, none⟩ = some (.bool ((rd_T78 l0 x8_1).f0.f2.f1)) := (blk_cell BK360.out 3).trans rfl
     have hcz27_4 : w26.cell? ⟨gb360, 4, none⟩ = some (.bool false) := (blk_cell BK360.out 4).trans (by first | rfl | (rw [← Nbq5.out]; rfl))
     have hfz27_0 := blk_frozen BK360.out 0
     have hfz27_1 := blk_frozen BK360.out 1
     have hfz27_2 := blk_frozen BK360.out 2
     have hfz27_3 := blk_frozen BK360.out 3
     have hfz27_4 := blk_frozen BK360.out 4
     try go_wp2_with (first | ((with_reducible refine gate_builtin (b := .append) (xs := #[.tmp 21, .tmp 24]) rfl ?_); at_builtin; refine Kd.R_append k60 (w0 := w) w.heap.size rfl (.tmp 21) (.tmp 24) 31 60 (.agg #[(.int .i64 0), (.string ⟨#[]⟩), (.int .i64 0), (.bool false)]) 40 rfl Tryz.underlying31 info60 rfl (by decide) (by omega) u3 x3_1 (⟨(rd_T78 l0 x8_1).f0.f0, (rd_T78 l0 x8_1).f0.f1, (⟨(rd_T78 l0 x8_1).f0.f2.f0, (rd_T78 l0 x8_1).f0.f2.f1⟩ : S58)⟩ : S60) [.int .i64 ((rd_T78 l0 x8_1).f0.f0), .string ((rd_T78 l0 x8_1).f0.f1), .int .i64 ((rd_T78 l0 x8_1).f0.f2.f0), .bool ((rd_T78 l0 x8_1).f0.f2.f1)] (fun _ => True) (fun _ => False) rfl rfl ?aP (fun _ hk => hk.elim) ?aF ?aO ?aB ?aS ?aL ?_; (case aP => exact k60_mkM _ _ _ (⟨(rd_T78 l0 x8_1).f0.f0, (rd_T78 l0 x8_1).f0.f1, (⟨(rd_T78 l0 x8_1).f0.f2.f0, (rd_T78 l0 x8_1).f0.f2.f1⟩ : S58)⟩ : S60)); (case aB => exact bl); (case aF => exact (fun _ _ => trivial)); (case aO => exact (uR HO_3.out)); (case aS => exact (below_size bl)); (case aL => have := LMc22.out; omega); intro v370 w28 ho hb hg hat; rw [← Ny369.out] at ho; replace BK360 := Aside0.mk (blk_grown (g := gb360) (o := .cells #[.int .i64 ((rd_T78 l0 x8_1).f0.f0), .string ((rd_T78 l0 x8_1).f0.f1), .int .i64 ((rd_T78 l0 x8_1).f0.f2.f0), .bool ((rd_T78 l0 x8_1).f0.f2.f1), .bool false] 78 (0, 0)) (uB BK360.out) hg (Kd.R_ne HO_3.out BK360.out (by decide))); replace HB := Aside0.mk (hb); have HO371 := Aside0.mk (ho); clear HO_3; clear ho hb hg hat))
     go_roundg k1
     case measure => have := HK1.out; omega
     case rel => exact ⟨(y369), (wrap64 (x8_1 + 1)), rs_, (by first | exact H' | (rw [← Nbq5.out]; exact H')), ⟨by have := HK1.out; omega⟩, ⟨uR HO371.out⟩, ⟨bl⟩⟩
   ·
    rw [if_neg c2] at H
    have c2b0 : decide (x8_1 < (l0.length : Int)) = false := decide_eq_false c2
    clear c2
    obtain ⟨t372, A29, H⟩ := bs H
    try dsimp only at H
    obtain rfl := Option.some.inj H
    obtain ⟨Ao30, co30, eo30⟩ := Kd.R_slice HO_3.out
    subst eo30
    go_wp2_with (first | (refine gL (some 28) rfl Tryz.func93 #[.slice Ao30 x3_1.length co30] ?_; (with_reducible refine (row_Right.calls (hL := ld) k1 _ _ x3_1 t372 _ ?side1 ?side2 A29.out).mono ?_); (case side1 => exact uC <| (Kd.R_reads' HO_3.out).2.2); (case side2 => exact (Kd.R_reads' HO_3.out).2.1); rintro e w31 ⟨rfl, hb⟩; refine ⟨_, rfl, ?_⟩; replace HO_3 := cR HO_3 hb; replace HB := cW HB hb; (try clear hb)))
    go_ret
    exact ⟨re_, uW HB.out⟩
def diff_Parse.l0 : Nat → List (S78) → List ByteArray → Int → Int → Option ((List (S78)) × Int)
 | 0, _, _, _, _ => none
 | k + 1, x2, x11, x12, x13 => if x13 < x12 then (if 0 ≤ x13 then (if x13 < (x11.length : Int) then ((diff_one.f k (rdOf ByteArray.empty x11 x13)).bind fun bt377 => (if bt377.2.2.2.2.2 = 0 then (if x2.length < 2932031007402 then (diff_Parse.l0 k (x2 ++ [(⟨(⟨bt377.1, bt377.2.1, (⟨bt377.2.2.1, bt377.2.2.2.1⟩ : S58)⟩ : S60), bt377.2.2.2.2.1⟩ : S78)]) x11 x12 (wrap64 (x13 + 1))) else (none)) else (some (([] : List (S78)), bt377.2.2.2.2.2)))) else (none)) else (none)) else ((diff_right.f k x2).bind fun t387 => (if t387 = true then (some (x2, 0)) else (some (([] : List (S78)), 9))))
def diff_Parse.f (k : Nat) (a0 : ByteArray) : Option ((List (S78)) × Int) := if a0.toList = ([45] : List UInt8) then (some (([] : List (S78)), 0)) else ((word_Split.f k a0 59).bind fun t373 => (diff_Parse.l0 k ([] : List (S78)) t373 (t373.length : Int) 0))
theorem diff_Parse.mono_l : ∀ k, (∀ y0 y1 y2 y3, LeC (diff_Parse.l0 k y0 y1 y2 y3) (diff_Parse.l0 (k + 1) y0 y1 y2 y3))
 | 0 => fun _ _ _ _ => ⟨fun r h => by simp [diff_Parse.l0] at h⟩
 | k + 1 => by have ih0 := diff_Parse.mono_l k; exact fun _ _ _ _ => by unfold diff_Parse.l0; exact lm
theorem diff_Parse.mono : ∀ a0 k, LeO (diff_Parse.f k a0) (diff_Parse.f (k + 1) a0) := by
 intro a0 k
 have ih0 := diff_Parse.mono_l k
 unfold diff_Parse.f
 exact lo
instance diff_Parse.mI {a0 k} : LeC (diff_Parse.f k a0) (diff_Parse.f (k + 1) a0) := ⟨diff_Parse.mono _ _⟩
theorem diff_Parse.calls (k : Nat) (a0 : ByteArray) (r1 : List (S78)) (r2 : Int) (w : World) (hL : LD w) (h : diff_Parse.f k a0 = some (r1, r2)) :
 Calls Tryz.prog 54 #[.string a0] w fun e w' => ∃ v0_ : Value, e = .returned (.tuple #[v0_, .int .i64 r2]) ∧ Kd.R k78 78 w' w.heap.size (fun _ => True) v0_ r1 ∧ Below w.heap.size w w' := by
 have HL0 := Aside0.mk hL
 clear hL
 have hu78 := Tryz.underlying78
 have HB := Aside0.mk (Below.refl w.heap.size w)
 have H : (if a0.toList = ([45] : List UInt8) then (some (([] : List (S78)), 0)) else ((word_Split.f k a0 59).bind fun t373 => (diff_Parse.l0 k ([] : List (S78)) t373 (t373.length : Int) 0))) = some (r1, r2) := h
 clear h
 by_cases c2 : a0.toList = ([45] : List UInt8)
 ·
  rw [if_pos c2] at H
  have c2b0 : (a0.toList == ([45] : List UInt8)) = true := beq_iff_eq.mpr c2
  have c2b1 : (a0.toList != ([45] : List UInt8)) = false := bne_eq_false_iff_eq.mpr c2
  clear c2
  simp only [Option.some.injEq, Prod.mk.injEq] at H
  obtain ⟨rfl, rfl⟩ := H
  go_enter Tryz.func54, Tryz.ntmps54
  go_wp2
  go_ret2
  exact ⟨_, re_, nl_, uW HB.out⟩
 ·
  rw [if_neg c2] at H
  have c2b0 : (a0.toList == ([45] : List UInt8)) = false := beq_eq_false_iff_ne.mpr c2
  have c2b1 : (a0.toList != ([45] : List UInt8)) = true := bne_iff_ne.mpr c2
  obtain ⟨t373, A3, H⟩ := bs H
  try dsimp only at H
  have H' := Aside0.mk H
  clear H
  go_enter Tryz.func54, Tryz.ntmps54
  go_wp2_with (first | (refine gL (some 11) rfl Tryz.func67 #[.string a0, .int .u8 59] ?_; (with_reducible refine (word_Split.calls k a0 59 t373 _ A3.out).mono ?_); rintro e w4 ⟨v374, rfl, ho0, hb⟩; refine ⟨_, rfl, ?_⟩; have HO375 := Aside0.mk (Kd.R_lower ho0 (below_size (uW HB.out))); replace HB := cW HB hb; (try clear hb); (try clear ho0); obtain ⟨Ao5, co5, eo5⟩ := Kd.R_slice HO375.out; subst eo5))
  (try simp only [Act.put, List.setIfInBounds_toArray, List.set_cons_zero, List.set_cons_succ])
  go_loopg [2, 13] k (fun kq v2 v13 w' => ∃ (x2_1 : List (S78)) (x13_1 : Int), v13 = .int .i64 x13_1 ∧ Aside0 (diff_Parse.l0 kq x2_1 t373 (t373.length : Int) x13_1 = some (r1, r2)) ∧ Aside0 (kq ≤ k) ∧ Aside0 (Kd.R k78 78 w' w.heap.size (fun _ => True) v2 x2_1) ∧ Aside0 (Kd.R Kd.string 9 w' w.heap.size (fun _ => True) (.slice Ao5 t373.length co5) t373) ∧ Aside0 (Below w.heap.size w w'))
  case atStart => exact ⟨(([] : List (S78))), (0), rs_, H', ⟨Nat.le_refl _⟩, ⟨nl_⟩, ⟨uR HO375.out⟩, ⟨uW HB.out⟩⟩
  case round =>
   clear H'
   try clear c2
   try clear c2b0
   try clear c2b1
   obtain ⟨x2_1, x13_1, rfl, HA, HK1, HO_2, HO_11, HB⟩ := hrel
   cases gk with
   | zero => exact absurd HA.out (by simp [diff_Parse.l0])
   | succ k1 =>
    have H := HA.out
    clear HA
    simp only [diff_Parse.l0] at H
    by_cases c6 : x13_1 < (t373.length : Int)
    ·
     rw [if_pos c6] at H
     have c6b0 : decide (x13_1 < (t373.length : Int)) = true := decide_eq_true c6
     clear c6
     obtain ⟨c7b0, H⟩ := gdd H
     obtain ⟨c8b0, H⟩ := gdd H
     obtain ⟨⟨t377, t378, t379, t380, t381, t382⟩, A9, H⟩ := bs H
     try dsimp only at H
     by_cases c10 : t382 = 0
     ·
      rw [if_pos c10] at H
      have c10b0 : (t382 == 0) = true := beq_iff_eq.mpr c10
      have c10b1 : (t382 != 0) = false := bne_eq_false_iff_eq.mpr c10
      clear c10
      obtain ⟨c11, H⟩ := gd H
      have LMc11 := Aside0.mk c11
      clear c11
      obtain ⟨y384, hy384⟩ : ∃ y_ : List (S78), y_ = (x2_1 ++ [(⟨(⟨t377, t378, (⟨t379, t380⟩ : S58)⟩ : S60), t381⟩ : S78)]) := ⟨_, rfl⟩
      replace H : (diff_Parse.l0 k1 y384 t373 (t373.length : Int) (wrap64 (x13_1 + 1))) = some (r1, r2) := by first | (rw [hy384]; with_reducible exact H) | (have H2_ := (Option.bind_some _ _).symm.trans H; rw [hy384]; with_reducible exact H2_) | (have H2_ := (Option.bind_some _ _).symm.trans H; with_reducible exact H2_) | with_reducible exact H | (rw [hy384]; exact H) | exact H
      have Ny384 := Aside0.mk hy384
      clear hy384
      have H' := Aside0.mk H
      clear H
      have p376 : 0 ≤ (x13_1 : Int) := od
      have q376 : x13_1 < (t373.length : Int) := od
      obtain ⟨ad376, e376, hx376_0⟩ := Kd.at_string (Kd.R_reads' HO_11.out).2.2 x13_1 p376 q376
      cases e376
      replace p376 := eq_true p376
      replace q376 := eq_true q376
      go_wp2_with (first | (refine gL (some 19) rfl Tryz.func72 #[.string (rdOf ByteArray.empty t373 x13_1)] ?_; (with_reducible refine (diff_one.calls (hL := ld) k1 (rdOf ByteArray.empty t373 x13_1) t377 t378 t379 t380 t381 t382 _ A9.out).mono ?_); rintro e w12 ⟨rfl, hb⟩; refine ⟨_, rfl, ?_⟩; replace HO_2 := cR HO_2 hb; replace HO_11 := cR HO_11 hb; replace HB := cW HB hb; (try clear hb)) | ((with_reducible refine gate_dst (N := 6) rfl ?_); refine bx (N := 6) #[.int .i64 0, .string (⟨#[]⟩ : ByteArray), .int .i64 0, .bool false, .bool false] 78 ?_; intro gb383 hg w13 hbox hb; replace HO_2 := Aside0.mk (Kd.R_below (Kd.R_elderB (uR HO_2.out) gb383 (Nat.le_of_eq hg.symm)) hb); replace HO_11 := cR HO_11 hb; have BK383 := Aside0.mk (hbox); have GW383 := gw hg (uW HB.out); have GE383 := GW383; replace HB := cW HB hb; clear hb hbox hg; obtain ⟨hcz14_0, hcz14_1, hcz14_2, hcz14_3, hcz14_4, hfz14_0, hfz14_1, hfz14_2, hfz14_3, hfz14_4⟩ := z5 BK383) | ((with_reducible refine gate_store (t := 78) (p := 6) rfl ?_); refine store_event (t := 78) (p := 6) (v := ?vo_w15) (w1 := (((((w13.setCell ⟨gb383, 0, none⟩ (.int .i64 t377)).setCell ⟨gb383, 1, none⟩ (.string t378)).setCell ⟨gb383, 2, none⟩ (.int .i64 t379)).setCell ⟨gb383, 3, none⟩ (.bool t380)).setCell ⟨gb383, 4, none⟩ (.bool t381))) ?hg ?ho ?hn ?hr ?_; (case ho => rfl); (case hg => rfl); (case hn => rfl); (case hr => first | (go_simp; done) | (go_simp; rfl)); intro w15 hw; replace HO_2 := fgN (ok' := (fun k_ => k_ ≠ gb383)) hw HO_2 (fun k_ hk => (⟨hk, hk.2⟩ : _ ∧ k_ ≠ gb383)) (fun _ hk => hk.1.2); replace HO_11 := fgR (ok' := fun _ => True) hw HO_11 BK383 fun _ _ => trivial; replace HB : Aside0 (Below w.heap.size w w15) := fgW hw bl; replace BK383 := fgB hw BK383; clear hw; obtain ⟨hcz16_0, hcz16_1, hcz16_2, hcz16_3, hcz16_4, hfz16_0, hfz16_1, hfz16_2, hfz16_3, hfz16_4⟩ := z5 BK383) | ((with_reducible refine gate_builtin (b := .append) (xs := #[.tmp 25, .tmp 27]) rfl ?_); at_builtin; refine Kd.R_append k78 (w0 := w) w.heap.size rfl (.tmp 25) (.tmp 27) 34 78 (.agg #[(.int .i64 0), (.string ⟨#[]⟩), (.int .i64 0), (.bool false), (.bool false)]) 48 rfl Tryz.underlying34 info78 rfl (by decide) (by omega) u2 x2_1 (⟨(⟨t377, t378, (⟨t379, t380⟩ : S58)⟩ : S60), t381⟩ : S78) [.int .i64 t377, .string t378, .int .i64 t379, .bool t380, .bool t381] (fun k_ => k_ ≠ gb383) (fun _ => False) rfl rfl ?aP (fun _ hk => hk.elim) ?aF ?aO ?aB ?aS ?aL ?_; (case aP => exact k78_mkM _ _ _ (⟨(⟨t377, t378, (⟨t379, t380⟩ : S58)⟩ : S60), t381⟩ : S78)); (case aB => exact bl); (case aF => exact (fun k_ hk => Kd.freshB (g := gb383) (o := .cells #[.int .i64 t377, .string t378, .int .i64 t379, .bool t380, .bool t381] 78 (0, 0)) (uB BK383.out) k_ hk)); (case aO => exact (uR HO_2.out)); (case aS => exact (below_size bl)); (case aL => have := LMc11.out; omega); intro v385 w17 ho hb hg hat; rw [← Ny384.out] at ho; replace HO_11 := Aside0.mk (Kd.R_over' (uR HO_11.out) (Kd.R_typed (uR HO_2.out)) (by decide) hg); replace BK383 := Aside0.mk (blk_grown (g := gb383) (o := .cells #[.int .i64 t377, .string t378, .int .i64 t379, .bool t380, .bool t381] 78 (0, 0)) (uB BK383.out) hg (Kd.R_away HO_2.out (fun _ hk => hk))); replace HB := Aside0.mk (hb); have HO386 := Aside0.mk (ho); clear HO_2; clear ho hb hg hat))
      go_roundg k1
      case measure => have := HK1.out; omega
      case rel => exact ⟨(y384), (wrap64 (x13_1 + 1)), rs_, H', ⟨by have := HK1.out; omega⟩, ⟨by exact uR <| Kd.R_mono HO386.out (fun _ hk => trivial)⟩, ⟨uR HO_11.out⟩, ⟨bl⟩⟩
     ·
      rw [if_neg c10] at H
      have c10b0 : (t382 == 0) = false := beq_eq_false_iff_ne.mpr c10
      have c10b1 : (t382 != 0) = true := bne_iff_ne.mpr c10
      simp only [Option.some.injEq, Prod.mk.injEq] at H
      obtain ⟨rfl, rfl⟩ := H
      have p376 : 0 ≤ (x13_1 : Int) := od
      have q376 : x13_1 < (t373.length : Int) := od
      obtain ⟨ad376, e376, hx376_0⟩ := Kd.at_string (Kd.R_reads' HO_11.out).2.2 x13_1 p376 q376
      cases e376
      replace p376 := eq_true p376
      replace q376 := eq_true q376
      go_wp2_with (first | (refine gL (some 19) rfl Tryz.func72 #[.string (rdOf ByteArray.empty t373 x13_1)] ?_; (with_reducible refine (diff_one.calls (hL := ld) k1 (rdOf ByteArray.empty t373 x13_1) t377 t378 t379 t380 t381 t382 _ A9.out).mono ?_); rintro e w18 ⟨rfl, hb⟩; refine ⟨_, rfl, ?_⟩; replace HO_2 := cR HO_2 hb; replace HO_11 := cR HO_11 hb; replace HB := cW HB hb; (try clear hb)) | ((with_reducible refine gate_dst (N := 6) rfl ?_); refine bx (N := 6) #[.int .i64 0, .string (⟨#[]⟩ : ByteArray), .int .i64 0, .bool false, .bool false] 78 ?_; intro gb383 hg w19 hbox hb; replace HO_2 := Aside0.mk (Kd.R_below (Kd.R_elderB (uR HO_2.out) gb383 (Nat.le_of_eq hg.symm)) hb); replace HO_11 := cR HO_11 hb; have BK383 := Aside0.mk (hbox); have GW383 := gw hg (uW HB.out); have GE383 := GW383; replace HB := cW HB hb; clear hb hbox hg; obtain ⟨hcz20_0, hcz20_1, hcz20_2, hcz20_3, hcz20_4, hfz20_0, hfz20_1, hfz20_2, hfz20_3, hfz20_4⟩ := z5 BK383) | ((with_reducible refine gate_store (t := 78) (p := 6) rfl ?_); refine store_event (t := 78) (p := 6) (v := ?vo_w21) (w1 := (((((w19.setCell ⟨gb383, 0, none⟩ (.int .i64 t377)).setCell ⟨gb383, 1, none⟩ (.string t378)).setCell ⟨gb383, 2, none⟩ (.int .i64 t379)).setCell ⟨gb383, 3, none⟩ (.bool t380)).setCell ⟨gb383, 4, none⟩ (.bool t381))) ?hg ?ho ?hn ?hr ?_; (case ho => rfl); (case hg => rfl); (case hn => rfl); (case hr => first | (go_simp; done) | (go_simp; rfl)); intro w21 hw; replace HO_2 := fgN (ok' := (fun k_ => k_ ≠ gb383)) hw HO_2 (fun k_ hk => (⟨hk, hk.2⟩ : _ ∧ k_ ≠ gb383)) (fun _ hk => hk.1.2); replace HO_11 := fgR (ok' := fun _ => True) hw HO_11 BK383 fun _ _ => trivial; replace HB : Aside0 (Below w.heap.size w w21) := fgW hw bl; replace BK383 := fgB hw BK383; clear hw))
      go_ret2
      exact ⟨_, re_, nl_, bl⟩
    ·
     rw [if_neg c6] at H
     have c6b0 : decide (x13_1 < (t373.length : Int)) = false := decide_eq_false c6
     clear c6
     obtain ⟨t387, A22, H⟩ := bs H
     try dsimp only at H
     by_cases c23 : t387 = true
     ·
      subst c23
      rw [if_pos rfl] at H
      simp only [Option.some.injEq, Prod.mk.injEq] at H
      obtain ⟨rfl, rfl⟩ := H
      obtain ⟨Ao24, co24, eo24⟩ := Kd.R_slice HO_2.out
      subst eo24
      go_wp2_with (first | (refine gL (some 31) rfl Tryz.func73 #[.slice Ao24 x2_1.length co24] ?_; (with_reducible refine (diff_right.calls (hL := ld) k1 _ _ x2_1 true _ ?side1 ?side2 A22.out).mono ?_); (case side1 => exact uC <| (Kd.R_reads' HO_2.out).2.2); (case side2 => exact (Kd.R_reads' HO_2.out).2.1); rintro e w25 ⟨rfl, hb⟩; refine ⟨_, rfl, ?_⟩; replace HO_2 := cR HO_2 hb; replace HO_11 := cR HO_11 hb; replace HB := cW HB hb; (try clear hb)))
      go_ret2
      exact ⟨_, re_, uR HO_2.out, uW HB.out⟩
     ·
      replace c23 := Bool.eq_false_iff.mpr c23
      subst c23
      rw [if_neg (show ¬ (false = true) by decide)] at H
      simp only [Option.some.injEq, Prod.mk.injEq] at H
      obtain ⟨rfl, rfl⟩ := H
      obtain ⟨Ao26, co26, eo26⟩ := Kd.R_slice HO_2.out
      subst eo26
      go_wp2_with (first | (refine gL (some 31) rfl Tryz.func73 #[.slice Ao26 x2_1.length co26] ?_; (with_reducible refine (diff_right.calls (hL := ld) k1 _ _ x2_1 false _ ?side1 ?side2 A22.out).mono ?_); (case side1 => exact uC <| (Kd.R_reads' HO_2.out).2.2); (case side2 => exact (Kd.R_reads' HO_2.out).2.1); rintro e w27 ⟨rfl, hb⟩; refine ⟨_, rfl, ?_⟩; replace HO_2 := cR HO_2 hb; replace HO_11 := cR HO_11 hb; replace HB := cW HB hb; (try clear hb)))
      go_ret2
      exact ⟨_, re_, nl_, uW HB.out⟩
theorem reply_ReadMessage.catch (p q : Nat) (er y : Int) (x0 x1 x2 x3 x4 : Value) (w : World) (hp : w.heap[p]? = some (.cells #[x0, x1, x2, x3, x4] 36 (0, 0))) (hq : w.heap[q]? = some (.cells #[.int .i64 y] 22 (0, 0))) :
 CallsD Tryz.prog 53 #[.pointer (some ⟨p, 0, none⟩), .pointer (some ⟨q, 0, none⟩)] (.panicking (wr_ er)) w fun e u' w' =>
  e = .returned (.tuple #[]) ∧ u' = .panicking [{ v := .iface 86 (.agg #[.int .i64 er]), recovered := true }] ∧ ∃ w1, Below w.heap.size w w1 ∧ w' = ((((((w1.setCell ⟨p, 0, none⟩ (.int .i64 0)).setCell ⟨p, 1, none⟩ (.int .i64 0)).setCell ⟨p, 2, none⟩ (.int .i64 0)).setCell ⟨p, 3, none⟩ (.slice none 0 0)).setCell ⟨p, 4, none⟩ (.slice none 0 0)).setCell ⟨q, 0, none⟩ (.int .i64 er)) := by
 have hne : p ≠ q := blk_ne hp hq (by decide)
 have hu33 := Tryz.underlying33
 have hu36 := Tryz.underlying36
 refine callsD_of_wpS Tryz.func53 rfl fun c₀ cs hu => ?_
 apply wpS_seq
 apply wpS_region
 simp [wpOpsS, go_sem, recoverD, hu, Tryz.ntmps53, Exit.thenS]
 apply wpS_seq
 apply wpS_region
 simp [wpOpsS, go_sem, Exit.thenS]
 refine wpS_cond (t := true) (by simp [Act.eval, Array.replicate]) ?_
 simp only [if_true]
 refine wpS_of_wp ?_
 go_wp2_with (first | (go_at_call 44; (with_reducible refine (reply_caught.calls er _).mono ?_); rintro e w5 ⟨rfl, hb⟩; have hp5 := blk_below hp hb; have hq5 := blk_below hq hb; have hc0 := (blk_cell hp5 0).trans rfl; have hz0 := blk_frozen hp5 0; have hc1 := (blk_cell hp5 1).trans rfl; have hz1 := blk_frozen hp5 1; have hc2 := (blk_cell hp5 2).trans rfl; have hz2 := blk_frozen hp5 2; have hc3 := (blk_cell hp5 3).trans rfl; have hz3 := blk_frozen hp5 3; have hc4 := (blk_cell hp5 4).trans rfl; have hz4 := blk_frozen hp5 4; have hcq := (blk_cell (blk_far (blk_far (blk_far (blk_far (blk_far hq5 (p := ⟨p, 0, none⟩) hne.symm (.int .i64 0)) (p := ⟨p, 1, none⟩) hne.symm (.int .i64 0)) (p := ⟨p, 2, none⟩) hne.symm (.int .i64 0)) (p := ⟨p, 3, none⟩) hne.symm (.slice none 0 0)) (p := ⟨p, 4, none⟩) hne.symm (.slice none 0 0)) 0).trans rfl; have hzq := blk_frozen (blk_far (blk_far (blk_far (blk_far (blk_far hq5 (p := ⟨p, 0, none⟩) hne.symm (.int .i64 0)) (p := ⟨p, 1, none⟩) hne.symm (.int .i64 0)) (p := ⟨p, 2, none⟩) hne.symm (.int .i64 0)) (p := ⟨p, 3, none⟩) hne.symm (.slice none 0 0)) (p := ⟨p, 4, none⟩) hne.symm (.slice none 0 0)) 0))
 cases c₀
 simp_all [bodyPostS, results, Tryz.results53, Exit.thenS]
 exact ⟨w5, hb, rfl⟩
theorem reply_ReadMessage.idle (p q : Nat) (w : World) : CallsD Tryz.prog 53 #[.pointer (some ⟨p, 0, none⟩), .pointer (some ⟨q, 0, none⟩)] .returning w fun e u' w' => e = .returned (.tuple #[]) ∧ u' = .returning ∧ w' = w := by
 refine callsD_of_wpS Tryz.func53 rfl fun c₀ cs hu => ?_
 apply wpS_seq
 apply wpS_region
 simp [wpOpsS, go_sem, recoverD, hu, Tryz.ntmps53, Exit.thenS]
 apply wpS_seq
 apply wpS_region
 simp [wpOpsS, go_sem, Exit.thenS]
 refine wpS_cond (t := false) (by simp [Act.eval, Array.replicate]) ?_
 simp only [Bool.false_eq_true, if_false]
 refine wpS_of_wp (wp_skip ?_)
 cases c₀
 simp_all [bodyPostS, results, Tryz.results53, Exit.thenS]
theorem reply_ReadMessage.out {w W : World} {p q : Nat} {er y : Int} {x0 x1 x2 x3 x4 t0 t1 t4 t5 t6 t7 t8 t9 t10 t11 t12 t13 t14 t15 t16 t17 t18 t19 t20 t21 t22 t23 t24 t25 t26 t27 t28 t29 t30 t31 t32 t33 t34 t35 t36 t37 t38 t39 t40 t41 t42 t43 t44 t45 t46 t47 : Value} (hp : W.heap[p]? = some (.cells #[x0, x1, x2, x3, x4] 36 (0, 0))) (hq : W.heap[q]? = some (.cells #[.int .i64 y] 22 (0, 0))) (hb : Below w.heap.size w W) (gp : w.heap.size ≤ p) (gq : w.heap.size ≤ q) :
 bodyPostD Tryz.prog Tryz.f26 (fun e w' => ∃ v0_ v1_ : Value, e = .returned (.tuple #[.agg #[.int .i64 0, .int .i64 0, .int .i64 0, v0_, v1_], .int .i64 er]) ∧ Kd.R k60 60 w' w.heap.size (fun _ => True) v0_ [] ∧ Kd.R k78 78 w' w.heap.size (fun _ => True) v1_ [] ∧ Below w.heap.size w w') (.panic (wr_ er)) { tmps := #[t0, t1, .pointer (some ⟨p, 0, none⟩), .pointer (some ⟨q, 0, none⟩), t4, t5, t6, t7, t8, t9, t10, t11, t12, t13, t14, t15, t16, t17, t18, t19, t20, t21, t22, t23, t24, t25, t26, t27, t28, t29, t30, t31, t32, t33, t34, t35, t36, t37, t38, t39, t40, t41, t42, t43, t44, t45, t46, t47], defers := [{ target := .fn (.func 53) #[.pointer (some ⟨p, 0, none⟩), .pointer (some ⟨q, 0, none⟩)], args := #[] }] } W := by
 have hne : p ≠ q := blk_ne hp hq (by decide)
 refine leaves_cons (f := 53) (args := #[.pointer (some ⟨p, 0, none⟩), .pointer (some ⟨q, 0, none⟩)]) (by simp) (by simp [go_sem]) ?_
 refine (reply_ReadMessage.catch p q er _ _ _ _ _ _ _ hp hq).mono ?_
 rintro e u' w'' ⟨rfl, rfl, w6, hb6, rfl⟩
 have cp0 := (blk_cell (blk_far (blk_set (blk_set (blk_set (blk_set (blk_set (blk_below hp hb6) 0 (.int .i64 0)) 1 (.int .i64 0)) 2 (.int .i64 0)) 3 (.slice none 0 0)) 4 (.slice none 0 0)) (p := ⟨q, 0, none⟩) hne (.int .i64 er)) 0).trans rfl
 have cp1 := (blk_cell (blk_far (blk_set (blk_set (blk_set (blk_set (blk_set (blk_below hp hb6) 0 (.int .i64 0)) 1 (.int .i64 0)) 2 (.int .i64 0)) 3 (.slice none 0 0)) 4 (.slice none 0 0)) (p := ⟨q, 0, none⟩) hne (.int .i64 er)) 1).trans rfl
 have cp2 := (blk_cell (blk_far (blk_set (blk_set (blk_set (blk_set (blk_set (blk_below hp hb6) 0 (.int .i64 0)) 1 (.int .i64 0)) 2 (.int .i64 0)) 3 (.slice none 0 0)) 4 (.slice none 0 0)) (p := ⟨q, 0, none⟩) hne (.int .i64 er)) 2).trans rfl
 have cp3 := (blk_cell (blk_far (blk_set (blk_set (blk_set (blk_set (blk_set (blk_below hp hb6) 0 (.int .i64 0)) 1 (.int .i64 0)) 2 (.int .i64 0)) 3 (.slice none 0 0)) 4 (.slice none 0 0)) (p := ⟨q, 0, none⟩) hne (.int .i64 er)) 3).trans rfl
 have cp4 := (blk_cell (blk_far (blk_set (blk_set (blk_set (blk_set (blk_set (blk_below hp hb6) 0 (.int .i64 0)) 1 (.int .i64 0)) 2 (.int .i64 0)) 3 (.slice none 0 0)) 4 (.slice none 0 0)) (p := ⟨q, 0, none⟩) hne (.int .i64 er)) 4).trans rfl
 have cq := (blk_cell (blk_set (blk_far (blk_far (blk_far (blk_far (blk_far (blk_below hq hb6) (p := ⟨p, 0, none⟩) hne.symm (.int .i64 0)) (p := ⟨p, 1, none⟩) hne.symm (.int .i64 0)) (p := ⟨p, 2, none⟩) hne.symm (.int .i64 0)) (p := ⟨p, 3, none⟩) hne.symm (.slice none 0 0)) (p := ⟨p, 4, none⟩) hne.symm (.slice none 0 0)) 0 (.int .i64 er)) 0).trans rfl
 have HB2 := (below_set (j := 0) (v := .int .i64 er) (below_set (j := 4) (v := .slice none 0 0) (below_set (j := 3) (v := .slice none 0 0) (below_set (j := 2) (v := .int .i64 0) (below_set (j := 1) (v := .int .i64 0) (below_set (j := 0) (v := .int .i64 0) (below_step hb hb6) gp) gp) gp) gp) gp) gq)
 simp [Leaves, settle, results, Tryz.results26, go_sem, cp0, cp1, cp2, cp3, cp4, cq, HB2]
 (try exact ⟨_, _, ⟨rfl, rfl⟩, Kd.R_nil _ _ _ _ _, Kd.R_nil _ _ _ _ _⟩)
def reply_ReadMessage.f (k : Nat) (a0 : ByteArray) : Option (Int × Int × Int × (List (S60)) × (List (S78)) × Int) := (word_Split.f k a0 32).bind fun t => ((reply_kinds.f).bind fun ks => (if ks.length ≤ 100 then (if (reply_words.g t 3 ks 0).isSome = true then ((sat_Read.f (rdOf ByteArray.empty t 1)).bind fun b => (if b.2 = 0 then (if b.1 < 0 then (some (0, 0, 0, [], [], 3)) else (if 2147483648 ≤ b.1 then (some (0, 0, 0, [], [], 3)) else ((sat_Read.f (rdOf ByteArray.empty t 2)).bind fun c => (if c.2 = 0 then (if c.1 < 0 then (some (0, 0, 0, [], [], 3)) else (if ((((reply_words.g t 3 ks 0).getD 0 : Nat) : Int) + 1) = 2 then ((diff_Parse.f k (rdOf ByteArray.empty t 3)).bind fun d => (if d.2 = 0 then (some (((((reply_words.g t 3 ks 0).getD 0 : Nat) : Int) + 1), b.1, c.1, [], d.1, 0)) else (some (0, 0, 0, [], [], d.2)))) else ((row_Parse.f k (rdOf ByteArray.empty t 3)).bind fun d => (if d.2 = 0 then (some (((((reply_words.g t 3 ks 0).getD 0 : Nat) : Int) + 1), b.1, c.1, d.1, [], 0)) else (some (0, 0, 0, [], [], d.2)))))) else (some (0, 0, 0, [], [], c.2)))))) else (some (0, 0, 0, [], [], b.2)))) else (some (0, 0, 0, [], [], 2))) else none))
theorem reply_ReadMessage.mono : ∀ a0 k, LeO (reply_ReadMessage.f k a0) (reply_ReadMessage.f (k + 1) a0) := by
 intro a0 k
 unfold reply_ReadMessage.f
 exact lo
instance reply_ReadMessage.mI {a0 k} : LeC (reply_ReadMessage.f k a0) (reply_ReadMessage.f (k + 1) a0) := ⟨reply_ReadMessage.mono _ _⟩
theorem reply_ReadMessage.calls (k : Nat) (a0 : ByteArray) (r1 : Int) (r2 : Int) (r3 : Int) (r4 : List (S60)) (r5 : List (S78)) (r6 : Int) (w : World) (hL : LD w) (h : reply_ReadMessage.f k a0 = some (r1, r2, r3, r4, r5, r6)) :
 Calls Tryz.prog 26 #[.string a0] w fun e w' => ∃ v3_ v4_ : Value, e = .returned (.tuple #[.agg #[.int .i64 r1, .int .i64 r2, .int .i64 r3, v3_, v4_], .int .i64 r6]) ∧ Kd.R k60 60 w' w.heap.size (fun _ => True) v3_ r4 ∧ Kd.R k78 78 w' w.heap.size (fun _ => True) v4_ r5 ∧ Below w.heap.size w w' := by
 unfold reply_ReadMessage.f at h
 obtain ⟨t, hs, h⟩ := Option.bind_eq_some_iff.mp h
 obtain ⟨ks, hks, h⟩ := Option.bind_eq_some_iff.mp h
 by_cases hkl : ks.length ≤ 100
 case neg => rw [if_neg hkl] at h; exact absurd h (by simp)
 rw [if_pos hkl] at h
 have hmf : ∀ (fn : Fn) (first cap : Array Value) (w : World), (Instr.makeFunc fn first cap).run Tryz.prog w = .ok (.func fn first cap) w := fun _ _ _ _ => rfl
 have hu56 := Tryz.underlying56
 have hu33 := Tryz.underlying33
 have hu36 := Tryz.underlying36
 have HB := Aside0.mk (Below.refl w.heap.size w)
 have HH := Aside0.mk h
 clear h
 go_enter_defers Tryz.func26, Tryz.ntmps26
 go_wp2_with (first | ((with_reducible refine gate_dst (N := 2) rfl ?_); refine bx (N := 2) #[.int .i64 0, .int .i64 0, .int .i64 0, .slice none 0 0, .slice none 0 0] 36 ?_; intro p hp w1 hk1 hb1; have BP := Aside0.mk hk1; have GP := Aside0.mk (show w.heap.size ≤ p by rw [hp]; exact HB.out.size); replace HB := Aside0.mk (below_step HB.out hb1); clear hk1 hp hb1) | ((with_reducible refine gate_dst (N := 3) rfl ?_); refine bx (N := 3) #[.int .i64 0] 22 ?_; intro q hq w2 hk1 hb1; have BQ := Aside0.mk hk1; have GQ := Aside0.mk (show w.heap.size ≤ q by rw [hq]; exact HB.out.size); replace BP := Aside0.mk (blk_below BP.out hb1); replace HB := Aside0.mk (below_step HB.out hb1); clear hk1 hq hb1) | ((go_at_call 41); (with_reducible refine (reply_kinds.calls ks _ hks).mono ?_); rintro e w4 ⟨v4_, rfl, ho4, hb4⟩; have HO4 := Aside0.mk ho4; replace BP := Aside0.mk (blk_below BP.out hb4); replace BQ := Aside0.mk (blk_below BQ.out hb4); replace HB := Aside0.mk (below_step HB.out hb4); obtain ⟨A4, c4, e4⟩ := Kd.R_slice ho4; subst e4; clear ho4 hb4))
 cases hg : reply_words.g t 3 ks 0 with
 | none =>
  have h := HH.out
  clear HH
  rw [hg, if_neg (by simp)] at h
  injection h with h
  injection h with h1 h
  injection h with h2 h
  injection h with h3 h
  injection h with h4 h
  injection h with h5 h6
  subst h1 h2 h3 h4 h5 h6
  refine (reply_words.both k a0 3 (by decide) A4 c4 ks t _ (Kd.R_reads' HO4.out).2.2 (Kd.R_reads' HO4.out).2.1 hkl hs).mono ?_
  rintro e w5 ⟨ho, hb'⟩
  rw [hg] at ho
  have ho2 : e = .panicked (wr_ 2) := ho
  subst ho2
  skip
  replace BP := Aside0.mk (blk_below BP.out hb'); replace BQ := Aside0.mk (blk_below BQ.out hb'); replace HB := Aside0.mk (below_step HB.out hb')
  go_wp2_with fail
  exact reply_ReadMessage.out BP.out BQ.out HB.out GP.out GQ.out
 | some i =>
  have h := HH.out
  clear HH
  rw [hg, if_pos (show (some i).isSome = true from rfl)] at h
  have HH := Aside0.mk h
  clear h
  refine (reply_words.both k a0 3 (by decide) A4 c4 ks t _ (Kd.R_reads' HO4.out).2.2 (Kd.R_reads' HO4.out).2.1 hkl hs).mono ?_
  rintro e w5 ⟨ho, hb'⟩
  rw [hg] at ho
  obtain ⟨v1_, rfl, hq⟩ := ho
  skip
  replace BP := Aside0.mk (blk_below BP.out hb'); replace BQ := Aside0.mk (blk_below BQ.out hb'); replace HB := Aside0.mk (below_step HB.out hb')
  have hlt := (reply_words.g_some hg).1
  obtain ⟨y, hy⟩ : ∃ y : List ByteArray, y = t.drop 1 := ⟨_, rfl⟩
  have hyl : (y.length : Int) = 3 := by rw [hy, List.length_drop]; omega
  rw [← hy] at hq
  obtain ⟨A5, c5, e5, _⟩ := Kd.Q_slice hq
  subst e5
  have HQ := Aside0.mk hq
  have HY := Aside0.mk hy
  have q0 : ((0 : Int) < (y.length : Int)) = True := eq_true (by omega)
  have qi0 : (0 < y.length) = True := eq_true (by omega)
  have q1 : ((1 : Int) < (y.length : Int)) = True := eq_true (by omega)
  have qi1 : (1 < y.length) = True := eq_true (by omega)
  have q2 : ((2 : Int) < (y.length : Int)) = True := eq_true (by omega)
  have qi2 : (2 < y.length) = True := eq_true (by omega)
  clear hq hb' hy
  have hne := blk_ne BP.out BQ.out (by decide)
  have hi := (reply_words.g_some hg).2
  have h := HH.out
  clear HH
  simp only [hg, Option.getD_some] at h
  obtain ⟨kd, hkd⟩ : ∃ kd : Int, (i : Int) + 1 = kd := ⟨_, rfl⟩
  rw [hkd] at h
  have hwk : wrap64 kd = kd := by unfold wrap64; omega
  have HH := Aside0.mk h
  clear h
  have hc1_ := (blk_cell BP.out 0).trans rfl; have hz1_ := blk_frozen BP.out 0; have HN_ := Aside0.mk (show (World.setCell _ ⟨p, 0, none⟩ (.int .i64 kd)).heap[p]? = some (.cells #[.int .i64 kd, .int .i64 0, .int .i64 0, .slice none 0 0, .slice none 0 0] 36 (0, 0)) from blk_set BP.out 0 (.int .i64 kd)); replace HQ := Aside0.mk (Kd.Q_set HQ.out BP.out (by decide) 0 (.int .i64 kd)); replace BQ := Aside0.mk (blk_far BQ.out (p := ⟨p, 0, none⟩) (hne.symm) (.int .i64 kd)); replace BP := HN_; clear HN_; replace HB := Aside0.mk (below_set (j := 0) (v := .int .i64 kd) HB.out GP.out)
  obtain ⟨ad10_, ea10_, hx10_⟩ := Kd.at_string (Kd.Q_reads' HQ.out).2.2 0 (by decide) (by omega)
  cases ea10_
  (try rw [show ((0 : Int)).toNat = 0 from rfl] at hx10_)
  (try rw [Addr.add_zero'] at hx10_)
  rw [HY.out, show rdOf ByteArray.empty (t.drop 1) 0 = rdOf ByteArray.empty t 1 from reply_words.rd1 t 0] at hx10_
  go_wp2_with fail
  have h := HH.out
  clear HH
  obtain ⟨⟨n0, er⟩, hA, h⟩ := Option.bind_eq_some_iff.mp h
  dsimp only at h
  by_cases c : er = 0
  case neg =>
   rw [if_neg c] at h
   injection h with h
   injection h with h1 h
   injection h with h2 h
   injection h with h3 h
   injection h with h4 h
   injection h with h5 h6
   subst h1 h2 h3 h4 h5 h6
   refine (reply_number.bad1 (rdOf ByteArray.empty t 1) 2147483648 n0 er _ (LD.below hL HB.out) hA c).mono ?_
   rintro e w20 ⟨rfl, hb'⟩
   replace BP := Aside0.mk (blk_below BP.out hb'); replace BQ := Aside0.mk (blk_below BQ.out hb'); replace HQ := Aside0.mk (Kd.Q_below HQ.out hb'); replace HB := Aside0.mk (below_step HB.out hb')
   go_wp2_with fail
   exact reply_ReadMessage.out BP.out BQ.out HB.out GP.out GQ.out
  rw [if_pos c] at h
  subst c
  by_cases c : n0 < 0
  case pos =>
   rw [if_pos c] at h
   injection h with h
   injection h with h1 h
   injection h with h2 h
   injection h with h3 h
   injection h with h4 h
   injection h with h5 h6
   subst h1 h2 h3 h4 h5 h6
   refine (reply_number.bad2 (rdOf ByteArray.empty t 1) 2147483648 n0 _ (LD.below hL HB.out) hA (Or.inl c)).mono ?_
   rintro e w20 ⟨rfl, hb'⟩
   replace BP := Aside0.mk (blk_below BP.out hb'); replace BQ := Aside0.mk (blk_below BQ.out hb'); replace HQ := Aside0.mk (Kd.Q_below HQ.out hb'); replace HB := Aside0.mk (below_step HB.out hb')
   go_wp2_with fail
   exact reply_ReadMessage.out BP.out BQ.out HB.out GP.out GQ.out
  rw [if_neg c] at h
  have hn6 := c
  clear c
  by_cases c : 2147483648 ≤ n0
  case pos =>
   rw [if_pos c] at h
   injection h with h
   injection h with h1 h
   injection h with h2 h
   injection h with h3 h
   injection h with h4 h
   injection h with h5 h6
   subst h1 h2 h3 h4 h5 h6
   refine (reply_number.bad2 (rdOf ByteArray.empty t 1) 2147483648 n0 _ (LD.below hL HB.out) hA (Or.inr ⟨by decide, c⟩)).mono ?_
   rintro e w20 ⟨rfl, hb'⟩
   replace BP := Aside0.mk (blk_below BP.out hb'); replace BQ := Aside0.mk (blk_below BQ.out hb'); replace HQ := Aside0.mk (Kd.Q_below HQ.out hb'); replace HB := Aside0.mk (below_step HB.out hb')
   go_wp2_with fail
   exact reply_ReadMessage.out BP.out BQ.out HB.out GP.out GQ.out
  rw [if_neg c] at h
  have hn15 := c
  clear c
  have HH := Aside0.mk h
  clear h
  refine (reply_number.good (rdOf ByteArray.empty t 1) 2147483648 n0 _ (LD.below hL HB.out) hA (by omega) (by omega)).mono ?_
  rintro e w20 ⟨rfl, hb'⟩
  replace BP := Aside0.mk (blk_below BP.out hb'); replace BQ := Aside0.mk (blk_below BQ.out hb'); replace HQ := Aside0.mk (Kd.Q_below HQ.out hb'); replace HB := Aside0.mk (below_step HB.out hb')
  clear hb' hA
  have hwn : wrap64 n0 = n0 := by unfold wrap64; omega
  have hc2_ := (blk_cell BP.out 1).trans rfl; have hz2_ := blk_frozen BP.out 1; have HN_ := Aside0.mk (show (World.setCell _ ⟨p, 1, none⟩ (.int .i64 n0)).heap[p]? = some (.cells #[.int .i64 kd, .int .i64 n0, .int .i64 0, .slice none 0 0, .slice none 0 0] 36 (0, 0)) from blk_set BP.out 1 (.int .i64 n0)); replace HQ := Aside0.mk (Kd.Q_set HQ.out BP.out (by decide) 1 (.int .i64 n0)); replace BQ := Aside0.mk (blk_far BQ.out (p := ⟨p, 1, none⟩) (hne.symm) (.int .i64 n0)); replace BP := HN_; clear HN_; replace HB := Aside0.mk (below_set (j := 1) (v := .int .i64 n0) HB.out GP.out)
  obtain ⟨ad11_, ea11_, hx11_⟩ := Kd.at_string (Kd.Q_reads' HQ.out).2.2 1 (by decide) (by omega)
  cases ea11_
  simp only [show (1 : Int).toNat = 1 from rfl, Nat.reduceMul, Nat.reduceEqDiff, Go.Addr.add, ↓reduceIte] at hx11_
  rw [HY.out, show rdOf ByteArray.empty (t.drop 1) 1 = rdOf ByteArray.empty t 2 from reply_words.rd1 t 1] at hx11_
  go_wp2_with fail
  have h := HH.out
  clear HH
  obtain ⟨⟨n1, er⟩, hA, h⟩ := Option.bind_eq_some_iff.mp h
  dsimp only at h
  by_cases c : er = 0
  case neg =>
   rw [if_neg c] at h
   injection h with h
   injection h with h1 h
   injection h with h2 h
   injection h with h3 h
   injection h with h4 h
   injection h with h5 h6
   subst h1 h2 h3 h4 h5 h6
   refine (reply_number.bad1 (rdOf ByteArray.empty t 2) 0 n1 er _ (LD.below hL HB.out) hA c).mono ?_
   rintro e w21 ⟨rfl, hb'⟩
   replace BP := Aside0.mk (blk_below BP.out hb'); replace BQ := Aside0.mk (blk_below BQ.out hb'); replace HQ := Aside0.mk (Kd.Q_below HQ.out hb'); replace HB := Aside0.mk (below_step HB.out hb')
   go_wp2_with fail
   exact reply_ReadMessage.out BP.out BQ.out HB.out GP.out GQ.out
  rw [if_pos c] at h
  subst c
  by_cases c : n1 < 0
  case pos =>
   rw [if_pos c] at h
   injection h with h
   injection h with h1 h
   injection h with h2 h
   injection h with h3 h
   injection h with h4 h
   injection h with h5 h6
   subst h1 h2 h3 h4 h5 h6
   refine (reply_number.bad2 (rdOf ByteArray.empty t 2) 0 n1 _ (LD.below hL HB.out) hA (Or.inl c)).mono ?_
   rintro e w21 ⟨rfl, hb'⟩
   replace BP := Aside0.mk (blk_below BP.out hb'); replace BQ := Aside0.mk (blk_below BQ.out hb'); replace HQ := Aside0.mk (Kd.Q_below HQ.out hb'); replace HB := Aside0.mk (below_step HB.out hb')
   go_wp2_with fail
   exact reply_ReadMessage.out BP.out BQ.out HB.out GP.out GQ.out
  rw [if_neg c] at h
  have hn6 := c
  clear c
  have HH := Aside0.mk h
  clear h
  refine (reply_number.good (rdOf ByteArray.empty t 2) 0 n1 _ (LD.below hL HB.out) hA (by omega) (by omega)).mono ?_
  rintro e w21 ⟨rfl, hb'⟩
  replace BP := Aside0.mk (blk_below BP.out hb'); replace BQ := Aside0.mk (blk_below BQ.out hb'); replace HQ := Aside0.mk (Kd.Q_below HQ.out hb'); replace HB := Aside0.mk (below_step HB.out hb')
  clear hb' hA
  have hc3_ := (blk_cell BP.out 2).trans rfl; have hz3_ := blk_frozen BP.out 2; have HN_ := Aside0.mk (show (World.setCell _ ⟨p, 2, none⟩ (.int .i64 n1)).heap[p]? = some (.cells #[.int .i64 kd, .int .i64 n0, .int .i64 n1, .slice none 0 0, .slice none 0 0] 36 (0, 0)) from blk_set BP.out 2 (.int .i64 n1)); replace HQ := Aside0.mk (Kd.Q_set HQ.out BP.out (by decide) 2 (.int .i64 n1)); replace BQ := Aside0.mk (blk_far BQ.out (p := ⟨p, 2, none⟩) (hne.symm) (.int .i64 n1)); replace BP := HN_; clear HN_; replace HB := Aside0.mk (below_set (j := 2) (v := .int .i64 n1) HB.out GP.out)
  have hlk_ := (blk_cell BP.out 0).trans rfl
  obtain ⟨ad12_, ea12_, hx12_⟩ := Kd.at_string (Kd.Q_reads' HQ.out).2.2 2 (by decide) (by omega)
  cases ea12_
  simp only [show (2 : Int).toNat = 2 from rfl, Nat.reduceMul, Nat.reduceEqDiff, Go.Addr.add, ↓reduceIte] at hx12_
  rw [HY.out, show rdOf ByteArray.empty (t.drop 1) 2 = rdOf ByteArray.empty t 3 from reply_words.rd1 t 2] at hx12_
  by_cases ck : kd = 2
  ·
   have hkb : (kd == 2) = true := beq_iff_eq.2 ck
   have h := HH.out
   clear HH
   rw [if_pos ck] at h
   have HH := Aside0.mk h
   clear h ck
   go_wp2_with fail
   have h := HH.out
   clear HH
   obtain ⟨⟨rs, er⟩, hR, h⟩ := Option.bind_eq_some_iff.mp h
   dsimp only at h
   have HH := Aside0.mk h
   clear h
   refine (diff_Parse.calls k (rdOf ByteArray.empty t 3) rs er _ (LD.below hL HB.out) hR).mono ?_
   rintro e w7 ⟨v7_, rfl, ho7, hb'⟩
   have ho8 := Kd.R_lower ho7 (below_size HB.out)
   replace BP := Aside0.mk (blk_below BP.out hb'); replace BQ := Aside0.mk (blk_below BQ.out hb'); replace HQ := Aside0.mk (Kd.Q_below HQ.out hb'); replace HB := Aside0.mk (below_step HB.out hb')
   have HO := Aside0.mk ho8
   obtain ⟨A7, c7, e7⟩ := Kd.R_slice ho8
   subst e7
   clear ho7 ho8 hb'
   have hc50_ := (blk_cell BP.out 4).trans rfl; have hz50_ := blk_frozen BP.out 4; have HN_ := Aside0.mk (show (World.setCell _ ⟨p, 4, none⟩ (.slice A7 rs.length c7)).heap[p]? = some (.cells #[.int .i64 kd, .int .i64 n0, .int .i64 n1, .slice none 0 0, .slice A7 rs.length c7] 36 (0, 0)) from blk_set BP.out 4 (.slice A7 rs.length c7)); replace HQ := Aside0.mk (Kd.Q_set HQ.out BP.out (by decide) 4 (.slice A7 rs.length c7)); replace HO := Aside0.mk (Kd.R_set HO.out BP.out (by decide) 4 (.slice A7 rs.length c7)); replace BQ := Aside0.mk (blk_far BQ.out (p := ⟨p, 4, none⟩) (hne.symm) (.slice A7 rs.length c7)); replace BP := HN_; clear HN_; replace HB := Aside0.mk (below_set (j := 4) (v := .slice A7 rs.length c7) HB.out GP.out)
   have hc51_ := (blk_cell BQ.out 0).trans rfl; have hz51_ := blk_frozen BQ.out 0; have HN_ := Aside0.mk (show (World.setCell _ ⟨q, 0, none⟩ (.int .i64 er)).heap[q]? = some (.cells #[.int .i64 er] 22 (0, 0)) from blk_set BQ.out 0 (.int .i64 er)); replace HQ := Aside0.mk (Kd.Q_set HQ.out BQ.out (by decide) 0 (.int .i64 er)); replace HO := Aside0.mk (Kd.R_set HO.out BQ.out (by decide) 0 (.int .i64 er)); replace BP := Aside0.mk (blk_far BP.out (p := ⟨q, 0, none⟩) (hne) (.int .i64 er)); replace BQ := HN_; clear HN_; replace HB := Aside0.mk (below_set (j := 0) (v := .int .i64 er) HB.out GQ.out)
   have hl60_ := (blk_cell BQ.out 0).trans rfl
   go_wp2_with fail
   by_cases c : er = 0
   case neg =>
    have h := HH.out
    rw [if_neg c] at h
    injection h with h
    injection h with h1 h
    injection h with h2 h
    injection h with h3 h
    injection h with h4 h
    injection h with h5 h6
    subst h1 h2 h3 h4 h5 h6
    refine (reply_must.bad er c _).mono ?_
    rintro e w8 ⟨rfl, rfl⟩
    go_wp2_with fail
    exact reply_ReadMessage.out BP.out BQ.out HB.out GP.out GQ.out
   subst c
   have h := HH.out
   rw [if_pos rfl] at h
   injection h with h
   injection h with h1 h
   injection h with h2 h
   injection h with h3 h
   injection h with h4 h
   injection h with h5 h6
   subst h1 h2 h3 h4 h5 h6
   refine (reply_must.good _).mono ?_
   rintro e w8 ⟨rfl, rfl⟩
   have hl61_ := (blk_cell BP.out 0).trans rfl
   have hl62_ := (blk_cell BP.out 1).trans rfl
   have hl63_ := (blk_cell BP.out 2).trans rfl
   have hl64_ := (blk_cell BP.out 3).trans rfl
   have hl65_ := (blk_cell BP.out 4).trans rfl
   have hc70_ := (blk_cell BP.out 0).trans rfl; have hz70_ := blk_frozen BP.out 0; have HN_ := Aside0.mk (show (World.setCell _ ⟨p, 0, none⟩ (.int .i64 kd)).heap[p]? = some (.cells #[.int .i64 kd, .int .i64 n0, .int .i64 n1, .slice none 0 0, .slice A7 rs.length c7] 36 (0, 0)) from blk_set BP.out 0 (.int .i64 kd)); replace HQ := Aside0.mk (Kd.Q_set HQ.out BP.out (by decide) 0 (.int .i64 kd)); replace HO := Aside0.mk (Kd.R_set HO.out BP.out (by decide) 0 (.int .i64 kd)); replace BQ := Aside0.mk (blk_far BQ.out (p := ⟨p, 0, none⟩) (hne.symm) (.int .i64 kd)); replace BP := HN_; clear HN_; replace HB := Aside0.mk (below_set (j := 0) (v := .int .i64 kd) HB.out GP.out)
   have hc71_ := (blk_cell BP.out 1).trans rfl; have hz71_ := blk_frozen BP.out 1; have HN_ := Aside0.mk (show (World.setCell _ ⟨p, 1, none⟩ (.int .i64 n0)).heap[p]? = some (.cells #[.int .i64 kd, .int .i64 n0, .int .i64 n1, .slice none 0 0, .slice A7 rs.length c7] 36 (0, 0)) from blk_set BP.out 1 (.int .i64 n0)); replace HQ := Aside0.mk (Kd.Q_set HQ.out BP.out (by decide) 1 (.int .i64 n0)); replace HO := Aside0.mk (Kd.R_set HO.out BP.out (by decide) 1 (.int .i64 n0)); replace BQ := Aside0.mk (blk_far BQ.out (p := ⟨p, 1, none⟩) (hne.symm) (.int .i64 n0)); replace BP := HN_; clear HN_; replace HB := Aside0.mk (below_set (j := 1) (v := .int .i64 n0) HB.out GP.out)
   have hc72_ := (blk_cell BP.out 2).trans rfl; have hz72_ := blk_frozen BP.out 2; have HN_ := Aside0.mk (show (World.setCell _ ⟨p, 2, none⟩ (.int .i64 n1)).heap[p]? = some (.cells #[.int .i64 kd, .int .i64 n0, .int .i64 n1, .slice none 0 0, .slice A7 rs.length c7] 36 (0, 0)) from blk_set BP.out 2 (.int .i64 n1)); replace HQ := Aside0.mk (Kd.Q_set HQ.out BP.out (by decide) 2 (.int .i64 n1)); replace HO := Aside0.mk (Kd.R_set HO.out BP.out (by decide) 2 (.int .i64 n1)); replace BQ := Aside0.mk (blk_far BQ.out (p := ⟨p, 2, none⟩) (hne.symm) (.int .i64 n1)); replace BP := HN_; clear HN_; replace HB := Aside0.mk (below_set (j := 2) (v := .int .i64 n1) HB.out GP.out)
   have hc73_ := (blk_cell BP.out 3).trans rfl; have hz73_ := blk_frozen BP.out 3; have HN_ := Aside0.mk (show (World.setCell _ ⟨p, 3, none⟩ (.slice none 0 0)).heap[p]? = some (.cells #[.int .i64 kd, .int .i64 n0, .int .i64 n1, .slice none 0 0, .slice A7 rs.length c7] 36 (0, 0)) from blk_set BP.out 3 (.slice none 0 0)); replace HQ := Aside0.mk (Kd.Q_set HQ.out BP.out (by decide) 3 (.slice none 0 0)); replace HO := Aside0.mk (Kd.R_set HO.out BP.out (by decide) 3 (.slice none 0 0)); replace BQ := Aside0.mk (blk_far BQ.out (p := ⟨p, 3, none⟩) (hne.symm) (.slice none 0 0)); replace BP := HN_; clear HN_; replace HB := Aside0.mk (below_set (j := 3) (v := .slice none 0 0) HB.out GP.out)
   have hc74_ := (blk_cell BP.out 4).trans rfl; have hz74_ := blk_frozen BP.out 4; have HN_ := Aside0.mk (show (World.setCell _ ⟨p, 4, none⟩ (.slice A7 rs.length c7)).heap[p]? = some (.cells #[.int .i64 kd, .int .i64 n0, .int .i64 n1, .slice none 0 0, .slice A7 rs.length c7] 36 (0, 0)) from blk_set BP.out 4 (.slice A7 rs.length c7)); replace HQ := Aside0.mk (Kd.Q_set HQ.out BP.out (by decide) 4 (.slice A7 rs.length c7)); replace HO := Aside0.mk (Kd.R_set HO.out BP.out (by decide) 4 (.slice A7 rs.length c7)); replace BQ := Aside0.mk (blk_far BQ.out (p := ⟨p, 4, none⟩) (hne.symm) (.slice A7 rs.length c7)); replace BP := HN_; clear HN_; replace HB := Aside0.mk (below_set (j := 4) (v := .slice A7 rs.length c7) HB.out GP.out)
   have hc80_ := (blk_cell BQ.out 0).trans rfl; have hz80_ := blk_frozen BQ.out 0; have HN_ := Aside0.mk (show (World.setCell _ ⟨q, 0, none⟩ (.int .i64 0)).heap[q]? = some (.cells #[.int .i64 0] 22 (0, 0)) from blk_set BQ.out 0 (.int .i64 0)); replace HQ := Aside0.mk (Kd.Q_set HQ.out BQ.out (by decide) 0 (.int .i64 0)); replace HO := Aside0.mk (Kd.R_set HO.out BQ.out (by decide) 0 (.int .i64 0)); replace BP := Aside0.mk (blk_far BP.out (p := ⟨q, 0, none⟩) (hne) (.int .i64 0)); replace BQ := HN_; clear HN_; replace HB := Aside0.mk (below_set (j := 0) (v := .int .i64 0) HB.out GQ.out)
   go_wp2_with fail
   refine leaves_cons (f := 53) (args := #[.pointer (some ⟨p, 0, none⟩), .pointer (some ⟨q, 0, none⟩)]) (by simp) (by simp [go_sem]) ?_
   refine (reply_ReadMessage.idle p q _).mono ?_
   rintro e u' w'' ⟨rfl, rfl, rfl⟩
   have cp0 := (blk_cell BP.out 0).trans rfl
   have cp1 := (blk_cell BP.out 1).trans rfl
   have cp2 := (blk_cell BP.out 2).trans rfl
   have cp3 := (blk_cell BP.out 3).trans rfl
   have cp4 := (blk_cell BP.out 4).trans rfl
   have cq := (blk_cell BQ.out 0).trans rfl
   simp [Leaves, settle, results, Tryz.results26, go_sem, cp0, cp1, cp2, cp3, cp4, cq, HB.out]
   (try exact ⟨_, _, ⟨rfl, rfl⟩, Kd.R_nil _ _ _ _ _, HO.out⟩)
  ·
   have hkb : (kd == 2) = false := beq_eq_false_iff_ne.2 ck
   have h := HH.out
   clear HH
   rw [if_neg ck] at h
   have HH := Aside0.mk h
   clear h ck
   go_wp2_with fail
   have h := HH.out
   clear HH
   obtain ⟨⟨rs, er⟩, hR, h⟩ := Option.bind_eq_some_iff.mp h
   dsimp only at h
   have HH := Aside0.mk h
   clear h
   refine (row_Parse.calls k (rdOf ByteArray.empty t 3) rs er _ (LD.below hL HB.out) hR).mono ?_
   rintro e w7 ⟨v7_, rfl, ho7, hb'⟩
   have ho8 := Kd.R_lower ho7 (below_size HB.out)
   replace BP := Aside0.mk (blk_below BP.out hb'); replace BQ := Aside0.mk (blk_below BQ.out hb'); replace HQ := Aside0.mk (Kd.Q_below HQ.out hb'); replace HB := Aside0.mk (below_step HB.out hb')
   have HO := Aside0.mk ho8
   obtain ⟨A7, c7, e7⟩ := Kd.R_slice ho8
   subst e7
   clear ho7 ho8 hb'
   have hc50_ := (blk_cell BP.out 3).trans rfl; have hz50_ := blk_frozen BP.out 3; have HN_ := Aside0.mk (show (World.setCell _ ⟨p, 3, none⟩ (.slice A7 rs.length c7)).heap[p]? = some (.cells #[.int .i64 kd, .int .i64 n0, .int .i64 n1, .slice A7 rs.length c7, .slice none 0 0] 36 (0, 0)) from blk_set BP.out 3 (.slice A7 rs.length c7)); replace HQ := Aside0.mk (Kd.Q_set HQ.out BP.out (by decide) 3 (.slice A7 rs.length c7)); replace HO := Aside0.mk (Kd.R_set HO.out BP.out (by decide) 3 (.slice A7 rs.length c7)); replace BQ := Aside0.mk (blk_far BQ.out (p := ⟨p, 3, none⟩) (hne.symm) (.slice A7 rs.length c7)); replace BP := HN_; clear HN_; replace HB := Aside0.mk (below_set (j := 3) (v := .slice A7 rs.length c7) HB.out GP.out)
   have hc51_ := (blk_cell BQ.out 0).trans rfl; have hz51_ := blk_frozen BQ.out 0; have HN_ := Aside0.mk (show (World.setCell _ ⟨q, 0, none⟩ (.int .i64 er)).heap[q]? = some (.cells #[.int .i64 er] 22 (0, 0)) from blk_set BQ.out 0 (.int .i64 er)); replace HQ := Aside0.mk (Kd.Q_set HQ.out BQ.out (by decide) 0 (.int .i64 er)); replace HO := Aside0.mk (Kd.R_set HO.out BQ.out (by decide) 0 (.int .i64 er)); replace BP := Aside0.mk (blk_far BP.out (p := ⟨q, 0, none⟩) (hne) (.int .i64 er)); replace BQ := HN_; clear HN_; replace HB := Aside0.mk (below_set (j := 0) (v := .int .i64 er) HB.out GQ.out)
   have hl60_ := (blk_cell BQ.out 0).trans rfl
   go_wp2_with fail
   by_cases c : er = 0
   case neg =>
    have h := HH.out
    rw [if_neg c] at h
    injection h with h
    injection h with h1 h
    injection h with h2 h
    injection h with h3 h
    injection h with h4 h
    injection h with h5 h6
    subst h1 h2 h3 h4 h5 h6
    refine (reply_must.bad er c _).mono ?_
    rintro e w8 ⟨rfl, rfl⟩
    go_wp2_with fail
    exact reply_ReadMessage.out BP.out BQ.out HB.out GP.out GQ.out
   subst c
   have h := HH.out
   rw [if_pos rfl] at h
   injection h with h
   injection h with h1 h
   injection h with h2 h
   injection h with h3 h
   injection h with h4 h
   injection h with h5 h6
   subst h1 h2 h3 h4 h5 h6
   refine (reply_must.good _).mono ?_
   rintro e w8 ⟨rfl, rfl⟩
   have hl61_ := (blk_cell BP.out 0).trans rfl
   have hl62_ := (blk_cell BP.out 1).trans rfl
   have hl63_ := (blk_cell BP.out 2).trans rfl
   have hl64_ := (blk_cell BP.out 3).trans rfl
   have hl65_ := (blk_cell BP.out 4).trans rfl
   have hc70_ := (blk_cell BP.out 0).trans rfl; have hz70_ := blk_frozen BP.out 0; have HN_ := Aside0.mk (show (World.setCell _ ⟨p, 0, none⟩ (.int .i64 kd)).heap[p]? = some (.cells #[.int .i64 kd, .int .i64 n0, .int .i64 n1, .slice A7 rs.length c7, .slice none 0 0] 36 (0, 0)) from blk_set BP.out 0 (.int .i64 kd)); replace HQ := Aside0.mk (Kd.Q_set HQ.out BP.out (by decide) 0 (.int .i64 kd)); replace HO := Aside0.mk (Kd.R_set HO.out BP.out (by decide) 0 (.int .i64 kd)); replace BQ := Aside0.mk (blk_far BQ.out (p := ⟨p, 0, none⟩) (hne.symm) (.int .i64 kd)); replace BP := HN_; clear HN_; replace HB := Aside0.mk (below_set (j := 0) (v := .int .i64 kd) HB.out GP.out)
   have hc71_ := (blk_cell BP.out 1).trans rfl; have hz71_ := blk_frozen BP.out 1; have HN_ := Aside0.mk (show (World.setCell _ ⟨p, 1, none⟩ (.int .i64 n0)).heap[p]? = some (.cells #[.int .i64 kd, .int .i64 n0, .int .i64 n1, .slice A7 rs.length c7, .slice none 0 0] 36 (0, 0)) from blk_set BP.out 1 (.int .i64 n0)); replace HQ := Aside0.mk (Kd.Q_set HQ.out BP.out (by decide) 1 (.int .i64 n0)); replace HO := Aside0.mk (Kd.R_set HO.out BP.out (by decide) 1 (.int .i64 n0)); replace BQ := Aside0.mk (blk_far BQ.out (p := ⟨p, 1, none⟩) (hne.symm) (.int .i64 n0)); replace BP := HN_; clear HN_; replace HB := Aside0.mk (below_set (j := 1) (v := .int .i64 n0) HB.out GP.out)
   have hc72_ := (blk_cell BP.out 2).trans rfl; have hz72_ := blk_frozen BP.out 2; have HN_ := Aside0.mk (show (World.setCell _ ⟨p, 2, none⟩ (.int .i64 n1)).heap[p]? = some (.cells #[.int .i64 kd, .int .i64 n0, .int .i64 n1, .slice A7 rs.length c7, .slice none 0 0] 36 (0, 0)) from blk_set BP.out 2 (.int .i64 n1)); replace HQ := Aside0.mk (Kd.Q_set HQ.out BP.out (by decide) 2 (.int .i64 n1)); replace HO := Aside0.mk (Kd.R_set HO.out BP.out (by decide) 2 (.int .i64 n1)); replace BQ := Aside0.mk (blk_far BQ.out (p := ⟨p, 2, none⟩) (hne.symm) (.int .i64 n1)); replace BP := HN_; clear HN_; replace HB := Aside0.mk (below_set (j := 2) (v := .int .i64 n1) HB.out GP.out)
   have hc73_ := (blk_cell BP.out 3).trans rfl; have hz73_ := blk_frozen BP.out 3; have HN_ := Aside0.mk (show (World.setCell _ ⟨p, 3, none⟩ (.slice A7 rs.length c7)).heap[p]? = some (.cells #[.int .i64 kd, .int .i64 n0, .int .i64 n1, .slice A7 rs.length c7, .slice none 0 0] 36 (0, 0)) from blk_set BP.out 3 (.slice A7 rs.length c7)); replace HQ := Aside0.mk (Kd.Q_set HQ.out BP.out (by decide) 3 (.slice A7 rs.length c7)); replace HO := Aside0.mk (Kd.R_set HO.out BP.out (by decide) 3 (.slice A7 rs.length c7)); replace BQ := Aside0.mk (blk_far BQ.out (p := ⟨p, 3, none⟩) (hne.symm) (.slice A7 rs.length c7)); replace BP := HN_; clear HN_; replace HB := Aside0.mk (below_set (j := 3) (v := .slice A7 rs.length c7) HB.out GP.out)
   have hc74_ := (blk_cell BP.out 4).trans rfl; have hz74_ := blk_frozen BP.out 4; have HN_ := Aside0.mk (show (World.setCell _ ⟨p, 4, none⟩ (.slice none 0 0)).heap[p]? = some (.cells #[.int .i64 kd, .int .i64 n0, .int .i64 n1, .slice A7 rs.length c7, .slice none 0 0] 36 (0, 0)) from blk_set BP.out 4 (.slice none 0 0)); replace HQ := Aside0.mk (Kd.Q_set HQ.out BP.out (by decide) 4 (.slice none 0 0)); replace HO := Aside0.mk (Kd.R_set HO.out BP.out (by decide) 4 (.slice none 0 0)); replace BQ := Aside0.mk (blk_far BQ.out (p := ⟨p, 4, none⟩) (hne.symm) (.slice none 0 0)); replace BP := HN_; clear HN_; replace HB := Aside0.mk (below_set (j := 4) (v := .slice none 0 0) HB.out GP.out)
   have hc80_ := (blk_cell BQ.out 0).trans rfl; have hz80_ := blk_frozen BQ.out 0; have HN_ := Aside0.mk (show (World.setCell _ ⟨q, 0, none⟩ (.int .i64 0)).heap[q]? = some (.cells #[.int .i64 0] 22 (0, 0)) from blk_set BQ.out 0 (.int .i64 0)); replace HQ := Aside0.mk (Kd.Q_set HQ.out BQ.out (by decide) 0 (.int .i64 0)); replace HO := Aside0.mk (Kd.R_set HO.out BQ.out (by decide) 0 (.int .i64 0)); replace BP := Aside0.mk (blk_far BP.out (p := ⟨q, 0, none⟩) (hne) (.int .i64 0)); replace BQ := HN_; clear HN_; replace HB := Aside0.mk (below_set (j := 0) (v := .int .i64 0) HB.out GQ.out)
   go_wp2_with fail
   refine leaves_cons (f := 53) (args := #[.pointer (some ⟨p, 0, none⟩), .pointer (some ⟨q, 0, none⟩)]) (by simp) (by simp [go_sem]) ?_
   refine (reply_ReadMessage.idle p q _).mono ?_
   rintro e u' w'' ⟨rfl, rfl, rfl⟩
   have cp0 := (blk_cell BP.out 0).trans rfl
   have cp1 := (blk_cell BP.out 1).trans rfl
   have cp2 := (blk_cell BP.out 2).trans rfl
   have cp3 := (blk_cell BP.out 3).trans rfl
   have cp4 := (blk_cell BP.out 4).trans rfl
   have cq := (blk_cell BQ.out 0).trans rfl
   simp [Leaves, settle, results, Tryz.results26, go_sem, cp0, cp1, cp2, cp3, cp4, cq, HB.out]
   (try exact ⟨_, _, ⟨rfl, rfl⟩, HO.out, Kd.R_nil _ _ _ _ _⟩)
def w23_alive.f (k : Nat)  : Option (Bool) := (reply_ReadMessage.f k (⟨#[100, 105, 102, 102, 32, 51, 32, 49, 50, 32, 33, 51, 124, 59, 52, 124, 124, 56]⟩ : ByteArray)).bind fun bt388 => ((reply_ReadRows.f k (⟨#[114, 111, 119, 115, 32, 53, 32, 51, 124, 124, 55]⟩ : ByteArray)).bind fun bt399 => ((reply_ReadStored.f k (⟨#[111, 107, 32, 57]⟩ : ByteArray)).bind fun bt406 => ((reply_ReadStored.f k (⟨#[111, 107]⟩ : ByteArray)).bind fun bt408 => ((reply_ReadMessage.f k (⟨#[105, 109, 97, 103, 101, 32, 45, 49, 32, 53, 32, 45]⟩ : ByteArray)).bind fun bt410 => (if bt388.2.2.2.2.2 = 0 then (if bt399.2.2.2 = 0 then (if bt406.2 = 0 then (if bt408.2 = 2 then (if bt410.2.2.2.2.2 = 3 then (if bt388.1 = 2 then (if bt388.2.1 = 3 then (if bt388.2.2.1 = 12 then (if (bt388.2.2.2.2.1.length : Int) = 2 then ((reply_Message.f k bt388.1 bt388.2.1 bt388.2.2.1 bt388.2.2.2.1 bt388.2.2.2.2.1).bind fun t421 => (if t421.toList = ([100, 105, 102, 102, 32, 51, 32, 49, 50, 32, 33, 51, 124, 59, 52, 124, 124, 56] : List UInt8) then (if bt399.2.1 = 5 then ((reply_Rows.f k bt399.1 bt399.2.1 bt399.2.2.1).bind fun t422 => (if t422.toList = ([114, 111, 119, 115, 32, 53, 32, 51, 124, 124, 55] : List UInt8) then (if bt406.1 = 9 then ((reply_Stored.f 9).bind fun t423 => (if t423.toList = ([111, 107, 32, 57] : List UInt8) then ((reply_Error.f 7).bind fun t424 => (if t424.toList = ([101, 114, 114, 32, 108, 97, 116, 101] : List UInt8) then ((reply_Error.f 0).bind fun t425 => (if t425.toList = ([111, 107] : List UInt8) then ((reply_Error.f 99).bind fun t426 => (if t426.toList = ([101, 114, 114, 32, 101, 114, 114, 111, 114] : List UInt8) then ((reply_Sub.f 4).bind fun t427 => (if t427.toList = ([115, 117, 98, 32, 52] : List UInt8) then ((reply_Stat.f k (([1, (-2)] : List Int))).bind fun t431 => (some (t431.toList == ([115, 116, 97, 116, 32, 49, 32, 45, 50] : List UInt8)))) else (none))) else (none))) else (none))) else (none))) else (none))) else (none)) else (none))) else (none)) else (none))) else (none)) else (none)) else (none)) else (none)) else (none)) else (none)) else (none)) else (none)) else (none))))))
theorem w23_alive.mono : ∀ k, LeO (w23_alive.f k ) (w23_alive.f (k + 1) ) := by
 intro k
 unfold w23_alive.f
 exact lo
instance w23_alive.mI {k} : LeC (w23_alive.f k) (w23_alive.f (k + 1)) := ⟨w23_alive.mono _⟩
theorem w23_alive.calls (k : Nat)  (r : Bool) (w : World) (hL : LD w) (h : w23_alive.f k  = some r) :
 Calls Tryz.prog 7 #[] w fun e w' => e = .returned (.bool r) ∧ Below w.heap.size w w' := by
 have HL0 := Aside0.mk hL
 clear hL
 have hu36 := Tryz.underlying36
 have hu33 := Tryz.underlying33
 have HB := Aside0.mk (Below.refl w.heap.size w)
 have H : ((reply_ReadMessage.f k (⟨#[100, 105, 102, 102, 32, 51, 32, 49, 50, 32, 33, 51, 124, 59, 52, 124, 124, 56]⟩ : ByteArray)).bind fun bt388 => ((reply_ReadRows.f k (⟨#[114, 111, 119, 115, 32, 53, 32, 51, 124, 124, 55]⟩ : ByteArray)).bind fun bt399 => ((reply_ReadStored.f k (⟨#[111, 107, 32, 57]⟩ : ByteArray)).bind fun bt406 => ((reply_ReadStored.f k (⟨#[111, 107]⟩ : ByteArray)).bind fun bt408 => ((reply_ReadMessage.f k (⟨#[105, 109, 97, 103, 101, 32, 45, 49, 32, 53, 32, 45]⟩ : ByteArray)).bind fun bt410 => (if bt388.2.2.2.2.2 = 0 then (if bt399.2.2.2 = 0 then (if bt406.2 = 0 then (if bt408.2 = 2 then (if bt410.2.2.2.2.2 = 3 then (if bt388.1 = 2 then (if bt388.2.1 = 3 then (if bt388.2.2.1 = 12 then (if (bt388.2.2.2.2.1.length : Int) = 2 then ((reply_Message.f k bt388.1 bt388.2.1 bt388.2.2.1 bt388.2.2.2.1 bt388.2.2.2.2.1).bind fun t421 => (if t421.toList = ([100, 105, 102, 102, 32, 51, 32, 49, 50, 32, 33, 51, 124, 59, 52, 124, 124, 56] : List UInt8) then (if bt399.2.1 = 5 then ((reply_Rows.f k bt399.1 bt399.2.1 bt399.2.2.1).bind fun t422 => (if t422.toList = ([114, 111, 119, 115, 32, 53, 32, 51, 124, 124, 55] : List UInt8) then (if bt406.1 = 9 then ((reply_Stored.f 9).bind fun t423 => (if t423.toList = ([111, 107, 32, 57] : List UInt8) then ((reply_Error.f 7).bind fun t424 => (if t424.toList = ([101, 114, 114, 32, 108, 97, 116, 101] : List UInt8) then ((reply_Error.f 0).bind fun t425 => (if t425.toList = ([111, 107] : List UInt8) then ((reply_Error.f 99).bind fun t426 => (if t426.toList = ([101, 114, 114, 32, 101, 114, 114, 111, 114] : List UInt8) then ((reply_Sub.f 4).bind fun t427 => (if t427.toList = ([115, 117, 98, 32, 52] : List UInt8) then ((reply_Stat.f k (([1, (-2)] : List Int))).bind fun t431 => (some (t431.toList == ([115, 116, 97, 116, 32, 49, 32, 45, 50] : List UInt8)))) else (none))) else (none))) else (none))) else (none))) else (none))) else (none)) else (none))) else (none)) else (none))) else (none)) else (none)) else (none)) else (none)) else (none)) else (none)) else (none)) else (none)) else (none))))))) = some r := h
 clear h
 obtain ⟨⟨t388, t389, t390, t391, t394, t397⟩, A1, H⟩ := bs H
 try dsimp only at H
 obtain ⟨⟨t399, t400, t401, t404⟩, A2, H⟩ := bs H
 try dsimp only at H
 obtain ⟨⟨t406, t407⟩, A3, H⟩ := bs H
 try dsimp only at H
 obtain ⟨⟨t408, t409⟩, A4, H⟩ := bs H
 try dsimp only at H
 obtain ⟨⟨t410, t411, t412, t413, t416, t419⟩, A5, H⟩ := bs H
 try dsimp only at H
 by_cases c6 : t397 = 0
 ·
  rw [if_pos c6] at H
  have c6b0 : (t397 == 0) = true := beq_iff_eq.mpr c6
  have c6b1 : (t397 != 0) = false := bne_eq_false_iff_eq.mpr c6
  clear c6
  obtain ⟨c7, H⟩ := gd H
  have c7b0 : (t404 == 0) = true := beq_iff_eq.mpr c7
  have c7b1 : (t404 != 0) = false := bne_eq_false_iff_eq.mpr c7
  clear c7
  obtain ⟨c8, H⟩ := gd H
  have c8b0 : (t407 == 0) = true := beq_iff_eq.mpr c8
  have c8b1 : (t407 != 0) = false := bne_eq_false_iff_eq.mpr c8
  clear c8
  obtain ⟨c9, H⟩ := gd H
  have c9b0 : (t409 == 2) = true := beq_iff_eq.mpr c9
  have c9b1 : (t409 != 2) = false := bne_eq_false_iff_eq.mpr c9
  clear c9
  obtain ⟨c10, H⟩ := gd H
  have c10b0 : (t419 == 3) = true := beq_iff_eq.mpr c10
  have c10b1 : (t419 != 3) = false := bne_eq_false_iff_eq.mpr c10
  clear c10
  obtain ⟨c11, H⟩ := gd H
  have c11b0 : (t388 == 2) = true := beq_iff_eq.mpr c11
  have c11b1 : (t388 != 2) = false := bne_eq_false_iff_eq.mpr c11
  clear c11
  obtain ⟨c12, H⟩ := gd H
  have c12b0 : (t389 == 3) = true := beq_iff_eq.mpr c12
  have c12b1 : (t389 != 3) = false := bne_eq_false_iff_eq.mpr c12
  clear c12
  obtain ⟨c13, H⟩ := gd H
  have c13b0 : (t390 == 12) = true := beq_iff_eq.mpr c13
  have c13b1 : (t390 != 12) = false := bne_eq_false_iff_eq.mpr c13
  clear c13
  obtain ⟨c14, H⟩ := gd H
  have c14b0 : ((t394.length : Int) == 2) = true := beq_iff_eq.mpr c14
  have c14b1 : ((t394.length : Int) != 2) = false := bne_eq_false_iff_eq.mpr c14
  clear c14
  obtain ⟨t421, A15, H⟩ := bs H
  try dsimp only at H
  obtain ⟨c16, H⟩ := gd H
  have c16b0 : (t421.toList == ([100, 105, 102, 102, 32, 51, 32, 49, 50, 32, 33, 51, 124, 59, 52, 124, 124, 56] : List UInt8)) = true := beq_iff_eq.mpr c16
  have c16b1 : (t421.toList != ([100, 105, 102, 102, 32, 51, 32, 49, 50, 32, 33, 51, 124, 59, 52, 124, 124, 56] : List UInt8)) = false := bne_eq_false_iff_eq.mpr c16
  clear c16
  obtain ⟨c17, H⟩ := gd H
  have c17b0 : (t400 == 5) = true := beq_iff_eq.mpr c17
  have c17b1 : (t400 != 5) = false := bne_eq_false_iff_eq.mpr c17
  clear c17
  obtain ⟨t422, A18, H⟩ := bs H
  try dsimp only at H
  obtain ⟨c19, H⟩ := gd H
  have c19b0 : (t422.toList == ([114, 111, 119, 115, 32, 53, 32, 51, 124, 124, 55] : List UInt8)) = true := beq_iff_eq.mpr c19
  have c19b1 : (t422.toList != ([114, 111, 119, 115, 32, 53, 32, 51, 124, 124, 55] : List UInt8)) = false := bne_eq_false_iff_eq.mpr c19
  clear c19
  obtain ⟨c20, H⟩ := gd H
  have c20b0 : (t406 == 9) = true := beq_iff_eq.mpr c20
  have c20b1 : (t406 != 9) = false := bne_eq_false_iff_eq.mpr c20
  clear c20
  obtain ⟨t423, A21, H⟩ := bs H
  try dsimp only at H
  obtain ⟨c22, H⟩ := gd H
  have c22b0 : (t423.toList == ([111, 107, 32, 57] : List UInt8)) = true := beq_iff_eq.mpr c22
  have c22b1 : (t423.toList != ([111, 107, 32, 57] : List UInt8)) = false := bne_eq_false_iff_eq.mpr c22
  clear c22
  obtain ⟨t424, A23, H⟩ := bs H
  try dsimp only at H
  obtain ⟨c24, H⟩ := gd H
  have c24b0 : (t424.toList == ([101, 114, 114, 32, 108, 97, 116, 101] : List UInt8)) = true := beq_iff_eq.mpr c24
  have c24b1 : (t424.toList != ([101, 114, 114, 32, 108, 97, 116, 101] : List UInt8)) = false := bne_eq_false_iff_eq.mpr c24
  clear c24
  obtain ⟨t425, A25, H⟩ := bs H
  try dsimp only at H
  obtain ⟨c26, H⟩ := gd H
  have c26b0 : (t425.toList == ([111, 107] : List UInt8)) = true := beq_iff_eq.mpr c26
  have c26b1 : (t425.toList != ([111, 107] : List UInt8)) = false := bne_eq_false_iff_eq.mpr c26
  clear c26
  obtain ⟨t426, A27, H⟩ := bs H
  try dsimp only at H
  obtain ⟨c28, H⟩ := gd H
  have c28b0 : (t426.toList == ([101, 114, 114, 32, 101, 114, 114, 111, 114] : List UInt8)) = true := beq_iff_eq.mpr c28
  have c28b1 : (t426.toList != ([101, 114, 114, 32, 101, 114, 114, 111, 114] : List UInt8)) = false := bne_eq_false_iff_eq.mpr c28
  clear c28
  obtain ⟨t427, A29, H⟩ := bs H
  try dsimp only at H
  obtain ⟨c30, H⟩ := gd H
  have c30b0 : (t427.toList == ([115, 117, 98, 32, 52] : List UInt8)) = true := beq_iff_eq.mpr c30
  have c30b1 : (t427.toList != ([115, 117, 98, 32, 52] : List UInt8)) = false := bne_eq_false_iff_eq.mpr c30
  clear c30
  obtain ⟨y428, hy428⟩ : ∃ y_ : List Int, y_ = (([1, (-2)] : List Int)) := ⟨_, rfl⟩
  replace H : ((reply_Stat.f k y428).bind fun t431 => (some (t431.toList == ([115, 116, 97, 116, 32, 49, 32, 45, 50] : List UInt8)))) = some r := by first | (rw [hy428]; with_reducible exact H) | (have H2_ := (Option.bind_some _ _).symm.trans H; rw [hy428]; with_reducible exact H2_) | (have H2_ := (Option.bind_some _ _).symm.trans H; with_reducible exact H2_) | with_reducible exact H | (rw [hy428]; exact H) | exact H
  have Ny428 := Aside0.mk hy428
  clear hy428
  obtain ⟨t431, A31, H⟩ := bs H
  try dsimp only at H
  obtain rfl := Option.some.inj H
  go_enter Tryz.func7, Tryz.ntmps7
  go_wp2_with (first | (refine gL (some 12) rfl Tryz.func26 #[.string (⟨#[100, 105, 102, 102, 32, 51, 32, 49, 50, 32, 33, 51, 124, 59, 52, 124, 124, 56]⟩ : ByteArray)] ?_; (with_reducible refine (reply_ReadMessage.calls (hL := ld) k (⟨#[100, 105, 102, 102, 32, 51, 32, 49, 50, 32, 33, 51, 124, 59, 52, 124, 124, 56]⟩ : ByteArray) t388 t389 t390 t391 t394 t397 _ A1.out).mono ?_); rintro e w32 ⟨v392, v395, rfl, ho0, ho1, hb⟩; refine ⟨_, rfl, ?_⟩; have HO393 := Aside0.mk (Kd.R_lower ho0 (below_size (uW HB.out))); have HO396 := Aside0.mk (Kd.R_lower ho1 (below_size (uW HB.out))); replace HB := cW HB hb; (try clear hb); (try clear ho0); (try clear ho1)) | ((with_reducible refine gate_dst (N := 1) rfl ?_); (try (refine gate_guard (by rfl) ?_; dsimp only)); refine bx (N := 1) #[.int .i64 0, .int .i64 0, .int .i64 0, .slice none 0 0, .slice none 0 0] 36 ?_; intro gb398 hg w33 hbox hb; replace HO393 := cR HO393 hb; replace HO396 := cR HO396 hb; have BK398 := Aside0.mk (hbox); have GW398 := gw hg (uW HB.out); have GE398 := GW398; replace HB := cW HB hb; clear hb hbox hg; obtain ⟨hcz34_0, hcz34_1, hcz34_2, hcz34_3, hcz34_4, hfz34_0, hfz34_1, hfz34_2, hfz34_3, hfz34_4⟩ := z5 BK398; obtain ⟨Ao35, co35, eo35⟩ := Kd.R_slice HO393.out; subst eo35; obtain ⟨Ao36, co36, eo36⟩ := Kd.R_slice HO396.out; subst eo36) | ((with_reducible refine gate_store (t := 36) (p := 1) rfl ?_); refine store_event (t := 36) (p := 1) (v := ?vo_w37) (w1 := (((((w33.setCell ⟨gb398, 0, none⟩ (.int .i64 t388)).setCell ⟨gb398, 1, none⟩ (.int .i64 t389)).setCell ⟨gb398, 2, none⟩ (.int .i64 t390)).setCell ⟨gb398, 3, none⟩ (.slice Ao35 t391.length co35)).setCell ⟨gb398, 4, none⟩ (.slice Ao36 t394.length co36))) ?hg ?ho ?hn ?hr ?_; (case ho => rfl); (case hg => rfl); (case hn => rfl); (case hr => first | (go_simp; done) | (go_simp; rfl)); intro w37 hw; replace HO393 := fgR (ok' := fun _ => True) hw HO393 BK398 fun _ _ => trivial; replace HO396 := fgR (ok' := fun _ => True) hw HO396 BK398 fun _ _ => trivial; replace HB : Aside0 (Below w.heap.size w w37) := fgW hw bl; replace BK398 := fgB hw BK398; clear hw) | (refine gL (some 16) rfl Tryz.func24 #[.string (⟨#[114, 111, 119, 115, 32, 53, 32, 51, 124, 124, 55]⟩ : ByteArray)] ?_; (with_reducible refine (reply_ReadRows.calls (hL := ld) k (⟨#[114, 111, 119, 115, 32, 53, 32, 51, 124, 124, 55]⟩ : ByteArray) t399 t400 t401 t404 _ A2.out).mono ?_); rintro e w38 ⟨v402, rfl, ho0, hb⟩; refine ⟨_, rfl, ?_⟩; replace HO396 := cR HO396 hb; have HO403 := Aside0.mk (Kd.R_lower (Kd.R_new' ho0 (Kd.R_lt (uR HO393.out))) (below_size bl)); replace HO393 := Aside0.mk (Kd.R_elder' (uR HO393.out) (Kd.R_base ho0) hb); replace BK398 := cB BK398 hb; replace HB := Aside0.mk (below_step bl hb); (try clear hb); (try clear ho0)) | ((with_reducible refine gate_dst (N := 3) rfl ?_); (try (refine gate_guard (by rfl) ?_; dsimp only)); refine bx (N := 3) #[.int .i64 0, .int .i64 0, .slice none 0 0] 33 ?_; intro gb405 hg w39 hbox hb; replace HO393 := cR HO393 hb; replace HO396 := cR HO396 hb; replace HO403 := cR HO403 hb; have BK405 := Aside0.mk (hbox); have GW405 := gw hg bl; have GE405 := GW405; replace HB := Aside0.mk (below_step bl hb); have NB398_405 := nl BK398 hg; have NB405_398 := nr BK398 hg; replace BK398 := cB BK398 hb; clear hb hbox hg; have hnb40 := NB405_398.out; have hnc40 := NB398_405.out; obtain ⟨hcz41_0, hcz41_1, hcz41_2, hfz41_0, hfz41_1, hfz41_2⟩ := z3 BK405; obtain ⟨Ao42, co42, eo42⟩ := Kd.R_slice HO403.out; subst eo42) | (refine gL (some 20) rfl Tryz.func22 #[.string (⟨#[111, 107, 32, 57]⟩ : ByteArray)] ?_; (with_reducible refine (reply_ReadStored.calls (hL := ld) k (⟨#[111, 107, 32, 57]⟩ : ByteArray) t406 t407 _ A3.out).mono ?_); rintro e w43 ⟨rfl, hb⟩; refine ⟨_, rfl, ?_⟩; replace HO393 := fcR HO393 BK405 hb; replace HO396 := fcR HO396 BK405 hb; replace HO403 := fcR HO403 BK405 hb; replace BK398 := Aside0.mk (blk_below (g := gb398) (o := .cells #[.int .i64 t388, .int .i64 t389, .int .i64 t390, .slice Ao35 t391.length co35, .slice Ao36 t394.length co36] 36 (0, 0)) (fF BK398.out NB398_405) hb); replace BK405 := fcB BK405 hb; replace HB := Aside0.mk (below_step bl hb); (try clear hb)) | (refine gL (some 24) rfl Tryz.func22 #[.string (⟨#[111, 107]⟩ : ByteArray)] ?_; (with_reducible refine (reply_ReadStored.calls (hL := ld) k (⟨#[111, 107]⟩ : ByteArray) t408 t409 _ A4.out).mono ?_); rintro e w44 ⟨rfl, hb⟩; refine ⟨_, rfl, ?_⟩; replace HO393 := cR HO393 hb; replace HO396 := cR HO396 hb; replace HO403 := cR HO403 hb; replace BK398 := cB BK398 hb; replace BK405 := cB BK405 hb; replace HB := Aside0.mk (below_step bl hb); (try clear hb)) | (refine gL (some 28) rfl Tryz.func26 #[.string (⟨#[105, 109, 97, 103, 101, 32, 45, 49, 32, 53, 32, 45]⟩ : ByteArray)] ?_; (with_reducible refine (reply_ReadMessage.calls (hL := ld) k (⟨#[105, 109, 97, 103, 101, 32, 45, 49, 32, 53, 32, 45]⟩ : ByteArray) t410 t411 t412 t413 t416 t419 _ A5.out).mono ?_); rintro e w45 ⟨v414, v417, rfl, ho0, ho1, hb⟩; refine ⟨_, rfl, ?_⟩; have HO415 := Aside0.mk (Kd.R_lower (Kd.R_new' (Kd.R_new' ho0 (Kd.R_lt (uR HO393.out))) (Kd.R_lt (uR HO403.out))) (below_size bl)); replace HO393 := Aside0.mk (Kd.R_elder' (uR HO393.out) (Kd.R_base ho0) hb); replace HO403 := Aside0.mk (Kd.R_elder' (uR HO403.out) (Kd.R_base ho0) hb); have HO418 := Aside0.mk (Kd.R_lower (Kd.R_new' ho1 (Kd.R_lt (uR HO396.out))) (below_size bl)); replace HO396 := Aside0.mk (Kd.R_elder' (uR HO396.out) (Kd.R_base ho1) hb); replace BK398 := cB BK398 hb; replace BK405 := cB BK405 hb; replace HB := Aside0.mk (below_step bl hb); (try clear hb); (try clear ho0); (try clear ho1)) | ((with_reducible refine gate_dst (N := 9) rfl ?_); (try (refine gate_guard (by rfl) ?_; dsimp only)); refine bx (N := 9) #[.int .i64 0, .int .i64 0, .int .i64 0, .slice none 0 0, .slice none 0 0] 36 ?_; intro gb420 hg w46 hbox hb; replace HO393 := cR HO393 hb; replace HO396 := cR HO396 hb; replace HO403 := cR HO403 hb; replace HO415 := cR HO415 hb; replace HO418 := cR HO418 hb; have BK420 := Aside0.mk (hbox); have GW420 := gw hg bl; have GE420 := GW420; replace HB := Aside0.mk (below_step bl hb); have NB398_420 := nl BK398 hg; have NB420_398 := nr BK398 hg; replace BK398 := cB BK398 hb; have NB405_420 := nl BK405 hg; have NB420_405 := nr BK405 hg; replace BK405 := cB BK405 hb; clear hb hbox hg; have hnb47 := NB420_398.out; have hnc47 := NB398_420.out; have hnb48 := NB420_405.out; have hnc48 := NB405_420.out; obtain ⟨hcz49_0, hcz49_1, hcz49_2, hcz49_3, hcz49_4, hfz49_0, hfz49_1, hfz49_2, hfz49_3, hfz49_4⟩ := z5 BK420; obtain ⟨Ao50, co50, eo50⟩ := Kd.R_slice HO415.out; subst eo50; obtain ⟨Ao51, co51, eo51⟩ := Kd.R_slice HO418.out; subst eo51) | ((with_reducible refine gate_store (t := 36) (p := 9) rfl ?_); refine store_event (t := 36) (p := 9) (v := ?vo_w52) (w1 := (((((w46.setCell ⟨gb420, 0, none⟩ (.int .i64 t410)).setCell ⟨gb420, 1, none⟩ (.int .i64 t411)).setCell ⟨gb420, 2, none⟩ (.int .i64 t412)).setCell ⟨gb420, 3, none⟩ (.slice Ao50 t413.length co50)).setCell ⟨gb420, 4, none⟩ (.slice Ao51 t416.length co51))) ?hg ?ho ?hn ?hr ?_; (case ho => rfl); (case hg => rfl); (case hn => rfl); (case hr => first | (go_simp; done) | (go_simp; rfl)); intro w52 hw; replace HO393 := fgR (ok' := (fun k_ => some k_ ≠ (.slice Ao42 t401.length co42 : Value).ownBlock ∧ some k_ ≠ (.slice Ao50 t413.length co50 : Value).ownBlock)) hw HO393 BK420 (fun _ hk => ⟨hk.1.1.2, hk.1.2⟩); replace HO396 := fgR (ok' := (fun k_ => some k_ ≠ (.slice Ao51 t416.length co51 : Value).ownBlock)) hw HO396 BK420 (fun _ hk => hk.1.2); replace HO403 := fgR (ok' := (fun k_ => some k_ ≠ (.slice Ao35 t391.length co35 : Value).ownBlock ∧ some k_ ≠ (.slice Ao50 t413.length co50 : Value).ownBlock)) hw HO403 BK420 (fun _ hk => ⟨hk.1.1.2, hk.1.2⟩); replace HO415 := fgR (ok' := (fun k_ => some k_ ≠ (.slice Ao35 t391.length co35 : Value).ownBlock ∧ some k_ ≠ (.slice Ao42 t401.length co42 : Value).ownBlock)) hw HO415 BK420 (fun _ hk => ⟨hk.1.1.2, hk.1.2⟩); replace HO418 := fgR (ok' := (fun k_ => some k_ ≠ (.slice Ao36 t394.length co36 : Value).ownBlock)) hw HO418 BK420 (fun _ hk => hk.1.2); replace BK398 := fgF hw BK398 NB398_420; replace BK405 := fgF hw BK405 NB405_420; replace HB : Aside0 (Below w.heap.size w w52) := fgW hw bl; replace BK420 := fgB hw BK420; clear hw; obtain ⟨hcz53_0, hcz53_1, hcz53_2, hcz53_3, hcz53_4, hfz53_0, hfz53_1, hfz53_2, hfz53_3, hfz53_4⟩ := z5 BK398) | (go_at_call 20; (with_reducible refine (reply_Message.calls (hL := ld) k t388 t389 t390 _ _ t391 _ _ t394 t421 _ ?side1 ?side2 ?side3 ?side4 A15.out).mono ?_); (case side1 => exact uC <| (Kd.R_reads' HO393.out).2.2); (case side2 => exact (Kd.R_reads' HO393.out).2.1); (case side3 => exact uC <| (Kd.R_reads' HO396.out).2.2); (case side4 => exact (Kd.R_reads' HO396.out).2.1); rintro e w54 ⟨rfl, hb⟩; replace HO393 := cR HO393 hb; replace HO396 := cR HO396 hb; replace HO403 := cR HO403 hb; replace HO415 := cR HO415 hb; replace HO418 := cR HO418 hb; replace BK398 := cB BK398 hb; replace BK405 := cB BK405 hb; replace BK420 := cB BK420 hb; replace HB := Aside0.mk (below_step bl hb); (try clear hb); obtain ⟨hcz55_0, hcz55_1, hcz55_2, hfz55_0, hfz55_1, hfz55_2⟩ := z3 BK405) | (go_at_call 18; (with_reducible refine (reply_Rows.calls (hL := ld) k t399 t400 _ _ t401 t422 _ ?side1 ?side2 A18.out).mono ?_); (case side1 => exact uC <| (Kd.R_reads' HO403.out).2.2); (case side2 => exact (Kd.R_reads' HO403.out).2.1); rintro e w56 ⟨rfl, hb⟩; replace HO393 := cR HO393 hb; replace HO396 := cR HO396 hb; replace HO403 := cR HO403 hb; replace HO415 := cR HO415 hb; replace HO418 := cR HO418 hb; replace BK398 := cB BK398 hb; replace BK405 := cB BK405 hb; replace BK420 := cB BK420 hb; replace HB := Aside0.mk (below_step bl hb); (try clear hb)) | (go_at_call 10; (with_reducible refine (reply_Stored.calls (hL := ld) 9 t423 _ A21.out).mono ?_); rintro e w57 ⟨rfl, hb⟩; replace HO393 := cR HO393 hb; replace HO396 := cR HO396 hb; replace HO403 := cR HO403 hb; replace HO415 := cR HO415 hb; replace HO418 := cR HO418 hb; replace BK398 := cB BK398 hb; replace BK405 := cB BK405 hb; replace BK420 := cB BK420 hb; replace HB := Aside0.mk (below_step bl hb); (try clear hb)) | (go_at_call 8; (with_reducible refine (reply_Error.calls (hL := ld) 7 t424 _ A23.out).mono ?_); rintro e w58 ⟨rfl, hb⟩; replace HO393 := cR HO393 hb; replace HO396 := cR HO396 hb; replace HO403 := cR HO403 hb; replace HO415 := cR HO415 hb; replace HO418 := cR HO418 hb; replace BK398 := cB BK398 hb; replace BK405 := cB BK405 hb; replace BK420 := cB BK420 hb; replace HB := Aside0.mk (below_step bl hb); (try clear hb)) | (go_at_call 8; (with_reducible refine (reply_Error.calls (hL := ld) 0 t425 _ A25.out).mono ?_); rintro e w59 ⟨rfl, hb⟩; replace HO393 := cR HO393 hb; replace HO396 := cR HO396 hb; replace HO403 := cR HO403 hb; replace HO415 := cR HO415 hb; replace HO418 := cR HO418 hb; replace BK398 := cB BK398 hb; replace BK405 := cB BK405 hb; replace BK420 := cB BK420 hb; replace HB := Aside0.mk (below_step bl hb); (try clear hb)) | (go_at_call 8; (with_reducible refine (reply_Error.calls (hL := ld) 99 t426 _ A27.out).mono ?_); rintro e w60 ⟨rfl, hb⟩; replace HO393 := cR HO393 hb; replace HO396 := cR HO396 hb; replace HO403 := cR HO403 hb; replace HO415 := cR HO415 hb; replace HO418 := cR HO418 hb; replace BK398 := cB BK398 hb; replace BK405 := cB BK405 hb; replace BK420 := cB BK420 hb; replace HB := Aside0.mk (below_step bl hb); (try clear hb)) | (go_at_call 12; (with_reducible refine (reply_Sub.calls (hL := ld) 4 t427 _ A29.out).mono ?_); rintro e w61 ⟨rfl, hb⟩; replace HO393 := cR HO393 hb; replace HO396 := cR HO396 hb; replace HO403 := cR HO403 hb; replace HO415 := cR HO415 hb; replace HO418 := cR HO418 hb; replace BK398 := cB BK398 hb; replace BK405 := cB BK405 hb; replace BK420 := cB BK420 hb; replace HB := Aside0.mk (below_step bl hb); (try clear hb)) | ((with_reducible refine gate_dst (N := 110) rfl ?_); (try (refine gate_guard (by rfl) ?_; dsimp only)); refine Kd.R_lit (Kd.int .i64) _ 2 ?hg (N := 110) ?hd (xs := ([1, (-2)] : List Int)) (inner := [.int .i64 1, .int .i64 (-2)]) (ok := fun _ => True) (okp := fun _ => True) ?hr ?hp (fun _ hk => hk) trivial (Below.refl _ _) (Nat.le_refl _) (by simp) ?_; (case hd => rfl); (case hg => rfl); (case hr => first | (go_simp; done) | (go_simp; rfl)); (case hp => exact (Reps.one (show Kd.M (Kd.int .i64) _ _ _ 1 [.int .i64 1] from rfl) (Reps.one (show Kd.M (Kd.int .i64) _ _ _ (-2) [.int .i64 (-2)] from rfl) (Reps.none _ _)))); intro v429 w62 ho63 hb hg_ hnew_; clear hg_ hnew_; (first | rw [← Ny428.out] at ho63 | (simp only [Int.reduceToNat] at ho63; rw [← Ny428.out] at ho63)); replace HO393 := cR HO393 hb; replace HO396 := cR HO396 hb; replace HO403 := cR HO403 hb; replace HO415 := cR HO415 hb; replace HO418 := cR HO418 hb; have HO430 := Aside0.mk (Kd.R_lower ho63 (below_size bl)); replace BK398 := cB BK398 hb; replace BK405 := cB BK405 hb; replace BK420 := cB BK420 hb; replace HB := Aside0.mk (below_step bl hb); clear hb ho63; obtain ⟨Ao64, co64, eo64⟩ := Kd.R_slice HO430.out; subst eo64) | (go_at_call 14; (with_reducible refine (reply_Stat.calls (hL := ld) k _ _ y428 t431 _ ?side1 ?side2 A31.out).mono ?_); (case side1 => exact uC <| (Kd.R_reads' HO430.out).2.2); (case side2 => exact (Kd.R_reads' HO430.out).2.1); rintro e w65 ⟨rfl, hb⟩; replace HO393 := cR HO393 hb; replace HO396 := cR HO396 hb; replace HO403 := cR HO403 hb; replace HO415 := cR HO415 hb; replace HO418 := cR HO418 hb; replace HO430 := cR HO430 hb; replace BK398 := cB BK398 hb; replace BK405 := cB BK405 hb; replace BK420 := cB BK420 hb; replace HB := Aside0.mk (below_step bl hb); (try clear hb)))
  go_ret
  exact ⟨re_, bl⟩
 ·
  rw [if_neg c6] at H
  exact absurd H (by simp)
def r08_Great.l0 : Nat → List (S60) → Int → Option (Bool)
 | 0, _, _ => none
 | k + 1, x0, x3 => if x3 < (x0.length : Int) then (if 0 ≤ x3 then (if (((rd_T60 x0 x3).f1).size : Int) > 300 then (some true) else (r08_Great.l0 k x0 (wrap64 (x3 + 1)))) else (none)) else (some false)
def r08_Great.f (k : Nat) (l0 : List (S60)) : Option (Bool) := if (l0.length : Int) > 100 then (some true) else (r08_Great.l0 k l0 0)
theorem r08_Great.mono_l : ∀ k, (∀ y0 y1, LeC (r08_Great.l0 k y0 y1) (r08_Great.l0 (k + 1) y0 y1))
 | 0 => fun _ _ => ⟨fun r h => by simp [r08_Great.l0] at h⟩
 | k + 1 => by have ih0 := r08_Great.mono_l k; exact fun _ _ => by unfold r08_Great.l0; exact lm
theorem r08_Great.mono : ∀ a0 k, LeO (r08_Great.f k a0) (r08_Great.f (k + 1) a0) := by
 intro a0 k
 have ih0 := r08_Great.mono_l k
 unfold r08_Great.f
 exact lo
instance r08_Great.mI {a0 k} : LeC (r08_Great.f k a0) (r08_Great.f (k + 1) a0) := ⟨r08_Great.mono _ _⟩
theorem r08_Great.calls (k : Nat) (A0 : Option Addr) (c0 : Nat) (l0 : List (S60)) (r : Bool) (w : World) (hr0 : Kd.C k60 w A0 l0.length l0) (hc0 : l0.length ≤ c0) (h : r08_Great.f k l0 = some r) :
 Calls Tryz.prog 16 #[.slice A0 l0.length c0] w fun e w' => e = .returned (.bool r) ∧ Drawn0 w w' := by
 have HR0 := Aside0.mk hr0
 have HC0 := Aside0.mk hc0
 clear hr0 hc0
 have H : (if (l0.length : Int) > 100 then (some true) else (r08_Great.l0 k l0 0)) = some r := h
 clear h
 by_cases c2 : (l0.length : Int) > 100
 ·
  rw [if_pos c2] at H
  have c2b0 : decide (100 < (l0.length : Int)) = true := decide_eq_true c2
  have c2b1 : decide (100 < l0.length) = true := decide_eq_true (by omega)
  clear c2
  obtain rfl := Option.some.inj H
  go_enter Tryz.func16, Tryz.ntmps16
  go_wp2
  go_ret
  exact ⟨rs_, dr_⟩
 ·
  rw [if_neg c2] at H
  have c2b0 : decide (100 < (l0.length : Int)) = false := decide_eq_false c2
  have c2b1 : decide (100 < l0.length) = false := decide_eq_false (by omega)
  clear c2
  have H' := Aside0.mk H
  clear H
  go_enter Tryz.func16, Tryz.ntmps16
  go_wp2
  go_loopg [3] k (fun kq v3 w' => ∃ (x3_1 : Int), v3 = .int .i64 x3_1 ∧ Aside0 (r08_Great.l0 kq l0 x3_1 = some r) ∧ Aside0 (kq ≤ k) ∧ Drawn0 w w')
  case atStart => exact ⟨(0), rs_, H', ⟨Nat.le_refl _⟩, dr_⟩
  case round =>
   clear H'
   try clear c2
   try clear c2b0
   try clear c2b1
   obtain ⟨x3_1, rfl, HA, HK1, ⟨m1, rfl⟩⟩ := hrel
   cases gk with
   | zero => exact absurd HA.out (by simp [r08_Great.l0])
   | succ k1 =>
    have H := HA.out
    clear HA
    simp only [r08_Great.l0] at H
    by_cases c3 : x3_1 < (l0.length : Int)
    ·
     rw [if_pos c3] at H
     have c3b0 : decide (x3_1 < (l0.length : Int)) = true := decide_eq_true c3
     clear c3
     obtain ⟨c4b0, H⟩ := gdd H
     by_cases c5 : (((rd_T60 l0 x3_1).f1).size : Int) > 300
     ·
      rw [if_pos c5] at H
      have c5b0 : decide (300 < (((rd_T60 l0 x3_1).f1).size : Int)) = true := decide_eq_true c5
      have c5b1 : decide (300 < ((rd_T60 l0 x3_1).f1).size) = true := decide_eq_true (by omega)
      clear c5
      obtain rfl := Option.some.inj H
      have p432 : 0 ≤ (x3_1 : Int) := od
      have q432 : x3_1 < (l0.length : Int) := od
      obtain ⟨ad432, e432, hx432_0, hx432_1, hx432_2, hx432_3⟩ := at_T60 HR0.out x3_1 p432 q432
      cases e432
      replace p432 := eq_true p432
      replace q432 := eq_true q432
      go_wp2
      go_ret
      exact ⟨rs_, dr_⟩
     ·
      rw [if_neg c5] at H
      have c5b0 : decide (300 < (((rd_T60 l0 x3_1).f1).size : Int)) = false := decide_eq_false c5
      have c5b1 : decide (300 < ((rd_T60 l0 x3_1).f1).size) = false := decide_eq_false (by omega)
      clear c5
      have H' := Aside0.mk H
      clear H
      have p432 : 0 ≤ (x3_1 : Int) := od
      have q432 : x3_1 < (l0.length : Int) := od
      obtain ⟨ad432, e432, hx432_0, hx432_1, hx432_2, hx432_3⟩ := at_T60 HR0.out x3_1 p432 q432
      cases e432
      replace p432 := eq_true p432
      replace q432 := eq_true q432
      go_wp2
      go_roundg k1
      case measure => have := HK1.out; omega
      case rel => exact ⟨(wrap64 (x3_1 + 1)), rs_, H', ⟨by have := HK1.out; omega⟩, dr_⟩
    ·
     rw [if_neg c3] at H
     have c3b0 : decide (x3_1 < (l0.length : Int)) = false := decide_eq_false c3
     clear c3
     obtain rfl := Option.some.inj H
     go_wp2
     go_ret
     exact ⟨rs_, dr_⟩
def r09_Great.l0 : Nat → List (S78) → Int → Option (Bool)
 | 0, _, _ => none
 | k + 1, x0, x3 => if x3 < (x0.length : Int) then (if 0 ≤ x3 then (if (((rd_T78 x0 x3).f0.f1).size : Int) > 300 then (some true) else (r09_Great.l0 k x0 (wrap64 (x3 + 1)))) else (none)) else (some false)
def r09_Great.f (k : Nat) (l0 : List (S78)) : Option (Bool) := if (l0.length : Int) > 100 then (some true) else (r09_Great.l0 k l0 0)
theorem r09_Great.mono_l : ∀ k, (∀ y0 y1, LeC (r09_Great.l0 k y0 y1) (r09_Great.l0 (k + 1) y0 y1))
 | 0 => fun _ _ => ⟨fun r h => by simp [r09_Great.l0] at h⟩
 | k + 1 => by have ih0 := r09_Great.mono_l k; exact fun _ _ => by unfold r09_Great.l0; exact lm
theorem r09_Great.mono : ∀ a0 k, LeO (r09_Great.f k a0) (r09_Great.f (k + 1) a0) := by
 intro a0 k
 have ih0 := r09_Great.mono_l k
 unfold r09_Great.f
 exact lo
instance r09_Great.mI {a0 k} : LeC (r09_Great.f k a0) (r09_Great.f (k + 1) a0) := ⟨r09_Great.mono _ _⟩
theorem r09_Great.calls (k : Nat) (A0 : Option Addr) (c0 : Nat) (l0 : List (S78)) (r : Bool) (w : World) (hr0 : Kd.C k78 w A0 l0.length l0) (hc0 : l0.length ≤ c0) (h : r09_Great.f k l0 = some r) :
 Calls Tryz.prog 37 #[.slice A0 l0.length c0] w fun e w' => e = .returned (.bool r) ∧ Drawn0 w w' := by
 have HR0 := Aside0.mk hr0
 have HC0 := Aside0.mk hc0
 clear hr0 hc0
 have H : (if (l0.length : Int) > 100 then (some true) else (r09_Great.l0 k l0 0)) = some r := h
 clear h
 by_cases c2 : (l0.length : Int) > 100
 ·
  rw [if_pos c2] at H
  have c2b0 : decide (100 < (l0.length : Int)) = true := decide_eq_true c2
  have c2b1 : decide (100 < l0.length) = true := decide_eq_true (by omega)
  clear c2
  obtain rfl := Option.some.inj H
  go_enter Tryz.func37, Tryz.ntmps37
  go_wp2
  go_ret
  exact ⟨rs_, dr_⟩
 ·
  rw [if_neg c2] at H
  have c2b0 : decide (100 < (l0.length : Int)) = false := decide_eq_false c2
  have c2b1 : decide (100 < l0.length) = false := decide_eq_false (by omega)
  clear c2
  have H' := Aside0.mk H
  clear H
  go_enter Tryz.func37, Tryz.ntmps37
  go_wp2
  go_loopg [3] k (fun kq v3 w' => ∃ (x3_1 : Int), v3 = .int .i64 x3_1 ∧ Aside0 (r09_Great.l0 kq l0 x3_1 = some r) ∧ Aside0 (kq ≤ k) ∧ Drawn0 w w')
  case atStart => exact ⟨(0), rs_, H', ⟨Nat.le_refl _⟩, dr_⟩
  case round =>
   clear H'
   try clear c2
   try clear c2b0
   try clear c2b1
   obtain ⟨x3_1, rfl, HA, HK1, ⟨m1, rfl⟩⟩ := hrel
   cases gk with
   | zero => exact absurd HA.out (by simp [r09_Great.l0])
   | succ k1 =>
    have H := HA.out
    clear HA
    simp only [r09_Great.l0] at H
    by_cases c3 : x3_1 < (l0.length : Int)
    ·
     rw [if_pos c3] at H
     have c3b0 : decide (x3_1 < (l0.length : Int)) = true := decide_eq_true c3
     clear c3
     obtain ⟨c4b0, H⟩ := gdd H
     by_cases c5 : (((rd_T78 l0 x3_1).f0.f1).size : Int) > 300
     ·
      rw [if_pos c5] at H
      have c5b0 : decide (300 < (((rd_T78 l0 x3_1).f0.f1).size : Int)) = true := decide_eq_true c5
      have c5b1 : decide (300 < ((rd_T78 l0 x3_1).f0.f1).size) = true := decide_eq_true (by omega)
      clear c5
      obtain rfl := Option.some.inj H
      have p433 : 0 ≤ (x3_1 : Int) := od
      have q433 : x3_1 < (l0.length : Int) := od
      obtain ⟨ad433, e433, hx433_0, hx433_1, hx433_2, hx433_3, hx433_4⟩ := at_T78 HR0.out x3_1 p433 q433
      cases e433
      replace p433 := eq_true p433
      replace q433 := eq_true q433
      go_wp2
      go_ret
      exact ⟨rs_, dr_⟩
     ·
      rw [if_neg c5] at H
      have c5b0 : decide (300 < (((rd_T78 l0 x3_1).f0.f1).size : Int)) = false := decide_eq_false c5
      have c5b1 : decide (300 < ((rd_T78 l0 x3_1).f0.f1).size) = false := decide_eq_false (by omega)
      clear c5
      have H' := Aside0.mk H
      clear H
      have p433 : 0 ≤ (x3_1 : Int) := od
      have q433 : x3_1 < (l0.length : Int) := od
      obtain ⟨ad433, e433, hx433_0, hx433_1, hx433_2, hx433_3, hx433_4⟩ := at_T78 HR0.out x3_1 p433 q433
      cases e433
      replace p433 := eq_true p433
      replace q433 := eq_true q433
      go_wp2
      go_roundg k1
      case measure => have := HK1.out; omega
      case rel => exact ⟨(wrap64 (x3_1 + 1)), rs_, H', ⟨by have := HK1.out; omega⟩, dr_⟩
    ·
     rw [if_neg c3] at H
     have c3b0 : decide (x3_1 < (l0.length : Int)) = false := decide_eq_false c3
     clear c3
     obtain rfl := Option.some.inj H
     go_wp2
     go_ret
     exact ⟨rs_, dr_⟩
end Go.Proofs.YteckidchnicjeaaGreatDoor.X
