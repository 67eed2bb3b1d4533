/- Printed by a program of this session's own: what functions of the program compute, and that the machine computes it. No condition of its own. -/
import Derived.Test.YtklhjponikgkkaaM3
import Derived.Test.YtklhjponikgkkaaM5
namespace Go.Proofs.Ytklhjponikgkkaa.X
open Go.RowKit Go.Proofs.YtklhjponikgkkaaW.PrintWords Go.Proofs.YtklhjponikgkkaaW.PrintLast Go.Proofs.YtklhjponikgkkaaW.PrintMore
attribute [local go_sem] max2_int min2_int max_two min_two max_three min_three max_four min_four
set_option linter.unusedVariables false
set_option linter.unusedSimpArgs false
set_option maxHeartbeats 8000000
set_option maxRecDepth 100000
def ebbtideref11_Right.l0 : Nat → Int → List (S70) → Option (Bool)
 | 0, _, _ => none
 | k + 1, x3, x174000 => if x3 < (x174000.length : Int) then (if 0 ≤ x3 then (if (((rd_T70 x174000 x3).f2).length : Int) = 0 then (none) else ((ebbtideref10_Right.f k ((rd_T70 x174000 x3).f2)).bind fun t176 => (if t176 = true then (if x3 > 0 then (if 0 ≤ (wrap64 (x3 - 1)) then (if (wrap64 (x3 - 1)) < (x174000.length : Int) then ((ebbtideref11_less.f ((rd_T70 x174000 (wrap64 (x3 - 1))).f0) ((rd_T70 x174000 (wrap64 (x3 - 1))).f1) ((rd_T70 x174000 (wrap64 (x3 - 1))).f2) ((rd_T70 x174000 x3).f0) ((rd_T70 x174000 x3).f1)).bind fun t178 => (if t178 = true then (ebbtideref11_Right.l0 k (wrap64 (x3 + 1)) x174000) else (none))) else (none)) else (none)) else (ebbtideref11_Right.l0 k (wrap64 (x3 + 1)) x174000)) else (none)))) else (none)) else (some true)
def ebbtideref11_Right.f (k : Nat) (l0_0 : List (S70)) : Option (Bool) := ebbtideref11_Right.l0 k 0 l0_0
theorem ebbtideref11_Right.mono_l : ∀ k, (∀ y0 y1, LeC (ebbtideref11_Right.l0 k y0 y1) (ebbtideref11_Right.l0 (k + 1) y0 y1))
 | 0 => fun _ _ => ⟨fun r h => by simp [ebbtideref11_Right.l0] at h⟩
 | k + 1 => by have ih0 := ebbtideref11_Right.mono_l k; exact fun _ _ => by unfold ebbtideref11_Right.l0; exact lm
theorem ebbtideref11_Right.mono : ∀ a0 k, LeO (ebbtideref11_Right.f k a0) (ebbtideref11_Right.f (k + 1) a0) := by
 intro a0 k
 have ih0 := ebbtideref11_Right.mono_l k
 unfold ebbtideref11_Right.f
 exact lo
instance ebbtideref11_Right.mI {a0 k} : LeC (ebbtideref11_Right.f k a0) (ebbtideref11_Right.f (k + 1) a0) := ⟨ebbtideref11_Right.mono _ _⟩
def ebbtideref11_Right.T5 : Bool × List (List Nat × List Nat) := (true, [([], []), ([0], [0]), ([1], [1]), ([2], [2]), ([3], [3]), ([4], [4]), ([5, 4], [4, 5]), ([6, 4, 4], [4, 6]), ([7, 4], [4, 7]), ([4, 8], [4, 8]), ([9, 7], [9]), ([10], [10]), ([11, 10], [10, 11]), ([12, 10, 10], [10, 12]), ([13], [13]), ([14, 13], [13, 14]), ([13], [13]), ([16, 13], [13, 16]), ([15, 17, 13], [13, 15, 17]), ([18, 13], [13, 18]), ([13], [13]), ([20, 13], [13, 20]), ([13], [13]), ([22, 13], [13, 22]), ([19, 21, 23, 13, 13], [13, 19, 21, 23]), ([24, 13], [13, 24]), ([13, 25, 10], [10, 13, 25]), ([10, 26], [10, 26])])
def ebbtideref11_Right.B5 : List Nat := [0, 1, 3, 7, 15, 31, 63, 127, 255, 511, 1023, 2047, 4095, 8191, 16383, 32767, 16383, 81919, 262143, 524287, 16383, 1064959, 16383, 4210687, 16777215, 33554431, 67108863, 134217727]
theorem ebbtideref11_Right.tab5 : rtab .any (opsOf Try.f40 5) = ebbtideref11_Right.T5 := by kernel_rfl
theorem ebbtideref11_Right.bits5 : waitsOk ebbtideref11_Right.T5.2 ebbtideref11_Right.B5 = true := by kernel_rfl
theorem ebbtideref11_Right.calls (k : Nat) (A0_0 : Option Addr) (c0_0 : Nat) (l0_0 : List (S70)) (r : Bool) (w : World) (hr0_0 : Kd.C k70 w A0_0 l0_0.length l0_0) (hc0_0 : l0_0.length ≤ c0_0) (h : ebbtideref11_Right.f k l0_0 = some r) :
 Calls Try.prog 40 #[.agg #[.slice A0_0 l0_0.length c0_0]] w fun e w' => e = .returned (.bool r) ∧ Below w.heap.size w w' := by
 have hu50 := Try.underlying50
 have hu70 := Try.underlying70
 have HR0_0 := Aside0.mk hr0_0
 have HC0_0 := Aside0.mk hc0_0
 clear hr0_0 hc0_0
 have HB := Aside0.mk (Below.refl w.heap.size w)
 have H : (ebbtideref11_Right.l0 k 0 l0_0) = some r := h
 clear h
 have H' := Aside0.mk H
 clear H
 go_enter Try.func40, Try.ntmps40
 go_wp2_with (first | ((with_reducible refine gate_dst (N := 1) rfl ?_); refine bx (N := 1) #[.slice A0_0 l0_0.length c0_0] 50 ?_; intro gb173 hg w2 hbox hb; have BK173 := Aside0.mk (hbox); have GW173 := gw hg (uW HB.out); have GE173 := GW173; replace HB := cW HB hb; clear hb hbox hg))
 go_loopg [3] k (fun kq v3 w' => ∃ (x3_1 : Int), v3 = .int .i64 x3_1 ∧ Aside0 (ebbtideref11_Right.l0 kq x3_1 l0_0 = some r) ∧ Aside0 (kq ≤ k) ∧ Aside0 (w'.heap[gb173]? = some (.cells #[(.slice A0_0 l0_0.length c0_0)] 50 (0, 0))) ∧ Aside0 (Below w.heap.size w w'))
 case atStart => exact ⟨(0), rs_, H', ⟨Nat.le_refl _⟩, ⟨uB BK173.out⟩, ⟨bl⟩⟩
 case round =>
  clear H'
  try clear p2
  obtain ⟨x3_1, rfl, HA, HK1, BK173, HB⟩ := hrel
  cases gk with
  | zero => exact absurd HA.out (by simp [ebbtideref11_Right.l0])
  | succ k1 =>
   have H := HA.out
   clear HA
   simp only [ebbtideref11_Right.l0] at H
   by_cases c3 : x3_1 < (l0_0.length : Int)
   ·
    rw [if_pos c3] at H
    have c3b0 : decide (x3_1 < (l0_0.length : Int)) = true := decide_eq_true c3
    clear c3
    obtain ⟨c4b0, H⟩ := gdd H
    by_cases c5 : (((rd_T70 l0_0 x3_1).f2).length : Int) = 0
    ·
     rw [if_pos c5] at H
     have c5b0 : ((((rd_T70 l0_0 x3_1).f2).length : Int) == 0) = true := beq_iff_eq.mpr c5
     have c5b1 : ((((rd_T70 l0_0 x3_1).f2).length : Int) != 0) = false := bne_eq_false_iff_eq.mpr c5
     clear c5
     exact absurd H (by simp)
    ·
     rw [if_neg c5] at H
     have c5b0 : ((((rd_T70 l0_0 x3_1).f2).length : Int) == 0) = false := beq_eq_false_iff_ne.mpr c5
     have c5b1 : ((((rd_T70 l0_0 x3_1).f2).length : Int) != 0) = true := bne_iff_ne.mpr c5
     have c5b2 : ¬ (((rd_T70 l0_0 x3_1).f2) = []) := fun h_ => c5 (by rw [h_]; rfl)
     obtain ⟨t176, A6, H⟩ := bs H
     try dsimp only at H
     by_cases c7 : t176 = true
     ·
      subst c7
      rw [if_pos rfl] at H
      by_cases c8 : x3_1 > 0
      ·
       rw [if_pos c8] at H
       have c8b0 : decide (0 < x3_1) = true := decide_eq_true c8
       clear c8
       obtain ⟨ji9, hji9⟩ : ∃ j_ : Int, (wrap64 (x3_1 - 1)) = j_ := ⟨_, rfl⟩
       (first | rw [hji9] at H | simp only [hji9] at H)
       (try rw [hji9] at A6)
       have hji9w : (IntKind.i64.wrap (x3_1 - 1)) = ji9 := (i64_w _).trans hji9
       obtain ⟨c10b0, H⟩ := gdd H
       obtain ⟨c11b0, H⟩ := gdd H
       obtain ⟨t178, A12, H⟩ := bs H
       try dsimp only at H
       by_cases c13 : t178 = true
       ·
        subst c13
        rw [if_pos rfl] at H
        have H' := Aside0.mk H
        clear H
        obtain ⟨hcz14_0, hfz14_0⟩ := z1 BK173
        have p174 : 0 ≤ (x3_1 : Int) := od
        have q174 : x3_1 < (l0_0.length : Int) := od
        obtain ⟨ad174, A174_2, c174_2, e174, hx174_0, hx174_1, hx174_2, hl174_2, hi174_2⟩ := at_T70 HR0_0.out x3_1 p174 q174
        cases e174
        replace hx174_0 := kc HB hx174_0
        replace hx174_1 := kc HB hx174_1
        replace hx174_2 := kc HB hx174_2
        have HR174_2 := Aside0.mk hi174_2
        have HC174_2 := Aside0.mk hl174_2
        clear hi174_2 hl174_2
        replace p174 := eq_true p174
        replace q174 := eq_true q174
        try go_wp2_with (first | ((with_reducible refine gate_dst (N := 4) rfl ?_); refine bx (N := 4) #[.int .i64 0, .string (⟨#[]⟩ : ByteArray), .slice none 0 0] 70 ?_; intro gb175 hg w15 hbox hb; have BK175 := Aside0.mk (hbox); have GW175 := gw hg bl; have GE175 := GW175; replace HB := Aside0.mk (below_step bl hb); have NB173_175 := Aside0.mk ((by rw [hg]; exact Nat.ne_of_lt (blk_lt (g := gb173) (o := .cells #[.slice (some ad174) l0_0.length c0_0] 50 (0, 0)) (uB BK173.out)) : gb173 ≠ gb175)); have NB175_173 := Aside0.mk ((by rw [hg]; exact Nat.ne_of_gt (blk_lt (g := gb173) (o := .cells #[.slice (some ad174) l0_0.length c0_0] 50 (0, 0)) (uB BK173.out)) : gb175 ≠ gb173)); replace BK173 := cB BK173 hb; clear hb hbox hg; have hnb16 := NB175_173.out; have hnc16 := NB173_175.out; obtain ⟨hcz17_0, hcz17_1, hcz17_2, hfz17_0, hfz17_1, hfz17_2⟩ := z3 BK175))
        have n0_ : Aside0 ((((w15.setCell ⟨gb175, 0, none⟩ (.int .i64 ((rd_T70 l0_0 x3_1).f0))).setCell ⟨gb175, 1, none⟩ (.string ((rd_T70 l0_0 x3_1).f1))).setCell ⟨gb175, 2, none⟩ (.slice A174_2 ((rd_T70 l0_0 x3_1).f2).length c174_2)).heap[gb173]? = some (.cells #[.slice (some ad174) l0_0.length c0_0] 50 (0, 0))) := ⟨by (with_reducible repeat (first | refine blk_drewN ?_ _ | refine blk_drew ?_ | refine blk_alloc ?_ _)); refine blk_far ?_ NB173_175.out _; (with_reducible repeat (first | refine blk_drewN ?_ _ | refine blk_drew ?_ | refine blk_alloc ?_ _)); refine blk_far ?_ NB173_175.out _; (with_reducible repeat (first | refine blk_drewN ?_ _ | refine blk_drew ?_ | refine blk_alloc ?_ _)); refine blk_far ?_ NB173_175.out _; exact uB <| BK173.out⟩
        have n1_ : Aside0 ((((w15.setCell ⟨gb175, 0, none⟩ (.int .i64 ((rd_T70 l0_0 x3_1).f0))).setCell ⟨gb175, 1, none⟩ (.string ((rd_T70 l0_0 x3_1).f1))).setCell ⟨gb175, 2, none⟩ (.slice A174_2 ((rd_T70 l0_0 x3_1).f2).length c174_2)).heap[gb175]? = some (.cells #[.int .i64 ((rd_T70 l0_0 x3_1).f0), .string ((rd_T70 l0_0 x3_1).f1), .slice A174_2 ((rd_T70 l0_0 x3_1).f2).length c174_2] 70 (0, 0))) := ⟨by (with_reducible repeat (first | refine blk_drewN ?_ _ | refine blk_drew ?_ | refine blk_alloc ?_ _)); refine blk_put (cs := #[.int .i64 ((rd_T70 l0_0 x3_1).f0), .string ((rd_T70 l0_0 x3_1).f1), .slice none 0 0]) ?_ 2 _ rfl; (with_reducible repeat (first | refine blk_drewN ?_ _ | refine blk_drew ?_ | refine blk_alloc ?_ _)); refine blk_put (cs := #[.int .i64 ((rd_T70 l0_0 x3_1).f0), .string (⟨#[]⟩ : ByteArray), .slice none 0 0]) ?_ 1 _ rfl; (with_reducible repeat (first | refine blk_drewN ?_ _ | refine blk_drew ?_ | refine blk_alloc ?_ _)); refine blk_put (cs := #[.int .i64 0, .string (⟨#[]⟩ : ByteArray), .slice none 0 0]) ?_ 0 _ rfl; exact uB <| BK175.out⟩
        have n2_ : Aside0 (Below w.heap.size w (((w15.setCell ⟨gb175, 0, none⟩ (.int .i64 ((rd_T70 l0_0 x3_1).f0))).setCell ⟨gb175, 1, none⟩ (.string ((rd_T70 l0_0 x3_1).f1))).setCell ⟨gb175, 2, none⟩ (.slice A174_2 ((rd_T70 l0_0 x3_1).f2).length c174_2))) := ⟨bl⟩
        (try clear BK173)
        (try clear BK175)
        (try clear HB)
        generalize (((w15.setCell ⟨gb175, 0, none⟩ (.int .i64 ((rd_T70 l0_0 x3_1).f0))).setCell ⟨gb175, 1, none⟩ (.string ((rd_T70 l0_0 x3_1).f1))).setCell ⟨gb175, 2, none⟩ (.slice A174_2 ((rd_T70 l0_0 x3_1).f2).length c174_2)) = w18 at n0_ n1_ n2_ ⊢
        have BK173 := n0_
        have BK175 := n1_
        have HB := n2_
        clear n0_ n1_ n2_
        have n0_ := Aside0.mk (blk_drew BK173.out)
        have n1_ := Aside0.mk (blk_drew BK175.out)
        have n2_ := Aside0.mk (below_drew1 HB.out)
        clear BK173
        clear BK175
        clear HB
        have BK173 := n0_
        have BK175 := n1_
        have HB := n2_
        clear n0_ n1_ n2_
        have p177 : 0 ≤ ((ji9) : Int) := od
        have q177 : (ji9) < (l0_0.length : Int) := od
        obtain ⟨ad177, A177_2, c177_2, e177, hx177_0, hx177_1, hx177_2, hl177_2, hi177_2⟩ := at_T70 HR0_0.out (ji9) p177 q177
        have hw177_2 := hx177_2
        have hw177_1 := hx177_1
        have hw177_0 := hx177_0
        obtain rfl : ad174 = ad177 := (by injection e177)
        replace hx177_0 := kc HB hx177_0
        replace hx177_1 := kc HB hx177_1
        replace hx177_2 := kc HB hx177_2
        have HR177_2 := Aside0.mk hi177_2
        have HC177_2 := Aside0.mk hl177_2
        clear hi177_2 hl177_2
        replace p177 := eq_true p177
        replace q177 := eq_true q177
        refine start_ (n := 28) (S := fun w' => w'.cell? ⟨gb175, 0, none⟩ = some (.int .i64 ((rd_T70 l0_0 x3_1).f0)) ∧ w'.cell? ⟨gb175, 1, none⟩ = some (.string ((rd_T70 l0_0 x3_1).f1)) ∧ w'.cell? ⟨gb175, 2, none⟩ = some (.slice A174_2 ((rd_T70 l0_0 x3_1).f2).length c174_2) ∧ w'.cell? ⟨gb173, 0, none⟩ = some (.slice (some ad174) l0_0.length c0_0) ∧ w'.cell? (ad174.add (((ji9)).toNat * 3)) = some (.int .i64 ((rd_T70 l0_0 (ji9)).f0)) ∧ w'.cell? ⟨(ad174.add (((ji9)).toNat * 3)).block, (ad174.add (((ji9)).toNat * 3)).off + 1, none⟩ = some (.string ((rd_T70 l0_0 (ji9)).f1)) ∧ w'.cell? ⟨(ad174.add (((ji9)).toNat * 3)).block, (ad174.add (((ji9)).toNat * 3)).off + 2, none⟩ = some (.slice A177_2 ((rd_T70 l0_0 (ji9)).f2).length c177_2)) (ds := []) #[false, false, false, false, false, false, false, false, false, false, false, false, false, false, false, false, false, false, false, false, false, false, false, false, false, false, false, false] (by kernel_rfl) rfl rfl ⟨(blk_cell BK175.out 0).trans rfl, (blk_cell BK175.out 1).trans rfl, (blk_cell BK175.out 2).trans rfl, (blk_cell BK173.out 0).trans rfl, (kc HB hw177_0), (kc HB hw177_1), (kc HB hw177_2)⟩ (fun hHeld => ?_); refine with_tabW ebbtideref11_Right.tab5 ebbtideref11_Right.bits5 (fun HT_ HW_ => ?_)
        generalize w18.drew = w19 at BK173 BK175 HB HR177_2 hx177_0 hx177_1 hx177_2 hHeld ⊢
        refine p1 0 (some 17) ?_
        refine t1 1 (some 18) rfl rfl hHeld (Or.inl ⟨by rfl, by rintro w' ⟨s0, s1, s2, s3, s4, s5, s6⟩; go_simp; with_reducible rfl⟩) ?_
        refine p1 2 (some 19) ?_
        refine p1 3 (some 20) ?_
        refine p1 4 (some 21) ?_
        refine p1 5 (some 22) ?_
        refine t1 6 (some 23) rfl rfl hHeld (Or.inl ⟨by rfl, by rintro w' ⟨s0, s1, s2, s3, s4, s5, s6⟩; go_simp; with_reducible rfl⟩) ?_
        refine one_ (i := 7) (N := some 24) #[true, true, true, true, true, true, true, true, false, false, false, false, false, false, false, false, false, false, false, false, false, false, false, false, false, false, false, false] rfl rfl (one_of HT_.out (by kernel_rfl)) (by decide) (fun K hK => ?_)
        refine goes_ Try.func54 (by kernel_rfl) rfl #[.slice A174_2 ((rd_T70 l0_0 x3_1).f2).length c174_2] (by rfl) rfl rfl (by (try simp only [List.map_toArray, List.map_cons, List.map_nil]); first | done | rfl | (simp only [List.length_drop, List.length_take]; rfl)) ?_
        with_reducible refine (ebbtideref10_Right.calls k1 _ _ ((rd_T70 l0_0 x3_1).f2) true _ ?side1 ?side2 A6.out).mono ?_
        (case side1 => exact uC <| (Kd.C_below HR174_2.out HB.out))
        (case side2 => exact HC174_2.out)
        rintro e w' ⟨rfl, ⟨nd, rfl⟩⟩
        refine ⟨_, rfl, ?_⟩
        refine hK.out _ _ ⟨(blk_cell BK175.out 0).trans rfl, (blk_cell BK175.out 1).trans rfl, (blk_cell BK175.out 2).trans rfl, (blk_cell BK173.out 0).trans rfl, (kc HB hw177_0), (kc HB hw177_1), (kc HB hw177_2)⟩ (fun hHeld => ?_)
        clear hK K
        refine norm_ (a' := ?_) ?_ ?_
        rotate_left
        ·
         show Act.put _ (some 24) _ = _
         simp only [Act.put, List.setIfInBounds_toArray, List.set_cons_zero, List.set_cons_succ, i64_w, i32_w]
         rfl
        refine p1 8 (some 25) ?_
        refine p1 9 (some 26) ?_
        refine p1 10 (some 27) ?_
        refine p1 11 (some 28) ?_
        refine p1 12 (some 29) ?_
        refine p1 13 (some 30) ?_
        refine p1 14 (some 31) ?_
        refine p1 16 (some 33) ?_
        refine p1 17 (some 34) ?_
        refine p1 20 (some 37) ?_
        refine p1 22 (some 39) ?_
        refine t1 15 (some 32) rfl rfl hHeld (Or.inl ⟨by rfl, by rintro w' ⟨s0, s1, s2, s3, s4, s5, s6⟩; go_simp; with_reducible rfl⟩) ?_
        refine p1 18 (some 35) ?_
        refine t1 19 (some 36) rfl rfl hHeld (Or.inl ⟨by rfl, by rintro w' ⟨s0, s1, s2, s3, s4, s5, s6⟩; go_simp; with_reducible rfl⟩) ?_
        refine t1 21 (some 38) rfl rfl hHeld (Or.inl ⟨by rfl, by rintro w' ⟨s0, s1, s2, s3, s4, s5, s6⟩; go_simp; with_reducible rfl⟩) ?_
        refine t1 23 (some 40) rfl rfl hHeld (Or.inl ⟨by rfl, by rintro w' ⟨s0, s1, s2, s3, s4, s5, s6⟩; go_simp; with_reducible rfl⟩) ?_
        refine one_ (i := 24) (N := some 41) #[true, true, true, true, true, true, true, true, true, true, true, true, true, true, true, true, true, true, true, true, true, true, true, true, true, false, false, false] rfl rfl (one_of HT_.out (by kernel_rfl)) (by decide) (fun K hK => ?_)
        refine goes_ Try.func41 (by kernel_rfl) rfl #[.agg #[.int .i64 ((rd_T70 l0_0 (ji9)).f0), .string ((rd_T70 l0_0 (ji9)).f1), .slice A177_2 ((rd_T70 l0_0 (ji9)).f2).length c177_2], .int .i64 ((rd_T70 l0_0 x3_1).f0), .string ((rd_T70 l0_0 x3_1).f1)] (by rfl) rfl rfl (by (try simp only [List.map_toArray, List.map_cons, List.map_nil]); first | done | (simp only [hji9]; rfl) | rfl | (simp only [List.length_drop, List.length_take]; rfl)) ?_
        with_reducible refine (ebbtideref11_less.calls ((rd_T70 l0_0 (ji9)).f0) ((rd_T70 l0_0 (ji9)).f1) _ _ ((rd_T70 l0_0 (ji9)).f2) ((rd_T70 l0_0 x3_1).f0) ((rd_T70 l0_0 x3_1).f1) true _ ?side1 ?side2 A12.out).mono ?_
        (case side1 => exact (Kd.C_below HR177_2.out bl))
        (case side2 => exact HC177_2.out)
        rintro e w20 ⟨rfl, hb⟩
        refine ⟨_, rfl, ?_⟩
        have n0_ := cB BK173 hb
        have n1_ := cB BK175 hb
        have n2_ := Aside0.mk (below_step bl hb)
        clear BK173
        clear BK175
        clear HB
        have BK173 := n0_
        have BK175 := n1_
        have HB := n2_
        clear n0_ n1_ n2_
        (try clear hb)
        (try clear hb2)
        (try clear hk)
        (try clear hi)
        refine hK.out _ _ ⟨(blk_cell BK175.out 0).trans rfl, (blk_cell BK175.out 1).trans rfl, (blk_cell BK175.out 2).trans rfl, (blk_cell BK173.out 0).trans rfl, (kc HB hw177_0), (kc HB hw177_1), (kc HB hw177_2)⟩ (fun hHeld => ?_)
        clear hK K
        refine norm_ (a' := ?_) ?_ ?_
        rotate_left
        ·
         show Act.put _ (some 41) _ = _
         simp only [Act.put, List.setIfInBounds_toArray, List.set_cons_zero, List.set_cons_succ, i64_w, i32_w]
         rfl
        refine p1 25 (some 42) ?_
        refine p1 26 (some 43) ?_
        refine p1 27 (some 44) ?_
        refine done_ (done_of HT_.out (by kernel_rfl)) ?_
        try go_wp2
        go_roundg k1
        case measure => have := HK1.out; omega
        case rel => exact ⟨(wrap64 (x3_1 + 1)), rs_, H', ⟨by have := HK1.out; omega⟩, ⟨uB BK173.out⟩, ⟨bl⟩⟩
       ·
        replace c13 := Bool.eq_false_iff.mpr c13
        subst c13
        rw [if_neg (show ¬ (false = true) by decide)] at H
        exact absurd H (by simp)
      ·
       rw [if_neg c8] at H
       have c8b0 : decide (0 < x3_1) = false := decide_eq_false c8
       clear c8
       have H' := Aside0.mk H
       clear H
       obtain ⟨hcz21_0, hfz21_0⟩ := z1 BK173
       have p174 : 0 ≤ (x3_1 : Int) := od
       have q174 : x3_1 < (l0_0.length : Int) := od
       obtain ⟨ad174, A174_2, c174_2, e174, hx174_0, hx174_1, hx174_2, hl174_2, hi174_2⟩ := at_T70 HR0_0.out x3_1 p174 q174
       cases e174
       replace hx174_0 := kc HB hx174_0
       replace hx174_1 := kc HB hx174_1
       replace hx174_2 := kc HB hx174_2
       have HR174_2 := Aside0.mk hi174_2
       have HC174_2 := Aside0.mk hl174_2
       clear hi174_2 hl174_2
       replace p174 := eq_true p174
       replace q174 := eq_true q174
       try go_wp2_with (first | ((with_reducible refine gate_dst (N := 4) rfl ?_); refine bx (N := 4) #[.int .i64 0, .string (⟨#[]⟩ : ByteArray), .slice none 0 0] 70 ?_; intro gb175 hg w22 hbox hb; have BK175 := Aside0.mk (hbox); have GW175 := gw hg bl; have GE175 := GW175; replace HB := Aside0.mk (below_step bl hb); have NB173_175 := Aside0.mk ((by rw [hg]; exact Nat.ne_of_lt (blk_lt (g := gb173) (o := .cells #[.slice (some ad174) l0_0.length c0_0] 50 (0, 0)) (uB BK173.out)) : gb173 ≠ gb175)); have NB175_173 := Aside0.mk ((by rw [hg]; exact Nat.ne_of_gt (blk_lt (g := gb173) (o := .cells #[.slice (some ad174) l0_0.length c0_0] 50 (0, 0)) (uB BK173.out)) : gb175 ≠ gb173)); replace BK173 := cB BK173 hb; clear hb hbox hg; have hnb23 := NB175_173.out; have hnc23 := NB173_175.out; obtain ⟨hcz24_0, hcz24_1, hcz24_2, hfz24_0, hfz24_1, hfz24_2⟩ := z3 BK175))
       have n0_ : Aside0 ((((w22.setCell ⟨gb175, 0, none⟩ (.int .i64 ((rd_T70 l0_0 x3_1).f0))).setCell ⟨gb175, 1, none⟩ (.string ((rd_T70 l0_0 x3_1).f1))).setCell ⟨gb175, 2, none⟩ (.slice A174_2 ((rd_T70 l0_0 x3_1).f2).length c174_2)).heap[gb173]? = some (.cells #[.slice (some ad174) l0_0.length c0_0] 50 (0, 0))) := ⟨by (with_reducible repeat (first | refine blk_drewN ?_ _ | refine blk_drew ?_ | refine blk_alloc ?_ _)); refine blk_far ?_ NB173_175.out _; (with_reducible repeat (first | refine blk_drewN ?_ _ | refine blk_drew ?_ | refine blk_alloc ?_ _)); refine blk_far ?_ NB173_175.out _; (with_reducible repeat (first | refine blk_drewN ?_ _ | refine blk_drew ?_ | refine blk_alloc ?_ _)); refine blk_far ?_ NB173_175.out _; exact uB <| BK173.out⟩
       have n1_ : Aside0 ((((w22.setCell ⟨gb175, 0, none⟩ (.int .i64 ((rd_T70 l0_0 x3_1).f0))).setCell ⟨gb175, 1, none⟩ (.string ((rd_T70 l0_0 x3_1).f1))).setCell ⟨gb175, 2, none⟩ (.slice A174_2 ((rd_T70 l0_0 x3_1).f2).length c174_2)).heap[gb175]? = some (.cells #[.int .i64 ((rd_T70 l0_0 x3_1).f0), .string ((rd_T70 l0_0 x3_1).f1), .slice A174_2 ((rd_T70 l0_0 x3_1).f2).length c174_2] 70 (0, 0))) := ⟨by (with_reducible repeat (first | refine blk_drewN ?_ _ | refine blk_drew ?_ | refine blk_alloc ?_ _)); refine blk_put (cs := #[.int .i64 ((rd_T70 l0_0 x3_1).f0), .string ((rd_T70 l0_0 x3_1).f1), .slice none 0 0]) ?_ 2 _ rfl; (with_reducible repeat (first | refine blk_drewN ?_ _ | refine blk_drew ?_ | refine blk_alloc ?_ _)); refine blk_put (cs := #[.int .i64 ((rd_T70 l0_0 x3_1).f0), .string (⟨#[]⟩ : ByteArray), .slice none 0 0]) ?_ 1 _ rfl; (with_reducible repeat (first | refine blk_drewN ?_ _ | refine blk_drew ?_ | refine blk_alloc ?_ _)); refine blk_put (cs := #[.int .i64 0, .string (⟨#[]⟩ : ByteArray), .slice none 0 0]) ?_ 0 _ rfl; exact uB <| BK175.out⟩
       have n2_ : Aside0 (Below w.heap.size w (((w22.setCell ⟨gb175, 0, none⟩ (.int .i64 ((rd_T70 l0_0 x3_1).f0))).setCell ⟨gb175, 1, none⟩ (.string ((rd_T70 l0_0 x3_1).f1))).setCell ⟨gb175, 2, none⟩ (.slice A174_2 ((rd_T70 l0_0 x3_1).f2).length c174_2))) := ⟨bl⟩
       (try clear BK173)
       (try clear BK175)
       (try clear HB)
       generalize (((w22.setCell ⟨gb175, 0, none⟩ (.int .i64 ((rd_T70 l0_0 x3_1).f0))).setCell ⟨gb175, 1, none⟩ (.string ((rd_T70 l0_0 x3_1).f1))).setCell ⟨gb175, 2, none⟩ (.slice A174_2 ((rd_T70 l0_0 x3_1).f2).length c174_2)) = w25 at n0_ n1_ n2_ ⊢
       have BK173 := n0_
       have BK175 := n1_
       have HB := n2_
       clear n0_ n1_ n2_
       have n0_ := Aside0.mk (blk_drew BK173.out)
       have n1_ := Aside0.mk (blk_drew BK175.out)
       have n2_ := Aside0.mk (below_drew1 HB.out)
       clear BK173
       clear BK175
       clear HB
       have BK173 := n0_
       have BK175 := n1_
       have HB := n2_
       clear n0_ n1_ n2_
       refine start_ (n := 28) (S := fun w' => w'.cell? ⟨gb175, 0, none⟩ = some (.int .i64 ((rd_T70 l0_0 x3_1).f0)) ∧ w'.cell? ⟨gb175, 1, none⟩ = some (.string ((rd_T70 l0_0 x3_1).f1)) ∧ w'.cell? ⟨gb175, 2, none⟩ = some (.slice A174_2 ((rd_T70 l0_0 x3_1).f2).length c174_2)) (ds := []) #[false, false, false, false, false, false, false, false, false, false, false, false, false, false, false, false, false, false, false, false, false, false, false, false, false, false, false, false] (by kernel_rfl) rfl rfl ⟨(blk_cell BK175.out 0).trans rfl, (blk_cell BK175.out 1).trans rfl, (blk_cell BK175.out 2).trans rfl⟩ (fun hHeld => ?_); refine with_tabW ebbtideref11_Right.tab5 ebbtideref11_Right.bits5 (fun HT_ HW_ => ?_)
       generalize w25.drew = w26 at BK173 BK175 HB hHeld ⊢
       refine p1 0 (some 17) ?_
       refine t1 1 (some 18) rfl rfl hHeld (Or.inl ⟨by rfl, by rintro w' ⟨s0, s1, s2⟩; go_simp; with_reducible rfl⟩) ?_
       refine p1 2 (some 19) ?_
       refine p1 3 (some 20) ?_
       refine p1 4 (some 21) ?_
       refine p1 5 (some 22) ?_
       refine t1 6 (some 23) rfl rfl hHeld (Or.inl ⟨by rfl, by rintro w' ⟨s0, s1, s2⟩; go_simp; with_reducible rfl⟩) ?_
       refine one_ (i := 7) (N := some 24) #[true, true, true, true, true, true, true, true, false, false, false, false, false, false, false, false, false, false, false, false, false, false, false, false, false, false, false, false] rfl rfl (one_of HT_.out (by kernel_rfl)) (by decide) (fun K hK => ?_)
       refine goes_ Try.func54 (by kernel_rfl) rfl #[.slice A174_2 ((rd_T70 l0_0 x3_1).f2).length c174_2] (by rfl) rfl rfl (by (try simp only [List.map_toArray, List.map_cons, List.map_nil]); first | done | rfl | (simp only [List.length_drop, List.length_take]; rfl)) ?_
       with_reducible refine (ebbtideref10_Right.calls k1 _ _ ((rd_T70 l0_0 x3_1).f2) true _ ?side1 ?side2 A6.out).mono ?_
       (case side1 => exact uC <| (Kd.C_below HR174_2.out HB.out))
       (case side2 => exact HC174_2.out)
       rintro e w' ⟨rfl, ⟨nd, rfl⟩⟩
       refine ⟨_, rfl, ?_⟩
       refine hK.out _ _ ⟨(blk_cell BK175.out 0).trans rfl, (blk_cell BK175.out 1).trans rfl, (blk_cell BK175.out 2).trans rfl⟩ (fun hHeld => ?_)
       clear hK K
       refine norm_ (a' := ?_) ?_ ?_
       rotate_left
       ·
        show Act.put _ (some 24) _ = _
        simp only [Act.put, List.setIfInBounds_toArray, List.set_cons_zero, List.set_cons_succ, i64_w, i32_w]
        rfl
       refine p1 8 (some 25) ?_
       refine p1 9 (some 26) ?_
       refine p1 10 (some 27) ?_
       refine p1 11 (some 28) ?_
       refine p1 12 (some 29) ?_
       refine p1 13 (some 30) ?_
       refine p2 14 (some 31) ?_
       refine p2 15 (some 32) ?_
       refine p2 16 (some 33) ?_
       refine p2 17 (some 34) ?_
       refine p2 18 (some 35) ?_
       refine p2 19 (some 36) ?_
       refine p2 20 (some 37) ?_
       refine p2 21 (some 38) ?_
       refine p2 22 (some 39) ?_
       refine p2 23 (some 40) ?_
       refine p2 24 (some 41) ?_
       refine p2 25 (some 42) ?_
       refine p1 26 (some 43) ?_
       refine p1 27 (some 44) ?_
       refine done_ (done_of HT_.out (by kernel_rfl)) ?_
       try go_wp2
       go_roundg k1
       case measure => have := HK1.out; omega
       case rel => exact ⟨(wrap64 (x3_1 + 1)), rs_, H', ⟨by have := HK1.out; omega⟩, ⟨uB BK173.out⟩, ⟨bl⟩⟩
     ·
      replace c7 := Bool.eq_false_iff.mpr c7
      subst c7
      rw [if_neg (show ¬ (false = true) by decide)] at H
      exact absurd H (by simp)
   ·
    rw [if_neg c3] at H
    have c3b0 : decide (x3_1 < (l0_0.length : Int)) = false := decide_eq_false c3
    clear c3
    obtain rfl := Option.some.inj H
    obtain ⟨hcz27_0, hfz27_0⟩ := z1 BK173
    go_wp2
    go_ret
    exact ⟨re_, bl⟩
def ebbtideref06_Fold.f (a0_0 : Int) (a0_1 : Int) (a0_2 : Bool) (a0_3 : Int) (a0_4 : Int) (a1 : Int) : Option (Int × Int × Bool × Int × Int) := if a0_0 < 1 then (some (1, a1, false, a1, a1)) else (none)
theorem ebbtideref06_Fold.calls (a0_0 : Int) (a0_1 : Int) (a0_2 : Bool) (a0_3 : Int) (a0_4 : Int) (a1 : Int) (r1 : Int) (r2 : Int) (r3 : Bool) (r4 : Int) (r5 : Int) (w : World) (h : ebbtideref06_Fold.f a0_0 a0_1 a0_2 a0_3 a0_4 a1 = some (r1, r2, r3, r4, r5)) :
 Calls Try.prog 43 #[.agg #[.int .i64 a0_0, .int .i64 a0_1, .bool a0_2, .int .i64 a0_3, .int .i64 a0_4], .int .i64 a1] w fun e w' => e = .returned (.agg #[.int .i64 r1, .int .i64 r2, .bool r3, .int .i64 r4, .int .i64 r5]) ∧ Below w.heap.size w w' := by
 have hu54 := Try.underlying54
 have hu52 := Try.underlying52
 have HB := Aside0.mk (Below.refl w.heap.size w)
 have H : (if a0_0 < 1 then (some (1, a1, false, a1, a1)) else (none)) = some (r1, r2, r3, r4, r5) := h
 clear h
 by_cases c3 : a0_0 < 1
 ·
  rw [if_pos c3] at H
  have c3b0 : decide (a0_0 < 1) = true := decide_eq_true c3
  clear c3
  simp only [Option.some.injEq, Prod.mk.injEq] at H
  obtain ⟨rfl, rfl, rfl, rfl, rfl⟩ := H
  go_enter Try.func43, Try.ntmps43
  go_wp2_with (first | ((with_reducible refine gate_dst (N := 2) rfl ?_); refine bx (N := 2) #[.int .i64 a0_0, .int .i64 a0_1, .bool a0_2, .int .i64 a0_3, .int .i64 a0_4] 54 ?_; intro gb179 hg w4 hbox hb; have BK179 := Aside0.mk (hbox); have GW179 := gw hg (uW HB.out); have GE179 := GW179; replace HB := cW HB hb; clear hb hbox hg) | ((with_reducible refine gate_dst (N := 4) rfl ?_); refine bx (N := 4) #[.int .i64 0, .int .i64 0, .bool false, .int .i64 0, .int .i64 0] 54 ?_; intro gb180 hg w5 hbox hb; have BK180 := Aside0.mk (hbox); have GW180 := gw hg bl; have GE180 := GW180; replace HB := Aside0.mk (below_step bl hb); have NB179_180 := Aside0.mk ((by rw [hg]; exact Nat.ne_of_lt (blk_lt (g := gb179) (o := .cells #[.int .i64 a0_0, .int .i64 a0_1, .bool a0_2, .int .i64 a0_3, .int .i64 a0_4] 54 (0, 0)) (uB BK179.out)) : gb179 ≠ gb180)); have NB180_179 := Aside0.mk ((by rw [hg]; exact Nat.ne_of_gt (blk_lt (g := gb179) (o := .cells #[.int .i64 a0_0, .int .i64 a0_1, .bool a0_2, .int .i64 a0_3, .int .i64 a0_4] 54 (0, 0)) (uB BK179.out)) : gb180 ≠ gb179)); replace BK179 := cB BK179 hb; clear hb hbox hg; have hnb6 := NB179_180.out; have hnc6 := NB180_179.out; obtain ⟨hcz7_0, hcz7_1, hcz7_2, hcz7_3, hcz7_4, hfz7_0, hfz7_1, hfz7_2, hfz7_3, hfz7_4⟩ := z5 BK179; obtain ⟨hcz8_0, hcz8_1, hcz8_2, hcz8_3, hcz8_4, hfz8_0, hfz8_1, hfz8_2, hfz8_3, hfz8_4⟩ := z5 BK180) | ((with_reducible refine gate_store (t := 54) (p := 4) rfl ?_); refine store_event (t := 54) (p := 4) (v := ?vo_w9) (w1 := (((((w5.setCell ⟨gb180, 0, none⟩ (.int .i64 1)).setCell ⟨gb180, 1, none⟩ (.int .i64 a1)).setCell ⟨gb180, 2, none⟩ (.bool false)).setCell ⟨gb180, 3, none⟩ (.int .i64 a1)).setCell ⟨gb180, 4, none⟩ (.int .i64 a1))) ?hg ?ho ?hn ?hr ?_; (case ho => rfl); (case hg => rfl); (case hn => rfl); (case hr => first | (go_simp; done) | (go_simp; rfl)); intro w9 hw; have n0_ : Aside0 (w9.heap[gb179]? = some (.cells #[.int .i64 a0_0, .int .i64 a0_1, .bool a0_2, .int .i64 a0_3, .int .i64 a0_4] 54 (0, 0))) := ⟨(by rw [hw]; exact (by (with_reducible repeat (first | refine blk_drewN ?_ _ | refine blk_drew ?_ | refine blk_alloc ?_ _)); refine blk_far ?_ NB179_180.out _; (with_reducible repeat (first | refine blk_drewN ?_ _ | refine blk_drew ?_ | refine blk_alloc ?_ _)); refine blk_far ?_ NB179_180.out _; (with_reducible repeat (first | refine blk_drewN ?_ _ | refine blk_drew ?_ | refine blk_alloc ?_ _)); refine blk_far ?_ NB179_180.out _; (with_reducible repeat (first | refine blk_drewN ?_ _ | refine blk_drew ?_ | refine blk_alloc ?_ _)); refine blk_far ?_ NB179_180.out _; (with_reducible repeat (first | refine blk_drewN ?_ _ | refine blk_drew ?_ | refine blk_alloc ?_ _)); refine blk_far ?_ NB179_180.out _; exact uB <| BK179.out))⟩; have n1_ : Aside0 (w9.heap[gb180]? = some (.cells #[.int .i64 1, .int .i64 a1, .bool false, .int .i64 a1, .int .i64 a1] 54 (0, 0))) := ⟨(by rw [hw]; exact (by (with_reducible repeat (first | refine blk_drewN ?_ _ | refine blk_drew ?_ | refine blk_alloc ?_ _)); refine blk_put (cs := #[.int .i64 1, .int .i64 a1, .bool false, .int .i64 a1, .int .i64 0]) ?_ 4 _ rfl; (with_reducible repeat (first | refine blk_drewN ?_ _ | refine blk_drew ?_ | refine blk_alloc ?_ _)); refine blk_put (cs := #[.int .i64 1, .int .i64 a1, .bool false, .int .i64 0, .int .i64 0]) ?_ 3 _ rfl; (with_reducible repeat (first | refine blk_drewN ?_ _ | refine blk_drew ?_ | refine blk_alloc ?_ _)); refine blk_put (cs := #[.int .i64 1, .int .i64 a1, .bool false, .int .i64 0, .int .i64 0]) ?_ 2 _ rfl; (with_reducible repeat (first | refine blk_drewN ?_ _ | refine blk_drew ?_ | refine blk_alloc ?_ _)); refine blk_put (cs := #[.int .i64 1, .int .i64 0, .bool false, .int .i64 0, .int .i64 0]) ?_ 1 _ rfl; (with_reducible repeat (first | refine blk_drewN ?_ _ | refine blk_drew ?_ | refine blk_alloc ?_ _)); refine blk_put (cs := #[.int .i64 0, .int .i64 0, .bool false, .int .i64 0, .int .i64 0]) ?_ 0 _ rfl; exact uB <| BK180.out))⟩; have n2_ : Aside0 (Below w.heap.size w w9) := ⟨(by rw [hw]; exact bl)⟩; clear hw; clear BK179; clear BK180; clear HB; have BK179 := n0_; have BK180 := n1_; have HB := n2_; clear n0_ n1_ n2_))
  refine bodyPost_ret (results_cell_row rfl _ _ gb180 54 #[.int .i64 1, .int .i64 a1, .bool false, .int .i64 a1, .int .i64 a1] (0, 0) _ rfl (uB BK180.out) Try.underlying54 rfl (by kernel_rfl)) rfl ?_
  exact ⟨re_, bl⟩
 ·
  rw [if_neg c3] at H
  exact absurd H (by simp)
def ebbtideref10_Put.f (k : Nat) (l0 : List (S96)) (l1 : List (S96)) : Option ((List (S96)) × Int) := (some (([] : List (S96)) : List (S96))).bind fun y181 => (if y181.length + l0.length < 2932031007402 then ((some (y181 ++ l0 : List (S96))).bind fun y184 => (if y184.length + l1.length < 2932031007402 then ((some (y184 ++ l1 : List (S96))).bind fun y187 => ((ebbtideref10_Right.f k y187).bind fun t190 => (if t190 = true then (some (y187, 0)) else (none)))) else (none))) else (none))
theorem ebbtideref10_Put.mono : ∀ a0 a1 k, LeO (ebbtideref10_Put.f k a0 a1) (ebbtideref10_Put.f (k + 1) a0 a1) := by
 intro a0 a1 k
 unfold ebbtideref10_Put.f
 exact lo
instance ebbtideref10_Put.mI {a0 a1 k} : LeC (ebbtideref10_Put.f k a0 a1) (ebbtideref10_Put.f (k + 1) a0 a1) := ⟨ebbtideref10_Put.mono _ _ _⟩
theorem ebbtideref10_Put.calls (k : Nat) (A0 : Option Addr) (c0 : Nat) (l0 : List (S96)) (A1 : Option Addr) (c1 : Nat) (l1 : List (S96)) (r1 : List (S96)) (r2 : Int) (w : World) (hr0 : Kd.C k96 w A0 l0.length l0) (hc0 : l0.length ≤ c0) (hr1 : Kd.C k96 w A1 l1.length l1) (hc1 : l1.length ≤ c1) (h : ebbtideref10_Put.f k l0 l1 = some (r1, r2)) :
 Calls Try.prog 55 #[.slice A0 l0.length c0, .slice A1 l1.length c1] w fun e w' => ∃ v0_ : Value, e = .returned (.tuple #[v0_, .int .i64 r2]) ∧ Kd.R k96 96 w' w.heap.size (fun _ => True) v0_ r1 ∧ Below w.heap.size w w' := by
 have HR0 := Aside0.mk hr0
 have HC0 := Aside0.mk hc0
 clear hr0 hc0
 have HR1 := Aside0.mk hr1
 have HC1 := Aside0.mk hc1
 clear hr1 hc1
 have HB := Aside0.mk (Below.refl w.heap.size w)
 have H : ((some (([] : List (S96)) : List (S96))).bind fun y181 => (if y181.length + l0.length < 2932031007402 then ((some (y181 ++ l0 : List (S96))).bind fun y184 => (if y184.length + l1.length < 2932031007402 then ((some (y184 ++ l1 : List (S96))).bind fun y187 => ((ebbtideref10_Right.f k y187).bind fun t190 => (if t190 = true then (some (y187, 0)) else (none)))) else (none))) else (none))) = some (r1, r2) := h
 clear h
 obtain ⟨y181, Ny181, H⟩ := ys H
 try dsimp only at H
 by_cases c3 : y181.length + l0.length < 2932031007402
 ·
  rw [if_pos c3] at H
  have LMc3 := Aside0.mk c3
  clear c3
  obtain ⟨y184, Ny184, H⟩ := ys H
  try dsimp only at H
  obtain ⟨c4, H⟩ := gd H
  have LMc4 := Aside0.mk c4
  clear c4
  obtain ⟨y187, Ny187, H⟩ := ys H
  try dsimp only at H
  obtain ⟨t190, A5, H⟩ := bs H
  try dsimp only at H
  by_cases c6 : t190 = true
  ·
   subst c6
   rw [if_pos rfl] at H
   simp only [Option.some.injEq, Prod.mk.injEq] at H
   obtain ⟨rfl, rfl⟩ := H
   go_enter Try.func55, Try.ntmps55
   go_wp2_with (first | ((with_reducible refine gate_dst (N := 7) rfl ?_); refine Kd.R_lit k96 _ 96 ?hg (N := 7) ?hd (xs := ([] : List (S96))) (inner := []) (ok := fun _ => True) (okp := fun _ => True) ?hr ?hp (fun _ hk => hk) trivial (Below.refl _ _) (Nat.le_refl _) (by simp) ?_; (case hd => rfl); (case hg => rfl); (case hr => first | (go_simp; done) | (go_simp; rfl)); (case hp => exact (Reps.none _ _)); intro v182 w7 ho8 hb hg_ hnew_; clear hg_ hnew_; (first | rw [← Ny181.out] at ho8 | (simp only [Int.reduceToNat] at ho8; rw [← Ny181.out] at ho8)); have HO183 := Aside0.mk (Kd.R_lower ho8 (below_size (uW HB.out))); replace HB := cW HB hb; clear hb ho8) | ((with_reducible refine gate_builtin (b := .append) (xs := #[.tmp 7, .tmp 8]) rfl ?_); at_builtin; refine Kd.R_append_rows k96 (w0 := w) w.heap.size rfl (.tmp 7) (.tmp 8) 68 96 (.agg #[(.int .i64 0), (.int .i64 0), (.int .i64 0), (.bool false), (.int .i64 0), (.int .i64 0)]) 48 rfl Try.underlying68 info96 rfl (by decide) (by omega) v182 y181 l0 _ _ _ (fun _ => True) (fun _ => False) rfl rfl ?aO ?aR (fun _ _ h => h) (fun _ h => h.elim) ?aF ?aB ?aS ?aL ?_; (case aR => exact uC <| (Kd.C_below HR0.out HB.out)); (case aB => exact (uW HB.out)); (case aF => exact (fun _ _ => trivial)); (case aO => exact (uR HO183.out)); (case aS => exact (below_size (uW HB.out))); (case aL => have := LMc3.out; omega); intro v185 w9 ho hb hg hat; rw [← Ny184.out] at ho; replace HB := Aside0.mk (hb); have HO186 := Aside0.mk (ho); clear HO183; clear ho hb hg hat) | ((with_reducible refine gate_builtin (b := .append) (xs := #[.tmp 9, .tmp 10]) rfl ?_); at_builtin; refine Kd.R_append_rows k96 (w0 := w) w.heap.size rfl (.tmp 9) (.tmp 10) 68 96 (.agg #[(.int .i64 0), (.int .i64 0), (.int .i64 0), (.bool false), (.int .i64 0), (.int .i64 0)]) 48 rfl Try.underlying68 info96 rfl (by decide) (by omega) v185 y184 l1 _ _ _ (fun _ => True) (fun _ => False) rfl rfl ?aO ?aR (fun _ _ h => h) (fun _ h => h.elim) ?aF ?aB ?aS ?aL ?_; (case aR => exact uC <| (Kd.C_below HR1.out HB.out)); (case aB => exact (uW HB.out)); (case aF => exact (fun _ _ => trivial)); (case aO => exact (uR HO186.out)); (case aS => exact (below_size (uW HB.out))); (case aL => have := LMc4.out; omega); intro v188 w10 ho hb hg hat; rw [← Ny187.out] at ho; replace HB := Aside0.mk (hb); have HO189 := Aside0.mk (ho); clear HO186; clear ho hb hg hat; obtain ⟨Ao11, co11, eo11⟩ := Kd.R_slice HO189.out; subst eo11) | (refine gL (some 13) rfl Try.func54 #[.slice Ao11 y187.length co11] ?_; (with_reducible refine (ebbtideref10_Right.calls k _ _ y187 true _ ?side1 ?side2 A5.out).mono ?_); (case side1 => exact uC <| (Kd.R_reads' HO189.out).2.2); (case side2 => exact (Kd.R_reads' HO189.out).2.1); rintro e w' ⟨rfl, ⟨nd, rfl⟩⟩; refine ⟨_, rfl, ?_⟩))
   go_ret2
   exact ⟨_, re_, uR HO189.out, uW HB.out⟩
  ·
   replace c6 := Bool.eq_false_iff.mpr c6
   subst c6
   rw [if_neg (show ¬ (false = true) by decide)] at H
   exact absurd H (by simp)
 ·
  rw [if_neg c3] at H
  exact absurd H (by simp)
def ebbtideref10_Fold.f (k : Nat) (l0 : List (S96)) (a1 : Int) (a2 : Int) : Option ((List (S96)) × Int) := if (l0.length : Int) > 0 then (none) else ((ebbtideref06_Fold.f 0 0 false 0 0 a2).bind fun bt192 => ((ebbtideref10_Put.f k l0 (([(⟨a1, (⟨bt192.1, (⟨bt192.2.1, bt192.2.2.1⟩ : S52), bt192.2.2.2.1, bt192.2.2.2.2⟩ : S54)⟩ : S96)] : List (S96)))).bind fun bt200 => (some (bt200.1, bt200.2))))
theorem ebbtideref10_Fold.mono : ∀ a0 a1 a2 k, LeO (ebbtideref10_Fold.f k a0 a1 a2) (ebbtideref10_Fold.f (k + 1) a0 a1 a2) := by
 intro a0 a1 a2 k
 unfold ebbtideref10_Fold.f
 exact lo
instance ebbtideref10_Fold.mI {a0 a1 a2 k} : LeC (ebbtideref10_Fold.f k a0 a1 a2) (ebbtideref10_Fold.f (k + 1) a0 a1 a2) := ⟨ebbtideref10_Fold.mono _ _ _ _⟩
theorem ebbtideref10_Fold.calls (k : Nat) (A0 : Option Addr) (c0 : Nat) (l0 : List (S96)) (a1 : Int) (a2 : Int) (r1 : List (S96)) (r2 : Int) (w : World) (hr0 : Kd.C k96 w A0 l0.length l0) (hc0 : l0.length ≤ c0) (h : ebbtideref10_Fold.f k l0 a1 a2 = some (r1, r2)) :
 Calls Try.prog 42 #[.slice A0 l0.length c0, .int .i64 a1, .int .i64 a2] w fun e w' => ∃ v0_ : Value, e = .returned (.tuple #[v0_, .int .i64 r2]) ∧ Kd.R k96 96 w' w.heap.size (fun _ => True) v0_ r1 ∧ Below w.heap.size w w' := by
 have hu54 := Try.underlying54
 have hu96 := Try.underlying96
 have HR0 := Aside0.mk hr0
 have HC0 := Aside0.mk hc0
 clear hr0 hc0
 have HB := Aside0.mk (Below.refl w.heap.size w)
 have H : (if (l0.length : Int) > 0 then (none) else ((ebbtideref06_Fold.f 0 0 false 0 0 a2).bind fun bt192 => ((ebbtideref10_Put.f k l0 (([(⟨a1, (⟨bt192.1, (⟨bt192.2.1, bt192.2.2.1⟩ : S52), bt192.2.2.2.1, bt192.2.2.2.2⟩ : S54)⟩ : S96)] : List (S96)))).bind fun bt200 => (some (bt200.1, bt200.2))))) = some (r1, r2) := h
 clear h
 obtain ⟨c4, H⟩ := gn H
 have c4b0 : decide (0 < (l0.length : Int)) = false := decide_eq_false c4
 have c4b1 : decide (0 < l0.length) = false := decide_eq_false (by omega)
 clear c4
 obtain ⟨⟨t192, t193, t194, t195, t196⟩, A5, H⟩ := bs H
 try dsimp only at H
 obtain ⟨y197, hy197⟩ : ∃ y_ : List (S96), y_ = (([(⟨a1, (⟨t192, (⟨t193, t194⟩ : S52), t195, t196⟩ : S54)⟩ : S96)] : List (S96))) := ⟨_, rfl⟩
 replace H : ((ebbtideref10_Put.f k l0 y197).bind fun bt200 => (some (bt200.1, bt200.2))) = some (r1, r2) := by first | (rw [hy197]; with_reducible exact H) | (have H2_ := (Option.bind_some _ _).symm.trans H; rw [hy197]; with_reducible exact H2_) | (have H2_ := (Option.bind_some _ _).symm.trans H; with_reducible exact H2_) | with_reducible exact H | (rw [hy197]; exact H) | exact H
 have Ny197 := Aside0.mk hy197
 clear hy197
 obtain ⟨⟨t200, t201⟩, A6, H⟩ := bs H
 try dsimp only at H
 simp only [Option.some.injEq, Prod.mk.injEq] at H
 obtain ⟨rfl, rfl⟩ := H
 go_enter Try.func42, Try.ntmps42
 go_wp2_with (first | ((with_reducible refine gate_dst (N := 8) rfl ?_); refine bx (N := 8) #[.int .i64 0, .int .i64 0, .bool false, .int .i64 0, .int .i64 0] 54 ?_; intro gb191 hg w7 hbox hb; have BK191 := Aside0.mk (hbox); have GW191 := gw hg (uW HB.out); have GE191 := GW191; replace HB := cW HB hb; clear hb hbox hg; obtain ⟨hcz8_0, hcz8_1, hcz8_2, hcz8_3, hcz8_4, hfz8_0, hfz8_1, hfz8_2, hfz8_3, hfz8_4⟩ := z5 BK191) | ((with_reducible refine gate_store (t := 54) (p := 8) rfl ?_); refine store_event (t := 54) (p := 8) (v := ?vo_w9) (w1 := (((((w7.setCell ⟨gb191, 0, none⟩ (.int .i64 0)).setCell ⟨gb191, 1, none⟩ (.int .i64 0)).setCell ⟨gb191, 2, none⟩ (.bool false)).setCell ⟨gb191, 3, none⟩ (.int .i64 0)).setCell ⟨gb191, 4, none⟩ (.int .i64 0))) ?hg ?ho ?hn ?hr ?_; (case ho => rfl); (case hg => rfl); (case hn => rfl); (case hr => first | (go_simp; done) | (go_simp; rfl)); intro w9 hw; have n0_ : Aside0 (w9.heap[gb191]? = some (.cells #[.int .i64 0, .int .i64 0, .bool false, .int .i64 0, .int .i64 0] 54 (0, 0))) := ⟨(by rw [hw]; exact (by (with_reducible repeat (first | refine blk_drewN ?_ _ | refine blk_drew ?_ | refine blk_alloc ?_ _)); refine blk_put (cs := #[.int .i64 0, .int .i64 0, .bool false, .int .i64 0, .int .i64 0]) ?_ 4 _ rfl; (with_reducible repeat (first | refine blk_drewN ?_ _ | refine blk_drew ?_ | refine blk_alloc ?_ _)); refine blk_put (cs := #[.int .i64 0, .int .i64 0, .bool false, .int .i64 0, .int .i64 0]) ?_ 3 _ rfl; (with_reducible repeat (first | refine blk_drewN ?_ _ | refine blk_drew ?_ | refine blk_alloc ?_ _)); refine blk_put (cs := #[.int .i64 0, .int .i64 0, .bool false, .int .i64 0, .int .i64 0]) ?_ 2 _ rfl; (with_reducible repeat (first | refine blk_drewN ?_ _ | refine blk_drew ?_ | refine blk_alloc ?_ _)); refine blk_put (cs := #[.int .i64 0, .int .i64 0, .bool false, .int .i64 0, .int .i64 0]) ?_ 1 _ rfl; (with_reducible repeat (first | refine blk_drewN ?_ _ | refine blk_drew ?_ | refine blk_alloc ?_ _)); refine blk_put (cs := #[.int .i64 0, .int .i64 0, .bool false, .int .i64 0, .int .i64 0]) ?_ 0 _ rfl; exact uB <| BK191.out))⟩; have n1_ : Aside0 (Below w.heap.size w w9) := ⟨(by rw [hw]; exact bl)⟩; clear hw; clear BK191; clear HB; have BK191 := n0_; have HB := n1_; clear n0_ n1_; obtain ⟨hcz10_0, hcz10_1, hcz10_2, hcz10_3, hcz10_4, hfz10_0, hfz10_1, hfz10_2, hfz10_3, hfz10_4⟩ := z5 BK191) | (refine gL (some 24) rfl Try.func43 #[.agg #[.int .i64 0, .int .i64 0, .bool false, .int .i64 0, .int .i64 0], .int .i64 a2] ?_; (with_reducible refine (ebbtideref06_Fold.calls 0 0 false 0 0 a2 t192 t193 t194 t195 t196 _ A5.out).mono ?_); rintro e w11 ⟨rfl, hb⟩; refine ⟨_, rfl, ?_⟩; replace BK191 := cB BK191 hb; replace HB := Aside0.mk (below_step bl hb); (try clear hb)) | ((with_reducible refine gate_dst (N := 26) rfl ?_); refine Kd.R_lit k96 _ 96 ?hg (N := 26) ?hd (xs := ([(⟨a1, (⟨t192, (⟨t193, t194⟩ : S52), t195, t196⟩ : S54)⟩ : S96)] : List (S96))) (inner := [.int .i64 a1, .int .i64 t192, .int .i64 t193, .bool t194, .int .i64 t195, .int .i64 t196]) (ok := fun _ => True) (okp := fun _ => True) ?hr ?hp (fun _ hk => hk) trivial (Below.refl _ _) (Nat.le_refl _) (by simp) ?_; (case hd => rfl); (case hg => rfl); (case hr => first | (go_simp; done) | (go_simp; rfl)); (case hp => exact (Reps.c6 (show Kd.M k96 _ _ _ (⟨a1, (⟨t192, (⟨t193, t194⟩ : S52), t195, t196⟩ : S54)⟩ : S96) [.int .i64 a1, .int .i64 t192, .int .i64 t193, .bool t194, .int .i64 t195, .int .i64 t196] from (k96_mkM _ _ _ (⟨a1, (⟨t192, (⟨t193, t194⟩ : S52), t195, t196⟩ : S54)⟩ : S96) )) (Reps.none _ _))); intro v198 w12 ho13 hb hg_ hnew_; clear hg_ hnew_; (first | rw [← Ny197.out] at ho13 | (simp only [Int.reduceToNat] at ho13; rw [← Ny197.out] at ho13)); have HO199 := Aside0.mk (Kd.R_lower ho13 (below_size bl)); replace BK191 := cB BK191 hb; replace HB := Aside0.mk (below_step bl hb); clear hb ho13; obtain ⟨Ao14, co14, eo14⟩ := Kd.R_slice HO199.out; subst eo14) | (refine gL (some 27) rfl Try.func55 #[.slice A0 l0.length c0, .slice Ao14 y197.length co14] ?_; (with_reducible refine (ebbtideref10_Put.calls k _ _ l0 _ _ y197 t200 t201 _ ?side1 ?side2 ?side3 ?side4 A6.out).mono ?_); (case side1 => exact uC <| (Kd.C_below HR0.out HB.out)); (case side2 => exact HC0.out); (case side3 => exact uC <| (Kd.R_reads' HO199.out).2.2); (case side4 => exact (Kd.R_reads' HO199.out).2.1); rintro e w15 ⟨v202, rfl, ho0, hb⟩; refine ⟨_, rfl, ?_⟩; have HO203 := Aside0.mk (Kd.R_lower (Kd.R_new' ho0 (Kd.R_lt (uR HO199.out))) (below_size bl)); replace HO199 := Aside0.mk (Kd.R_elder' (uR HO199.out) (Kd.R_base ho0) hb); replace BK191 := cB BK191 hb; replace HB := Aside0.mk (below_step bl hb); (try clear hb); (try clear ho0)))
 go_ret2
 exact ⟨_, re_, by exact uR <| Kd.R_mono HO203.out (fun _ hk => trivial), bl⟩
end Go.Proofs.Ytklhjponikgkkaa.X
