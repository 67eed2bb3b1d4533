/- Printed by a program of this session's own: what functions of the program compute, and that the machine computes it. -/
import Derived.Test.YtklhjponikgkkaaXx0
import Derived.Test.YtklhjponikgkkaaXx6
import Derived.Test.YtklhjponikgkkaaXxS
namespace Go.Proofs.Ytklhjponikgkkaa.X
open Go.RowKit Go.Proofs.YtklhjponikgkkaaW.PrintWords Go.Proofs.YtklhjponikgkkaaW.PrintLast Go.Proofs.YtklhjponikgkkaaW.PrintMore
attribute [local go_sem] max2_int min2_int max_two min_two max_three min_three max_four min_four   -- for this text's walks alone
set_option linter.unusedVariables false
set_option linter.unusedSimpArgs false

/-! ### ebbtideref11_Right: function 40 -/
def ebbtideref11_Right.l0 : Nat → Int → List (S70) → Option (Bool)
 | 0, _, _ => none
 | k + 1, x3, x174000 => if x3 < (x174000.length : Int) then (if 0 ≤ x3 then (if (((rd_T70 x174000 x3).f2).length : Int) = 0 then (some false) else ((ebbtideref10_Right.f k ((rd_T70 x174000 x3).f2)).bind fun t176 => (if t176 = true then (if x3 > 0 then (if 0 ≤ (wrap64 (x3 - 1)) then (if (wrap64 (x3 - 1)) < (x174000.length : Int) then ((ebbtideref11_less.f ((rd_T70 x174000 (wrap64 (x3 - 1))).f0) ((rd_T70 x174000 (wrap64 (x3 - 1))).f1) ((rd_T70 x174000 (wrap64 (x3 - 1))).f2) ((rd_T70 x174000 x3).f0) ((rd_T70 x174000 x3).f1)).bind fun t178 => (if t178 = true then (ebbtideref11_Right.l0 k (wrap64 (x3 + 1)) x174000) else (some false))) else (none)) else (none)) else (ebbtideref11_Right.l0 k (wrap64 (x3 + 1)) x174000)) else (some false)))) else (none)) else (some true)
def ebbtideref11_Right.f (k : Nat) (l0_0 : List (S70)) : Option (Bool) := ebbtideref11_Right.l0 k 0 l0_0
theorem ebbtideref11_Right.mono_l : ∀ k, (∀ y0 y1, LeO (ebbtideref11_Right.l0 k y0 y1) (ebbtideref11_Right.l0 (k + 1) y0 y1))
 | 0 => fun _ _ r h => by simp [ebbtideref11_Right.l0] at h
 | k + 1 => by
  have ih0 := ebbtideref11_Right.mono_l k
  ·
   intro y0 y1
   unfold ebbtideref11_Right.l0
   repeat' first
   | (with_reducible exact ih0 _ _)
   | (with_reducible exact ebbtideref10_Right.mono _ _)
   | (with_reducible exact LeO.refl _)
   | (with_reducible exact LeO.none _)
   | (with_reducible refine LeO.ite ?_ ?_)
   | (with_reducible refine LeO.bind ?_ (fun _ => ?_))
   | exact ih0 _ _
   | exact ebbtideref10_Right.mono _ _
   | exact LeO.none _
   | refine LeO.ite ?_ ?_
   | refine LeO.bind ?_ (fun _ => ?_)
theorem ebbtideref11_Right.mono : ∀ a0 k, LeO (ebbtideref11_Right.f k a0) (ebbtideref11_Right.f (k + 1) a0) := by
 intro a0 k
 have ih0 := ebbtideref11_Right.mono_l k
 unfold ebbtideref11_Right.f
 repeat' first
  | (with_reducible exact ih0 _ _)
  | (with_reducible exact ebbtideref10_Right.mono _ _)
  | (with_reducible exact LeO.refl _)
  | (with_reducible exact LeO.none _)
  | (with_reducible refine LeO.ite ?_ ?_)
  | (with_reducible refine LeO.bind ?_ (fun _ => ?_))
  | exact ih0 _ _
  | exact ebbtideref10_Right.mono _ _
  | exact LeO.none _
  | refine LeO.ite ?_ ?_
  | refine LeO.bind ?_ (fun _ => ?_)
def ebbtideref11_Right.T5 : Bool × List (List Nat × List Nat) := (true, [([], []), ([0], [0]), ([1], [1]), ([2], [2]), ([3], [3]), ([4], [4]), ([5, 4], [4, 5]), ([6, 4, 4], [4, 6]), ([7, 4], [4, 7]), ([4, 8], [4, 8]), ([9, 7], [9]), ([10], [10]), ([11, 10], [10, 11]), ([12, 10, 10], [10, 12]), ([13], [13]), ([14, 13], [13, 14]), ([13], [13]), ([16, 13], [13, 16]), ([15, 17, 13], [13, 15, 17]), ([18, 13], [13, 18]), ([13], [13]), ([20, 13], [13, 20]), ([13], [13]), ([22, 13], [13, 22]), ([19, 21, 23, 13, 13], [13, 19, 21, 23]), ([24, 13], [13, 24]), ([13, 25, 10], [10, 13, 25]), ([10, 26], [10, 26])])
def ebbtideref11_Right.B5 : List Nat := [0, 1, 3, 7, 15, 31, 63, 127, 255, 511, 1023, 2047, 4095, 8191, 16383, 32767, 16383, 81919, 262143, 524287, 16383, 1064959, 16383, 4210687, 16777215, 33554431, 67108863, 134217727]
theorem ebbtideref11_Right.tab5 : rtab .any (opsOf Try.f40 5) = ebbtideref11_Right.T5 := by kernel_rfl
theorem ebbtideref11_Right.bits5 : waitsOk ebbtideref11_Right.T5.2 ebbtideref11_Right.B5 = true := by kernel_rfl
set_option maxHeartbeats 8000000 in
set_option maxRecDepth 100000 in
theorem ebbtideref11_Right.calls (k : Nat) (A0_0 : Option Addr) (c0_0 : Nat) (l0_0 : List (S70)) (r : Bool) (w : World) (hr0_0 : Kd.C k70 w A0_0 l0_0.length l0_0) (hc0_0 : l0_0.length ≤ c0_0) (h : ebbtideref11_Right.f k l0_0 = some r) :
 Calls Try.prog 40 #[.agg #[.slice A0_0 l0_0.length c0_0]] w fun e w' => e = .returned (.bool r) ∧ Below w.heap.size w w' := by
 have hu50 := Try.underlying50
 have hu70 := Try.underlying70
 have HR0_0 := Aside0.mk hr0_0
 have HC0_0 := Aside0.mk hc0_0
 clear hr0_0 hc0_0
 have HB := Aside0.mk (Below.refl w.heap.size w)
 have H : (ebbtideref11_Right.l0 k 0 l0_0) = some r := h
 clear h
 have H' := Aside0.mk H
 clear H
 go_enter Try.func40, Try.ntmps40
 go_wp2_with (first | ((with_reducible refine gate_dst (N := 1) rfl ?_); refine box_event ?hg (N := 1) ?hd (cs := #[.slice A0_0 l0_0.length c0_0]) (t := 50) ?hr ?_; (case hd => rfl); (case hg => rfl); (case hr => first | (go_simp; done) | (go_simp; rfl)); intro gb173 hg w2 hbox hb; have BK173 := Aside0.mk (hbox); have GW173 := Aside0.mk ((by rw [hg]; exact (below_size (uW HB.out)) : w.heap.size ≤ gb173)); have GE173 := Aside0.mk ((by rw [hg]; exact (below_size (uW HB.out)) : w.heap.size ≤ gb173)); replace HB := cW HB hb; clear hb hbox hg))
 go_loopg [3] k (fun kq v3 w' => ∃ (x3_1 : Int), v3 = .int .i64 x3_1 ∧ Aside0 (ebbtideref11_Right.l0 kq x3_1 l0_0 = some r) ∧ Aside0 (kq ≤ k) ∧ Aside0 (w'.heap[gb173]? = some (.cells #[(.slice A0_0 l0_0.length c0_0)] 50 (0, 0))) ∧ Aside0 (Below w.heap.size w w'))
 case atStart => exact ⟨(0), (by first | rfl | (simp; done) | (simp [*]; done)), H', ⟨Nat.le_refl _⟩, ⟨by exact uB <| BK173.out⟩, ⟨by repeat (first | (with_reducible first | exact HB.out | apply below_alloc | apply pw_below_drewN | apply below_drew1 | refine below_set ?_ GE173.out) | exact HB.out)⟩⟩
 case round =>
  clear H'
  try clear p2
  obtain ⟨x3_1, rfl, HA, HK1, BK173, HB⟩ := hrel
  cases gk with
  | zero => exact absurd HA.out (by simp [ebbtideref11_Right.l0])
  | succ k1 =>
   have H := HA.out
   clear HA
   simp only [ebbtideref11_Right.l0] at H
   by_cases c3 : x3_1 < (l0_0.length : Int)
   ·
    rw [if_pos c3] at H
    have c3b0 : decide (x3_1 < (l0_0.length : Int)) = true := decide_eq_true c3
    clear c3
    obtain ⟨c4, H⟩ := gd H
    have c4b0 : decide (0 ≤ x3_1) = true := decide_eq_true c4
    clear c4
    by_cases c5 : (((rd_T70 l0_0 x3_1).f2).length : Int) = 0
    ·
     rw [if_pos c5] at H
     have c5b0 : ((((rd_T70 l0_0 x3_1).f2).length : Int) == 0) = true := beq_iff_eq.mpr c5
     have c5b1 : ((((rd_T70 l0_0 x3_1).f2).length : Int) != 0) = false := bne_eq_false_iff_eq.mpr c5
     clear c5
     obtain rfl := Option.some.inj H
     have hcz6_0 : wr.cell? ⟨gb173, 0, none⟩ = some (.slice A0_0 l0_0.length c0_0) := (blk_cell BK173.out 0).trans rfl
     have hfz6_0 := blk_frozen BK173.out 0
     have p174 : 0 ≤ (x3_1 : Int) := od
     have q174 : x3_1 < (l0_0.length : Int) := od
     obtain ⟨ad174, A174_2, c174_2, e174, hx174_0, hx174_1, hx174_2, hl174_2, hi174_2⟩ := at_T70 HR0_0.out x3_1 p174 q174
     cases e174
     replace hx174_0 := kc HB hx174_0
     replace hx174_1 := kc HB hx174_1
     replace hx174_2 := kc HB hx174_2
     have HR174_2 := Aside0.mk hi174_2
     have HC174_2 := Aside0.mk hl174_2
     clear hi174_2 hl174_2
     replace p174 := eq_true p174
     replace q174 := eq_true q174
     try go_wp2_with (first | ((with_reducible refine gate_dst (N := 4) rfl ?_); refine box_event ?hg (N := 4) ?hd (cs := #[.int .i64 0, .string (⟨#[]⟩ : ByteArray), .slice none 0 0]) (t := 70) ?hr ?_; (case hd => rfl); (case hg => rfl); (case hr => first | (go_simp; done) | (go_simp; rfl)); intro gb175 hg w7 hbox hb; have BK175 := Aside0.mk (hbox); have GW175 := Aside0.mk ((by rw [hg]; exact (below_size (by repeat (first | (with_reducible first | exact HB.out | apply below_alloc | apply pw_below_drewN | apply below_drew1 | refine below_set ?_ GE173.out) | exact HB.out))) : w.heap.size ≤ gb175)); have GE175 := Aside0.mk ((by rw [hg]; exact (below_size (by repeat (first | (with_reducible first | exact HB.out | apply below_alloc | apply pw_below_drewN | apply below_drew1 | refine below_set ?_ GE173.out) | exact HB.out))) : w.heap.size ≤ gb175)); replace HB := Aside0.mk (below_step (by repeat (first | (with_reducible first | exact HB.out | apply below_alloc | apply pw_below_drewN | apply below_drew1 | refine below_set ?_ GE173.out) | exact HB.out)) hb); have NB173_175 := Aside0.mk ((by rw [hg]; exact Nat.ne_of_lt (blk_lt (g := gb173) (o := .cells #[.slice (some ad174) l0_0.length c0_0] 50 (0, 0)) (uB BK173.out)) : gb173 ≠ gb175)); have NB175_173 := Aside0.mk ((by rw [hg]; exact Nat.ne_of_gt (blk_lt (g := gb173) (o := .cells #[.slice (some ad174) l0_0.length c0_0] 50 (0, 0)) (uB BK173.out)) : gb175 ≠ gb173)); replace BK173 := cB BK173 hb; clear hb hbox hg; have hnb8 := NB175_173.out; have hnc8 := NB173_175.out; have hcz9_0 : w7.cell? ⟨gb175, 0, none⟩ = some (.int .i64 0) := (blk_cell BK175.out 0).trans rfl; have hcz9_1 : w7.cell? ⟨gb175, 1, none⟩ = some (.string (⟨#[]⟩ : ByteArray)) := (blk_cell BK175.out 1).trans rfl; have hcz9_2 : w7.cell? ⟨gb175, 2, none⟩ = some (.slice none 0 0) := (blk_cell BK175.out 2).trans rfl; have hfz9_0 := blk_frozen BK175.out 0; have hfz9_1 := blk_frozen BK175.out 1; have hfz9_2 := blk_frozen BK175.out 2))
     have n0_ : Aside0 ((((w7.setCell ⟨gb175, 0, none⟩ (.int .i64 ((rd_T70 l0_0 x3_1).f0))).setCell ⟨gb175, 1, none⟩ (.string ((rd_T70 l0_0 x3_1).f1))).setCell ⟨gb175, 2, none⟩ (.slice A174_2 ((rd_T70 l0_0 x3_1).f2).length c174_2)).heap[gb173]? = some (.cells #[.slice (some ad174) l0_0.length c0_0] 50 (0, 0))) := ⟨by (with_reducible repeat (first | refine blk_drewN ?_ _ | refine blk_drew ?_ | refine blk_alloc ?_ _)); refine blk_far ?_ NB173_175.out _; (with_reducible repeat (first | refine blk_drewN ?_ _ | refine blk_drew ?_ | refine blk_alloc ?_ _)); refine blk_far ?_ NB173_175.out _; (with_reducible repeat (first | refine blk_drewN ?_ _ | refine blk_drew ?_ | refine blk_alloc ?_ _)); refine blk_far ?_ NB173_175.out _; exact uB <| BK173.out⟩
     have n1_ : Aside0 ((((w7.setCell ⟨gb175, 0, none⟩ (.int .i64 ((rd_T70 l0_0 x3_1).f0))).setCell ⟨gb175, 1, none⟩ (.string ((rd_T70 l0_0 x3_1).f1))).setCell ⟨gb175, 2, none⟩ (.slice A174_2 ((rd_T70 l0_0 x3_1).f2).length c174_2)).heap[gb175]? = some (.cells #[.int .i64 ((rd_T70 l0_0 x3_1).f0), .string ((rd_T70 l0_0 x3_1).f1), .slice A174_2 ((rd_T70 l0_0 x3_1).f2).length c174_2] 70 (0, 0))) := ⟨by (with_reducible repeat (first | refine blk_drewN ?_ _ | refine blk_drew ?_ | refine blk_alloc ?_ _)); refine blk_put (cs := #[.int .i64 ((rd_T70 l0_0 x3_1).f0), .string ((rd_T70 l0_0 x3_1).f1), .slice none 0 0]) ?_ 2 _ rfl; (with_reducible repeat (first | refine blk_drewN ?_ _ | refine blk_drew ?_ | refine blk_alloc ?_ _)); refine blk_put (cs := #[.int .i64 ((rd_T70 l0_0 x3_1).f0), .string (⟨#[]⟩ : ByteArray), .slice none 0 0]) ?_ 1 _ rfl; (with_reducible repeat (first | refine blk_drewN ?_ _ | refine blk_drew ?_ | refine blk_alloc ?_ _)); refine blk_put (cs := #[.int .i64 0, .string (⟨#[]⟩ : ByteArray), .slice none 0 0]) ?_ 0 _ rfl; exact uB <| BK175.out⟩
     have n2_ : Aside0 (Below w.heap.size w (((w7.setCell ⟨gb175, 0, none⟩ (.int .i64 ((rd_T70 l0_0 x3_1).f0))).setCell ⟨gb175, 1, none⟩ (.string ((rd_T70 l0_0 x3_1).f1))).setCell ⟨gb175, 2, none⟩ (.slice A174_2 ((rd_T70 l0_0 x3_1).f2).length c174_2))) := ⟨by repeat (first | (with_reducible first | exact HB.out | apply below_alloc | apply pw_below_drewN | apply below_drew1 | refine below_set ?_ GE173.out | refine below_set ?_ GE175.out) | exact HB.out)⟩
     (try clear BK173)
     (try clear BK175)
     (try clear HB)
     generalize (((w7.setCell ⟨gb175, 0, none⟩ (.int .i64 ((rd_T70 l0_0 x3_1).f0))).setCell ⟨gb175, 1, none⟩ (.string ((rd_T70 l0_0 x3_1).f1))).setCell ⟨gb175, 2, none⟩ (.slice A174_2 ((rd_T70 l0_0 x3_1).f2).length c174_2)) = w10 at n0_ n1_ n2_ ⊢
     have BK173 := n0_
     have BK175 := n1_
     have HB := n2_
     clear n0_ n1_ n2_
     have n0_ := Aside0.mk (blk_drew BK173.out)
     have n1_ := Aside0.mk (blk_drew BK175.out)
     have n2_ := Aside0.mk (below_drew1 HB.out)
     clear BK173
     clear BK175
     clear HB
     have BK173 := n0_
     have BK175 := n1_
     have HB := n2_
     clear n0_ n1_ n2_
     refine start_ (n := 28) (S := fun w' => w'.cell? ⟨gb175, 0, none⟩ = some (.int .i64 ((rd_T70 l0_0 x3_1).f0)) ∧ w'.cell? ⟨gb175, 1, none⟩ = some (.string ((rd_T70 l0_0 x3_1).f1)) ∧ w'.cell? ⟨gb175, 2, none⟩ = some (.slice A174_2 ((rd_T70 l0_0 x3_1).f2).length c174_2)) (ds := []) #[false, false, false, false, false, false, false, false, false, false, false, false, false, false, false, false, false, false, false, false, false, false, false, false, false, false, false, false] (by kernel_rfl) rfl rfl ⟨(blk_cell BK175.out 0).trans rfl, (blk_cell BK175.out 1).trans rfl, (blk_cell BK175.out 2).trans rfl⟩ (fun hHeld => ?_); refine with_tabW ebbtideref11_Right.tab5 ebbtideref11_Right.bits5 (fun HT_ HW_ => ?_)
     generalize w10.drew = w11 at BK173 BK175 HB hHeld ⊢
     refine pu 0 (some 17) rfl rfl (ao HT_) (fun _ _ _ h => h) ya aa ?_
     refine tk 1 (some 18) rfl rfl (tw HT_ HW_) (fun _ _ _ h => h) (Or.inl ⟨by rfl, by rintro w' ⟨s0, s1, s2⟩; go_simp; with_reducible rfl⟩) hHeld aa ?_
     refine pu 2 (some 19) rfl rfl (ao HT_) (fun _ _ _ h => h) ya aa ?_
     refine pu 3 (some 20) rfl rfl (ao HT_) (fun _ _ _ h => h) ya aa ?_
     refine pu 4 (some 21) rfl rfl (ao HT_) (fun _ _ _ h => h) ya aa ?_
     refine pu (v := undef) 5 (some 22) rfl rfl (ao HT_) (fun _ _ _ h => h) (Or.inr ⟨by rfl, rfl⟩) aa ?_
     refine pu (v := undef) 6 (some 23) rfl rfl (ao HT_) (fun _ _ _ h => h) (Or.inr ⟨by rfl, rfl⟩) aa ?_
     refine pu (v := undef) 7 (some 24) rfl rfl (ao HT_) (fun _ _ _ h => h) (Or.inr ⟨by rfl, rfl⟩) aa ?_
     refine pu (v := undef) 8 (some 25) rfl rfl (ao HT_) (fun _ _ _ h => h) (Or.inr ⟨by rfl, rfl⟩) aa ?_
     refine pu 9 (some 26) rfl rfl (ao HT_) (fun _ _ _ h => h) ya aa ?_
     refine pu 10 (some 27) rfl rfl (ao HT_) (fun _ _ _ h => h) ya aa ?_
     refine pu (v := undef) 11 (some 28) rfl rfl (ao HT_) (fun _ _ _ h => h) (Or.inr ⟨by rfl, rfl⟩) aa ?_
     refine pu (v := undef) 12 (some 29) rfl rfl (ao HT_) (fun _ _ _ h => h) (Or.inr ⟨by rfl, rfl⟩) aa ?_
     refine pu (v := undef) 13 (some 30) rfl rfl (ao HT_) (fun _ _ _ h => h) (Or.inr ⟨by rfl, rfl⟩) aa ?_
     refine pu (v := undef) 14 (some 31) rfl rfl (ao HT_) (fun _ _ _ h => h) (Or.inr ⟨by rfl, rfl⟩) aa ?_
     refine pu (v := undef) 15 (some 32) rfl rfl (ao HT_) (fun _ _ _ h => h) (Or.inr ⟨by rfl, rfl⟩) aa ?_
     refine pu (v := undef) 16 (some 33) rfl rfl (ao HT_) (fun _ _ _ h => h) (Or.inr ⟨by rfl, rfl⟩) aa ?_
     refine pu (v := undef) 17 (some 34) rfl rfl (ao HT_) (fun _ _ _ h => h) (Or.inr ⟨by rfl, rfl⟩) aa ?_
     refine pu (v := undef) 18 (some 35) rfl rfl (ao HT_) (fun _ _ _ h => h) (Or.inr ⟨by rfl, rfl⟩) aa ?_
     refine pu (v := undef) 19 (some 36) rfl rfl (ao HT_) (fun _ _ _ h => h) (Or.inr ⟨by rfl, rfl⟩) aa ?_
     refine pu (v := undef) 20 (some 37) rfl rfl (ao HT_) (fun _ _ _ h => h) (Or.inr ⟨by rfl, rfl⟩) aa ?_
     refine pu (v := undef) 21 (some 38) rfl rfl (ao HT_) (fun _ _ _ h => h) (Or.inr ⟨by rfl, rfl⟩) aa ?_
     refine pu (v := undef) 22 (some 39) rfl rfl (ao HT_) (fun _ _ _ h => h) (Or.inr ⟨by rfl, rfl⟩) aa ?_
     refine pu (v := undef) 23 (some 40) rfl rfl (ao HT_) (fun _ _ _ h => h) (Or.inr ⟨by rfl, rfl⟩) aa ?_
     refine pu (v := undef) 24 (some 41) rfl rfl (ao HT_) (fun _ _ _ h => h) (Or.inr ⟨by rfl, rfl⟩) aa ?_
     refine pu (v := undef) 25 (some 42) rfl rfl (ao HT_) (fun _ _ _ h => h) (Or.inr ⟨by rfl, rfl⟩) aa ?_
     refine pu (v := undef) 26 (some 43) rfl rfl (ao HT_) (fun _ _ _ h => h) (Or.inr ⟨by rfl, rfl⟩) aa ?_
     refine pu 27 (some 44) rfl rfl (ao HT_) (fun _ _ _ h => h) ya aa ?_
     refine done_ (done_of HT_.out (by kernel_rfl)) ?_
     try go_wp2
     go_ret
     exact ⟨by first | rfl | (simp [errW_none, errW_some] <;> rfl) | (simp [*, errW_none, errW_some] <;> rfl), by repeat (first | (with_reducible first | exact HB.out | apply below_alloc | apply pw_below_drewN | apply below_drew1 | refine below_set ?_ GE173.out | refine below_set ?_ GE175.out) | exact HB.out)⟩
    ·
     rw [if_neg c5] at H
     have c5b0 : ((((rd_T70 l0_0 x3_1).f2).length : Int) == 0) = false := beq_eq_false_iff_ne.mpr c5
     have c5b1 : ((((rd_T70 l0_0 x3_1).f2).length : Int) != 0) = true := bne_iff_ne.mpr c5
     have c5b2 : ¬ (((rd_T70 l0_0 x3_1).f2) = []) := fun h_ => c5 (by rw [h_]; rfl)
     replace H := Option.bind_eq_some_iff.mp H
     obtain ⟨t176, A120, H⟩ := H
     replace H : (if t176 = true then (if x3_1 > 0 then (if 0 ≤ (wrap64 (x3_1 - 1)) then (if (wrap64 (x3_1 - 1)) < (l0_0.length : Int) then ((ebbtideref11_less.f ((rd_T70 l0_0 (wrap64 (x3_1 - 1))).f0) ((rd_T70 l0_0 (wrap64 (x3_1 - 1))).f1) ((rd_T70 l0_0 (wrap64 (x3_1 - 1))).f2) ((rd_T70 l0_0 x3_1).f0) ((rd_T70 l0_0 x3_1).f1)).bind fun t178 => (if t178 = true then (ebbtideref11_Right.l0 k1 (wrap64 (x3_1 + 1)) l0_0) else (some false))) else (none)) else (none)) else (ebbtideref11_Right.l0 k1 (wrap64 (x3_1 + 1)) l0_0)) else (some false)) = some r := H
     have A12 := Aside0.mk A120
     clear A120
     by_cases c13 : t176 = true
     ·
      subst c13
      rw [if_pos rfl] at H
      by_cases c14 : x3_1 > 0
      ·
       rw [if_pos c14] at H
       have c14b0 : decide (0 < x3_1) = true := decide_eq_true c14
       clear c14
       obtain ⟨ji15, hji15⟩ : ∃ j_ : Int, (wrap64 (x3_1 - 1)) = j_ := ⟨_, rfl⟩
       replace H : (if 0 ≤ (ji15) then (if (ji15) < (l0_0.length : Int) then ((ebbtideref11_less.f ((rd_T70 l0_0 (ji15)).f0) ((rd_T70 l0_0 (ji15)).f1) ((rd_T70 l0_0 (ji15)).f2) ((rd_T70 l0_0 x3_1).f0) ((rd_T70 l0_0 x3_1).f1)).bind fun t178 => (if t178 = true then (ebbtideref11_Right.l0 k1 (wrap64 (x3_1 + 1)) l0_0) else (some false))) else (none)) else (none)) = some r := by first | (rw [hji15] at H; exact H) | (simp only [hji15] at H ⊢; exact H)
       (try rw [hji15] at A12)
       have hji15w : (IntKind.i64.wrap (x3_1 - 1)) = ji15 := (i64_w _).trans hji15
       obtain ⟨c16, H⟩ := gd H
       have c16b0 : decide (0 ≤ (ji15)) = true := decide_eq_true c16
       clear c16
       obtain ⟨c17, H⟩ := gd H
       have c17b0 : decide ((ji15) < (l0_0.length : Int)) = true := decide_eq_true c17
       clear c17
       replace H := Option.bind_eq_some_iff.mp H
       obtain ⟨t178, A180, H⟩ := H
       replace H : (if t178 = true then (ebbtideref11_Right.l0 k1 (wrap64 (x3_1 + 1)) l0_0) else (some false)) = some r := H
       have A18 := Aside0.mk A180
       clear A180
       by_cases c19 : t178 = true
       ·
        subst c19
        rw [if_pos rfl] at H
        have H' := Aside0.mk H
        clear H
        have hcz20_0 : wr.cell? ⟨gb173, 0, none⟩ = some (.slice A0_0 l0_0.length c0_0) := (blk_cell BK173.out 0).trans rfl
        have hfz20_0 := blk_frozen BK173.out 0
        have p174 : 0 ≤ (x3_1 : Int) := od
        have q174 : x3_1 < (l0_0.length : Int) := od
        obtain ⟨ad174, A174_2, c174_2, e174, hx174_0, hx174_1, hx174_2, hl174_2, hi174_2⟩ := at_T70 HR0_0.out x3_1 p174 q174
        cases e174
        replace hx174_0 := kc HB hx174_0
        replace hx174_1 := kc HB hx174_1
        replace hx174_2 := kc HB hx174_2
        have HR174_2 := Aside0.mk hi174_2
        have HC174_2 := Aside0.mk hl174_2
        clear hi174_2 hl174_2
        replace p174 := eq_true p174
        replace q174 := eq_true q174
        try go_wp2_with (first | ((with_reducible refine gate_dst (N := 4) rfl ?_); refine box_event ?hg (N := 4) ?hd (cs := #[.int .i64 0, .string (⟨#[]⟩ : ByteArray), .slice none 0 0]) (t := 70) ?hr ?_; (case hd => rfl); (case hg => rfl); (case hr => first | (go_simp; done) | (go_simp; rfl)); intro gb175 hg w21 hbox hb; have BK175 := Aside0.mk (hbox); have GW175 := Aside0.mk ((by rw [hg]; exact (below_size (by repeat (first | (with_reducible first | exact HB.out | apply below_alloc | apply pw_below_drewN | apply below_drew1 | refine below_set ?_ GE173.out) | exact HB.out))) : w.heap.size ≤ gb175)); have GE175 := Aside0.mk ((by rw [hg]; exact (below_size (by repeat (first | (with_reducible first | exact HB.out | apply below_alloc | apply pw_below_drewN | apply below_drew1 | refine below_set ?_ GE173.out) | exact HB.out))) : w.heap.size ≤ gb175)); replace HB := Aside0.mk (below_step (by repeat (first | (with_reducible first | exact HB.out | apply below_alloc | apply pw_below_drewN | apply below_drew1 | refine below_set ?_ GE173.out) | exact HB.out)) hb); have NB173_175 := Aside0.mk ((by rw [hg]; exact Nat.ne_of_lt (blk_lt (g := gb173) (o := .cells #[.slice (some ad174) l0_0.length c0_0] 50 (0, 0)) (uB BK173.out)) : gb173 ≠ gb175)); have NB175_173 := Aside0.mk ((by rw [hg]; exact Nat.ne_of_gt (blk_lt (g := gb173) (o := .cells #[.slice (some ad174) l0_0.length c0_0] 50 (0, 0)) (uB BK173.out)) : gb175 ≠ gb173)); replace BK173 := cB BK173 hb; clear hb hbox hg; have hnb22 := NB175_173.out; have hnc22 := NB173_175.out; have hcz23_0 : w21.cell? ⟨gb175, 0, none⟩ = some (.int .i64 0) := (blk_cell BK175.out 0).trans rfl; have hcz23_1 : w21.cell? ⟨gb175, 1, none⟩ = some (.string (⟨#[]⟩ : ByteArray)) := (blk_cell BK175.out 1).trans rfl; have hcz23_2 : w21.cell? ⟨gb175, 2, none⟩ = some (.slice none 0 0) := (blk_cell BK175.out 2).trans rfl; have hfz23_0 := blk_frozen BK175.out 0; have hfz23_1 := blk_frozen BK175.out 1; have hfz23_2 := blk_frozen BK175.out 2))
        have n0_ : Aside0 ((((w21.setCell ⟨gb175, 0, none⟩ (.int .i64 ((rd_T70 l0_0 x3_1).f0))).setCell ⟨gb175, 1, none⟩ (.string ((rd_T70 l0_0 x3_1).f1))).setCell ⟨gb175, 2, none⟩ (.slice A174_2 ((rd_T70 l0_0 x3_1).f2).length c174_2)).heap[gb173]? = some (.cells #[.slice (some ad174) l0_0.length c0_0] 50 (0, 0))) := ⟨by (with_reducible repeat (first | refine blk_drewN ?_ _ | refine blk_drew ?_ | refine blk_alloc ?_ _)); refine blk_far ?_ NB173_175.out _; (with_reducible repeat (first | refine blk_drewN ?_ _ | refine blk_drew ?_ | refine blk_alloc ?_ _)); refine blk_far ?_ NB173_175.out _; (with_reducible repeat (first | refine blk_drewN ?_ _ | refine blk_drew ?_ | refine blk_alloc ?_ _)); refine blk_far ?_ NB173_175.out _; exact uB <| BK173.out⟩
        have n1_ : Aside0 ((((w21.setCell ⟨gb175, 0, none⟩ (.int .i64 ((rd_T70 l0_0 x3_1).f0))).setCell ⟨gb175, 1, none⟩ (.string ((rd_T70 l0_0 x3_1).f1))).setCell ⟨gb175, 2, none⟩ (.slice A174_2 ((rd_T70 l0_0 x3_1).f2).length c174_2)).heap[gb175]? = some (.cells #[.int .i64 ((rd_T70 l0_0 x3_1).f0), .string ((rd_T70 l0_0 x3_1).f1), .slice A174_2 ((rd_T70 l0_0 x3_1).f2).length c174_2] 70 (0, 0))) := ⟨by (with_reducible repeat (first | refine blk_drewN ?_ _ | refine blk_drew ?_ | refine blk_alloc ?_ _)); refine blk_put (cs := #[.int .i64 ((rd_T70 l0_0 x3_1).f0), .string ((rd_T70 l0_0 x3_1).f1), .slice none 0 0]) ?_ 2 _ rfl; (with_reducible repeat (first | refine blk_drewN ?_ _ | refine blk_drew ?_ | refine blk_alloc ?_ _)); refine blk_put (cs := #[.int .i64 ((rd_T70 l0_0 x3_1).f0), .string (⟨#[]⟩ : ByteArray), .slice none 0 0]) ?_ 1 _ rfl; (with_reducible repeat (first | refine blk_drewN ?_ _ | refine blk_drew ?_ | refine blk_alloc ?_ _)); refine blk_put (cs := #[.int .i64 0, .string (⟨#[]⟩ : ByteArray), .slice none 0 0]) ?_ 0 _ rfl; exact uB <| BK175.out⟩
        have n2_ : Aside0 (Below w.heap.size w (((w21.setCell ⟨gb175, 0, none⟩ (.int .i64 ((rd_T70 l0_0 x3_1).f0))).setCell ⟨gb175, 1, none⟩ (.string ((rd_T70 l0_0 x3_1).f1))).setCell ⟨gb175, 2, none⟩ (.slice A174_2 ((rd_T70 l0_0 x3_1).f2).length c174_2))) := ⟨by repeat (first | (with_reducible first | exact HB.out | apply below_alloc | apply pw_below_drewN | apply below_drew1 | refine below_set ?_ GE173.out | refine below_set ?_ GE175.out) | exact HB.out)⟩
        (try clear BK173)
        (try clear BK175)
        (try clear HB)
        generalize (((w21.setCell ⟨gb175, 0, none⟩ (.int .i64 ((rd_T70 l0_0 x3_1).f0))).setCell ⟨gb175, 1, none⟩ (.string ((rd_T70 l0_0 x3_1).f1))).setCell ⟨gb175, 2, none⟩ (.slice A174_2 ((rd_T70 l0_0 x3_1).f2).length c174_2)) = w24 at n0_ n1_ n2_ ⊢
        have BK173 := n0_
        have BK175 := n1_
        have HB := n2_
        clear n0_ n1_ n2_
        have n0_ := Aside0.mk (blk_drew BK173.out)
        have n1_ := Aside0.mk (blk_drew BK175.out)
        have n2_ := Aside0.mk (below_drew1 HB.out)
        clear BK173
        clear BK175
        clear HB
        have BK173 := n0_
        have BK175 := n1_
        have HB := n2_
        clear n0_ n1_ n2_
        have p177 : 0 ≤ ((ji15) : Int) := od
        have q177 : (ji15) < (l0_0.length : Int) := od
        obtain ⟨ad177, A177_2, c177_2, e177, hx177_0, hx177_1, hx177_2, hl177_2, hi177_2⟩ := at_T70 HR0_0.out (ji15) p177 q177
        have hw177_2 := hx177_2
        have hw177_1 := hx177_1
        have hw177_0 := hx177_0
        obtain rfl : ad174 = ad177 := (by injection e177)
        replace hx177_0 := kc HB hx177_0
        replace hx177_1 := kc HB hx177_1
        replace hx177_2 := kc HB hx177_2
        have HR177_2 := Aside0.mk hi177_2
        have HC177_2 := Aside0.mk hl177_2
        clear hi177_2 hl177_2
        replace p177 := eq_true p177
        replace q177 := eq_true q177
        refine start_ (n := 28) (S := fun w' => w'.cell? ⟨gb175, 0, none⟩ = some (.int .i64 ((rd_T70 l0_0 x3_1).f0)) ∧ w'.cell? ⟨gb175, 1, none⟩ = some (.string ((rd_T70 l0_0 x3_1).f1)) ∧ w'.cell? ⟨gb175, 2, none⟩ = some (.slice A174_2 ((rd_T70 l0_0 x3_1).f2).length c174_2) ∧ w'.cell? ⟨gb173, 0, none⟩ = some (.slice (some ad174) l0_0.length c0_0) ∧ w'.cell? (ad174.add (((ji15)).toNat * 3)) = some (.int .i64 ((rd_T70 l0_0 (ji15)).f0)) ∧ w'.cell? ⟨(ad174.add (((ji15)).toNat * 3)).block, (ad174.add (((ji15)).toNat * 3)).off + 1, none⟩ = some (.string ((rd_T70 l0_0 (ji15)).f1)) ∧ w'.cell? ⟨(ad174.add (((ji15)).toNat * 3)).block, (ad174.add (((ji15)).toNat * 3)).off + 2, none⟩ = some (.slice A177_2 ((rd_T70 l0_0 (ji15)).f2).length c177_2)) (ds := []) #[false, false, false, false, false, false, false, false, false, false, false, false, false, false, false, false, false, false, false, false, false, false, false, false, false, false, false, false] (by kernel_rfl) rfl rfl ⟨(blk_cell BK175.out 0).trans rfl, (blk_cell BK175.out 1).trans rfl, (blk_cell BK175.out 2).trans rfl, (blk_cell BK173.out 0).trans rfl, (kc HB hw177_0), (kc HB hw177_1), (kc HB hw177_2)⟩ (fun hHeld => ?_); refine with_tabW ebbtideref11_Right.tab5 ebbtideref11_Right.bits5 (fun HT_ HW_ => ?_)
        generalize w24.drew = w25 at BK173 BK175 HB HR177_2 hx177_0 hx177_1 hx177_2 hHeld ⊢
        refine pu 0 (some 17) rfl rfl (ao HT_) (fun _ _ _ h => h) ya aa ?_
        refine tk 1 (some 18) rfl rfl (tw HT_ HW_) (fun _ _ _ h => h) (Or.inl ⟨by rfl, by rintro w' ⟨s0, s1, s2, s3, s4, s5, s6⟩; go_simp; with_reducible rfl⟩) hHeld aa ?_
        refine pu 2 (some 19) rfl rfl (ao HT_) (fun _ _ _ h => h) ya aa ?_
        refine pu 3 (some 20) rfl rfl (ao HT_) (fun _ _ _ h => h) ya aa ?_
        refine pu 4 (some 21) rfl rfl (ao HT_) (fun _ _ _ h => h) ya aa ?_
        refine pu 5 (some 22) rfl rfl (ao HT_) (fun _ _ _ h => h) ya aa ?_
        refine tk 6 (some 23) rfl rfl (tw HT_ HW_) (fun _ _ _ h => h) (Or.inl ⟨by rfl, by rintro w' ⟨s0, s1, s2, s3, s4, s5, s6⟩; go_simp; with_reducible rfl⟩) hHeld aa ?_
        refine one_ (i := 7) (N := some 24) #[true, true, true, true, true, true, true, true, false, false, false, false, false, false, false, false, false, false, false, false, false, false, false, false, false, false, false, false] rfl rfl (one_of HT_.out (by kernel_rfl)) (by decide) (fun K hK => ?_)
        refine goes_ Try.func54 (by kernel_rfl) rfl #[.slice A174_2 ((rd_T70 l0_0 x3_1).f2).length c174_2] (by rfl) rfl rfl (by (try simp only [List.map_toArray, List.map_cons, List.map_nil]); first | done | rfl | (simp only [List.length_drop, List.length_take]; rfl)) ?_
        with_reducible refine (ebbtideref10_Right.calls k1 _ _ ((rd_T70 l0_0 x3_1).f2) true _ ?side1 ?side2 A12.out).mono ?_
        (case side1 => repeat (first | exact (Kd.C_below HR174_2.out HB.out) | (with_reducible refine Kd.C_alloc ?_ _) | (with_reducible refine Kd.C_drewN ?_ _) | (with_reducible refine Kd.C_drew ?_)))
        (case side2 => exact HC174_2.out)
        rintro e w' ⟨rfl, ⟨nd, rfl⟩⟩
        refine ⟨_, rfl, ?_⟩
        refine hK.out _ _ ⟨(blk_cell BK175.out 0).trans rfl, (blk_cell BK175.out 1).trans rfl, (blk_cell BK175.out 2).trans rfl, (blk_cell BK173.out 0).trans rfl, (kc HB hw177_0), (kc HB hw177_1), (kc HB hw177_2)⟩ (fun hHeld => ?_)
        clear hK K
        refine norm_ (a' := ?_) ?_ ?_
        rotate_left
        ·
         show Act.put _ (some 24) _ = _
         simp only [Act.put, List.setIfInBounds_toArray, List.set_cons_zero, List.set_cons_succ, i64_w, i32_w]
         rfl
        refine pu 8 (some 25) rfl rfl (ao HT_) (fun _ _ _ h => h) ya aa ?_
        refine pu 9 (some 26) rfl rfl (ao HT_) (fun _ _ _ h => h) ya aa ?_
        refine pu 10 (some 27) rfl rfl (ao HT_) (fun _ _ _ h => h) ya aa ?_
        refine pu 11 (some 28) rfl rfl (ao HT_) (fun _ _ _ h => h) ya aa ?_
        refine pu 12 (some 29) rfl rfl (ao HT_) (fun _ _ _ h => h) ya aa ?_
        refine pu 13 (some 30) rfl rfl (ao HT_) (fun _ _ _ h => h) ya aa ?_
        refine pu 14 (some 31) rfl rfl (ao HT_) (fun _ _ _ h => h) ya aa ?_
        refine pu 16 (some 33) rfl rfl (ao HT_) (fun _ _ _ h => h) ya aa ?_
        refine pu 17 (some 34) rfl rfl (ao HT_) (fun _ _ _ h => h) ya aa ?_
        refine pu 20 (some 37) rfl rfl (ao HT_) (fun _ _ _ h => h) ya aa ?_
        refine pu 22 (some 39) rfl rfl (ao HT_) (fun _ _ _ h => h) ya aa ?_
        refine tk 15 (some 32) rfl rfl (tw HT_ HW_) (fun _ _ _ h => h) (Or.inl ⟨by rfl, by rintro w' ⟨s0, s1, s2, s3, s4, s5, s6⟩; go_simp; with_reducible rfl⟩) hHeld aa ?_
        refine pu 18 (some 35) rfl rfl (ao HT_) (fun _ _ _ h => h) ya aa ?_
        refine tk 19 (some 36) rfl rfl (tw HT_ HW_) (fun _ _ _ h => h) (Or.inl ⟨by rfl, by rintro w' ⟨s0, s1, s2, s3, s4, s5, s6⟩; go_simp; with_reducible rfl⟩) hHeld aa ?_
        refine tk 21 (some 38) rfl rfl (tw HT_ HW_) (fun _ _ _ h => h) (Or.inl ⟨by rfl, by rintro w' ⟨s0, s1, s2, s3, s4, s5, s6⟩; go_simp; with_reducible rfl⟩) hHeld aa ?_
        refine tk 23 (some 40) rfl rfl (tw HT_ HW_) (fun _ _ _ h => h) (Or.inl ⟨by rfl, by rintro w' ⟨s0, s1, s2, s3, s4, s5, s6⟩; go_simp; with_reducible rfl⟩) hHeld aa ?_
        refine one_ (i := 24) (N := some 41) #[true, true, true, true, true, true, true, true, true, true, true, true, true, true, true, true, true, true, true, true, true, true, true, true, true, false, false, false] rfl rfl (one_of HT_.out (by kernel_rfl)) (by decide) (fun K hK => ?_)
        refine goes_ Try.func41 (by kernel_rfl) rfl #[.agg #[.int .i64 ((rd_T70 l0_0 (ji15)).f0), .string ((rd_T70 l0_0 (ji15)).f1), .slice A177_2 ((rd_T70 l0_0 (ji15)).f2).length c177_2], .int .i64 ((rd_T70 l0_0 x3_1).f0), .string ((rd_T70 l0_0 x3_1).f1)] (by rfl) rfl rfl (by (try simp only [List.map_toArray, List.map_cons, List.map_nil]); first | done | (simp only [hji15]; rfl) | rfl | (simp only [List.length_drop, List.length_take]; rfl)) ?_
        with_reducible refine (ebbtideref11_less.calls ((rd_T70 l0_0 (ji15)).f0) ((rd_T70 l0_0 (ji15)).f1) _ _ ((rd_T70 l0_0 (ji15)).f2) ((rd_T70 l0_0 x3_1).f0) ((rd_T70 l0_0 x3_1).f1) true _ ?side1 ?side2 A18.out).mono ?_
        (case side1 => repeat (first | exact (Kd.C_below HR177_2.out (by repeat (first | (with_reducible first | exact HB.out | apply below_alloc | apply pw_below_drewN | apply below_drew1 | refine below_set ?_ GE173.out | refine below_set ?_ GE175.out) | exact HB.out))) | (with_reducible refine Kd.C_alloc ?_ _) | (with_reducible refine Kd.C_drewN ?_ _) | (with_reducible refine Kd.C_drew ?_)))
        (case side2 => exact HC177_2.out)
        rintro e w26 ⟨rfl, hb⟩
        refine ⟨_, rfl, ?_⟩
        have n0_ := cB BK173 hb
        have n1_ := cB BK175 hb
        have n2_ := Aside0.mk (below_step (by repeat (first | (with_reducible first | exact HB.out | apply below_alloc | apply pw_below_drewN | apply below_drew1 | refine below_set ?_ GE173.out | refine below_set ?_ GE175.out) | exact HB.out)) hb)
        clear BK173
        clear BK175
        clear HB
        have BK173 := n0_
        have BK175 := n1_
        have HB := n2_
        clear n0_ n1_ n2_
        (try clear hb)
        (try clear hb2)
        (try clear hk)
        (try clear hi)
        refine hK.out _ _ ⟨(blk_cell BK175.out 0).trans rfl, (blk_cell BK175.out 1).trans rfl, (blk_cell BK175.out 2).trans rfl, (blk_cell BK173.out 0).trans rfl, (kc HB hw177_0), (kc HB hw177_1), (kc HB hw177_2)⟩ (fun hHeld => ?_)
        clear hK K
        refine norm_ (a' := ?_) ?_ ?_
        rotate_left
        ·
         show Act.put _ (some 41) _ = _
         simp only [Act.put, List.setIfInBounds_toArray, List.set_cons_zero, List.set_cons_succ, i64_w, i32_w]
         rfl
        refine pu 25 (some 42) rfl rfl (ao HT_) (fun _ _ _ h => h) ya aa ?_
        refine pu 26 (some 43) rfl rfl (ao HT_) (fun _ _ _ h => h) ya aa ?_
        refine pu 27 (some 44) rfl rfl (ao HT_) (fun _ _ _ h => h) ya aa ?_
        refine done_ (done_of HT_.out (by kernel_rfl)) ?_
        try go_wp2
        go_roundg k1
        case measure => have := HK1.out; omega
        case rel => exact ⟨(wrap64 (x3_1 + 1)), (by first | rfl | (simp; done) | (simp [*]; done)), H', ⟨by have := HK1.out; omega⟩, ⟨by exact uB <| BK173.out⟩, ⟨by repeat (first | (with_reducible first | exact HB.out | apply below_alloc | apply pw_below_drewN | apply below_drew1 | refine below_set ?_ GE173.out | refine below_set ?_ GE175.out) | exact HB.out)⟩⟩
       ·
        replace c19 := Bool.eq_false_iff.mpr c19
        subst c19
        rw [if_neg (show ¬ (false = true) by decide)] at H
        obtain rfl := Option.some.inj H
        have hcz27_0 : wr.cell? ⟨gb173, 0, none⟩ = some (.slice A0_0 l0_0.length c0_0) := (blk_cell BK173.out 0).trans rfl
        have hfz27_0 := blk_frozen BK173.out 0
        have p174 : 0 ≤ (x3_1 : Int) := od
        have q174 : x3_1 < (l0_0.length : Int) := od
        obtain ⟨ad174, A174_2, c174_2, e174, hx174_0, hx174_1, hx174_2, hl174_2, hi174_2⟩ := at_T70 HR0_0.out x3_1 p174 q174
        cases e174
        replace hx174_0 := kc HB hx174_0
        replace hx174_1 := kc HB hx174_1
        replace hx174_2 := kc HB hx174_2
        have HR174_2 := Aside0.mk hi174_2
        have HC174_2 := Aside0.mk hl174_2
        clear hi174_2 hl174_2
        replace p174 := eq_true p174
        replace q174 := eq_true q174
        try go_wp2_with (first | ((with_reducible refine gate_dst (N := 4) rfl ?_); refine box_event ?hg (N := 4) ?hd (cs := #[.int .i64 0, .string (⟨#[]⟩ : ByteArray), .slice none 0 0]) (t := 70) ?hr ?_; (case hd => rfl); (case hg => rfl); (case hr => first | (go_simp; done) | (go_simp; rfl)); intro gb175 hg w28 hbox hb; have BK175 := Aside0.mk (hbox); have GW175 := Aside0.mk ((by rw [hg]; exact (below_size (by repeat (first | (with_reducible first | exact HB.out | apply below_alloc | apply pw_below_drewN | apply below_drew1 | refine below_set ?_ GE173.out) | exact HB.out))) : w.heap.size ≤ gb175)); have GE175 := Aside0.mk ((by rw [hg]; exact (below_size (by repeat (first | (with_reducible first | exact HB.out | apply below_alloc | apply pw_below_drewN | apply below_drew1 | refine below_set ?_ GE173.out) | exact HB.out))) : w.heap.size ≤ gb175)); replace HB := Aside0.mk (below_step (by repeat (first | (with_reducible first | exact HB.out | apply below_alloc | apply pw_below_drewN | apply below_drew1 | refine below_set ?_ GE173.out) | exact HB.out)) hb); have NB173_175 := Aside0.mk ((by rw [hg]; exact Nat.ne_of_lt (blk_lt (g := gb173) (o := .cells #[.slice (some ad174) l0_0.length c0_0] 50 (0, 0)) (uB BK173.out)) : gb173 ≠ gb175)); have NB175_173 := Aside0.mk ((by rw [hg]; exact Nat.ne_of_gt (blk_lt (g := gb173) (o := .cells #[.slice (some ad174) l0_0.length c0_0] 50 (0, 0)) (uB BK173.out)) : gb175 ≠ gb173)); replace BK173 := cB BK173 hb; clear hb hbox hg; have hnb29 := NB175_173.out; have hnc29 := NB173_175.out; have hcz30_0 : w28.cell? ⟨gb175, 0, none⟩ = some (.int .i64 0) := (blk_cell BK175.out 0).trans rfl; have hcz30_1 : w28.cell? ⟨gb175, 1, none⟩ = some (.string (⟨#[]⟩ : ByteArray)) := (blk_cell BK175.out 1).trans rfl; have hcz30_2 : w28.cell? ⟨gb175, 2, none⟩ = some (.slice none 0 0) := (blk_cell BK175.out 2).trans rfl; have hfz30_0 := blk_frozen BK175.out 0; have hfz30_1 := blk_frozen BK175.out 1; have hfz30_2 := blk_frozen BK175.out 2))
        have n0_ : Aside0 ((((w28.setCell ⟨gb175, 0, none⟩ (.int .i64 ((rd_T70 l0_0 x3_1).f0))).setCell ⟨gb175, 1, none⟩ (.string ((rd_T70 l0_0 x3_1).f1))).setCell ⟨gb175, 2, none⟩ (.slice A174_2 ((rd_T70 l0_0 x3_1).f2).length c174_2)).heap[gb173]? = some (.cells #[.slice (some ad174) l0_0.length c0_0] 50 (0, 0))) := ⟨by (with_reducible repeat (first | refine blk_drewN ?_ _ | refine blk_drew ?_ | refine blk_alloc ?_ _)); refine blk_far ?_ NB173_175.out _; (with_reducible repeat (first | refine blk_drewN ?_ _ | refine blk_drew ?_ | refine blk_alloc ?_ _)); refine blk_far ?_ NB173_175.out _; (with_reducible repeat (first | refine blk_drewN ?_ _ | refine blk_drew ?_ | refine blk_alloc ?_ _)); refine blk_far ?_ NB173_175.out _; exact uB <| BK173.out⟩
        have n1_ : Aside0 ((((w28.setCell ⟨gb175, 0, none⟩ (.int .i64 ((rd_T70 l0_0 x3_1).f0))).setCell ⟨gb175, 1, none⟩ (.string ((rd_T70 l0_0 x3_1).f1))).setCell ⟨gb175, 2, none⟩ (.slice A174_2 ((rd_T70 l0_0 x3_1).f2).length c174_2)).heap[gb175]? = some (.cells #[.int .i64 ((rd_T70 l0_0 x3_1).f0), .string ((rd_T70 l0_0 x3_1).f1), .slice A174_2 ((rd_T70 l0_0 x3_1).f2).length c174_2] 70 (0, 0))) := ⟨by (with_reducible repeat (first | refine blk_drewN ?_ _ | refine blk_drew ?_ | refine blk_alloc ?_ _)); refine blk_put (cs := #[.int .i64 ((rd_T70 l0_0 x3_1).f0), .string ((rd_T70 l0_0 x3_1).f1), .slice none 0 0]) ?_ 2 _ rfl; (with_reducible repeat (first | refine blk_drewN ?_ _ | refine blk_drew ?_ | refine blk_alloc ?_ _)); refine blk_put (cs := #[.int .i64 ((rd_T70 l0_0 x3_1).f0), .string (⟨#[]⟩ : ByteArray), .slice none 0 0]) ?_ 1 _ rfl; (with_reducible repeat (first | refine blk_drewN ?_ _ | refine blk_drew ?_ | refine blk_alloc ?_ _)); refine blk_put (cs := #[.int .i64 0, .string (⟨#[]⟩ : ByteArray), .slice none 0 0]) ?_ 0 _ rfl; exact uB <| BK175.out⟩
        have n2_ : Aside0 (Below w.heap.size w (((w28.setCell ⟨gb175, 0, none⟩ (.int .i64 ((rd_T70 l0_0 x3_1).f0))).setCell ⟨gb175, 1, none⟩ (.string ((rd_T70 l0_0 x3_1).f1))).setCell ⟨gb175, 2, none⟩ (.slice A174_2 ((rd_T70 l0_0 x3_1).f2).length c174_2))) := ⟨by repeat (first | (with_reducible first | exact HB.out | apply below_alloc | apply pw_below_drewN | apply below_drew1 | refine below_set ?_ GE173.out | refine below_set ?_ GE175.out) | exact HB.out)⟩
        (try clear BK173)
        (try clear BK175)
        (try clear HB)
        generalize (((w28.setCell ⟨gb175, 0, none⟩ (.int .i64 ((rd_T70 l0_0 x3_1).f0))).setCell ⟨gb175, 1, none⟩ (.string ((rd_T70 l0_0 x3_1).f1))).setCell ⟨gb175, 2, none⟩ (.slice A174_2 ((rd_T70 l0_0 x3_1).f2).length c174_2)) = w31 at n0_ n1_ n2_ ⊢
        have BK173 := n0_
        have BK175 := n1_
        have HB := n2_
        clear n0_ n1_ n2_
        have n0_ := Aside0.mk (blk_drew BK173.out)
        have n1_ := Aside0.mk (blk_drew BK175.out)
        have n2_ := Aside0.mk (below_drew1 HB.out)
        clear BK173
        clear BK175
        clear HB
        have BK173 := n0_
        have BK175 := n1_
        have HB := n2_
        clear n0_ n1_ n2_
        have p177 : 0 ≤ ((ji15) : Int) := od
        have q177 : (ji15) < (l0_0.length : Int) := od
        obtain ⟨ad177, A177_2, c177_2, e177, hx177_0, hx177_1, hx177_2, hl177_2, hi177_2⟩ := at_T70 HR0_0.out (ji15) p177 q177
        have hw177_2 := hx177_2
        have hw177_1 := hx177_1
        have hw177_0 := hx177_0
        obtain rfl : ad174 = ad177 := (by injection e177)
        replace hx177_0 := kc HB hx177_0
        replace hx177_1 := kc HB hx177_1
        replace hx177_2 := kc HB hx177_2
        have HR177_2 := Aside0.mk hi177_2
        have HC177_2 := Aside0.mk hl177_2
        clear hi177_2 hl177_2
        replace p177 := eq_true p177
        replace q177 := eq_true q177
        refine start_ (n := 28) (S := fun w' => w'.cell? ⟨gb175, 0, none⟩ = some (.int .i64 ((rd_T70 l0_0 x3_1).f0)) ∧ w'.cell? ⟨gb175, 1, none⟩ = some (.string ((rd_T70 l0_0 x3_1).f1)) ∧ w'.cell? ⟨gb175, 2, none⟩ = some (.slice A174_2 ((rd_T70 l0_0 x3_1).f2).length c174_2) ∧ w'.cell? ⟨gb173, 0, none⟩ = some (.slice (some ad174) l0_0.length c0_0) ∧ w'.cell? (ad174.add (((ji15)).toNat * 3)) = some (.int .i64 ((rd_T70 l0_0 (ji15)).f0)) ∧ w'.cell? ⟨(ad174.add (((ji15)).toNat * 3)).block, (ad174.add (((ji15)).toNat * 3)).off + 1, none⟩ = some (.string ((rd_T70 l0_0 (ji15)).f1)) ∧ w'.cell? ⟨(ad174.add (((ji15)).toNat * 3)).block, (ad174.add (((ji15)).toNat * 3)).off + 2, none⟩ = some (.slice A177_2 ((rd_T70 l0_0 (ji15)).f2).length c177_2)) (ds := []) #[false, false, false, false, false, false, false, false, false, false, false, false, false, false, false, false, false, false, false, false, false, false, false, false, false, false, false, false] (by kernel_rfl) rfl rfl ⟨(blk_cell BK175.out 0).trans rfl, (blk_cell BK175.out 1).trans rfl, (blk_cell BK175.out 2).trans rfl, (blk_cell BK173.out 0).trans rfl, (kc HB hw177_0), (kc HB hw177_1), (kc HB hw177_2)⟩ (fun hHeld => ?_); refine with_tabW ebbtideref11_Right.tab5 ebbtideref11_Right.bits5 (fun HT_ HW_ => ?_)
        generalize w31.drew = w32 at BK173 BK175 HB HR177_2 hx177_0 hx177_1 hx177_2 hHeld ⊢
        refine pu 0 (some 17) rfl rfl (ao HT_) (fun _ _ _ h => h) ya aa ?_
        refine tk 1 (some 18) rfl rfl (tw HT_ HW_) (fun _ _ _ h => h) (Or.inl ⟨by rfl, by rintro w' ⟨s0, s1, s2, s3, s4, s5, s6⟩; go_simp; with_reducible rfl⟩) hHeld aa ?_
        refine pu 2 (some 19) rfl rfl (ao HT_) (fun _ _ _ h => h) ya aa ?_
        refine pu 3 (some 20) rfl rfl (ao HT_) (fun _ _ _ h => h) ya aa ?_
        refine pu 4 (some 21) rfl rfl (ao HT_) (fun _ _ _ h => h) ya aa ?_
        refine pu 5 (some 22) rfl rfl (ao HT_) (fun _ _ _ h => h) ya aa ?_
        refine tk 6 (some 23) rfl rfl (tw HT_ HW_) (fun _ _ _ h => h) (Or.inl ⟨by rfl, by rintro w' ⟨s0, s1, s2, s3, s4, s5, s6⟩; go_simp; with_reducible rfl⟩) hHeld aa ?_
        refine one_ (i := 7) (N := some 24) #[true, true, true, true, true, true, true, true, false, false, false, false, false, false, false, false, false, false, false, false, false, false, false, false, false, false, false, false] rfl rfl (one_of HT_.out (by kernel_rfl)) (by decide) (fun K hK => ?_)
        refine goes_ Try.func54 (by kernel_rfl) rfl #[.slice A174_2 ((rd_T70 l0_0 x3_1).f2).length c174_2] (by rfl) rfl rfl (by (try simp only [List.map_toArray, List.map_cons, List.map_nil]); first | done | rfl | (simp only [List.length_drop, List.length_take]; rfl)) ?_
        with_reducible refine (ebbtideref10_Right.calls k1 _ _ ((rd_T70 l0_0 x3_1).f2) true _ ?side1 ?side2 A12.out).mono ?_
        (case side1 => repeat (first | exact (Kd.C_below HR174_2.out HB.out) | (with_reducible refine Kd.C_alloc ?_ _) | (with_reducible refine Kd.C_drewN ?_ _) | (with_reducible refine Kd.C_drew ?_)))
        (case side2 => exact HC174_2.out)
        rintro e w' ⟨rfl, ⟨nd, rfl⟩⟩
        refine ⟨_, rfl, ?_⟩
        refine hK.out _ _ ⟨(blk_cell BK175.out 0).trans rfl, (blk_cell BK175.out 1).trans rfl, (blk_cell BK175.out 2).trans rfl, (blk_cell BK173.out 0).trans rfl, (kc HB hw177_0), (kc HB hw177_1), (kc HB hw177_2)⟩ (fun hHeld => ?_)
        clear hK K
        refine norm_ (a' := ?_) ?_ ?_
        rotate_left
        ·
         show Act.put _ (some 24) _ = _
         simp only [Act.put, List.setIfInBounds_toArray, List.set_cons_zero, List.set_cons_succ, i64_w, i32_w]
         rfl
        refine pu 8 (some 25) rfl rfl (ao HT_) (fun _ _ _ h => h) ya aa ?_
        refine pu 9 (some 26) rfl rfl (ao HT_) (fun _ _ _ h => h) ya aa ?_
        refine pu 10 (some 27) rfl rfl (ao HT_) (fun _ _ _ h => h) ya aa ?_
        refine pu 11 (some 28) rfl rfl (ao HT_) (fun _ _ _ h => h) ya aa ?_
        refine pu 12 (some 29) rfl rfl (ao HT_) (fun _ _ _ h => h) ya aa ?_
        refine pu 13 (some 30) rfl rfl (ao HT_) (fun _ _ _ h => h) ya aa ?_
        refine pu 14 (some 31) rfl rfl (ao HT_) (fun _ _ _ h => h) ya aa ?_
        refine pu 16 (some 33) rfl rfl (ao HT_) (fun _ _ _ h => h) ya aa ?_
        refine pu 17 (some 34) rfl rfl (ao HT_) (fun _ _ _ h => h) ya aa ?_
        refine pu 20 (some 37) rfl rfl (ao HT_) (fun _ _ _ h => h) ya aa ?_
        refine pu 22 (some 39) rfl rfl (ao HT_) (fun _ _ _ h => h) ya aa ?_
        refine tk 15 (some 32) rfl rfl (tw HT_ HW_) (fun _ _ _ h => h) (Or.inl ⟨by rfl, by rintro w' ⟨s0, s1, s2, s3, s4, s5, s6⟩; go_simp; with_reducible rfl⟩) hHeld aa ?_
        refine pu 18 (some 35) rfl rfl (ao HT_) (fun _ _ _ h => h) ya aa ?_
        refine tk 19 (some 36) rfl rfl (tw HT_ HW_) (fun _ _ _ h => h) (Or.inl ⟨by rfl, by rintro w' ⟨s0, s1, s2, s3, s4, s5, s6⟩; go_simp; with_reducible rfl⟩) hHeld aa ?_
        refine tk 21 (some 38) rfl rfl (tw HT_ HW_) (fun _ _ _ h => h) (Or.inl ⟨by rfl, by rintro w' ⟨s0, s1, s2, s3, s4, s5, s6⟩; go_simp; with_reducible rfl⟩) hHeld aa ?_
        refine tk 23 (some 40) rfl rfl (tw HT_ HW_) (fun _ _ _ h => h) (Or.inl ⟨by rfl, by rintro w' ⟨s0, s1, s2, s3, s4, s5, s6⟩; go_simp; with_reducible rfl⟩) hHeld aa ?_
        refine one_ (i := 24) (N := some 41) #[true, true, true, true, true, true, true, true, true, true, true, true, true, true, true, true, true, true, true, true, true, true, true, true, true, false, false, false] rfl rfl (one_of HT_.out (by kernel_rfl)) (by decide) (fun K hK => ?_)
        refine goes_ Try.func41 (by kernel_rfl) rfl #[.agg #[.int .i64 ((rd_T70 l0_0 (ji15)).f0), .string ((rd_T70 l0_0 (ji15)).f1), .slice A177_2 ((rd_T70 l0_0 (ji15)).f2).length c177_2], .int .i64 ((rd_T70 l0_0 x3_1).f0), .string ((rd_T70 l0_0 x3_1).f1)] (by rfl) rfl rfl (by (try simp only [List.map_toArray, List.map_cons, List.map_nil]); first | done | (simp only [hji15]; rfl) | rfl | (simp only [List.length_drop, List.length_take]; rfl)) ?_
        with_reducible refine (ebbtideref11_less.calls ((rd_T70 l0_0 (ji15)).f0) ((rd_T70 l0_0 (ji15)).f1) _ _ ((rd_T70 l0_0 (ji15)).f2) ((rd_T70 l0_0 x3_1).f0) ((rd_T70 l0_0 x3_1).f1) false _ ?side1 ?side2 A18.out).mono ?_
        (case side1 => repeat (first | exact (Kd.C_below HR177_2.out (by repeat (first | (with_reducible first | exact HB.out | apply below_alloc | apply pw_below_drewN | apply below_drew1 | refine below_set ?_ GE173.out | refine below_set ?_ GE175.out) | exact HB.out))) | (with_reducible refine Kd.C_alloc ?_ _) | (with_reducible refine Kd.C_drewN ?_ _) | (with_reducible refine Kd.C_drew ?_)))
        (case side2 => exact HC177_2.out)
        rintro e w33 ⟨rfl, hb⟩
        refine ⟨_, rfl, ?_⟩
        have n0_ := cB BK173 hb
        have n1_ := cB BK175 hb
        have n2_ := Aside0.mk (below_step (by repeat (first | (with_reducible first | exact HB.out | apply below_alloc | apply pw_below_drewN | apply below_drew1 | refine below_set ?_ GE173.out | refine below_set ?_ GE175.out) | exact HB.out)) hb)
        clear BK173
        clear BK175
        clear HB
        have BK173 := n0_
        have BK175 := n1_
        have HB := n2_
        clear n0_ n1_ n2_
        (try clear hb)
        (try clear hb2)
        (try clear hk)
        (try clear hi)
        refine hK.out _ _ ⟨(blk_cell BK175.out 0).trans rfl, (blk_cell BK175.out 1).trans rfl, (blk_cell BK175.out 2).trans rfl, (blk_cell BK173.out 0).trans rfl, (kc HB hw177_0), (kc HB hw177_1), (kc HB hw177_2)⟩ (fun hHeld => ?_)
        clear hK K
        refine norm_ (a' := ?_) ?_ ?_
        rotate_left
        ·
         show Act.put _ (some 41) _ = _
         simp only [Act.put, List.setIfInBounds_toArray, List.set_cons_zero, List.set_cons_succ, i64_w, i32_w]
         rfl
        refine pu 25 (some 42) rfl rfl (ao HT_) (fun _ _ _ h => h) ya aa ?_
        refine pu 26 (some 43) rfl rfl (ao HT_) (fun _ _ _ h => h) ya aa ?_
        refine pu 27 (some 44) rfl rfl (ao HT_) (fun _ _ _ h => h) ya aa ?_
        refine done_ (done_of HT_.out (by kernel_rfl)) ?_
        try go_wp2
        go_ret
        exact ⟨by first | rfl | (simp [errW_none, errW_some] <;> rfl) | (simp only [← hji15]; first | rfl | (simp [errW_none, errW_some] <;> rfl)) | (simp [*, errW_none, errW_some] <;> rfl), by repeat (first | (with_reducible first | exact HB.out | apply below_alloc | apply pw_below_drewN | apply below_drew1 | refine below_set ?_ GE173.out | refine below_set ?_ GE175.out) | exact HB.out)⟩
      ·
       rw [if_neg c14] at H
       have c14b0 : decide (0 < x3_1) = false := decide_eq_false c14
       clear c14
       have H' := Aside0.mk H
       clear H
       have hcz34_0 : wr.cell? ⟨gb173, 0, none⟩ = some (.slice A0_0 l0_0.length c0_0) := (blk_cell BK173.out 0).trans rfl
       have hfz34_0 := blk_frozen BK173.out 0
       have p174 : 0 ≤ (x3_1 : Int) := od
       have q174 : x3_1 < (l0_0.length : Int) := od
       obtain ⟨ad174, A174_2, c174_2, e174, hx174_0, hx174_1, hx174_2, hl174_2, hi174_2⟩ := at_T70 HR0_0.out x3_1 p174 q174
       cases e174
       replace hx174_0 := kc HB hx174_0
       replace hx174_1 := kc HB hx174_1
       replace hx174_2 := kc HB hx174_2
       have HR174_2 := Aside0.mk hi174_2
       have HC174_2 := Aside0.mk hl174_2
       clear hi174_2 hl174_2
       replace p174 := eq_true p174
       replace q174 := eq_true q174
       try go_wp2_with (first | ((with_reducible refine gate_dst (N := 4) rfl ?_); refine box_event ?hg (N := 4) ?hd (cs := #[.int .i64 0, .string (⟨#[]⟩ : ByteArray), .slice none 0 0]) (t := 70) ?hr ?_; (case hd => rfl); (case hg => rfl); (case hr => first | (go_simp; done) | (go_simp; rfl)); intro gb175 hg w35 hbox hb; have BK175 := Aside0.mk (hbox); have GW175 := Aside0.mk ((by rw [hg]; exact (below_size (by repeat (first | (with_reducible first | exact HB.out | apply below_alloc | apply pw_below_drewN | apply below_drew1 | refine below_set ?_ GE173.out) | exact HB.out))) : w.heap.size ≤ gb175)); have GE175 := Aside0.mk ((by rw [hg]; exact (below_size (by repeat (first | (with_reducible first | exact HB.out | apply below_alloc | apply pw_below_drewN | apply below_drew1 | refine below_set ?_ GE173.out) | exact HB.out))) : w.heap.size ≤ gb175)); replace HB := Aside0.mk (below_step (by repeat (first | (with_reducible first | exact HB.out | apply below_alloc | apply pw_below_drewN | apply below_drew1 | refine below_set ?_ GE173.out) | exact HB.out)) hb); have NB173_175 := Aside0.mk ((by rw [hg]; exact Nat.ne_of_lt (blk_lt (g := gb173) (o := .cells #[.slice (some ad174) l0_0.length c0_0] 50 (0, 0)) (uB BK173.out)) : gb173 ≠ gb175)); have NB175_173 := Aside0.mk ((by rw [hg]; exact Nat.ne_of_gt (blk_lt (g := gb173) (o := .cells #[.slice (some ad174) l0_0.length c0_0] 50 (0, 0)) (uB BK173.out)) : gb175 ≠ gb173)); replace BK173 := cB BK173 hb; clear hb hbox hg; have hnb36 := NB175_173.out; have hnc36 := NB173_175.out; have hcz37_0 : w35.cell? ⟨gb175, 0, none⟩ = some (.int .i64 0) := (blk_cell BK175.out 0).trans rfl; have hcz37_1 : w35.cell? ⟨gb175, 1, none⟩ = some (.string (⟨#[]⟩ : ByteArray)) := (blk_cell BK175.out 1).trans rfl; have hcz37_2 : w35.cell? ⟨gb175, 2, none⟩ = some (.slice none 0 0) := (blk_cell BK175.out 2).trans rfl; have hfz37_0 := blk_frozen BK175.out 0; have hfz37_1 := blk_frozen BK175.out 1; have hfz37_2 := blk_frozen BK175.out 2))
       have n0_ : Aside0 ((((w35.setCell ⟨gb175, 0, none⟩ (.int .i64 ((rd_T70 l0_0 x3_1).f0))).setCell ⟨gb175, 1, none⟩ (.string ((rd_T70 l0_0 x3_1).f1))).setCell ⟨gb175, 2, none⟩ (.slice A174_2 ((rd_T70 l0_0 x3_1).f2).length c174_2)).heap[gb173]? = some (.cells #[.slice (some ad174) l0_0.length c0_0] 50 (0, 0))) := ⟨by (with_reducible repeat (first | refine blk_drewN ?_ _ | refine blk_drew ?_ | refine blk_alloc ?_ _)); refine blk_far ?_ NB173_175.out _; (with_reducible repeat (first | refine blk_drewN ?_ _ | refine blk_drew ?_ | refine blk_alloc ?_ _)); refine blk_far ?_ NB173_175.out _; (with_reducible repeat (first | refine blk_drewN ?_ _ | refine blk_drew ?_ | refine blk_alloc ?_ _)); refine blk_far ?_ NB173_175.out _; exact uB <| BK173.out⟩
       have n1_ : Aside0 ((((w35.setCell ⟨gb175, 0, none⟩ (.int .i64 ((rd_T70 l0_0 x3_1).f0))).setCell ⟨gb175, 1, none⟩ (.string ((rd_T70 l0_0 x3_1).f1))).setCell ⟨gb175, 2, none⟩ (.slice A174_2 ((rd_T70 l0_0 x3_1).f2).length c174_2)).heap[gb175]? = some (.cells #[.int .i64 ((rd_T70 l0_0 x3_1).f0), .string ((rd_T70 l0_0 x3_1).f1), .slice A174_2 ((rd_T70 l0_0 x3_1).f2).length c174_2] 70 (0, 0))) := ⟨by (with_reducible repeat (first | refine blk_drewN ?_ _ | refine blk_drew ?_ | refine blk_alloc ?_ _)); refine blk_put (cs := #[.int .i64 ((rd_T70 l0_0 x3_1).f0), .string ((rd_T70 l0_0 x3_1).f1), .slice none 0 0]) ?_ 2 _ rfl; (with_reducible repeat (first | refine blk_drewN ?_ _ | refine blk_drew ?_ | refine blk_alloc ?_ _)); refine blk_put (cs := #[.int .i64 ((rd_T70 l0_0 x3_1).f0), .string (⟨#[]⟩ : ByteArray), .slice none 0 0]) ?_ 1 _ rfl; (with_reducible repeat (first | refine blk_drewN ?_ _ | refine blk_drew ?_ | refine blk_alloc ?_ _)); refine blk_put (cs := #[.int .i64 0, .string (⟨#[]⟩ : ByteArray), .slice none 0 0]) ?_ 0 _ rfl; exact uB <| BK175.out⟩
       have n2_ : Aside0 (Below w.heap.size w (((w35.setCell ⟨gb175, 0, none⟩ (.int .i64 ((rd_T70 l0_0 x3_1).f0))).setCell ⟨gb175, 1, none⟩ (.string ((rd_T70 l0_0 x3_1).f1))).setCell ⟨gb175, 2, none⟩ (.slice A174_2 ((rd_T70 l0_0 x3_1).f2).length c174_2))) := ⟨by repeat (first | (with_reducible first | exact HB.out | apply below_alloc | apply pw_below_drewN | apply below_drew1 | refine below_set ?_ GE173.out | refine below_set ?_ GE175.out) | exact HB.out)⟩
       (try clear BK173)
       (try clear BK175)
       (try clear HB)
       generalize (((w35.setCell ⟨gb175, 0, none⟩ (.int .i64 ((rd_T70 l0_0 x3_1).f0))).setCell ⟨gb175, 1, none⟩ (.string ((rd_T70 l0_0 x3_1).f1))).setCell ⟨gb175, 2, none⟩ (.slice A174_2 ((rd_T70 l0_0 x3_1).f2).length c174_2)) = w38 at n0_ n1_ n2_ ⊢
       have BK173 := n0_
       have BK175 := n1_
       have HB := n2_
       clear n0_ n1_ n2_
       have n0_ := Aside0.mk (blk_drew BK173.out)
       have n1_ := Aside0.mk (blk_drew BK175.out)
       have n2_ := Aside0.mk (below_drew1 HB.out)
       clear BK173
       clear BK175
       clear HB
       have BK173 := n0_
       have BK175 := n1_
       have HB := n2_
       clear n0_ n1_ n2_
       refine start_ (n := 28) (S := fun w' => w'.cell? ⟨gb175, 0, none⟩ = some (.int .i64 ((rd_T70 l0_0 x3_1).f0)) ∧ w'.cell? ⟨gb175, 1, none⟩ = some (.string ((rd_T70 l0_0 x3_1).f1)) ∧ w'.cell? ⟨gb175, 2, none⟩ = some (.slice A174_2 ((rd_T70 l0_0 x3_1).f2).length c174_2)) (ds := []) #[false, false, false, false, false, false, false, false, false, false, false, false, false, false, false, false, false, false, false, false, false, false, false, false, false, false, false, false] (by kernel_rfl) rfl rfl ⟨(blk_cell BK175.out 0).trans rfl, (blk_cell BK175.out 1).trans rfl, (blk_cell BK175.out 2).trans rfl⟩ (fun hHeld => ?_); refine with_tabW ebbtideref11_Right.tab5 ebbtideref11_Right.bits5 (fun HT_ HW_ => ?_)
       generalize w38.drew = w39 at BK173 BK175 HB hHeld ⊢
       refine pu 0 (some 17) rfl rfl (ao HT_) (fun _ _ _ h => h) ya aa ?_
       refine tk 1 (some 18) rfl rfl (tw HT_ HW_) (fun _ _ _ h => h) (Or.inl ⟨by rfl, by rintro w' ⟨s0, s1, s2⟩; go_simp; with_reducible rfl⟩) hHeld aa ?_
       refine pu 2 (some 19) rfl rfl (ao HT_) (fun _ _ _ h => h) ya aa ?_
       refine pu 3 (some 20) rfl rfl (ao HT_) (fun _ _ _ h => h) ya aa ?_
       refine pu 4 (some 21) rfl rfl (ao HT_) (fun _ _ _ h => h) ya aa ?_
       refine pu 5 (some 22) rfl rfl (ao HT_) (fun _ _ _ h => h) ya aa ?_
       refine tk 6 (some 23) rfl rfl (tw HT_ HW_) (fun _ _ _ h => h) (Or.inl ⟨by rfl, by rintro w' ⟨s0, s1, s2⟩; go_simp; with_reducible rfl⟩) hHeld aa ?_
       refine one_ (i := 7) (N := some 24) #[true, true, true, true, true, true, true, true, false, false, false, false, false, false, false, false, false, false, false, false, false, false, false, false, false, false, false, false] rfl rfl (one_of HT_.out (by kernel_rfl)) (by decide) (fun K hK => ?_)
       refine goes_ Try.func54 (by kernel_rfl) rfl #[.slice A174_2 ((rd_T70 l0_0 x3_1).f2).length c174_2] (by rfl) rfl rfl (by (try simp only [List.map_toArray, List.map_cons, List.map_nil]); first | done | rfl | (simp only [List.length_drop, List.length_take]; rfl)) ?_
       with_reducible refine (ebbtideref10_Right.calls k1 _ _ ((rd_T70 l0_0 x3_1).f2) true _ ?side1 ?side2 A12.out).mono ?_
       (case side1 => repeat (first | exact (Kd.C_below HR174_2.out HB.out) | (with_reducible refine Kd.C_alloc ?_ _) | (with_reducible refine Kd.C_drewN ?_ _) | (with_reducible refine Kd.C_drew ?_)))
       (case side2 => exact HC174_2.out)
       rintro e w' ⟨rfl, ⟨nd, rfl⟩⟩
       refine ⟨_, rfl, ?_⟩
       refine hK.out _ _ ⟨(blk_cell BK175.out 0).trans rfl, (blk_cell BK175.out 1).trans rfl, (blk_cell BK175.out 2).trans rfl⟩ (fun hHeld => ?_)
       clear hK K
       refine norm_ (a' := ?_) ?_ ?_
       rotate_left
       ·
        show Act.put _ (some 24) _ = _
        simp only [Act.put, List.setIfInBounds_toArray, List.set_cons_zero, List.set_cons_succ, i64_w, i32_w]
        rfl
       refine pu 8 (some 25) rfl rfl (ao HT_) (fun _ _ _ h => h) ya aa ?_
       refine pu 9 (some 26) rfl rfl (ao HT_) (fun _ _ _ h => h) ya aa ?_
       refine pu 10 (some 27) rfl rfl (ao HT_) (fun _ _ _ h => h) ya aa ?_
       refine pu 11 (some 28) rfl rfl (ao HT_) (fun _ _ _ h => h) ya aa ?_
       refine pu 12 (some 29) rfl rfl (ao HT_) (fun _ _ _ h => h) ya aa ?_
       refine pu 13 (some 30) rfl rfl (ao HT_) (fun _ _ _ h => h) ya aa ?_
       refine pu (v := undef) 14 (some 31) rfl rfl (ao HT_) (fun _ _ _ h => h) (Or.inr ⟨by rfl, rfl⟩) aa ?_
       refine pu (v := undef) 15 (some 32) rfl rfl (ao HT_) (fun _ _ _ h => h) (Or.inr ⟨by rfl, rfl⟩) aa ?_
       refine pu (v := undef) 16 (some 33) rfl rfl (ao HT_) (fun _ _ _ h => h) (Or.inr ⟨by rfl, rfl⟩) aa ?_
       refine pu (v := undef) 17 (some 34) rfl rfl (ao HT_) (fun _ _ _ h => h) (Or.inr ⟨by rfl, rfl⟩) aa ?_
       refine pu (v := undef) 18 (some 35) rfl rfl (ao HT_) (fun _ _ _ h => h) (Or.inr ⟨by rfl, rfl⟩) aa ?_
       refine pu (v := undef) 19 (some 36) rfl rfl (ao HT_) (fun _ _ _ h => h) (Or.inr ⟨by rfl, rfl⟩) aa ?_
       refine pu (v := undef) 20 (some 37) rfl rfl (ao HT_) (fun _ _ _ h => h) (Or.inr ⟨by rfl, rfl⟩) aa ?_
       refine pu (v := undef) 21 (some 38) rfl rfl (ao HT_) (fun _ _ _ h => h) (Or.inr ⟨by rfl, rfl⟩) aa ?_
       refine pu (v := undef) 22 (some 39) rfl rfl (ao HT_) (fun _ _ _ h => h) (Or.inr ⟨by rfl, rfl⟩) aa ?_
       refine pu (v := undef) 23 (some 40) rfl rfl (ao HT_) (fun _ _ _ h => h) (Or.inr ⟨by rfl, rfl⟩) aa ?_
       refine pu (v := undef) 24 (some 41) rfl rfl (ao HT_) (fun _ _ _ h => h) (Or.inr ⟨by rfl, rfl⟩) aa ?_
       refine pu (v := undef) 25 (some 42) rfl rfl (ao HT_) (fun _ _ _ h => h) (Or.inr ⟨by rfl, rfl⟩) aa ?_
       refine pu 26 (some 43) rfl rfl (ao HT_) (fun _ _ _ h => h) ya aa ?_
       refine pu 27 (some 44) rfl rfl (ao HT_) (fun _ _ _ h => h) ya aa ?_
       refine done_ (done_of HT_.out (by kernel_rfl)) ?_
       try go_wp2
       go_roundg k1
       case measure => have := HK1.out; omega
       case rel => exact ⟨(wrap64 (x3_1 + 1)), (by first | rfl | (simp; done) | (simp [*]; done)), H', ⟨by have := HK1.out; omega⟩, ⟨by exact uB <| BK173.out⟩, ⟨by repeat (first | (with_reducible first | exact HB.out | apply below_alloc | apply pw_below_drewN | apply below_drew1 | refine below_set ?_ GE173.out | refine below_set ?_ GE175.out) | exact HB.out)⟩⟩
     ·
      replace c13 := Bool.eq_false_iff.mpr c13
      subst c13
      rw [if_neg (show ¬ (false = true) by decide)] at H
      obtain rfl := Option.some.inj H
      have hcz40_0 : wr.cell? ⟨gb173, 0, none⟩ = some (.slice A0_0 l0_0.length c0_0) := (blk_cell BK173.out 0).trans rfl
      have hfz40_0 := blk_frozen BK173.out 0
      have p174 : 0 ≤ (x3_1 : Int) := od
      have q174 : x3_1 < (l0_0.length : Int) := od
      obtain ⟨ad174, A174_2, c174_2, e174, hx174_0, hx174_1, hx174_2, hl174_2, hi174_2⟩ := at_T70 HR0_0.out x3_1 p174 q174
      cases e174
      replace hx174_0 := kc HB hx174_0
      replace hx174_1 := kc HB hx174_1
      replace hx174_2 := kc HB hx174_2
      have HR174_2 := Aside0.mk hi174_2
      have HC174_2 := Aside0.mk hl174_2
      clear hi174_2 hl174_2
      replace p174 := eq_true p174
      replace q174 := eq_true q174
      try go_wp2_with (first | ((with_reducible refine gate_dst (N := 4) rfl ?_); refine box_event ?hg (N := 4) ?hd (cs := #[.int .i64 0, .string (⟨#[]⟩ : ByteArray), .slice none 0 0]) (t := 70) ?hr ?_; (case hd => rfl); (case hg => rfl); (case hr => first | (go_simp; done) | (go_simp; rfl)); intro gb175 hg w41 hbox hb; have BK175 := Aside0.mk (hbox); have GW175 := Aside0.mk ((by rw [hg]; exact (below_size (by repeat (first | (with_reducible first | exact HB.out | apply below_alloc | apply pw_below_drewN | apply below_drew1 | refine below_set ?_ GE173.out) | exact HB.out))) : w.heap.size ≤ gb175)); have GE175 := Aside0.mk ((by rw [hg]; exact (below_size (by repeat (first | (with_reducible first | exact HB.out | apply below_alloc | apply pw_below_drewN | apply below_drew1 | refine below_set ?_ GE173.out) | exact HB.out))) : w.heap.size ≤ gb175)); replace HB := Aside0.mk (below_step (by repeat (first | (with_reducible first | exact HB.out | apply below_alloc | apply pw_below_drewN | apply below_drew1 | refine below_set ?_ GE173.out) | exact HB.out)) hb); have NB173_175 := Aside0.mk ((by rw [hg]; exact Nat.ne_of_lt (blk_lt (g := gb173) (o := .cells #[.slice (some ad174) l0_0.length c0_0] 50 (0, 0)) (uB BK173.out)) : gb173 ≠ gb175)); have NB175_173 := Aside0.mk ((by rw [hg]; exact Nat.ne_of_gt (blk_lt (g := gb173) (o := .cells #[.slice (some ad174) l0_0.length c0_0] 50 (0, 0)) (uB BK173.out)) : gb175 ≠ gb173)); replace BK173 := cB BK173 hb; clear hb hbox hg; have hnb42 := NB175_173.out; have hnc42 := NB173_175.out; have hcz43_0 : w41.cell? ⟨gb175, 0, none⟩ = some (.int .i64 0) := (blk_cell BK175.out 0).trans rfl; have hcz43_1 : w41.cell? ⟨gb175, 1, none⟩ = some (.string (⟨#[]⟩ : ByteArray)) := (blk_cell BK175.out 1).trans rfl; have hcz43_2 : w41.cell? ⟨gb175, 2, none⟩ = some (.slice none 0 0) := (blk_cell BK175.out 2).trans rfl; have hfz43_0 := blk_frozen BK175.out 0; have hfz43_1 := blk_frozen BK175.out 1; have hfz43_2 := blk_frozen BK175.out 2))
      have n0_ : Aside0 ((((w41.setCell ⟨gb175, 0, none⟩ (.int .i64 ((rd_T70 l0_0 x3_1).f0))).setCell ⟨gb175, 1, none⟩ (.string ((rd_T70 l0_0 x3_1).f1))).setCell ⟨gb175, 2, none⟩ (.slice A174_2 ((rd_T70 l0_0 x3_1).f2).length c174_2)).heap[gb173]? = some (.cells #[.slice (some ad174) l0_0.length c0_0] 50 (0, 0))) := ⟨by (with_reducible repeat (first | refine blk_drewN ?_ _ | refine blk_drew ?_ | refine blk_alloc ?_ _)); refine blk_far ?_ NB173_175.out _; (with_reducible repeat (first | refine blk_drewN ?_ _ | refine blk_drew ?_ | refine blk_alloc ?_ _)); refine blk_far ?_ NB173_175.out _; (with_reducible repeat (first | refine blk_drewN ?_ _ | refine blk_drew ?_ | refine blk_alloc ?_ _)); refine blk_far ?_ NB173_175.out _; exact uB <| BK173.out⟩
      have n1_ : Aside0 ((((w41.setCell ⟨gb175, 0, none⟩ (.int .i64 ((rd_T70 l0_0 x3_1).f0))).setCell ⟨gb175, 1, none⟩ (.string ((rd_T70 l0_0 x3_1).f1))).setCell ⟨gb175, 2, none⟩ (.slice A174_2 ((rd_T70 l0_0 x3_1).f2).length c174_2)).heap[gb175]? = some (.cells #[.int .i64 ((rd_T70 l0_0 x3_1).f0), .string ((rd_T70 l0_0 x3_1).f1), .slice A174_2 ((rd_T70 l0_0 x3_1).f2).length c174_2] 70 (0, 0))) := ⟨by (with_reducible repeat (first | refine blk_drewN ?_ _ | refine blk_drew ?_ | refine blk_alloc ?_ _)); refine blk_put (cs := #[.int .i64 ((rd_T70 l0_0 x3_1).f0), .string ((rd_T70 l0_0 x3_1).f1), .slice none 0 0]) ?_ 2 _ rfl; (with_reducible repeat (first | refine blk_drewN ?_ _ | refine blk_drew ?_ | refine blk_alloc ?_ _)); refine blk_put (cs := #[.int .i64 ((rd_T70 l0_0 x3_1).f0), .string (⟨#[]⟩ : ByteArray), .slice none 0 0]) ?_ 1 _ rfl; (with_reducible repeat (first | refine blk_drewN ?_ _ | refine blk_drew ?_ | refine blk_alloc ?_ _)); refine blk_put (cs := #[.int .i64 0, .string (⟨#[]⟩ : ByteArray), .slice none 0 0]) ?_ 0 _ rfl; exact uB <| BK175.out⟩
      have n2_ : Aside0 (Below w.heap.size w (((w41.setCell ⟨gb175, 0, none⟩ (.int .i64 ((rd_T70 l0_0 x3_1).f0))).setCell ⟨gb175, 1, none⟩ (.string ((rd_T70 l0_0 x3_1).f1))).setCell ⟨gb175, 2, none⟩ (.slice A174_2 ((rd_T70 l0_0 x3_1).f2).length c174_2))) := ⟨by repeat (first | (with_reducible first | exact HB.out | apply below_alloc | apply pw_below_drewN | apply below_drew1 | refine below_set ?_ GE173.out | refine below_set ?_ GE175.out) | exact HB.out)⟩
      (try clear BK173)
      (try clear BK175)
      (try clear HB)
      generalize (((w41.setCell ⟨gb175, 0, none⟩ (.int .i64 ((rd_T70 l0_0 x3_1).f0))).setCell ⟨gb175, 1, none⟩ (.string ((rd_T70 l0_0 x3_1).f1))).setCell ⟨gb175, 2, none⟩ (.slice A174_2 ((rd_T70 l0_0 x3_1).f2).length c174_2)) = w44 at n0_ n1_ n2_ ⊢
      have BK173 := n0_
      have BK175 := n1_
      have HB := n2_
      clear n0_ n1_ n2_
      have n0_ := Aside0.mk (blk_drew BK173.out)
      have n1_ := Aside0.mk (blk_drew BK175.out)
      have n2_ := Aside0.mk (below_drew1 HB.out)
      clear BK173
      clear BK175
      clear HB
      have BK173 := n0_
      have BK175 := n1_
      have HB := n2_
      clear n0_ n1_ n2_
      refine start_ (n := 28) (S := fun w' => w'.cell? ⟨gb175, 0, none⟩ = some (.int .i64 ((rd_T70 l0_0 x3_1).f0)) ∧ w'.cell? ⟨gb175, 1, none⟩ = some (.string ((rd_T70 l0_0 x3_1).f1)) ∧ w'.cell? ⟨gb175, 2, none⟩ = some (.slice A174_2 ((rd_T70 l0_0 x3_1).f2).length c174_2)) (ds := []) #[false, false, false, false, false, false, false, false, false, false, false, false, false, false, false, false, false, false, false, false, false, false, false, false, false, false, false, false] (by kernel_rfl) rfl rfl ⟨(blk_cell BK175.out 0).trans rfl, (blk_cell BK175.out 1).trans rfl, (blk_cell BK175.out 2).trans rfl⟩ (fun hHeld => ?_); refine with_tabW ebbtideref11_Right.tab5 ebbtideref11_Right.bits5 (fun HT_ HW_ => ?_)
      generalize w44.drew = w45 at BK173 BK175 HB hHeld ⊢
      refine pu 0 (some 17) rfl rfl (ao HT_) (fun _ _ _ h => h) ya aa ?_
      refine tk 1 (some 18) rfl rfl (tw HT_ HW_) (fun _ _ _ h => h) (Or.inl ⟨by rfl, by rintro w' ⟨s0, s1, s2⟩; go_simp; with_reducible rfl⟩) hHeld aa ?_
      refine pu 2 (some 19) rfl rfl (ao HT_) (fun _ _ _ h => h) ya aa ?_
      refine pu 3 (some 20) rfl rfl (ao HT_) (fun _ _ _ h => h) ya aa ?_
      refine pu 4 (some 21) rfl rfl (ao HT_) (fun _ _ _ h => h) ya aa ?_
      refine pu 5 (some 22) rfl rfl (ao HT_) (fun _ _ _ h => h) ya aa ?_
      refine tk 6 (some 23) rfl rfl (tw HT_ HW_) (fun _ _ _ h => h) (Or.inl ⟨by rfl, by rintro w' ⟨s0, s1, s2⟩; go_simp; with_reducible rfl⟩) hHeld aa ?_
      refine one_ (i := 7) (N := some 24) #[true, true, true, true, true, true, true, true, false, false, false, false, false, false, false, false, false, false, false, false, false, false, false, false, false, false, false, false] rfl rfl (one_of HT_.out (by kernel_rfl)) (by decide) (fun K hK => ?_)
      refine goes_ Try.func54 (by kernel_rfl) rfl #[.slice A174_2 ((rd_T70 l0_0 x3_1).f2).length c174_2] (by rfl) rfl rfl (by (try simp only [List.map_toArray, List.map_cons, List.map_nil]); first | done | rfl | (simp only [List.length_drop, List.length_take]; rfl)) ?_
      with_reducible refine (ebbtideref10_Right.calls k1 _ _ ((rd_T70 l0_0 x3_1).f2) false _ ?side1 ?side2 A12.out).mono ?_
      (case side1 => repeat (first | exact (Kd.C_below HR174_2.out HB.out) | (with_reducible refine Kd.C_alloc ?_ _) | (with_reducible refine Kd.C_drewN ?_ _) | (with_reducible refine Kd.C_drew ?_)))
      (case side2 => exact HC174_2.out)
      rintro e w' ⟨rfl, ⟨nd, rfl⟩⟩
      refine ⟨_, rfl, ?_⟩
      refine hK.out _ _ ⟨(blk_cell BK175.out 0).trans rfl, (blk_cell BK175.out 1).trans rfl, (blk_cell BK175.out 2).trans rfl⟩ (fun hHeld => ?_)
      clear hK K
      refine norm_ (a' := ?_) ?_ ?_
      rotate_left
      ·
       show Act.put _ (some 24) _ = _
       simp only [Act.put, List.setIfInBounds_toArray, List.set_cons_zero, List.set_cons_succ, i64_w, i32_w]
       rfl
      refine pu 8 (some 25) rfl rfl (ao HT_) (fun _ _ _ h => h) ya aa ?_
      refine pu 9 (some 26) rfl rfl (ao HT_) (fun _ _ _ h => h) ya aa ?_
      refine pu 10 (some 27) rfl rfl (ao HT_) (fun _ _ _ h => h) ya aa ?_
      refine pu (v := undef) 11 (some 28) rfl rfl (ao HT_) (fun _ _ _ h => h) (Or.inr ⟨by rfl, rfl⟩) aa ?_
      refine pu (v := undef) 12 (some 29) rfl rfl (ao HT_) (fun _ _ _ h => h) (Or.inr ⟨by rfl, rfl⟩) aa ?_
      refine pu (v := undef) 13 (some 30) rfl rfl (ao HT_) (fun _ _ _ h => h) (Or.inr ⟨by rfl, rfl⟩) aa ?_
      refine pu (v := undef) 14 (some 31) rfl rfl (ao HT_) (fun _ _ _ h => h) (Or.inr ⟨by rfl, rfl⟩) aa ?_
      refine pu (v := undef) 15 (some 32) rfl rfl (ao HT_) (fun _ _ _ h => h) (Or.inr ⟨by rfl, rfl⟩) aa ?_
      refine pu (v := undef) 16 (some 33) rfl rfl (ao HT_) (fun _ _ _ h => h) (Or.inr ⟨by rfl, rfl⟩) aa ?_
      refine pu (v := undef) 17 (some 34) rfl rfl (ao HT_) (fun _ _ _ h => h) (Or.inr ⟨by rfl, rfl⟩) aa ?_
      refine pu (v := undef) 18 (some 35) rfl rfl (ao HT_) (fun _ _ _ h => h) (Or.inr ⟨by rfl, rfl⟩) aa ?_
      refine pu (v := undef) 19 (some 36) rfl rfl (ao HT_) (fun _ _ _ h => h) (Or.inr ⟨by rfl, rfl⟩) aa ?_
      refine pu (v := undef) 20 (some 37) rfl rfl (ao HT_) (fun _ _ _ h => h) (Or.inr ⟨by rfl, rfl⟩) aa ?_
      refine pu (v := undef) 21 (some 38) rfl rfl (ao HT_) (fun _ _ _ h => h) (Or.inr ⟨by rfl, rfl⟩) aa ?_
      refine pu (v := undef) 22 (some 39) rfl rfl (ao HT_) (fun _ _ _ h => h) (Or.inr ⟨by rfl, rfl⟩) aa ?_
      refine pu (v := undef) 23 (some 40) rfl rfl (ao HT_) (fun _ _ _ h => h) (Or.inr ⟨by rfl, rfl⟩) aa ?_
      refine pu (v := undef) 24 (some 41) rfl rfl (ao HT_) (fun _ _ _ h => h) (Or.inr ⟨by rfl, rfl⟩) aa ?_
      refine pu (v := undef) 25 (some 42) rfl rfl (ao HT_) (fun _ _ _ h => h) (Or.inr ⟨by rfl, rfl⟩) aa ?_
      refine pu (v := undef) 26 (some 43) rfl rfl (ao HT_) (fun _ _ _ h => h) (Or.inr ⟨by rfl, rfl⟩) aa ?_
      refine pu 27 (some 44) rfl rfl (ao HT_) (fun _ _ _ h => h) ya aa ?_
      refine done_ (done_of HT_.out (by kernel_rfl)) ?_
      try go_wp2
      go_ret
      exact ⟨by first | rfl | (simp [errW_none, errW_some] <;> rfl) | (simp [*, errW_none, errW_some] <;> rfl), by repeat (first | (with_reducible first | exact HB.out | apply below_alloc | apply pw_below_drewN | apply below_drew1 | refine below_set ?_ GE173.out | refine below_set ?_ GE175.out) | exact HB.out)⟩
   ·
    rw [if_neg c3] at H
    have c3b0 : decide (x3_1 < (l0_0.length : Int)) = false := decide_eq_false c3
    clear c3
    obtain rfl := Option.some.inj H
    have hcz46_0 : wr.cell? ⟨gb173, 0, none⟩ = some (.slice A0_0 l0_0.length c0_0) := (blk_cell BK173.out 0).trans rfl
    have hfz46_0 := blk_frozen BK173.out 0
    go_wp2
    go_ret
    exact ⟨by first | rfl | (simp [errW_none, errW_some] <;> rfl) | (simp [*, errW_none, errW_some] <;> rfl), by repeat (first | (with_reducible first | exact HB.out | apply below_alloc | apply pw_below_drewN | apply below_drew1 | refine below_set ?_ GE173.out) | exact HB.out)⟩

end Go.Proofs.Ytklhjponikgkkaa.X
