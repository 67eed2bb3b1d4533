/- Printed by a program of this session's own: what functions of the program compute, and that the machine computes it. -/
import Derived.Test.YtklhjponikgkkaaXx0
import Derived.Test.YtklhjponikgkkaaXx6
import Derived.Test.YtklhjponikgkkaaXx7
import Derived.Test.YtklhjponikgkkaaXx9
import Derived.Test.YtklhjponikgkkaaXxS
namespace Go.Proofs.Ytklhjponikgkkaa.X
open Go.RowKit Go.Proofs.YtklhjponikgkkaaW.PrintWords Go.Proofs.YtklhjponikgkkaaW.PrintLast Go.Proofs.YtklhjponikgkkaaW.PrintMore
attribute [local go_sem] max2_int min2_int max_two min_two max_three min_three max_four min_four   -- for this text's walks alone
set_option linter.unusedVariables false
set_option linter.unusedSimpArgs false

/-! ### ebbtideref11_Apply: function 19 -/
mutual
def ebbtideref11_Apply.j1 : Nat → Int → List (S70) → Int → Int → ByteArray → Int → Option ((List (S70)) × Int)
 | 0, _, _, _, _, _, _ => none
 | k + 1, x6, x223000, x224000, x224001, x224002, x224003 => if 0 ≤ x6 then (if x6 ≤ (x223000.length : Int) then ((some (x223000.drop (x6 : Int).toNat : List (S70))).bind fun y228 => (if (y228.length : Int) > 0 then (if 0 < (y228.length : Int) then (if ((rd_T70 y228 0).f0) = x224001 then (ebbtideref11_Apply.j2 k x6 ([] : List (S96)) y228 (((rd_T70 y228 0).f1).toList == x224002.toList) x223000 x224000 x224001 x224002 x224003) else (ebbtideref11_Apply.j2 k x6 ([] : List (S96)) y228 false x223000 x224000 x224001 x224002 x224003)) else (none)) else (ebbtideref11_Apply.j2 k x6 ([] : List (S96)) y228 false x223000 x224000 x224001 x224002 x224003))) else (none)) else (none)
def ebbtideref11_Apply.j2 : Nat → Int → List (S96) → List (S70) → Bool → List (S70) → Int → Int → ByteArray → Int → Option ((List (S70)) × Int)
 | 0, _, _, _, _, _, _, _, _, _ => none
 | k + 1, x6, x7, x8, x58, x223000, x224000, x224001, x224002, x224003 => if x58 = true then (none) else ((ebbtideref10_Fold.f k x7 x224000 x224003).bind fun bt235 => (if bt235.2 = 0 then ((some (([] : List (S70)) : List (S70))).bind fun y239 => (if 0 ≤ x6 then (if x6 ≤ (x223000.length : Int) then ((some (x223000.take (x6 : Int).toNat : List (S70))).bind fun y242 => (if y239.length + y242.length < 2932031007402 then ((some (y239 ++ y242 : List (S70))).bind fun y247 => ((some (([(⟨x224001, x224002, bt235.1⟩ : S70)] : List (S70)) : List (S70))).bind fun y250 => (if y247.length + y250.length < 2932031007402 then ((some (y247 ++ y250 : List (S70))).bind fun y253 => (if y253.length + x8.length < 2932031007402 then (some ((y253 ++ x8), 0)) else (none))) else (none)))) else (none))) else (none)) else (none))) else (none)))
def ebbtideref11_Apply.l0 : Nat → Int → List (S70) → Int → Int → ByteArray → Int → Option ((List (S70)) × Int)
 | 0, _, _, _, _, _, _ => none
 | k + 1, x6, x223000, x224000, x224001, x224002, x224003 => if x6 < (x223000.length : Int) then (if 0 ≤ x6 then ((ebbtideref11_less.f ((rd_T70 x223000 x6).f0) ((rd_T70 x223000 x6).f1) ((rd_T70 x223000 x6).f2) x224001 x224002).bind fun t227 => (if t227 = true then (ebbtideref11_Apply.l0 k (wrap64 (x6 + 1)) x223000 x224000 x224001 x224002 x224003) else (ebbtideref11_Apply.j1 k x6 x223000 x224000 x224001 x224002 x224003))) else (none)) else (ebbtideref11_Apply.j1 k x6 x223000 x224000 x224001 x224002 x224003)
end
def ebbtideref11_Apply.f (k : Nat) (l0_0 : List (S70)) (a1_0 : Int) (a1_1 : Int) (a1_2 : ByteArray) (a1_3 : Int) : Option ((List (S70)) × Int) := (ebbtideref11_Right.f k l0_0).bind fun t225 => (if t225 = true then (ebbtideref11_Apply.l0 k 0 l0_0 a1_0 a1_1 a1_2 a1_3) else (none))
theorem ebbtideref11_Apply.mono_l : ∀ k, (∀ y0 y1 y2 y3 y4 y5, LeO (ebbtideref11_Apply.j1 k y0 y1 y2 y3 y4 y5) (ebbtideref11_Apply.j1 (k + 1) y0 y1 y2 y3 y4 y5)) ∧ (∀ y0 y1 y2 y3 y4 y5 y6 y7 y8, LeO (ebbtideref11_Apply.j2 k y0 y1 y2 y3 y4 y5 y6 y7 y8) (ebbtideref11_Apply.j2 (k + 1) y0 y1 y2 y3 y4 y5 y6 y7 y8)) ∧ (∀ y0 y1 y2 y3 y4 y5, LeO (ebbtideref11_Apply.l0 k y0 y1 y2 y3 y4 y5) (ebbtideref11_Apply.l0 (k + 1) y0 y1 y2 y3 y4 y5))
 | 0 => ⟨fun _ _ _ _ _ _ r h => by simp [ebbtideref11_Apply.j1] at h, fun _ _ _ _ _ _ _ _ _ r h => by simp [ebbtideref11_Apply.j2] at h, fun _ _ _ _ _ _ r h => by simp [ebbtideref11_Apply.l0] at h⟩
 | k + 1 => by
  obtain ⟨ih0, ih1, ih2⟩ := ebbtideref11_Apply.mono_l k
  refine ⟨?_, ?_, ?_⟩
  ·
   intro y0 y1 y2 y3 y4 y5
   unfold ebbtideref11_Apply.j1
   repeat' first
   | (with_reducible exact ih0 _ _ _ _ _ _)
   | (with_reducible exact ih1 _ _ _ _ _ _ _ _ _)
   | (with_reducible exact ih2 _ _ _ _ _ _)
   | (with_reducible exact ebbtideref10_Fold.mono _ _ _ _)
   | (with_reducible exact ebbtideref11_Right.mono _ _)
   | (with_reducible exact LeO.refl _)
   | (with_reducible exact LeO.none _)
   | (with_reducible refine LeO.ite ?_ ?_)
   | (with_reducible refine LeO.bind ?_ (fun _ => ?_))
   | exact ih0 _ _ _ _ _ _
   | exact ih1 _ _ _ _ _ _ _ _ _
   | exact ih2 _ _ _ _ _ _
   | exact ebbtideref10_Fold.mono _ _ _ _
   | exact ebbtideref11_Right.mono _ _
   | exact LeO.none _
   | refine LeO.ite ?_ ?_
   | refine LeO.bind ?_ (fun _ => ?_)
  ·
   intro y0 y1 y2 y3 y4 y5 y6 y7 y8
   unfold ebbtideref11_Apply.j2
   repeat' first
   | (with_reducible exact ih0 _ _ _ _ _ _)
   | (with_reducible exact ih1 _ _ _ _ _ _ _ _ _)
   | (with_reducible exact ih2 _ _ _ _ _ _)
   | (with_reducible exact ebbtideref10_Fold.mono _ _ _ _)
   | (with_reducible exact ebbtideref11_Right.mono _ _)
   | (with_reducible exact LeO.refl _)
   | (with_reducible exact LeO.none _)
   | (with_reducible refine LeO.ite ?_ ?_)
   | (with_reducible refine LeO.bind ?_ (fun _ => ?_))
   | exact ih0 _ _ _ _ _ _
   | exact ih1 _ _ _ _ _ _ _ _ _
   | exact ih2 _ _ _ _ _ _
   | exact ebbtideref10_Fold.mono _ _ _ _
   | exact ebbtideref11_Right.mono _ _
   | exact LeO.none _
   | refine LeO.ite ?_ ?_
   | refine LeO.bind ?_ (fun _ => ?_)
  ·
   intro y0 y1 y2 y3 y4 y5
   unfold ebbtideref11_Apply.l0
   repeat' first
   | (with_reducible exact ih0 _ _ _ _ _ _)
   | (with_reducible exact ih1 _ _ _ _ _ _ _ _ _)
   | (with_reducible exact ih2 _ _ _ _ _ _)
   | (with_reducible exact ebbtideref10_Fold.mono _ _ _ _)
   | (with_reducible exact ebbtideref11_Right.mono _ _)
   | (with_reducible exact LeO.refl _)
   | (with_reducible exact LeO.none _)
   | (with_reducible refine LeO.ite ?_ ?_)
   | (with_reducible refine LeO.bind ?_ (fun _ => ?_))
   | exact ih0 _ _ _ _ _ _
   | exact ih1 _ _ _ _ _ _ _ _ _
   | exact ih2 _ _ _ _ _ _
   | exact ebbtideref10_Fold.mono _ _ _ _
   | exact ebbtideref11_Right.mono _ _
   | exact LeO.none _
   | refine LeO.ite ?_ ?_
   | refine LeO.bind ?_ (fun _ => ?_)
theorem ebbtideref11_Apply.mono : ∀ a0 a1 a2 a3 a4 k, LeO (ebbtideref11_Apply.f k a0 a1 a2 a3 a4) (ebbtideref11_Apply.f (k + 1) a0 a1 a2 a3 a4) := by
 intro a0 a1 a2 a3 a4 k
 obtain ⟨ih0, ih1, ih2⟩ := ebbtideref11_Apply.mono_l k
 unfold ebbtideref11_Apply.f
 repeat' first
  | (with_reducible exact ih0 _ _ _ _ _ _)
  | (with_reducible exact ih1 _ _ _ _ _ _ _ _ _)
  | (with_reducible exact ih2 _ _ _ _ _ _)
  | (with_reducible exact ebbtideref10_Fold.mono _ _ _ _)
  | (with_reducible exact ebbtideref11_Right.mono _ _)
  | (with_reducible exact LeO.refl _)
  | (with_reducible exact LeO.none _)
  | (with_reducible refine LeO.ite ?_ ?_)
  | (with_reducible refine LeO.bind ?_ (fun _ => ?_))
  | exact ih0 _ _ _ _ _ _
  | exact ih1 _ _ _ _ _ _ _ _ _
  | exact ih2 _ _ _ _ _ _
  | exact ebbtideref10_Fold.mono _ _ _ _
  | exact ebbtideref11_Right.mono _ _
  | exact LeO.none _
  | refine LeO.ite ?_ ?_
  | refine LeO.bind ?_ (fun _ => ?_)
def ebbtideref11_Apply.T4 : Bool × List (List Nat × List Nat) := (true, [([], []), ([], []), ([1], [1]), ([2], [2]), ([0, 3], [0, 3]), ([4], [4]), ([5], [5]), ([6, 5], [5, 6]), ([5], [5]), ([7, 8, 5], [5, 7, 8]), ([9, 5], [5, 9]), ([5], [5]), ([11, 5], [5, 11]), ([5], [5]), ([13, 5], [5, 13]), ([10, 12, 14, 5, 5], [5, 10, 12, 14]), ([5, 15], [5, 15])])
def ebbtideref11_Apply.B4 : List Nat := [0, 0, 2, 6, 15, 31, 63, 127, 63, 511, 1023, 63, 2111, 63, 8255, 32767, 65535]
theorem ebbtideref11_Apply.tab4 : rtab .any (opsOf Try.f19 4) = ebbtideref11_Apply.T4 := by kernel_rfl
theorem ebbtideref11_Apply.bits4 : waitsOk ebbtideref11_Apply.T4.2 ebbtideref11_Apply.B4 = true := by kernel_rfl
def ebbtideref11_Apply.T8 : Bool × List (List Nat × List Nat) := (true, [([], []), ([0], [0]), ([1], [1]), ([2], [2]), ([3], [3]), ([4, 3], [3, 4]), ([5, 3], [3, 5]), ([6, 3], [3, 6]), ([3], [3]), ([8, 3], [3, 8]), ([7, 9, 3], [3, 7, 9]), ([3, 10], [3, 10]), ([11, 3], [11]), ([12], [12]), ([13, 12], [12, 13]), ([14, 12], [12, 14]), ([15, 12], [12, 15]), ([12], [12]), ([17, 12], [12, 17]), ([16, 18, 12], [12, 16, 18]), ([12, 19], [12, 19])])
def ebbtideref11_Apply.B8 : List Nat := [0, 1, 3, 7, 15, 31, 63, 127, 15, 271, 1023, 2047, 4095, 8191, 16383, 32767, 65535, 8191, 139263, 524287, 1048575]
theorem ebbtideref11_Apply.tab8 : rtab .any (opsOf Try.f19 8) = ebbtideref11_Apply.T8 := by kernel_rfl
theorem ebbtideref11_Apply.bits8 : waitsOk ebbtideref11_Apply.T8.2 ebbtideref11_Apply.B8 = true := by kernel_rfl
def ebbtideref11_Apply.T13 : Bool × List (List Nat × List Nat) := (true, [([], []), ([], []), ([1], [1]), ([], []), ([2, 3], [2, 3]), ([0, 4], [0, 4]), ([], []), ([6], [6]), ([], []), ([8], [8]), ([], []), ([7, 9, 10], [7, 9, 10]), ([11], [11]), ([5, 12, 5], [5, 12]), ([13, 13, 0, 1, 2, 3, 4, 5, 6, 7, 8, 9, 10, 11, 12, 13], [13])])
def ebbtideref11_Apply.B13 : List Nat := [0, 0, 2, 0, 14, 31, 0, 64, 0, 256, 0, 1984, 4032, 8191, 16383]
theorem ebbtideref11_Apply.tab13 : rtab .any (opsOf Try.f19 13) = ebbtideref11_Apply.T13 := by kernel_rfl
theorem ebbtideref11_Apply.bits13 : waitsOk ebbtideref11_Apply.T13.2 ebbtideref11_Apply.B13 = true := by kernel_rfl
set_option maxHeartbeats 8000000 in
set_option maxRecDepth 100000 in
theorem ebbtideref11_Apply.calls (k : Nat) (P0_0_ : Nat → Prop) (A0_0 : Option Addr) (c0_0 : Nat) (l0_0 : List (S70)) (a1_0 : Int) (a1_1 : Int) (a1_2 : ByteArray) (a1_3 : Int) (r1 : List (S70)) (r2 : Int) (w : World) (hs0_0 : Kd.V k70 70 w w.heap.size (fun k_ => P0_0_ k_) (.slice A0_0 l0_0.length c0_0) l0_0) (h : ebbtideref11_Apply.f k l0_0 a1_0 a1_1 a1_2 a1_3 = some (r1, r2)) :
 Calls Try.prog 19 #[.agg #[.slice A0_0 l0_0.length c0_0], .agg #[.int .i64 a1_0, .int .i64 a1_1, .string a1_2, .int .i64 a1_3]] w fun e w' => ∃ v0_ : Value, e = .returned (.tuple #[.agg #[v0_], .int .i64 r2]) ∧ Kd.N k70 70 w' w.heap.size (fun k_ => (P0_0_ k_ ∨ w.heap.size ≤ k_)) v0_ r1 ∧ Below w.heap.size w w' := by
 have hu50 := Try.underlying50
 have hu61 := Try.underlying61
 have hu70 := Try.underlying70
 have HO0_0 := Aside0.mk (show Kd.V k70 70 w w.heap.size (fun k_ => (P0_0_ k_ ∨ w.heap.size ≤ k_)) (.slice A0_0 l0_0.length c0_0) l0_0 from Kd.V_mono hs0_0 (fun k_ hk => .inl hk))
 have HB := Aside0.mk (Below.refl w.heap.size w)
 have H : ((ebbtideref11_Right.f k l0_0).bind fun t225 => (if t225 = true then (ebbtideref11_Apply.l0 k 0 l0_0 a1_0 a1_1 a1_2 a1_3) else (none))) = some (r1, r2) := h
 clear h
 replace H := Option.bind_eq_some_iff.mp H
 obtain ⟨t225, A30, H⟩ := H
 replace H : (if t225 = true then (ebbtideref11_Apply.l0 k 0 l0_0 a1_0 a1_1 a1_2 a1_3) else (none)) = some (r1, r2) := H
 have A3 := Aside0.mk A30
 clear A30
 by_cases c4 : t225 = true
 ·
  subst c4
  rw [if_pos rfl] at H
  have HC5 := Aside0.mk H
  clear H
  go_enter Try.func19, Try.ntmps19
  go_upto_block 0 with (first | ((with_reducible refine gate_dst (N := 2) rfl ?_); refine box_event ?hg (N := 2) ?hd (cs := #[.slice A0_0 l0_0.length c0_0]) (t := 50) ?hr ?_; (case hd => rfl); (case hg => rfl); (case hr => first | (go_simp; done) | (go_simp; rfl)); intro gb222 hg w6 hbox hb; replace HO0_0 := Aside0.mk (Kd.V_below (Kd.V_elderB (uV HO0_0.out) gb222 (Nat.le_of_eq hg.symm)) hb); have BK222 := Aside0.mk (hbox); have GW222 := Aside0.mk ((by rw [hg]; exact (below_size (uW HB.out)) : w.heap.size ≤ gb222)); have GE222 := Aside0.mk ((by rw [hg]; exact (below_size (uW HB.out)) : w.heap.size ≤ gb222)); replace HB := cW HB hb; clear hb hbox hg) | ((with_reducible refine gate_dst (N := 3) rfl ?_); refine box_event ?hg (N := 3) ?hd (cs := #[.int .i64 a1_0, .int .i64 a1_1, .string a1_2, .int .i64 a1_3]) (t := 61) ?hr ?_; (case hd => rfl); (case hg => rfl); (case hr => first | (go_simp; done) | (go_simp; rfl)); intro gb223 hg w7 hbox hb; replace HO0_0 := Aside0.mk (Kd.V_below (Kd.V_elderB (uV HO0_0.out) gb223 (Nat.le_of_eq hg.symm)) hb); have BK223 := Aside0.mk (hbox); have GW223 := Aside0.mk ((by rw [hg]; exact (below_size (by repeat (first | (with_reducible first | exact HB.out | apply below_alloc | apply pw_below_drewN | apply below_drew1 | refine below_set ?_ GE222.out) | exact HB.out))) : w.heap.size ≤ gb223)); have GE223 := Aside0.mk ((by rw [hg]; exact (below_size (by repeat (first | (with_reducible first | exact HB.out | apply below_alloc | apply pw_below_drewN | apply below_drew1 | refine below_set ?_ GE222.out) | exact HB.out))) : w.heap.size ≤ gb223)); replace HB := Aside0.mk (below_step (by repeat (first | (with_reducible first | exact HB.out | apply below_alloc | apply pw_below_drewN | apply below_drew1 | refine below_set ?_ GE222.out) | exact HB.out)) hb); have NB222_223 := Aside0.mk ((by rw [hg]; exact Nat.ne_of_lt (blk_lt (g := gb222) (o := .cells #[.slice A0_0 l0_0.length c0_0] 50 (0, 0)) (uB BK222.out)) : gb222 ≠ gb223)); have NB223_222 := Aside0.mk ((by rw [hg]; exact Nat.ne_of_gt (blk_lt (g := gb222) (o := .cells #[.slice A0_0 l0_0.length c0_0] 50 (0, 0)) (uB BK222.out)) : gb223 ≠ gb222)); replace BK222 := cB BK222 hb; clear hb hbox hg) | ((with_reducible refine gate_dst (N := 4) rfl ?_); refine box_event ?hg (N := 4) ?hd (cs := #[.slice none 0 0]) (t := 50) ?hr ?_; (case hd => rfl); (case hg => rfl); (case hr => first | (go_simp; done) | (go_simp; rfl)); intro gb224 hg w8 hbox hb; replace HO0_0 := Aside0.mk (Kd.V_below (Kd.V_elderB (uV HO0_0.out) gb224 (Nat.le_of_eq hg.symm)) hb); have BK224 := Aside0.mk (hbox); have GW224 := Aside0.mk ((by rw [hg]; exact (below_size (by repeat (first | (with_reducible first | exact HB.out | apply below_alloc | apply pw_below_drewN | apply below_drew1 | refine below_set ?_ GE222.out | refine below_set ?_ GE223.out) | exact HB.out))) : w.heap.size ≤ gb224)); have GE224 := Aside0.mk ((by rw [hg]; exact (below_size (by repeat (first | (with_reducible first | exact HB.out | apply below_alloc | apply pw_below_drewN | apply below_drew1 | refine below_set ?_ GE222.out | refine below_set ?_ GE223.out) | exact HB.out))) : w.heap.size ≤ gb224)); replace HB := Aside0.mk (below_step (by repeat (first | (with_reducible first | exact HB.out | apply below_alloc | apply pw_below_drewN | apply below_drew1 | refine below_set ?_ GE222.out | refine below_set ?_ GE223.out) | exact HB.out)) hb); have NB222_224 := Aside0.mk ((by rw [hg]; exact Nat.ne_of_lt (blk_lt (g := gb222) (o := .cells #[.slice A0_0 l0_0.length c0_0] 50 (0, 0)) (uB BK222.out)) : gb222 ≠ gb224)); have NB224_222 := Aside0.mk ((by rw [hg]; exact Nat.ne_of_gt (blk_lt (g := gb222) (o := .cells #[.slice A0_0 l0_0.length c0_0] 50 (0, 0)) (uB BK222.out)) : gb224 ≠ gb222)); replace BK222 := cB BK222 hb; have NB223_224 := Aside0.mk ((by rw [hg]; exact Nat.ne_of_lt (blk_lt (g := gb223) (o := .cells #[.int .i64 a1_0, .int .i64 a1_1, .string a1_2, .int .i64 a1_3] 61 (0, 0)) (uB BK223.out)) : gb223 ≠ gb224)); have NB224_223 := Aside0.mk ((by rw [hg]; exact Nat.ne_of_gt (blk_lt (g := gb223) (o := .cells #[.int .i64 a1_0, .int .i64 a1_1, .string a1_2, .int .i64 a1_3] 61 (0, 0)) (uB BK223.out)) : gb224 ≠ gb223)); replace BK223 := cB BK223 hb; clear hb hbox hg; have hnb9 := NB222_223.out; have hnc9 := NB223_222.out; have hnb10 := NB222_224.out; have hnc10 := NB224_222.out; have hcz11_0 : w8.cell? ⟨gb222, 0, none⟩ = some (.slice A0_0 l0_0.length c0_0) := (blk_cell BK222.out 0).trans rfl; have hfz11_0 := blk_frozen BK222.out 0) | ((with_reducible refine gate_callee (f := 40) rfl ?_); refine goesL_ (some 12) rfl rfl Try.func40 (by kernel_rfl) rfl #[.agg #[.slice A0_0 l0_0.length c0_0]] rfl (by (try simp only [List.map_toArray, List.map_cons, List.map_nil]); first | done | rfl | (simp only [List.length_drop, List.length_take]; rfl)) ?_; (with_reducible refine (ebbtideref11_Right.calls k _ _ l0_0 true _ ?side1 ?side2 A3.out).mono ?_); (case side1 => repeat (first | exact (Kd.V_reads' HO0_0.out).2.2 | (with_reducible refine Kd.C_alloc ?_ _) | (with_reducible refine Kd.C_drewN ?_ _) | (with_reducible refine Kd.C_drew ?_))); (case side2 => exact (Kd.V_reads' HO0_0.out).2.1); rintro e w12 ⟨rfl, hb⟩; refine ⟨_, rfl, ?_⟩; replace HO0_0 := cV HO0_0 hb; replace BK222 := cB BK222 hb; replace BK223 := cB BK223 hb; replace BK224 := cB BK224 hb; replace HB := Aside0.mk (below_step (by repeat (first | (with_reducible first | exact HB.out | apply below_alloc | apply pw_below_drewN | apply below_drew1 | refine below_set ?_ GE222.out | refine below_set ?_ GE223.out | refine below_set ?_ GE224.out) | exact HB.out)) hb); (try clear hb)))
  (try simp only [Act.put, List.setIfInBounds_toArray, List.set_cons_zero, List.set_cons_succ])
  go_cut [6] (fun v6 wc => ∃ (kq : Nat) (x6_4 : Int), v6 = .int .i64 x6_4 ∧ Aside0 (ebbtideref11_Apply.j1 kq x6_4 l0_0 a1_0 a1_1 a1_2 a1_3 = some (r1, r2)) ∧ Aside0 (kq ≤ k) ∧ Aside0 (Kd.V k70 70 wc w.heap.size (fun k_ => (P0_0_ k_ ∨ w.heap.size ≤ k_) ∧ k_ ≠ gb222 ∧ k_ ≠ gb223 ∧ k_ ≠ gb224) (.slice A0_0 l0_0.length c0_0) l0_0) ∧ Aside0 (wc.heap[gb222]? = some (.cells #[(.slice A0_0 l0_0.length c0_0)] 50 (0, 0))) ∧ Aside0 (wc.heap[gb223]? = some (.cells #[.int .i64 a1_0, .int .i64 a1_1, .string a1_2, .int .i64 a1_3] 61 (0, 0))) ∧ Aside0 (wc.heap[gb224]? = some (.cells #[(.slice none 0 0)] 50 (0, 0))) ∧ Aside0 (Below w.heap.size w wc))
  case first =>
   have H := HC5.out
   clear HC5
   have H' := Aside0.mk H
   clear H
   go_wp2
   go_loopg [6] k (fun kq v6 w' => ∃ (x6_1 : Int), v6 = .int .i64 x6_1 ∧ Aside0 (ebbtideref11_Apply.l0 kq x6_1 l0_0 a1_0 a1_1 a1_2 a1_3 = some (r1, r2)) ∧ Aside0 (kq ≤ k) ∧ Aside0 (Kd.V k70 70 w' w.heap.size (fun k_ => (P0_0_ k_ ∨ w.heap.size ≤ k_) ∧ k_ ≠ gb222 ∧ k_ ≠ gb223 ∧ k_ ≠ gb224) (.slice A0_0 l0_0.length c0_0) l0_0) ∧ Aside0 (w'.heap[gb222]? = some (.cells #[(.slice A0_0 l0_0.length c0_0)] 50 (0, 0))) ∧ Aside0 (w'.heap[gb223]? = some (.cells #[.int .i64 a1_0, .int .i64 a1_1, .string a1_2, .int .i64 a1_3] 61 (0, 0))) ∧ Aside0 (w'.heap[gb224]? = some (.cells #[(.slice none 0 0)] 50 (0, 0))) ∧ Aside0 (Below w.heap.size w w'))
   case atStart => exact ⟨(0), (by first | rfl | (simp; done) | (simp [*]; done)), H', ⟨Nat.le_refl _⟩, ⟨by exact uV <| Kd.V_mono HO0_0.out (fun _ hk => ⟨hk.1.1.1, ⟨hk.1.1.2, ⟨hk.1.2, hk.2⟩⟩⟩)⟩, ⟨by exact uB <| BK222.out⟩, ⟨by exact uB <| BK223.out⟩, ⟨by exact uB <| BK224.out⟩, ⟨by repeat (first | (with_reducible first | exact HB.out | apply below_alloc | apply pw_below_drewN | apply below_drew1 | refine below_set ?_ GE222.out | refine below_set ?_ GE223.out | refine below_set ?_ GE224.out) | exact HB.out)⟩⟩
   case round =>
    clear H'
    try clear c1
    try clear p2
    try clear c4
    try clear c9
    try clear c10
    try clear hcz11_0
    try clear hfz11_0
    obtain ⟨x6_1, rfl, HA, HK1, HO_223000, BK222, BK223, BK224, HB⟩ := hrel
    cases gk with
    | zero => exact absurd HA.out (by simp [ebbtideref11_Apply.l0])
    | succ k1 =>
     have H := HA.out
     clear HA
     simp only [ebbtideref11_Apply.l0] at H
     by_cases c13 : x6_1 < (l0_0.length : Int)
     ·
      rw [if_pos c13] at H
      have c13b0 : decide (x6_1 < (l0_0.length : Int)) = true := decide_eq_true c13
      clear c13
      (first | rw [c13b0] | (simp only [i64_w, i32_w]; rw [c13b0]) | skip)
      obtain ⟨c14, H⟩ := gd H
      have c14b0 : decide (0 ≤ x6_1) = true := decide_eq_true c14
      clear c14
      replace H := Option.bind_eq_some_iff.mp H
      obtain ⟨t227, A150, H⟩ := H
      replace H : (if t227 = true then (ebbtideref11_Apply.l0 k1 (wrap64 (x6_1 + 1)) l0_0 a1_0 a1_1 a1_2 a1_3) else (ebbtideref11_Apply.j1 k1 x6_1 l0_0 a1_0 a1_1 a1_2 a1_3)) = some (r1, r2) := H
      have A15 := Aside0.mk A150
      clear A150
      by_cases c16 : t227 = true
      ·
       subst c16
       rw [if_pos rfl] at H
       have H' := Aside0.mk H
       clear H
       try go_wp2
       have n0_ := Aside0.mk (Kd.V_drew HO_223000.out)
       have n1_ := Aside0.mk (blk_drew BK222.out)
       have n2_ := Aside0.mk (blk_drew BK223.out)
       have n3_ := Aside0.mk (blk_drew BK224.out)
       have n4_ := Aside0.mk (below_drew1 HB.out)
       clear HO_223000
       clear BK222
       clear BK223
       clear BK224
       clear HB
       have HO_223000 := n0_
       have BK222 := n1_
       have BK223 := n2_
       have BK224 := n3_
       have HB := n4_
       clear n0_ n1_ n2_ n3_ n4_
       have p226 : 0 ≤ (x6_1 : Int) := od
       have q226 : x6_1 < (l0_0.length : Int) := od
       obtain ⟨ad226, A226_2, c226_2, e226, hx226_0, hx226_1, hx226_2, hl226_2, hi226_2⟩ := at_T70 (Kd.V_reads' HO_223000.out).2.2 x6_1 p226 q226
       cases e226
       obtain ⟨ce226, hce226, hMe226, hcc226⟩ := Kd.V_get HO_223000.out z70 x6_1 p226 (by first | exact q226 | exact od | (have e_ := (Kd.V_reads' HO_223000.out).1; omega))
       obtain ⟨ua226_2, uc226_2, rfl, ul226_2, ge226_2⟩ := k70_openF hMe226
       have hv226_2 := hcc226 2 _ rfl
       rw [add_field _ _ 2 (by omega)] at hv226_2
       replace hv226_2 := Option.some.inj (hv226_2.symm.trans hx226_2)
       injection hv226_2 with hva_ hvn_ hvc_
       rw [hva_] at ge226_2
       rw [hvc_] at ul226_2
       have HL226_2 := Aside0.mk (show Kd.V k96 96 _ w.heap.size _ _ ((rd_T70 l0_0 x6_1).f2) from Kd.V_mk ul226_2 ge226_2)
       clear hva_ hvn_ hvc_ ge226_2 ul226_2
       clear hcc226 hce226
       have HR226_2 := Aside0.mk hi226_2
       have HC226_2 := Aside0.mk hl226_2
       clear hi226_2 hl226_2
       replace p226 := eq_true p226
       replace q226 := eq_true q226
       refine start_ (n := 17) (S := fun w' => w'.cell? ⟨gb222, 0, none⟩ = some (.slice (some ad226) l0_0.length c0_0) ∧ w'.cell? ⟨gb223, 0, none⟩ = some (.int .i64 a1_0) ∧ w'.cell? ⟨gb223, 1, none⟩ = some (.int .i64 a1_1) ∧ w'.cell? ⟨gb223, 2, none⟩ = some (.string a1_2) ∧ w'.cell? ⟨gb223, 3, none⟩ = some (.int .i64 a1_3) ∧ w'.cell? (ad226.add ((x6_1).toNat * 3)) = some (.int .i64 ((rd_T70 l0_0 x6_1).f0)) ∧ w'.cell? ⟨(ad226.add ((x6_1).toNat * 3)).block, (ad226.add ((x6_1).toNat * 3)).off + 1, none⟩ = some (.string ((rd_T70 l0_0 x6_1).f1)) ∧ w'.cell? ⟨(ad226.add ((x6_1).toNat * 3)).block, (ad226.add ((x6_1).toNat * 3)).off + 2, none⟩ = some (.slice A226_2 ((rd_T70 l0_0 x6_1).f2).length c226_2)) (ds := []) #[false, false, false, false, false, false, false, false, false, false, false, false, false, false, false, false, false] (by kernel_rfl) rfl rfl ⟨(blk_cell BK222.out 0).trans rfl, (blk_cell BK223.out 0).trans rfl, (blk_cell BK223.out 1).trans rfl, (blk_cell BK223.out 2).trans rfl, (blk_cell BK223.out 3).trans rfl, hx226_0, hx226_1, hx226_2⟩ (fun hHeld => ?_); refine with_tabW ebbtideref11_Apply.tab4 ebbtideref11_Apply.bits4 (fun HT_ HW_ => ?_)
       generalize wr.drew = w17 at HO_223000 BK222 BK223 BK224 HB HL226_2 HR226_2 hx226_0 hx226_1 hx226_2 hHeld ⊢
       refine pu 0 (some 15) rfl rfl (ao HT_) (fun _ _ _ h => h) ya aa ?_
       refine pu 1 (some 16) rfl rfl (ao HT_) (fun _ _ _ h => h) ya aa ?_
       refine tk 2 (some 17) rfl rfl (tw HT_ HW_) (fun _ _ _ h => h) (Or.inl ⟨by rfl, by rintro w' ⟨s0, s1, s2, s3, s4, s5, s6, s7⟩; go_simp; with_reducible rfl⟩) hHeld aa ?_
       refine pu 3 (some 18) rfl rfl (ao HT_) (fun _ _ _ h => h) ya aa ?_
       refine pu 4 (some 19) rfl rfl (ao HT_) (fun _ _ _ h => h) ya aa ?_
       refine pu 5 (some 20) rfl rfl (ao HT_) (fun _ _ _ h => h) ya aa ?_
       refine pu 6 (some 21) rfl rfl (ao HT_) (fun _ _ _ h => h) ya aa ?_
       refine pu 8 (some 23) rfl rfl (ao HT_) (fun _ _ _ h => h) ya aa ?_
       refine pu 11 (some 26) rfl rfl (ao HT_) (fun _ _ _ h => h) ya aa ?_
       refine pu 13 (some 28) rfl rfl (ao HT_) (fun _ _ _ h => h) ya aa ?_
       refine tk 7 (some 22) rfl rfl (tw HT_ HW_) (fun _ _ _ h => h) (Or.inl ⟨by rfl, by rintro w' ⟨s0, s1, s2, s3, s4, s5, s6, s7⟩; go_simp; with_reducible rfl⟩) hHeld aa ?_
       refine pu 9 (some 24) rfl rfl (ao HT_) (fun _ _ _ h => h) ya aa ?_
       refine tk 10 (some 25) rfl rfl (tw HT_ HW_) (fun _ _ _ h => h) (Or.inl ⟨by rfl, by rintro w' ⟨s0, s1, s2, s3, s4, s5, s6, s7⟩; go_simp; with_reducible rfl⟩) hHeld aa ?_
       refine tk 12 (some 27) rfl rfl (tw HT_ HW_) (fun _ _ _ h => h) (Or.inl ⟨by rfl, by rintro w' ⟨s0, s1, s2, s3, s4, s5, s6, s7⟩; go_simp; with_reducible rfl⟩) hHeld aa ?_
       refine tk 14 (some 29) rfl rfl (tw HT_ HW_) (fun _ _ _ h => h) (Or.inl ⟨by rfl, by rintro w' ⟨s0, s1, s2, s3, s4, s5, s6, s7⟩; go_simp; with_reducible rfl⟩) hHeld aa ?_
       refine one_ (i := 15) (N := some 30) #[true, true, true, true, true, true, true, true, true, true, true, true, true, true, true, true, false] rfl rfl (one_of HT_.out (by kernel_rfl)) (by decide) (fun K hK => ?_)
       refine goes_ Try.func41 (by kernel_rfl) rfl #[.agg #[.int .i64 ((rd_T70 l0_0 x6_1).f0), .string ((rd_T70 l0_0 x6_1).f1), .slice A226_2 ((rd_T70 l0_0 x6_1).f2).length c226_2], .int .i64 a1_1, .string a1_2] (by rfl) rfl rfl (by (try simp only [List.map_toArray, List.map_cons, List.map_nil]); first | done | rfl | (simp only [List.length_drop, List.length_take]; rfl)) ?_
       with_reducible refine (ebbtideref11_less.calls ((rd_T70 l0_0 x6_1).f0) ((rd_T70 l0_0 x6_1).f1) _ _ ((rd_T70 l0_0 x6_1).f2) a1_1 a1_2 true _ ?side1 ?side2 A15.out).mono ?_
       (case side1 => repeat (first | exact (by repeat (first | (with_reducible exact HR226_2.out) | (with_reducible refine Kd.C_alloc ?_ _) | (with_reducible refine Kd.C_drewN ?_ _) | (with_reducible refine Kd.C_drew ?_) | exact HR226_2.out)) | (with_reducible refine Kd.C_alloc ?_ _) | (with_reducible refine Kd.C_drewN ?_ _) | (with_reducible refine Kd.C_drew ?_)))
       (case side2 => exact HC226_2.out)
       rintro e w18 ⟨rfl, hb⟩
       have HS5_ := (hb.cell (World.block_lt_of_cell? _ _ (hHeld.2.2.2.2.2.1))).trans (hHeld.2.2.2.2.2.1)
       have HS6_ := (hb.cell (World.block_lt_of_cell? _ _ (hHeld.2.2.2.2.2.2.1))).trans (hHeld.2.2.2.2.2.2.1)
       have HS7_ := (hb.cell (World.block_lt_of_cell? _ _ (hHeld.2.2.2.2.2.2.2))).trans (hHeld.2.2.2.2.2.2.2)
       refine ⟨_, rfl, ?_⟩
       have n0_ := cV HO_223000 hb
       have n1_ := cV HL226_2 hb
       have n2_ := cB BK222 hb
       have n3_ := cB BK223 hb
       have n4_ := cB BK224 hb
       have n5_ := Aside0.mk (Kd.C_below (by repeat (first | (with_reducible exact HR226_2.out) | (with_reducible refine Kd.C_alloc ?_ _) | (with_reducible refine Kd.C_drewN ?_ _) | (with_reducible refine Kd.C_drew ?_) | exact HR226_2.out)) hb)
       have n6_ := Aside0.mk (below_step (by repeat (first | (with_reducible first | exact HB.out | apply below_alloc | apply pw_below_drewN | apply below_drew1 | refine below_set ?_ GE222.out | refine below_set ?_ GE223.out | refine below_set ?_ GE224.out) | exact HB.out)) hb)
       clear HO_223000
       clear HL226_2
       clear BK222
       clear BK223
       clear BK224
       clear HR226_2
       clear HB
       have HO_223000 := n0_
       have HL226_2 := n1_
       have BK222 := n2_
       have BK223 := n3_
       have BK224 := n4_
       have HR226_2 := n5_
       have HB := n6_
       clear n0_ n1_ n2_ n3_ n4_ n5_ n6_
       (try clear hb)
       (try clear hb2)
       (try clear hk)
       (try clear hi)
       refine hK.out _ _ ⟨(blk_cell BK222.out 0).trans rfl, (blk_cell BK223.out 0).trans rfl, (blk_cell BK223.out 1).trans rfl, (blk_cell BK223.out 2).trans rfl, (blk_cell BK223.out 3).trans rfl, HS5_, HS6_, HS7_⟩ (fun hHeld => ?_)
       clear hK K
       refine norm_ (a' := ?_) ?_ ?_
       rotate_left
       ·
        show Act.put _ (some 30) _ = _
        simp only [Act.put, List.setIfInBounds_toArray, List.set_cons_zero, List.set_cons_succ, i64_w, i32_w]
        rfl
       refine pu 16 (some 31) rfl rfl (ao HT_) (fun _ _ _ h => h) ya aa ?_
       refine done_ (done_of HT_.out (by kernel_rfl)) ?_
       try go_wp2
       go_roundg k1
       case measure => have := HK1.out; omega
       case rel => exact ⟨(wrap64 (x6_1 + 1)), (by first | rfl | (simp; done) | (simp [*]; done)), H', ⟨by have := HK1.out; omega⟩, ⟨by exact uV <| HO_223000.out⟩, ⟨by exact uB <| BK222.out⟩, ⟨by exact uB <| BK223.out⟩, ⟨by exact uB <| BK224.out⟩, ⟨by repeat (first | (with_reducible first | exact HB.out | apply below_alloc | apply pw_below_drewN | apply below_drew1 | refine below_set ?_ GE222.out | refine below_set ?_ GE223.out | refine below_set ?_ GE224.out) | exact HB.out)⟩⟩
      ·
       replace c16 := Bool.eq_false_iff.mpr c16
       subst c16
       rw [if_neg (show ¬ (false = true) by decide)] at H
       have H' := Aside0.mk H
       clear H
       try go_wp2
       have n0_ := Aside0.mk (Kd.V_drew HO_223000.out)
       have n1_ := Aside0.mk (blk_drew BK222.out)
       have n2_ := Aside0.mk (blk_drew BK223.out)
       have n3_ := Aside0.mk (blk_drew BK224.out)
       have n4_ := Aside0.mk (below_drew1 HB.out)
       clear HO_223000
       clear BK222
       clear BK223
       clear BK224
       clear HB
       have HO_223000 := n0_
       have BK222 := n1_
       have BK223 := n2_
       have BK224 := n3_
       have HB := n4_
       clear n0_ n1_ n2_ n3_ n4_
       have p226 : 0 ≤ (x6_1 : Int) := od
       have q226 : x6_1 < (l0_0.length : Int) := od
       obtain ⟨ad226, A226_2, c226_2, e226, hx226_0, hx226_1, hx226_2, hl226_2, hi226_2⟩ := at_T70 (Kd.V_reads' HO_223000.out).2.2 x6_1 p226 q226
       cases e226
       obtain ⟨ce226, hce226, hMe226, hcc226⟩ := Kd.V_get HO_223000.out z70 x6_1 p226 (by first | exact q226 | exact od | (have e_ := (Kd.V_reads' HO_223000.out).1; omega))
       obtain ⟨ua226_2, uc226_2, rfl, ul226_2, ge226_2⟩ := k70_openF hMe226
       have hv226_2 := hcc226 2 _ rfl
       rw [add_field _ _ 2 (by omega)] at hv226_2
       replace hv226_2 := Option.some.inj (hv226_2.symm.trans hx226_2)
       injection hv226_2 with hva_ hvn_ hvc_
       rw [hva_] at ge226_2
       rw [hvc_] at ul226_2
       have HL226_2 := Aside0.mk (show Kd.V k96 96 _ w.heap.size _ _ ((rd_T70 l0_0 x6_1).f2) from Kd.V_mk ul226_2 ge226_2)
       clear hva_ hvn_ hvc_ ge226_2 ul226_2
       clear hcc226 hce226
       have HR226_2 := Aside0.mk hi226_2
       have HC226_2 := Aside0.mk hl226_2
       clear hi226_2 hl226_2
       replace p226 := eq_true p226
       replace q226 := eq_true q226
       refine start_ (n := 17) (S := fun w' => w'.cell? ⟨gb222, 0, none⟩ = some (.slice (some ad226) l0_0.length c0_0) ∧ w'.cell? ⟨gb223, 0, none⟩ = some (.int .i64 a1_0) ∧ w'.cell? ⟨gb223, 1, none⟩ = some (.int .i64 a1_1) ∧ w'.cell? ⟨gb223, 2, none⟩ = some (.string a1_2) ∧ w'.cell? ⟨gb223, 3, none⟩ = some (.int .i64 a1_3) ∧ w'.cell? (ad226.add ((x6_1).toNat * 3)) = some (.int .i64 ((rd_T70 l0_0 x6_1).f0)) ∧ w'.cell? ⟨(ad226.add ((x6_1).toNat * 3)).block, (ad226.add ((x6_1).toNat * 3)).off + 1, none⟩ = some (.string ((rd_T70 l0_0 x6_1).f1)) ∧ w'.cell? ⟨(ad226.add ((x6_1).toNat * 3)).block, (ad226.add ((x6_1).toNat * 3)).off + 2, none⟩ = some (.slice A226_2 ((rd_T70 l0_0 x6_1).f2).length c226_2)) (ds := []) #[false, false, false, false, false, false, false, false, false, false, false, false, false, false, false, false, false] (by kernel_rfl) rfl rfl ⟨(blk_cell BK222.out 0).trans rfl, (blk_cell BK223.out 0).trans rfl, (blk_cell BK223.out 1).trans rfl, (blk_cell BK223.out 2).trans rfl, (blk_cell BK223.out 3).trans rfl, hx226_0, hx226_1, hx226_2⟩ (fun hHeld => ?_); refine with_tabW ebbtideref11_Apply.tab4 ebbtideref11_Apply.bits4 (fun HT_ HW_ => ?_)
       generalize wr.drew = w19 at HO_223000 BK222 BK223 BK224 HB HL226_2 HR226_2 hx226_0 hx226_1 hx226_2 hHeld ⊢
       refine pu 0 (some 15) rfl rfl (ao HT_) (fun _ _ _ h => h) ya aa ?_
       refine pu 1 (some 16) rfl rfl (ao HT_) (fun _ _ _ h => h) ya aa ?_
       refine tk 2 (some 17) rfl rfl (tw HT_ HW_) (fun _ _ _ h => h) (Or.inl ⟨by rfl, by rintro w' ⟨s0, s1, s2, s3, s4, s5, s6, s7⟩; go_simp; with_reducible rfl⟩) hHeld aa ?_
       refine pu 3 (some 18) rfl rfl (ao HT_) (fun _ _ _ h => h) ya aa ?_
       refine pu 4 (some 19) rfl rfl (ao HT_) (fun _ _ _ h => h) ya aa ?_
       refine pu 5 (some 20) rfl rfl (ao HT_) (fun _ _ _ h => h) ya aa ?_
       refine pu 6 (some 21) rfl rfl (ao HT_) (fun _ _ _ h => h) ya aa ?_
       refine pu 8 (some 23) rfl rfl (ao HT_) (fun _ _ _ h => h) ya aa ?_
       refine pu 11 (some 26) rfl rfl (ao HT_) (fun _ _ _ h => h) ya aa ?_
       refine pu 13 (some 28) rfl rfl (ao HT_) (fun _ _ _ h => h) ya aa ?_
       refine tk 7 (some 22) rfl rfl (tw HT_ HW_) (fun _ _ _ h => h) (Or.inl ⟨by rfl, by rintro w' ⟨s0, s1, s2, s3, s4, s5, s6, s7⟩; go_simp; with_reducible rfl⟩) hHeld aa ?_
       refine pu 9 (some 24) rfl rfl (ao HT_) (fun _ _ _ h => h) ya aa ?_
       refine tk 10 (some 25) rfl rfl (tw HT_ HW_) (fun _ _ _ h => h) (Or.inl ⟨by rfl, by rintro w' ⟨s0, s1, s2, s3, s4, s5, s6, s7⟩; go_simp; with_reducible rfl⟩) hHeld aa ?_
       refine tk 12 (some 27) rfl rfl (tw HT_ HW_) (fun _ _ _ h => h) (Or.inl ⟨by rfl, by rintro w' ⟨s0, s1, s2, s3, s4, s5, s6, s7⟩; go_simp; with_reducible rfl⟩) hHeld aa ?_
       refine tk 14 (some 29) rfl rfl (tw HT_ HW_) (fun _ _ _ h => h) (Or.inl ⟨by rfl, by rintro w' ⟨s0, s1, s2, s3, s4, s5, s6, s7⟩; go_simp; with_reducible rfl⟩) hHeld aa ?_
       refine one_ (i := 15) (N := some 30) #[true, true, true, true, true, true, true, true, true, true, true, true, true, true, true, true, false] rfl rfl (one_of HT_.out (by kernel_rfl)) (by decide) (fun K hK => ?_)
       refine goes_ Try.func41 (by kernel_rfl) rfl #[.agg #[.int .i64 ((rd_T70 l0_0 x6_1).f0), .string ((rd_T70 l0_0 x6_1).f1), .slice A226_2 ((rd_T70 l0_0 x6_1).f2).length c226_2], .int .i64 a1_1, .string a1_2] (by rfl) rfl rfl (by (try simp only [List.map_toArray, List.map_cons, List.map_nil]); first | done | rfl | (simp only [List.length_drop, List.length_take]; rfl)) ?_
       with_reducible refine (ebbtideref11_less.calls ((rd_T70 l0_0 x6_1).f0) ((rd_T70 l0_0 x6_1).f1) _ _ ((rd_T70 l0_0 x6_1).f2) a1_1 a1_2 false _ ?side1 ?side2 A15.out).mono ?_
       (case side1 => repeat (first | exact (by repeat (first | (with_reducible exact HR226_2.out) | (with_reducible refine Kd.C_alloc ?_ _) | (with_reducible refine Kd.C_drewN ?_ _) | (with_reducible refine Kd.C_drew ?_) | exact HR226_2.out)) | (with_reducible refine Kd.C_alloc ?_ _) | (with_reducible refine Kd.C_drewN ?_ _) | (with_reducible refine Kd.C_drew ?_)))
       (case side2 => exact HC226_2.out)
       rintro e w20 ⟨rfl, hb⟩
       have HS5_ := (hb.cell (World.block_lt_of_cell? _ _ (hHeld.2.2.2.2.2.1))).trans (hHeld.2.2.2.2.2.1)
       have HS6_ := (hb.cell (World.block_lt_of_cell? _ _ (hHeld.2.2.2.2.2.2.1))).trans (hHeld.2.2.2.2.2.2.1)
       have HS7_ := (hb.cell (World.block_lt_of_cell? _ _ (hHeld.2.2.2.2.2.2.2))).trans (hHeld.2.2.2.2.2.2.2)
       refine ⟨_, rfl, ?_⟩
       have n0_ := cV HO_223000 hb
       have n1_ := cV HL226_2 hb
       have n2_ := cB BK222 hb
       have n3_ := cB BK223 hb
       have n4_ := cB BK224 hb
       have n5_ := Aside0.mk (Kd.C_below (by repeat (first | (with_reducible exact HR226_2.out) | (with_reducible refine Kd.C_alloc ?_ _) | (with_reducible refine Kd.C_drewN ?_ _) | (with_reducible refine Kd.C_drew ?_) | exact HR226_2.out)) hb)
       have n6_ := Aside0.mk (below_step (by repeat (first | (with_reducible first | exact HB.out | apply below_alloc | apply pw_below_drewN | apply below_drew1 | refine below_set ?_ GE222.out | refine below_set ?_ GE223.out | refine below_set ?_ GE224.out) | exact HB.out)) hb)
       clear HO_223000
       clear HL226_2
       clear BK222
       clear BK223
       clear BK224
       clear HR226_2
       clear HB
       have HO_223000 := n0_
       have HL226_2 := n1_
       have BK222 := n2_
       have BK223 := n3_
       have BK224 := n4_
       have HR226_2 := n5_
       have HB := n6_
       clear n0_ n1_ n2_ n3_ n4_ n5_ n6_
       (try clear hb)
       (try clear hb2)
       (try clear hk)
       (try clear hi)
       refine hK.out _ _ ⟨(blk_cell BK222.out 0).trans rfl, (blk_cell BK223.out 0).trans rfl, (blk_cell BK223.out 1).trans rfl, (blk_cell BK223.out 2).trans rfl, (blk_cell BK223.out 3).trans rfl, HS5_, HS6_, HS7_⟩ (fun hHeld => ?_)
       clear hK K
       refine norm_ (a' := ?_) ?_ ?_
       rotate_left
       ·
        show Act.put _ (some 30) _ = _
        simp only [Act.put, List.setIfInBounds_toArray, List.set_cons_zero, List.set_cons_succ, i64_w, i32_w]
        rfl
       refine pu 16 (some 31) rfl rfl (ao HT_) (fun _ _ _ h => h) ya aa ?_
       refine done_ (done_of HT_.out (by kernel_rfl)) ?_
       try go_wp2
       go_meet
       case rel => exact ⟨_, (x6_1), (by first | rfl | (simp; done) | (simp [*]; done)), H', ⟨by have := HK1.out; first | omega | exact Nat.le_refl _⟩, ⟨by exact uV <| HO_223000.out⟩, ⟨by exact uB <| BK222.out⟩, ⟨by exact uB <| BK223.out⟩, ⟨by exact uB <| BK224.out⟩, ⟨by repeat (first | (with_reducible first | exact HB.out | apply below_alloc | apply pw_below_drewN | apply below_drew1 | refine below_set ?_ GE222.out | refine below_set ?_ GE223.out | refine below_set ?_ GE224.out) | exact HB.out)⟩⟩
     ·
      rw [if_neg c13] at H
      have c13b0 : decide (x6_1 < (l0_0.length : Int)) = false := decide_eq_false c13
      clear c13
      (first | rw [c13b0] | (simp only [i64_w, i32_w]; rw [c13b0]) | skip)
      have H' := Aside0.mk H
      clear H
      try go_wp2
      have n0_ := Aside0.mk (Kd.V_drew HO_223000.out)
      have n1_ := Aside0.mk (blk_drew BK222.out)
      have n2_ := Aside0.mk (blk_drew BK223.out)
      have n3_ := Aside0.mk (blk_drew BK224.out)
      have n4_ := Aside0.mk (below_drew1 HB.out)
      clear HO_223000
      clear BK222
      clear BK223
      clear BK224
      clear HB
      have HO_223000 := n0_
      have BK222 := n1_
      have BK223 := n2_
      have BK224 := n3_
      have HB := n4_
      clear n0_ n1_ n2_ n3_ n4_
      refine start_ (n := 17) (S := fun w' => w'.cell? ⟨gb222, 0, none⟩ = some (.slice A0_0 l0_0.length c0_0)) (ds := []) #[false, false, false, false, false, false, false, false, false, false, false, false, false, false, false, false, false] (by kernel_rfl) rfl rfl ((blk_cell BK222.out 0).trans rfl) (fun hHeld => ?_); refine with_tabW ebbtideref11_Apply.tab4 ebbtideref11_Apply.bits4 (fun HT_ HW_ => ?_)
      generalize wr.drew = w21 at HO_223000 BK222 BK223 BK224 HB hHeld ⊢
      refine pu 0 (some 15) rfl rfl (ao HT_) (fun _ _ _ h => h) ya aa ?_
      refine pu 1 (some 16) rfl rfl (ao HT_) (fun _ _ _ h => h) ya aa ?_
      refine tk 2 (some 17) rfl rfl (tw HT_ HW_) (fun _ _ _ h => h) (Or.inl ⟨by rfl, by intro w' s0; go_simp; with_reducible rfl⟩) hHeld aa ?_
      refine pu 3 (some 18) rfl rfl (ao HT_) (fun _ _ _ h => h) ya aa ?_
      refine pu 4 (some 19) rfl rfl (ao HT_) (fun _ _ _ h => h) ya aa ?_
      refine pu 5 (some 20) rfl rfl (ao HT_) (fun _ _ _ h => h) ya aa ?_
      refine pu (v := undef) 6 (some 21) rfl rfl (ao HT_) (fun _ _ _ h => h) (Or.inr ⟨by rfl, rfl⟩) aa ?_
      refine pu (v := undef) 7 (some 22) rfl rfl (ao HT_) (fun _ _ _ h => h) (Or.inr ⟨by rfl, rfl⟩) aa ?_
      refine pu (v := undef) 8 (some 23) rfl rfl (ao HT_) (fun _ _ _ h => h) (Or.inr ⟨by rfl, rfl⟩) aa ?_
      refine pu (v := undef) 9 (some 24) rfl rfl (ao HT_) (fun _ _ _ h => h) (Or.inr ⟨by rfl, rfl⟩) aa ?_
      refine pu (v := undef) 10 (some 25) rfl rfl (ao HT_) (fun _ _ _ h => h) (Or.inr ⟨by rfl, rfl⟩) aa ?_
      refine pu (v := undef) 11 (some 26) rfl rfl (ao HT_) (fun _ _ _ h => h) (Or.inr ⟨by rfl, rfl⟩) aa ?_
      refine pu (v := undef) 12 (some 27) rfl rfl (ao HT_) (fun _ _ _ h => h) (Or.inr ⟨by rfl, rfl⟩) aa ?_
      refine pu (v := undef) 13 (some 28) rfl rfl (ao HT_) (fun _ _ _ h => h) (Or.inr ⟨by rfl, rfl⟩) aa ?_
      refine pu (v := undef) 14 (some 29) rfl rfl (ao HT_) (fun _ _ _ h => h) (Or.inr ⟨by rfl, rfl⟩) aa ?_
      refine pu (v := undef) 15 (some 30) rfl rfl (ao HT_) (fun _ _ _ h => h) (Or.inr ⟨by rfl, rfl⟩) aa ?_
      refine pu 16 (some 31) rfl rfl (ao HT_) (fun _ _ _ h => h) ya aa ?_
      refine done_ (done_of HT_.out (by kernel_rfl)) ?_
      try go_wp2
      go_meet
      case rel => exact ⟨_, (x6_1), (by first | rfl | (simp; done) | (simp [*]; done)), H', ⟨by have := HK1.out; first | omega | exact Nat.le_refl _⟩, ⟨by exact uV <| HO_223000.out⟩, ⟨by exact uB <| BK222.out⟩, ⟨by exact uB <| BK223.out⟩, ⟨by exact uB <| BK224.out⟩, ⟨by repeat (first | (with_reducible first | exact HB.out | apply below_alloc | apply pw_below_drewN | apply below_drew1 | refine below_set ?_ GE222.out | refine below_set ?_ GE223.out | refine below_set ?_ GE224.out) | exact HB.out)⟩⟩
  case rest =>
   clear HC5
   try clear c1
   try clear c2
   try clear p2
   try clear q2
   try clear hx2
   try clear c4
   try clear p6
   try clear c9
   try clear c10
   try clear c13
   try clear c13b0
   try clear c14
   try clear c14b0
   try clear c16
   try clear hcz11_0
   try clear hfz11_0
   try clear hx226_0
   try clear hx226_1
   try clear hx226_2
   try clear p226
   try clear q226
   obtain ⟨kq, x6_4, rfl, HA, HJ4, HO_223000, BK222, BK223, BK224, HB⟩ := hcut
   cases kq with
   | zero => exact absurd HA.out (by simp [ebbtideref11_Apply.j1])
   | succ kj4 =>
    have H := HA.out
    clear HA
    simp only [ebbtideref11_Apply.j1] at H
    obtain ⟨c22, H⟩ := gd H
    have c22b0 := eq_true c22
    have c22b1 : decide (0 ≤ x6_4) = true := decide_eq_true c22
    clear c22
    obtain ⟨c23, H⟩ := gd H
    have c23b0 := eq_true c23
    have c23b1 : decide (x6_4 ≤ (l0_0.length : Int)) = true := decide_eq_true c23
    clear c23
    obtain ⟨y228, hy228⟩ : ∃ y_ : List (S70), y_ = (l0_0.drop (x6_4 : Int).toNat) := ⟨_, rfl⟩
    replace H : (if (y228.length : Int) > 0 then (if 0 < (y228.length : Int) then (if ((rd_T70 y228 0).f0) = a1_1 then (ebbtideref11_Apply.j2 kj4 x6_4 ([] : List (S96)) y228 (((rd_T70 y228 0).f1).toList == a1_2.toList) l0_0 a1_0 a1_1 a1_2 a1_3) else (ebbtideref11_Apply.j2 kj4 x6_4 ([] : List (S96)) y228 false l0_0 a1_0 a1_1 a1_2 a1_3)) else (none)) else (ebbtideref11_Apply.j2 kj4 x6_4 ([] : List (S96)) y228 false l0_0 a1_0 a1_1 a1_2 a1_3)) = some (r1, r2) := by first | (rw [hy228]; with_reducible exact H) | (have H2_ := (Option.bind_some _ _).symm.trans H; rw [hy228]; with_reducible exact H2_) | (have H2_ := (Option.bind_some _ _).symm.trans H; with_reducible exact H2_) | with_reducible exact H | (rw [hy228]; exact H) | exact H
    have Ny228 := Aside0.mk hy228
    clear hy228
    have HC24 := Aside0.mk H
    clear H
    have hnb25 := NB222_223.out
    have hnc25 := NB223_222.out
    have hnb26 := NB222_224.out
    have hnc26 := NB224_222.out
    have hcz27_0 : wc.cell? ⟨gb222, 0, none⟩ = some (.slice A0_0 l0_0.length c0_0) := (blk_cell BK222.out 0).trans rfl
    have hfz27_0 := blk_frozen BK222.out 0
    have q28 : (x6_4 : Int) ≤ ((l0_0.length : Int) : Int) := od
    obtain ⟨i028, hi028, _, hsz28, _⟩ := info_parts info70
    have hroom28 : l0_0.length ≤ c0_0 := (Kd.V_reads' HO_223000.out).2.1
    have hC28 : Kd.F k70 _ _ A0_0 l0_0.length l0_0 := (Kd.V_at (base := w.heap.size) HO_223000.out).2.2
    have q028 : (0 : Int) ≤ (x6_4 : Int) := od
    have hcut28 := cut_from (P := Try.prog) 48 70 .i64 Try.underlying48 hi028 3 hsz28 A0_0 l0_0.length c0_0 x6_4 q028 q28
    have hr28 := Kd.F_cut (m := (x6_4 : Int).toNat) (c := c0_0) hC28 (by omega) hroom28
    obtain ⟨A28, hA28⟩ : ∃ A1, A1 = (if c0_0 = (x6_4 : Int).toNat then A0_0 else (A0_0 : Option Addr).map (·.add ((x6_4 : Int).toNat * 3))) := ⟨_, rfl⟩
    obtain ⟨c28, hc28⟩ : ∃ c1, c1 = c0_0 - (x6_4 : Int).toNat := ⟨_, rfl⟩
    have hy28 : y228.length = l0_0.length - (x6_4 : Int).toNat := (by rw [Ny228.out, List.length_drop] <;> omega)
    rw [show (l0_0).drop (x6_4 : Int).toNat = y228 from Ny228.out.symm] at hr28
    replace hr28 : Kd.F k70 _ _ A28 y228.length y228 := (by rw [hA28]; exact hr28)
    rw [← hy28, ← hA28, ← hc28] at hcut28
    have HO232 := Aside0.mk (show Kd.V k70 70 _ w.heap.size _ (.slice A28 y228.length c28) y228 from Kd.V_mk (by rw [hy28, hc28]; exact Nat.sub_le_sub_right hroom28 _) hr28)
    have HC232 := Aside0.mk (show y228.length ≤ c28 from by rw [hy28, hc28]; exact Nat.sub_le_sub_right hroom28 _)
    clear hr28 hC28 hroom28 hi028 hsz28 hc28
    have KY28 := Aside0.mk hy28
    have KA28 := Aside0.mk hA28
    clear hy28 hA28
    replace q28 := eq_true q28
    go_upto_region 8 with (fail)
    go_cut [58] (fun v58 wc => ∃ (kq : Nat) (x58_23 : Bool), v58 = .bool x58_23 ∧ Aside0 (ebbtideref11_Apply.j2 kq x6_4 ([] : List (S96)) y228 x58_23 l0_0 a1_0 a1_1 a1_2 a1_3 = some (r1, r2)) ∧ Aside0 (kq ≤ kj4) ∧ Aside0 (Kd.R k96 96 wc w.heap.size (fun k_ => (w.heap.size ≤ k_)) (.slice none 0 0) ([] : List (S96))) ∧ Aside0 (Kd.V k70 70 wc w.heap.size (fun k_ => (P0_0_ k_ ∨ w.heap.size ≤ k_) ∧ some k_ ≠ ((.slice none 0 0) : Value).ownBlock ∧ k_ ≠ gb222 ∧ k_ ≠ gb223 ∧ k_ ≠ gb224) (.slice A28 y228.length c28) y228) ∧ Aside0 (Kd.V k70 70 wc w.heap.size (fun k_ => (P0_0_ k_ ∨ w.heap.size ≤ k_) ∧ some k_ ≠ ((.slice none 0 0) : Value).ownBlock ∧ k_ ≠ gb222 ∧ k_ ≠ gb223 ∧ k_ ≠ gb224) (.slice A0_0 l0_0.length c0_0) l0_0) ∧ Aside0 (wc.heap[gb222]? = some (.cells #[(.slice A0_0 l0_0.length c0_0)] 50 (0, 0))) ∧ Aside0 (wc.heap[gb223]? = some (.cells #[.int .i64 a1_0, .int .i64 a1_1, .string a1_2, .int .i64 a1_3] 61 (0, 0))) ∧ Aside0 (wc.heap[gb224]? = some (.cells #[(.slice none 0 0)] 50 (0, 0))) ∧ Aside0 (Below w.heap.size w wc))
    case first =>
     have H := HC24.out
     clear HC24
     by_cases c29 : (y228.length : Int) > 0
     ·
      rw [if_pos c29] at H
      have c29b0 : decide (0 < (y228.length : Int)) = true := decide_eq_true c29
      have c29b1 : decide (0 < y228.length) = true := decide_eq_true (by omega)
      clear c29
      (first | rw [c29b0] | (simp only [i64_w, i32_w]; rw [c29b0]) | skip)
      obtain ⟨c30, H⟩ := gd H
      have c30b0 : decide (0 < (y228.length : Int)) = true := decide_eq_true c30
      have c30b1 : decide (0 < y228.length) = true := decide_eq_true (by omega)
      clear c30
      by_cases c31 : ((rd_T70 y228 0).f0) = a1_1
      ·
       rw [if_pos c31] at H
       have c31b0 : (((rd_T70 y228 0).f0) == a1_1) = true := beq_iff_eq.mpr c31
       have c31b1 : (((rd_T70 y228 0).f0) != a1_1) = false := bne_eq_false_iff_eq.mpr c31
       clear c31
       have H' := Aside0.mk H
       clear H
       try go_wp2
       have n0_ := Aside0.mk (Kd.V_drew HO_223000.out)
       have n1_ := Aside0.mk (Kd.V_drew HO232.out)
       have n2_ := Aside0.mk (blk_drew BK222.out)
       have n3_ := Aside0.mk (blk_drew BK223.out)
       have n4_ := Aside0.mk (blk_drew BK224.out)
       have n5_ := Aside0.mk (below_drew1 HB.out)
       clear HO_223000
       clear HO232
       clear BK222
       clear BK223
       clear BK224
       clear HB
       have HO_223000 := n0_
       have HO232 := n1_
       have BK222 := n2_
       have BK223 := n3_
       have BK224 := n4_
       have HB := n5_
       clear n0_ n1_ n2_ n3_ n4_ n5_
       have p233 : 0 ≤ (0 : Int) := (by omega)
       have q233 : 0 < (y228.length : Int) := od
       obtain ⟨ad233, A233_2, c233_2, e233, hx233_0, hx233_1, hx233_2, hl233_2, hi233_2⟩ := at_T70 (Kd.V_reads' HO232.out).2.2 0 p233 q233
       cases e233
       obtain ⟨ce233, hce233, hMe233, hcc233⟩ := Kd.V_get HO232.out z70 0 p233 (by first | exact q233 | exact od | (have e_ := (Kd.V_reads' HO232.out).1; omega))
       obtain ⟨ua233_2, uc233_2, rfl, ul233_2, ge233_2⟩ := k70_openF hMe233
       have hv233_2 := hcc233 2 _ rfl
       rw [add_field _ _ 2 (by omega)] at hv233_2
       replace hv233_2 := Option.some.inj (hv233_2.symm.trans hx233_2)
       injection hv233_2 with hva_ hvn_ hvc_
       rw [hva_] at ge233_2
       rw [hvc_] at ul233_2
       have HL233_2 := Aside0.mk (show Kd.V k96 96 _ w.heap.size _ _ ((rd_T70 y228 0).f2) from Kd.V_mk ul233_2 ge233_2)
       clear hva_ hvn_ hvc_ ge233_2 ul233_2
       clear hcc233 hce233
       have qi233 : (0 < y228.length) = True := eq_true (by omega)
       (try rw [show ((0 : Int)).toNat = 0 from rfl] at hx233_0)
       (try rw [show 0 * 3 = 0 from rfl] at hx233_0)
       (try rw [Addr.add_zero'] at hx233_0)
       (try rw [show ((0 : Int)).toNat = 0 from rfl] at hx233_1)
       (try rw [show 0 * 3 = 0 from rfl] at hx233_1)
       (try rw [Addr.add_zero'] at hx233_1)
       (try rw [show ((0 : Int)).toNat = 0 from rfl] at hx233_2)
       (try rw [show 0 * 3 = 0 from rfl] at hx233_2)
       (try rw [Addr.add_zero'] at hx233_2)
       have HR233_2 := Aside0.mk hi233_2
       have HC233_2 := Aside0.mk hl233_2
       clear hi233_2 hl233_2
       replace p233 := eq_true p233
       replace q233 := eq_true q233
       have p234 : 0 ≤ (0 : Int) := (by omega)
       have q234 : 0 < (y228.length : Int) := od
       obtain ⟨ad234, A234_2, c234_2, e234, hx234_0, hx234_1, hx234_2, hl234_2, hi234_2⟩ := at_T70 (Kd.V_reads' HO232.out).2.2 0 p234 q234
       obtain rfl : ad233 = ad234 := (by injection e234)
       obtain ⟨ce234, hce234, hMe234, hcc234⟩ := Kd.V_get HO232.out z70 0 p234 (by first | exact q234 | exact od | (have e_ := (Kd.V_reads' HO232.out).1; omega))
       obtain ⟨ua234_2, uc234_2, rfl, ul234_2, ge234_2⟩ := k70_openF hMe234
       have hv234_2 := hcc234 2 _ rfl
       rw [add_field _ _ 2 (by omega)] at hv234_2
       replace hv234_2 := Option.some.inj (hv234_2.symm.trans hx234_2)
       injection hv234_2 with hva_ hvn_ hvc_
       rw [hva_] at ge234_2
       rw [hvc_] at ul234_2
       have HL234_2 := Aside0.mk (show Kd.V k96 96 _ w.heap.size _ _ ((rd_T70 y228 0).f2) from Kd.V_mk ul234_2 ge234_2)
       clear hva_ hvn_ hvc_ ge234_2 ul234_2
       clear hcc234 hce234
       have qi234 : (0 < y228.length) = True := eq_true (by omega)
       (try rw [show ((0 : Int)).toNat = 0 from rfl] at hx234_0)
       (try rw [show 0 * 3 = 0 from rfl] at hx234_0)
       (try rw [Addr.add_zero'] at hx234_0)
       (try rw [show ((0 : Int)).toNat = 0 from rfl] at hx234_1)
       (try rw [show 0 * 3 = 0 from rfl] at hx234_1)
       (try rw [Addr.add_zero'] at hx234_1)
       (try rw [show ((0 : Int)).toNat = 0 from rfl] at hx234_2)
       (try rw [show 0 * 3 = 0 from rfl] at hx234_2)
       (try rw [Addr.add_zero'] at hx234_2)
       have HR234_2 := Aside0.mk hi234_2
       have HC234_2 := Aside0.mk hl234_2
       clear hi234_2 hl234_2
       replace p234 := eq_true p234
       replace q234 := eq_true q234
       have ea_ := Option.some.inj (hx233_2.symm.trans hx234_2)
       injection ea_ with ea_ en_ ec_
       subst ea_
       subst ec_
       clear en_
       refine start_ (n := 21) (S := fun w' => w'.cell? ⟨gb223, 0, none⟩ = some (.int .i64 a1_0) ∧ w'.cell? ⟨gb223, 1, none⟩ = some (.int .i64 a1_1) ∧ w'.cell? ⟨gb223, 2, none⟩ = some (.string a1_2) ∧ w'.cell? ⟨gb223, 3, none⟩ = some (.int .i64 a1_3) ∧ w'.cell? ad233 = some (.int .i64 ((rd_T70 y228 0).f0)) ∧ w'.cell? ⟨ad233.block, ad233.off + 1, none⟩ = some (.string ((rd_T70 y228 0).f1)) ∧ w'.cell? ⟨ad233.block, ad233.off + 2, none⟩ = some (.slice A233_2 ((rd_T70 y228 0).f2).length c233_2) ∧ w'.cell? ad233 = some (.int .i64 ((rd_T70 y228 0).f0)) ∧ w'.cell? ⟨ad233.block, ad233.off + 1, none⟩ = some (.string ((rd_T70 y228 0).f1)) ∧ w'.cell? ⟨ad233.block, ad233.off + 2, none⟩ = some (.slice A233_2 ((rd_T70 y228 0).f2).length c233_2)) (ds := []) #[false, false, false, false, false, false, false, false, false, false, false, false, false, false, false, false, false, false, false, false, false] (by kernel_rfl) rfl rfl ⟨(blk_cell BK223.out 0).trans rfl, (blk_cell BK223.out 1).trans rfl, (blk_cell BK223.out 2).trans rfl, (blk_cell BK223.out 3).trans rfl, hx233_0, hx233_1, hx233_2, hx234_0, hx234_1, hx234_2⟩ (fun hHeld => ?_); refine with_tabW ebbtideref11_Apply.tab8 ebbtideref11_Apply.bits8 (fun HT_ HW_ => ?_)
       generalize wc.drew = w32 at HO_223000 HO232 BK222 BK223 BK224 HB HL233_2 HL234_2 HR233_2 HR234_2 hx233_0 hx233_1 hx233_2 hx234_0 hx234_1 hx234_2 hHeld ⊢
       refine pu 0 (some 38) rfl rfl (ao HT_) (fun _ _ _ h => h) ya aa ?_
       refine pu 1 (some 39) rfl rfl (ao HT_) (fun _ _ _ h => h) ya aa ?_
       refine pu 2 (some 40) rfl rfl (ao HT_) (fun _ _ _ h => h) ya aa ?_
       refine pu 3 (some 41) rfl rfl (ao HT_) (fun _ _ _ h => h) ya aa ?_
       refine pu 4 (some 42) rfl rfl (ao HT_) (fun _ _ _ h => h) ya aa ?_
       refine pu 5 (some 43) rfl rfl (ao HT_) (fun _ _ _ h => h) ya aa ?_
       refine pu 6 (some 44) rfl rfl (ao HT_) (fun _ _ _ h => h) ya aa ?_
       refine pu 8 (some 46) rfl rfl (ao HT_) (fun _ _ _ h => h) ya aa ?_
       refine tk 7 (some 45) rfl rfl (tw HT_ HW_) (fun _ _ _ h => h) (Or.inl ⟨by rfl, by rintro w' ⟨s0, s1, s2, s3, s4, s5, s6, s7, s8, s9⟩; go_simp; with_reducible rfl⟩) hHeld aa ?_
       refine tk 9 (some 47) rfl rfl (tw HT_ HW_) (fun _ _ _ h => h) (Or.inl ⟨by rfl, by rintro w' ⟨s0, s1, s2, s3, s4, s5, s6, s7, s8, s9⟩; go_simp; with_reducible rfl⟩) hHeld aa ?_
       refine pu 10 (some 48) rfl rfl (ao HT_) (fun _ _ _ h => h) ya aa ?_
       refine pu 11 (some 49) rfl rfl (ao HT_) (fun _ _ _ h => h) ya aa ?_
       refine pu 12 (some 50) rfl rfl (ao HT_) (fun _ _ _ h => h) ya aa ?_
       refine pu 13 (some 51) rfl rfl (ao HT_) (fun _ _ _ h => h) ya aa ?_
       refine pu 14 (some 52) rfl rfl (ao HT_) (fun _ _ _ h => h) ya aa ?_
       refine pu 15 (some 53) rfl rfl (ao HT_) (fun _ _ _ h => h) ya aa ?_
       refine pu 17 (some 55) rfl rfl (ao HT_) (fun _ _ _ h => h) ya aa ?_
       refine tk 16 (some 54) rfl rfl (tw HT_ HW_) (fun _ _ _ h => h) (Or.inl ⟨by rfl, by rintro w' ⟨s0, s1, s2, s3, s4, s5, s6, s7, s8, s9⟩; go_simp; with_reducible rfl⟩) hHeld aa ?_
       refine tk 18 (some 56) rfl rfl (tw HT_ HW_) (fun _ _ _ h => h) (Or.inl ⟨by rfl, by rintro w' ⟨s0, s1, s2, s3, s4, s5, s6, s7, s8, s9⟩; go_simp; with_reducible rfl⟩) hHeld aa ?_
       refine pu 19 (some 57) rfl rfl (ao HT_) (fun _ _ _ h => h) ya aa ?_
       refine pu 20 (some 58) rfl rfl (ao HT_) (fun _ _ _ h => h) ya aa ?_
       refine done_ (done_of HT_.out (by kernel_rfl)) ?_
       try go_wp2
       go_meet
       case rel => exact ⟨_, ((((rd_T70 y228 0).f1).toList == a1_2.toList)), (by first | rfl | (simp; done) | (simp [*]; done)), H', ⟨by have := HJ4.out; first | omega | exact Nat.le_refl _⟩, ⟨by first | exact Kd.R_nil _ _ _ _ _ | exact Kd.N_nil _ _ _ _ _ | exact Kd.V_nil _ _ _ _ _ | exact Kd.Q_nil _ _ _ _ _ | exact Kd.S_nil _ _ _ _ _⟩, ⟨by exact uV <| Kd.V_mono HO232.out (fun _ hk => ⟨hk.1, ⟨(by simp [Value.ownBlock]), ⟨hk.2.1, ⟨hk.2.2.1, hk.2.2.2⟩⟩⟩⟩)⟩, ⟨by exact uV <| Kd.V_mono HO_223000.out (fun _ hk => ⟨hk.1, ⟨(by simp [Value.ownBlock]), ⟨hk.2.1, ⟨hk.2.2.1, hk.2.2.2⟩⟩⟩⟩)⟩, ⟨by exact uB <| BK222.out⟩, ⟨by exact uB <| BK223.out⟩, ⟨by exact uB <| BK224.out⟩, ⟨by repeat (first | (with_reducible first | exact HB.out | apply below_alloc | apply pw_below_drewN | apply below_drew1 | refine below_set ?_ GE222.out | refine below_set ?_ GE223.out | refine below_set ?_ GE224.out) | exact HB.out)⟩⟩
      ·
       rw [if_neg c31] at H
       have c31b0 : (((rd_T70 y228 0).f0) == a1_1) = false := beq_eq_false_iff_ne.mpr c31
       have c31b1 : (((rd_T70 y228 0).f0) != a1_1) = true := bne_iff_ne.mpr c31
       have H' := Aside0.mk H
       clear H
       try go_wp2
       have n0_ := Aside0.mk (Kd.V_drew HO_223000.out)
       have n1_ := Aside0.mk (Kd.V_drew HO232.out)
       have n2_ := Aside0.mk (blk_drew BK222.out)
       have n3_ := Aside0.mk (blk_drew BK223.out)
       have n4_ := Aside0.mk (blk_drew BK224.out)
       have n5_ := Aside0.mk (below_drew1 HB.out)
       clear HO_223000
       clear HO232
       clear BK222
       clear BK223
       clear BK224
       clear HB
       have HO_223000 := n0_
       have HO232 := n1_
       have BK222 := n2_
       have BK223 := n3_
       have BK224 := n4_
       have HB := n5_
       clear n0_ n1_ n2_ n3_ n4_ n5_
       have p233 : 0 ≤ (0 : Int) := (by omega)
       have q233 : 0 < (y228.length : Int) := od
       obtain ⟨ad233, A233_2, c233_2, e233, hx233_0, hx233_1, hx233_2, hl233_2, hi233_2⟩ := at_T70 (Kd.V_reads' HO232.out).2.2 0 p233 q233
       cases e233
       obtain ⟨ce233, hce233, hMe233, hcc233⟩ := Kd.V_get HO232.out z70 0 p233 (by first | exact q233 | exact od | (have e_ := (Kd.V_reads' HO232.out).1; omega))
       obtain ⟨ua233_2, uc233_2, rfl, ul233_2, ge233_2⟩ := k70_openF hMe233
       have hv233_2 := hcc233 2 _ rfl
       rw [add_field _ _ 2 (by omega)] at hv233_2
       replace hv233_2 := Option.some.inj (hv233_2.symm.trans hx233_2)
       injection hv233_2 with hva_ hvn_ hvc_
       rw [hva_] at ge233_2
       rw [hvc_] at ul233_2
       have HL233_2 := Aside0.mk (show Kd.V k96 96 _ w.heap.size _ _ ((rd_T70 y228 0).f2) from Kd.V_mk ul233_2 ge233_2)
       clear hva_ hvn_ hvc_ ge233_2 ul233_2
       clear hcc233 hce233
       have qi233 : (0 < y228.length) = True := eq_true (by omega)
       (try rw [show ((0 : Int)).toNat = 0 from rfl] at hx233_0)
       (try rw [show 0 * 3 = 0 from rfl] at hx233_0)
       (try rw [Addr.add_zero'] at hx233_0)
       (try rw [show ((0 : Int)).toNat = 0 from rfl] at hx233_1)
       (try rw [show 0 * 3 = 0 from rfl] at hx233_1)
       (try rw [Addr.add_zero'] at hx233_1)
       (try rw [show ((0 : Int)).toNat = 0 from rfl] at hx233_2)
       (try rw [show 0 * 3 = 0 from rfl] at hx233_2)
       (try rw [Addr.add_zero'] at hx233_2)
       have HR233_2 := Aside0.mk hi233_2
       have HC233_2 := Aside0.mk hl233_2
       clear hi233_2 hl233_2
       replace p233 := eq_true p233
       replace q233 := eq_true q233
       refine start_ (n := 21) (S := fun w' => w'.cell? ⟨gb223, 0, none⟩ = some (.int .i64 a1_0) ∧ w'.cell? ⟨gb223, 1, none⟩ = some (.int .i64 a1_1) ∧ w'.cell? ⟨gb223, 2, none⟩ = some (.string a1_2) ∧ w'.cell? ⟨gb223, 3, none⟩ = some (.int .i64 a1_3) ∧ w'.cell? ad233 = some (.int .i64 ((rd_T70 y228 0).f0)) ∧ w'.cell? ⟨ad233.block, ad233.off + 1, none⟩ = some (.string ((rd_T70 y228 0).f1)) ∧ w'.cell? ⟨ad233.block, ad233.off + 2, none⟩ = some (.slice A233_2 ((rd_T70 y228 0).f2).length c233_2)) (ds := []) #[false, false, false, false, false, false, false, false, false, false, false, false, false, false, false, false, false, false, false, false, false] (by kernel_rfl) rfl rfl ⟨(blk_cell BK223.out 0).trans rfl, (blk_cell BK223.out 1).trans rfl, (blk_cell BK223.out 2).trans rfl, (blk_cell BK223.out 3).trans rfl, hx233_0, hx233_1, hx233_2⟩ (fun hHeld => ?_); refine with_tabW ebbtideref11_Apply.tab8 ebbtideref11_Apply.bits8 (fun HT_ HW_ => ?_)
       generalize wc.drew = w33 at HO_223000 HO232 BK222 BK223 BK224 HB HL233_2 HR233_2 hx233_0 hx233_1 hx233_2 hHeld ⊢
       refine pu 0 (some 38) rfl rfl (ao HT_) (fun _ _ _ h => h) ya aa ?_
       refine pu 1 (some 39) rfl rfl (ao HT_) (fun _ _ _ h => h) ya aa ?_
       refine pu 2 (some 40) rfl rfl (ao HT_) (fun _ _ _ h => h) ya aa ?_
       refine pu 3 (some 41) rfl rfl (ao HT_) (fun _ _ _ h => h) ya aa ?_
       refine pu 4 (some 42) rfl rfl (ao HT_) (fun _ _ _ h => h) ya aa ?_
       refine pu 5 (some 43) rfl rfl (ao HT_) (fun _ _ _ h => h) ya aa ?_
       refine pu 6 (some 44) rfl rfl (ao HT_) (fun _ _ _ h => h) ya aa ?_
       refine pu 8 (some 46) rfl rfl (ao HT_) (fun _ _ _ h => h) ya aa ?_
       refine tk 7 (some 45) rfl rfl (tw HT_ HW_) (fun _ _ _ h => h) (Or.inl ⟨by rfl, by rintro w' ⟨s0, s1, s2, s3, s4, s5, s6⟩; go_simp; with_reducible rfl⟩) hHeld aa ?_
       refine tk 9 (some 47) rfl rfl (tw HT_ HW_) (fun _ _ _ h => h) (Or.inl ⟨by rfl, by rintro w' ⟨s0, s1, s2, s3, s4, s5, s6⟩; go_simp; with_reducible rfl⟩) hHeld aa ?_
       refine pu 10 (some 48) rfl rfl (ao HT_) (fun _ _ _ h => h) ya aa ?_
       refine pu 11 (some 49) rfl rfl (ao HT_) (fun _ _ _ h => h) ya aa ?_
       refine pu 12 (some 50) rfl rfl (ao HT_) (fun _ _ _ h => h) ya aa ?_
       refine pu (v := undef) 13 (some 51) rfl rfl (ao HT_) (fun _ _ _ h => h) (Or.inr ⟨by rfl, rfl⟩) aa ?_
       refine pu (v := undef) 14 (some 52) rfl rfl (ao HT_) (fun _ _ _ h => h) (Or.inr ⟨by rfl, rfl⟩) aa ?_
       refine pu (v := undef) 15 (some 53) rfl rfl (ao HT_) (fun _ _ _ h => h) (Or.inr ⟨by rfl, rfl⟩) aa ?_
       refine pu (v := undef) 16 (some 54) rfl rfl (ao HT_) (fun _ _ _ h => h) (Or.inr ⟨by rfl, rfl⟩) aa ?_
       refine pu (v := undef) 17 (some 55) rfl rfl (ao HT_) (fun _ _ _ h => h) (Or.inr ⟨by rfl, rfl⟩) aa ?_
       refine pu (v := undef) 18 (some 56) rfl rfl (ao HT_) (fun _ _ _ h => h) (Or.inr ⟨by rfl, rfl⟩) aa ?_
       refine pu (v := undef) 19 (some 57) rfl rfl (ao HT_) (fun _ _ _ h => h) (Or.inr ⟨by rfl, rfl⟩) aa ?_
       refine pu 20 (some 58) rfl rfl (ao HT_) (fun _ _ _ h => h) ya aa ?_
       refine done_ (done_of HT_.out (by kernel_rfl)) ?_
       try go_wp2
       go_meet
       case rel => exact ⟨_, (false), (by first | rfl | (simp; done) | (simp [*]; done)), H', ⟨by have := HJ4.out; first | omega | exact Nat.le_refl _⟩, ⟨by first | exact Kd.R_nil _ _ _ _ _ | exact Kd.N_nil _ _ _ _ _ | exact Kd.V_nil _ _ _ _ _ | exact Kd.Q_nil _ _ _ _ _ | exact Kd.S_nil _ _ _ _ _⟩, ⟨by exact uV <| Kd.V_mono HO232.out (fun _ hk => ⟨hk.1, ⟨(by simp [Value.ownBlock]), ⟨hk.2.1, ⟨hk.2.2.1, hk.2.2.2⟩⟩⟩⟩)⟩, ⟨by exact uV <| Kd.V_mono HO_223000.out (fun _ hk => ⟨hk.1, ⟨(by simp [Value.ownBlock]), ⟨hk.2.1, ⟨hk.2.2.1, hk.2.2.2⟩⟩⟩⟩)⟩, ⟨by exact uB <| BK222.out⟩, ⟨by exact uB <| BK223.out⟩, ⟨by exact uB <| BK224.out⟩, ⟨by repeat (first | (with_reducible first | exact HB.out | apply below_alloc | apply pw_below_drewN | apply below_drew1 | refine below_set ?_ GE222.out | refine below_set ?_ GE223.out | refine below_set ?_ GE224.out) | exact HB.out)⟩⟩
     ·
      rw [if_neg c29] at H
      have c29b0 : decide (0 < (y228.length : Int)) = false := decide_eq_false c29
      have c29b1 : decide (0 < y228.length) = false := decide_eq_false (by omega)
      clear c29
      (first | rw [c29b0] | (simp only [i64_w, i32_w]; rw [c29b0]) | skip)
      have H' := Aside0.mk H
      clear H
      try go_wp2
      have n0_ := Aside0.mk (Kd.V_drew HO_223000.out)
      have n1_ := Aside0.mk (Kd.V_drew HO232.out)
      have n2_ := Aside0.mk (blk_drew BK222.out)
      have n3_ := Aside0.mk (blk_drew BK223.out)
      have n4_ := Aside0.mk (blk_drew BK224.out)
      have n5_ := Aside0.mk (below_drew1 HB.out)
      clear HO_223000
      clear HO232
      clear BK222
      clear BK223
      clear BK224
      clear HB
      have HO_223000 := n0_
      have HO232 := n1_
      have BK222 := n2_
      have BK223 := n3_
      have BK224 := n4_
      have HB := n5_
      clear n0_ n1_ n2_ n3_ n4_ n5_
      refine start_ (n := 21) (S := fun w' => True) (ds := []) #[false, false, false, false, false, false, false, false, false, false, false, false, false, false, false, false, false, false, false, false, false] (by kernel_rfl) rfl rfl trivial (fun hHeld => ?_); refine with_tabW ebbtideref11_Apply.tab8 ebbtideref11_Apply.bits8 (fun HT_ HW_ => ?_)
      generalize wc.drew = w34 at HO_223000 HO232 BK222 BK223 BK224 HB hHeld ⊢
      refine pu 0 (some 38) rfl rfl (ao HT_) (fun _ _ _ h => h) ya aa ?_
      refine pu 1 (some 39) rfl rfl (ao HT_) (fun _ _ _ h => h) ya aa ?_
      refine pu 2 (some 40) rfl rfl (ao HT_) (fun _ _ _ h => h) ya aa ?_
      refine pu 3 (some 41) rfl rfl (ao HT_) (fun _ _ _ h => h) ya aa ?_
      refine pu (v := undef) 4 (some 42) rfl rfl (ao HT_) (fun _ _ _ h => h) (Or.inr ⟨by rfl, rfl⟩) aa ?_
      refine pu (v := undef) 5 (some 43) rfl rfl (ao HT_) (fun _ _ _ h => h) (Or.inr ⟨by rfl, rfl⟩) aa ?_
      refine pu (v := undef) 6 (some 44) rfl rfl (ao HT_) (fun _ _ _ h => h) (Or.inr ⟨by rfl, rfl⟩) aa ?_
      refine pu (v := undef) 7 (some 45) rfl rfl (ao HT_) (fun _ _ _ h => h) (Or.inr ⟨by rfl, rfl⟩) aa ?_
      refine pu (v := undef) 8 (some 46) rfl rfl (ao HT_) (fun _ _ _ h => h) (Or.inr ⟨by rfl, rfl⟩) aa ?_
      refine pu (v := undef) 9 (some 47) rfl rfl (ao HT_) (fun _ _ _ h => h) (Or.inr ⟨by rfl, rfl⟩) aa ?_
      refine pu (v := undef) 10 (some 48) rfl rfl (ao HT_) (fun _ _ _ h => h) (Or.inr ⟨by rfl, rfl⟩) aa ?_
      refine pu 11 (some 49) rfl rfl (ao HT_) (fun _ _ _ h => h) ya aa ?_
      refine pu 12 (some 50) rfl rfl (ao HT_) (fun _ _ _ h => h) ya aa ?_
      refine pu (v := undef) 13 (some 51) rfl rfl (ao HT_) (fun _ _ _ h => h) (Or.inr ⟨by rfl, rfl⟩) aa ?_
      refine pu (v := undef) 14 (some 52) rfl rfl (ao HT_) (fun _ _ _ h => h) (Or.inr ⟨by rfl, rfl⟩) aa ?_
      refine pu (v := undef) 15 (some 53) rfl rfl (ao HT_) (fun _ _ _ h => h) (Or.inr ⟨by rfl, rfl⟩) aa ?_
      refine pu (v := undef) 16 (some 54) rfl rfl (ao HT_) (fun _ _ _ h => h) (Or.inr ⟨by rfl, rfl⟩) aa ?_
      refine pu (v := undef) 17 (some 55) rfl rfl (ao HT_) (fun _ _ _ h => h) (Or.inr ⟨by rfl, rfl⟩) aa ?_
      refine pu (v := undef) 18 (some 56) rfl rfl (ao HT_) (fun _ _ _ h => h) (Or.inr ⟨by rfl, rfl⟩) aa ?_
      refine pu (v := undef) 19 (some 57) rfl rfl (ao HT_) (fun _ _ _ h => h) (Or.inr ⟨by rfl, rfl⟩) aa ?_
      refine pu 20 (some 58) rfl rfl (ao HT_) (fun _ _ _ h => h) ya aa ?_
      refine done_ (done_of HT_.out (by kernel_rfl)) ?_
      try go_wp2
      go_meet
      case rel => exact ⟨_, (false), (by first | rfl | (simp; done) | (simp [*]; done)), H', ⟨by have := HJ4.out; first | omega | exact Nat.le_refl _⟩, ⟨by first | exact Kd.R_nil _ _ _ _ _ | exact Kd.N_nil _ _ _ _ _ | exact Kd.V_nil _ _ _ _ _ | exact Kd.Q_nil _ _ _ _ _ | exact Kd.S_nil _ _ _ _ _⟩, ⟨by exact uV <| Kd.V_mono HO232.out (fun _ hk => ⟨hk.1, ⟨(by simp [Value.ownBlock]), ⟨hk.2.1, ⟨hk.2.2.1, hk.2.2.2⟩⟩⟩⟩)⟩, ⟨by exact uV <| Kd.V_mono HO_223000.out (fun _ hk => ⟨hk.1, ⟨(by simp [Value.ownBlock]), ⟨hk.2.1, ⟨hk.2.2.1, hk.2.2.2⟩⟩⟩⟩)⟩, ⟨by exact uB <| BK222.out⟩, ⟨by exact uB <| BK223.out⟩, ⟨by exact uB <| BK224.out⟩, ⟨by repeat (first | (with_reducible first | exact HB.out | apply below_alloc | apply pw_below_drewN | apply below_drew1 | refine below_set ?_ GE222.out | refine below_set ?_ GE223.out | refine below_set ?_ GE224.out) | exact HB.out)⟩⟩
    case rest =>
     clear HC24
     try clear c2
     try clear p2
     try clear q2
     try clear hx2
     try clear qi2
     try clear c3
     try clear c23
     try clear p23
     try clear q23
     try clear hx23
     try clear qi23
     try clear c29
     try clear c29b0
     try clear c29b1
     try clear c30
     try clear c31
     try clear c31b0
     try clear c31b1
     try clear hx233_0
     try clear hx233_1
     try clear hx233_2
     try clear hx234_0
     try clear hx234_1
     try clear hx234_2
     try clear p233
     try clear p234
     try clear q233
     try clear q234
     obtain ⟨kq, x58_23, rfl, HA, HJ23, HO_7, HO_8, HO_223000, BK222, BK223, BK224, HB⟩ := hcut
     cases kq with
     | zero => exact absurd HA.out (by simp [ebbtideref11_Apply.j2])
     | succ kj23 =>
      have H := HA.out
      clear HA
      simp only [ebbtideref11_Apply.j2] at H
      by_cases c35 : x58_23 = true
      ·
       subst c35
       rw [if_pos rfl] at H
       exact absurd H (by simp)
      ·
       replace c35 := Bool.eq_false_iff.mpr c35
       subst c35
       rw [if_neg (show ¬ (false = true) by decide)] at H
       replace H := Option.bind_eq_some_iff.mp H
       obtain ⟨⟨t235, t236⟩, A360, H⟩ := H
       replace H : (if t236 = 0 then ((some (([] : List (S70)) : List (S70))).bind fun y239 => (if 0 ≤ x6_4 then (if x6_4 ≤ (l0_0.length : Int) then ((some (l0_0.take (x6_4 : Int).toNat : List (S70))).bind fun y242 => (if y239.length + y242.length < 2932031007402 then ((some (y239 ++ y242 : List (S70))).bind fun y247 => ((some (([(⟨a1_1, a1_2, t235⟩ : S70)] : List (S70)) : List (S70))).bind fun y250 => (if y247.length + y250.length < 2932031007402 then ((some (y247 ++ y250 : List (S70))).bind fun y253 => (if y253.length + y228.length < 2932031007402 then (some ((y253 ++ y228), 0)) else (none))) else (none)))) else (none))) else (none)) else (none))) else (none)) = some (r1, r2) := H
       have A36 := Aside0.mk A360
       clear A360
       by_cases c37 : t236 = 0
       ·
        rw [if_pos c37] at H
        have c37b0 : (t236 == 0) = true := beq_iff_eq.mpr c37
        have c37b1 : (t236 != 0) = false := bne_eq_false_iff_eq.mpr c37
        clear c37
        obtain ⟨y239, hy239⟩ : ∃ y_ : List (S70), y_ = (([] : List (S70))) := ⟨_, rfl⟩
        replace H : (if 0 ≤ x6_4 then (if x6_4 ≤ (l0_0.length : Int) then ((some (l0_0.take (x6_4 : Int).toNat : List (S70))).bind fun y242 => (if y239.length + y242.length < 2932031007402 then ((some (y239 ++ y242 : List (S70))).bind fun y247 => ((some (([(⟨a1_1, a1_2, t235⟩ : S70)] : List (S70)) : List (S70))).bind fun y250 => (if y247.length + y250.length < 2932031007402 then ((some (y247 ++ y250 : List (S70))).bind fun y253 => (if y253.length + y228.length < 2932031007402 then (some ((y253 ++ y228), 0)) else (none))) else (none)))) else (none))) else (none)) else (none)) = some (r1, r2) := by first | (rw [hy239]; with_reducible exact H) | (have H2_ := (Option.bind_some _ _).symm.trans H; rw [hy239]; with_reducible exact H2_) | (have H2_ := (Option.bind_some _ _).symm.trans H; with_reducible exact H2_) | with_reducible exact H | (rw [hy239]; exact H) | exact H
        have Ny239 := Aside0.mk hy239
        clear hy239
        obtain ⟨c38, H⟩ := gd H
        have c38b0 := eq_true c38
        have c38b1 : decide (0 ≤ x6_4) = true := decide_eq_true c38
        clear c38
        obtain ⟨c39, H⟩ := gd H
        have c39b0 := eq_true c39
        have c39b1 : decide (x6_4 ≤ (l0_0.length : Int)) = true := decide_eq_true c39
        clear c39
        obtain ⟨y242, hy242⟩ : ∃ y_ : List (S70), y_ = (l0_0.take (x6_4 : Int).toNat) := ⟨_, rfl⟩
        replace H : (if y239.length + y242.length < 2932031007402 then ((some (y239 ++ y242 : List (S70))).bind fun y247 => ((some (([(⟨a1_1, a1_2, t235⟩ : S70)] : List (S70)) : List (S70))).bind fun y250 => (if y247.length + y250.length < 2932031007402 then ((some (y247 ++ y250 : List (S70))).bind fun y253 => (if y253.length + y228.length < 2932031007402 then (some ((y253 ++ y228), 0)) else (none))) else (none)))) else (none)) = some (r1, r2) := by first | (rw [hy242]; with_reducible exact H) | (have H2_ := (Option.bind_some _ _).symm.trans H; rw [hy242]; with_reducible exact H2_) | (have H2_ := (Option.bind_some _ _).symm.trans H; with_reducible exact H2_) | with_reducible exact H | (rw [hy242]; exact H) | exact H
        have Ny242 := Aside0.mk hy242
        clear hy242
        obtain ⟨c40, H⟩ := gd H
        have LMc40 := Aside0.mk c40
        clear c40
        obtain ⟨y247, hy247⟩ : ∃ y_ : List (S70), y_ = (y239 ++ y242) := ⟨_, rfl⟩
        replace H : ((some (([(⟨a1_1, a1_2, t235⟩ : S70)] : List (S70)) : List (S70))).bind fun y250 => (if y247.length + y250.length < 2932031007402 then ((some (y247 ++ y250 : List (S70))).bind fun y253 => (if y253.length + y228.length < 2932031007402 then (some ((y253 ++ y228), 0)) else (none))) else (none))) = some (r1, r2) := by first | (rw [hy247]; with_reducible exact H) | (have H2_ := (Option.bind_some _ _).symm.trans H; rw [hy247]; with_reducible exact H2_) | (have H2_ := (Option.bind_some _ _).symm.trans H; with_reducible exact H2_) | with_reducible exact H | (rw [hy247]; exact H) | exact H
        have Ny247 := Aside0.mk hy247
        clear hy247
        obtain ⟨y250, hy250⟩ : ∃ y_ : List (S70), y_ = (([(⟨a1_1, a1_2, t235⟩ : S70)] : List (S70))) := ⟨_, rfl⟩
        replace H : (if y247.length + y250.length < 2932031007402 then ((some (y247 ++ y250 : List (S70))).bind fun y253 => (if y253.length + y228.length < 2932031007402 then (some ((y253 ++ y228), 0)) else (none))) else (none)) = some (r1, r2) := by first | (rw [hy250]; with_reducible exact H) | (have H2_ := (Option.bind_some _ _).symm.trans H; rw [hy250]; with_reducible exact H2_) | (have H2_ := (Option.bind_some _ _).symm.trans H; with_reducible exact H2_) | with_reducible exact H | (rw [hy250]; exact H) | exact H
        have Ny250 := Aside0.mk hy250
        clear hy250
        obtain ⟨c41, H⟩ := gd H
        have LMc41 := Aside0.mk c41
        clear c41
        obtain ⟨y253, hy253⟩ : ∃ y_ : List (S70), y_ = (y247 ++ y250) := ⟨_, rfl⟩
        replace H : (if y253.length + y228.length < 2932031007402 then (some ((y253 ++ y228), 0)) else (none)) = some (r1, r2) := by first | (rw [hy253]; with_reducible exact H) | (have H2_ := (Option.bind_some _ _).symm.trans H; rw [hy253]; with_reducible exact H2_) | (have H2_ := (Option.bind_some _ _).symm.trans H; with_reducible exact H2_) | with_reducible exact H | (rw [hy253]; exact H) | exact H
        have Ny253 := Aside0.mk hy253
        clear hy253
        obtain ⟨c42, H⟩ := gd H
        have LMc42 := Aside0.mk c42
        clear c42
        obtain ⟨y256, hy256⟩ : ∃ y_ : List (S70), y_ = (y253 ++ y228) := ⟨_, rfl⟩
        replace H : (some (y256, 0)) = some (r1, r2) := by first | (rw [hy256]; with_reducible exact H) | (have H2_ := (Option.bind_some _ _).symm.trans H; rw [hy256]; with_reducible exact H2_) | (have H2_ := (Option.bind_some _ _).symm.trans H; with_reducible exact H2_) | with_reducible exact H | (rw [hy256]; exact H) | exact H
        have Ny256 := Aside0.mk hy256
        clear hy256
        simp only [Option.some.injEq, Prod.mk.injEq] at H
        obtain ⟨rfl, rfl⟩ := H
        have hnb43 := NB223_222.out
        have hnc43 := NB222_223.out
        have hnb44 := NB223_224.out
        have hnc44 := NB224_223.out
        have hcz45_0 : wc.cell? ⟨gb223, 0, none⟩ = some (.int .i64 a1_0) := (blk_cell BK223.out 0).trans rfl
        have hcz45_1 : wc.cell? ⟨gb223, 1, none⟩ = some (.int .i64 a1_1) := (blk_cell BK223.out 1).trans rfl
        have hcz45_2 : wc.cell? ⟨gb223, 2, none⟩ = some (.string a1_2) := (blk_cell BK223.out 2).trans rfl
        have hcz45_3 : wc.cell? ⟨gb223, 3, none⟩ = some (.int .i64 a1_3) := (blk_cell BK223.out 3).trans rfl
        have hfz45_0 := blk_frozen BK223.out 0
        have hfz45_1 := blk_frozen BK223.out 1
        have hfz45_2 := blk_frozen BK223.out 2
        have hfz45_3 := blk_frozen BK223.out 3
        try go_wp2_with (first | ((with_reducible refine gate_callee (f := 42) rfl ?_); refine goesL_ (some 71) rfl rfl Try.func42 (by kernel_rfl) rfl #[.slice none ([] : List (S96)).length 0, .int .i64 a1_0, .int .i64 a1_3] rfl (by (try simp only [List.map_toArray, List.map_cons, List.map_nil]); first | done | (rw [show ([] : List (S96)).length = 0 from (Kd.R_reads' HO_7.out).1.symm] <;> rfl) | rfl | (simp only [List.length_drop, List.length_take]; rfl)) ?_; (with_reducible refine (ebbtideref10_Fold.calls kj23 _ _ ([] : List (S96)) a1_0 a1_3 t235 t236 _ ?side1 ?side2 A36.out).mono ?_); (case side1 => repeat (first | exact (Kd.R_reads' HO_7.out).2.2 | (with_reducible refine Kd.C_alloc ?_ _) | (with_reducible refine Kd.C_drewN ?_ _) | (with_reducible refine Kd.C_drew ?_))); (case side2 => rw [show ([] : List (S96)).length = 0 from (Kd.R_reads' HO_7.out).1.symm]; exact (Kd.R_reads' HO_7.out).2.1); rintro e w46 ⟨v237, rfl, ho0, hb⟩; refine ⟨_, rfl, ?_⟩; replace HO_8 := Aside0.mk (Kd.V_elder' (uV HO_8.out) (Kd.R_base ho0) hb); replace HO_223000 := Aside0.mk (Kd.V_elder' (uV HO_223000.out) (Kd.R_base ho0) hb); have HO238 := Aside0.mk (Kd.R_lower (Kd.R_new' (Kd.R_newM (M := fun k_ => (w.heap.size ≤ k_)) ho0 (below_size (by repeat (first | (with_reducible first | exact HB.out | apply below_alloc | apply pw_below_drewN | apply below_drew1 | refine below_set ?_ GE222.out | refine below_set ?_ GE223.out | refine below_set ?_ GE224.out) | exact HB.out))) (fun k_ h_ => h_)) (Kd.R_lt (uR HO_7.out))) (below_size (by repeat (first | (with_reducible first | exact HB.out | apply below_alloc | apply pw_below_drewN | apply below_drew1 | refine below_set ?_ GE222.out | refine below_set ?_ GE223.out | refine below_set ?_ GE224.out) | exact HB.out)))); replace HO_7 := Aside0.mk (Kd.R_elder' (uR HO_7.out) (Kd.R_base ho0) hb); replace BK222 := cB BK222 hb; replace BK223 := cB BK223 hb; replace BK224 := cB BK224 hb; replace HB := Aside0.mk (below_step (by repeat (first | (with_reducible first | exact HB.out | apply below_alloc | apply pw_below_drewN | apply below_drew1 | refine below_set ?_ GE222.out | refine below_set ?_ GE223.out | refine below_set ?_ GE224.out) | exact HB.out)) hb); (try clear hb); (try clear ho0)))
        have n0_ := Aside0.mk (Kd.R_drew HO_7.out)
        have n1_ := Aside0.mk (Kd.V_drew HO_8.out)
        have n2_ := Aside0.mk (Kd.V_drew HO_223000.out)
        have n3_ := Aside0.mk (Kd.R_drew HO238.out)
        have n4_ := Aside0.mk (blk_drew BK222.out)
        have n5_ := Aside0.mk (blk_drew BK223.out)
        have n6_ := Aside0.mk (blk_drew BK224.out)
        have n7_ := Aside0.mk (below_drew1 HB.out)
        clear HO_7
        clear HO_8
        clear HO_223000
        clear HO238
        clear BK222
        clear BK223
        clear BK224
        clear HB
        have HO_7 := n0_
        have HO_8 := n1_
        have HO_223000 := n2_
        have HO238 := n3_
        have BK222 := n4_
        have BK223 := n5_
        have BK224 := n6_
        have HB := n7_
        clear n0_ n1_ n2_ n3_ n4_ n5_ n6_ n7_
        have q48 : (x6_4 : Int) ≤ ((l0_0.length : Int) : Int) := od
        obtain ⟨i048, hi048, _, hsz48, _⟩ := info_parts info70
        have hroom48 : l0_0.length ≤ c0_0 := (Kd.V_reads' HO_223000.out).2.1
        have hC48 : Kd.F k70 _ _ A0_0 l0_0.length l0_0 := (Kd.V_at (base := w.heap.size) HO_223000.out).2.2
        have hcut48 := cut_to (P := Try.prog) 48 70 .i64 Try.underlying48 hi048 A0_0 l0_0.length c0_0 x6_4 (od) q48 hroom48
        have hr48 := Kd.F_take (m := (x6_4 : Int).toNat) hC48 (by omega)
        have hy48 : y242.length = (x6_4 : Int).toNat := (by rw [Ny242.out, List.length_take]; omega)
        rw [← Ny242.out] at hr48
        rw [← hy48] at hcut48
        have HO246 := Aside0.mk (show Kd.V k70 70 _ w.heap.size _ (.slice A0_0 y242.length c0_0) y242 from Kd.V_mk (by omega) hr48)
        have HC246 := Aside0.mk (show y242.length ≤ c0_0 from by omega)
        clear hr48 hC48 hroom48 hi048 hsz48
        have KY48 := Aside0.mk hy48
        clear hy48
        replace q48 := eq_true q48
        obtain ⟨Ao49, co49, eo49⟩ := Kd.R_slice HO238.out
        (first | subst eo49 | (injection eo49 with f1_ f2_ f3_; have f4_ := f1_.symm; have f5_ := f3_.symm; clear f1_ f2_ f3_; subst f4_; subst f5_))
        refine start_ (n := 15) (S := fun w' => w'.cell? ⟨gb222, 0, none⟩ = some (.slice A0_0 l0_0.length c0_0) ∧ w'.cell? ⟨gb223, 0, none⟩ = some (.int .i64 a1_0) ∧ w'.cell? ⟨gb223, 1, none⟩ = some (.int .i64 a1_1) ∧ w'.cell? ⟨gb223, 2, none⟩ = some (.string a1_2) ∧ w'.cell? ⟨gb223, 3, none⟩ = some (.int .i64 a1_3)) (ds := []) #[false, false, false, false, false, false, false, false, false, false, false, false, false, false, false] (by kernel_rfl) rfl rfl ⟨(blk_cell BK222.out 0).trans rfl, (blk_cell BK223.out 0).trans rfl, (blk_cell BK223.out 1).trans rfl, (blk_cell BK223.out 2).trans rfl, (blk_cell BK223.out 3).trans rfl⟩ (fun hHeld => ?_); refine with_tabW ebbtideref11_Apply.tab13 ebbtideref11_Apply.bits13 (fun HT_ HW_ => ?_)
        generalize w46.drew = w47 at HO_7 HO_8 HO_223000 HO238 BK222 BK223 BK224 HB HO246 hHeld ⊢
        refine pu 1 (some 79) rfl rfl (ao HT_) (fun _ _ _ h => h) ya aa ?_
        refine pu 3 (some 81) rfl rfl (ao HT_) (fun _ _ _ h => h) ya aa ?_
        refine pu 6 (some 84) rfl rfl (ao HT_) (fun _ _ _ h => h) ya aa ?_
        refine pu 8 (some 86) rfl rfl (ao HT_) (fun _ _ _ h => h) ya aa ?_
        refine pu 10 (some 88) rfl rfl (ao HT_) (fun _ _ _ h => h) ya aa ?_
        refine tk 2 (some 80) rfl rfl (tw HT_ HW_) (fun _ _ _ h => h) (Or.inl ⟨by rfl, by rintro w' ⟨s0, s1, s2, s3, s4⟩; go_simp; with_reducible rfl⟩) hHeld aa ?_
        refine pu 4 (some 82) rfl rfl (ao HT_) (fun _ _ _ h => h) ya aa ?_
        refine tk 7 (some 85) rfl rfl (tw HT_ HW_) (fun _ _ _ h => h) (Or.inl ⟨by rfl, by rintro w' ⟨s0, s1, s2, s3, s4⟩; go_simp; with_reducible rfl⟩) hHeld aa ?_
        refine tk 9 (some 87) rfl rfl (tw HT_ HW_) (fun _ _ _ h => h) (Or.inl ⟨by rfl, by rintro w' ⟨s0, s1, s2, s3, s4⟩; go_simp; with_reducible rfl⟩) hHeld aa ?_
        refine pu 11 (some 89) rfl rfl (ao HT_) (fun _ _ _ h => h) ya aa ?_
        refine join_ (σ := Value × Value × Value) 2 #[true, true, true, true, true, true, true, true, true, true, true, true, true, false, false] (fun s_ => [(78, s_.1), (83, s_.2.1), (90, s_.2.2)]) (fun s_ w' => (w'.cell? ⟨gb222, 0, none⟩ = some (.slice A0_0 l0_0.length c0_0) ∧ w'.cell? ⟨gb223, 0, none⟩ = some (.int .i64 a1_0) ∧ w'.cell? ⟨gb223, 1, none⟩ = some (.int .i64 a1_1) ∧ w'.cell? ⟨gb223, 2, none⟩ = some (.string a1_2) ∧ w'.cell? ⟨gb223, 3, none⟩ = some (.int .i64 a1_3)) ∧ (Kd.V k70 70 w' w.heap.size (fun k_ => (P0_0_ k_ ∨ w.heap.size ≤ k_) ∧ some k_ ≠ (s_.2.1 : Value).ownBlock ∧ some k_ ≠ (s_.2.2 : Value).ownBlock ∧ some k_ ≠ (.slice none 0 0 : Value).ownBlock ∧ k_ ≠ gb222 ∧ k_ ≠ gb223 ∧ k_ ≠ gb224) (.slice A0_0 y242.length c0_0) y242) ∧ (Kd.N k70 70 w' w.heap.size (fun k_ => (P0_0_ k_ ∨ w.heap.size ≤ k_) ∧ some k_ ≠ (s_.2.2 : Value).ownBlock ∧ some k_ ≠ (.slice none 0 0 : Value).ownBlock ∧ k_ ≠ gb222 ∧ k_ ≠ gb223 ∧ k_ ≠ gb224) s_.2.1 y247) ∧ (Kd.N k70 70 w' w.heap.size (fun k_ => (P0_0_ k_ ∨ w.heap.size ≤ k_) ∧ some k_ ≠ (s_.2.1 : Value).ownBlock ∧ some k_ ≠ (.slice none 0 0 : Value).ownBlock ∧ k_ ≠ gb222 ∧ k_ ≠ gb223 ∧ k_ ≠ gb224) s_.2.2 y250) ∧ (Kd.V k70 70 w' w.heap.size (fun k_ => (P0_0_ k_ ∨ w.heap.size ≤ k_) ∧ some k_ ≠ (s_.2.1 : Value).ownBlock ∧ some k_ ≠ (s_.2.2 : Value).ownBlock ∧ some k_ ≠ (.slice none 0 0 : Value).ownBlock ∧ k_ ≠ gb222 ∧ k_ ≠ gb223 ∧ k_ ≠ gb224) (.slice A0_0 l0_0.length c0_0) l0_0) ∧ (Kd.R k96 96 w' w.heap.size (fun k_ => (w.heap.size ≤ k_)) (.slice none 0 0) ([] : List (S96))) ∧ (Kd.V k70 70 w' w.heap.size (fun k_ => (P0_0_ k_ ∨ w.heap.size ≤ k_) ∧ some k_ ≠ (s_.2.1 : Value).ownBlock ∧ some k_ ≠ (s_.2.2 : Value).ownBlock ∧ some k_ ≠ (.slice none 0 0 : Value).ownBlock ∧ k_ ≠ gb222 ∧ k_ ≠ gb223 ∧ k_ ≠ gb224) (.slice A28 y228.length c28) y228) ∧ (w'.heap[gb222]? = some (.cells #[.slice A0_0 l0_0.length c0_0] 50 (0, 0))) ∧ (w'.heap[gb223]? = some (.cells #[.int .i64 a1_0, .int .i64 a1_1, .string a1_2, .int .i64 a1_3] 61 (0, 0))) ∧ (w'.heap[gb224]? = some (.cells #[.slice none 0 0] 50 (0, 0))) ∧ (Below w.heap.size w w')) ?_ ?_
        rotate_left
        ·
         intro hCont
         refine two_ (i := 0) (j := 12) (Ni := some 78) (Nj := some 90) #[true, true, true, true, true, false, true, true, true, true, true, true, false, false, false] #[false, true, true, true, true, false, true, true, true, true, true, true, true, false, false] rfl rfl rfl rfl (two_of HT_.out (by kernel_rfl)) (by decide) (by decide) (fun K hK => ?_) (fun K hK => ?_)
         ·
          skip
          refine Kd.N_lit_step k70 _ 70 ?hg (N' := 78) ?hd (xs := ([] : List (S70))) (inner := []) (ok := (fun k_ => (P0_0_ k_ ∨ w.heap.size ≤ k_) ∧ some k_ ≠ (.slice none 0 0 : Value).ownBlock ∧ some k_ ≠ (.slice Ao49 t235.length co49 : Value).ownBlock ∧ k_ ≠ gb222 ∧ k_ ≠ gb223 ∧ k_ ≠ gb224)) (okp := (fun k_ => (P0_0_ k_ ∨ w.heap.size ≤ k_) ∧ some k_ ≠ (.slice none 0 0 : Value).ownBlock ∧ some k_ ≠ (.slice Ao49 t235.length co49 : Value).ownBlock ∧ k_ ≠ gb222 ∧ k_ ≠ gb223 ∧ k_ ≠ gb224)) ?hr ?hp (fun _ hk => hk) ((show ∀ k_, w47.heap.size ≤ k_ → (fun k_ => (P0_0_ k_ ∨ w.heap.size ≤ k_) ∧ some k_ ≠ (.slice none 0 0 : Value).ownBlock ∧ some k_ ≠ (.slice Ao49 t235.length co49 : Value).ownBlock ∧ k_ ≠ gb222 ∧ k_ ≠ gb223 ∧ k_ ≠ gb224) k_ from fun k_ hk => ⟨(.inr (Nat.le_trans (below_size (by repeat (first | (with_reducible first | exact HB.out | apply below_alloc | apply pw_below_drewN | apply below_drew1 | refine below_set ?_ GE222.out | refine below_set ?_ GE223.out | refine below_set ?_ GE224.out) | exact HB.out))) hk)), Kd.fresh' (Kd.R_lt (uR HO_7.out)) k_ hk, Kd.fresh' (Kd.R_lt (uR HO238.out)) k_ hk, Kd.freshB (g := gb222) (o := .cells #[.slice A0_0 l0_0.length c0_0] 50 (0, 0)) (uB BK222.out) k_ hk, Kd.freshB (g := gb223) (o := .cells #[.int .i64 a1_0, .int .i64 a1_1, .string a1_2, .int .i64 a1_3] 61 (0, 0)) (uB BK223.out) k_ hk, Kd.freshB (g := gb224) (o := .cells #[.slice none 0 0] 50 (0, 0)) (uB BK224.out) k_ hk⟩) _ (Nat.le_refl _)) (Below.refl _ _) (Nat.le_refl _) (by simp) ?_; (case hd => rfl); (case hg => rfl); (case hr => first | (go_simp; done) | (go_simp; rfl)); (case hp => exact (Reps.none _ _))
          intro v240 w50 ho51 hb hg_ hnew_
          clear hg_ hnew_
          (first | rw [← Ny239.out] at ho51 | (simp only [Int.reduceToNat] at ho51; rw [← Ny239.out] at ho51))
          have n0_ := cR HO_7 hb
          have n1_ := Aside0.mk (Kd.V_elder' (uV HO_8.out) (Kd.N_base ho51) hb)
          have n2_ := Aside0.mk (Kd.V_elder' (uV HO_223000.out) (Kd.N_base ho51) hb)
          have n3_ := cR HO238 hb
          have n4_ := Aside0.mk (Kd.V_elder' (uV HO246.out) (Kd.N_base ho51) hb)
          have n5_ := Aside0.mk (Kd.N_lower ho51 (below_size (by repeat (first | (with_reducible first | exact HB.out | apply below_alloc | apply pw_below_drewN | apply below_drew1 | refine below_set ?_ GE222.out | refine below_set ?_ GE223.out | refine below_set ?_ GE224.out) | exact HB.out))))
          have n6_ := cB BK222 hb
          have n7_ := cB BK223 hb
          have n8_ := cB BK224 hb
          have n9_ := Aside0.mk (below_step (by repeat (first | (with_reducible first | exact HB.out | apply below_alloc | apply pw_below_drewN | apply below_drew1 | refine below_set ?_ GE222.out | refine below_set ?_ GE223.out | refine below_set ?_ GE224.out) | exact HB.out)) hb)
          clear HO_7
          clear HO_8
          clear HO_223000
          clear HO238
          clear HO246
          clear BK222
          clear BK223
          clear BK224
          clear HB
          have HO_7 := n0_
          have HO_8 := n1_
          have HO_223000 := n2_
          have HO238 := n3_
          have HO246 := n4_
          have HO241 := n5_
          have BK222 := n6_
          have BK223 := n7_
          have BK224 := n8_
          have HB := n9_
          clear n0_ n1_ n2_ n3_ n4_ n5_ n6_ n7_ n8_ n9_
          clear hb ho51
          refine hK.out _ _ ⟨(blk_cell BK222.out 0).trans rfl, (blk_cell BK223.out 0).trans rfl, (blk_cell BK223.out 1).trans rfl, (blk_cell BK223.out 2).trans rfl, (blk_cell BK223.out 3).trans rfl⟩ (fun hHeld => ?_)
          clear hK K
          refine norm_ (a' := ?_) ?_ ?_
          rotate_left
          ·
           show Act.put _ (some 78) _ = _
           simp only [Act.put, List.setIfInBounds_toArray, List.set_cons_zero, List.set_cons_succ, i64_w, i32_w]
           rfl
          refine two_ (i := 5) (j := 12) (Ni := some 83) (Nj := some 90) #[true, true, true, true, true, true, true, true, true, true, true, true, false, false, false] #[true, true, true, true, true, false, true, true, true, true, true, true, true, false, false] rfl rfl rfl rfl (two_of HT_.out (by kernel_rfl)) (by decide) (by decide) (fun K hK => ?_) (fun K hK => ?_)
          ·
           skip
           refine Kd.N_append_rows_step k70 (w0 := w) w.heap.size (by rfl) (.tmp 78) (.tmp 82) 48 70 (.agg #[(.int .i64 0), (.string ⟨#[]⟩), (.slice none 0 0)]) 48 rfl Try.underlying48 info70 rfl (by decide) (by omega) v240 y239 y242 _ _ _ (fun k_ => (P0_0_ k_ ∨ w.heap.size ≤ k_) ∧ some k_ ≠ (.slice none 0 0 : Value).ownBlock ∧ some k_ ≠ (.slice Ao49 t235.length co49 : Value).ownBlock ∧ k_ ≠ gb222 ∧ k_ ≠ gb223 ∧ k_ ≠ gb224) (fun k_ => ((fun k_ => (P0_0_ k_ ∨ w.heap.size ≤ k_) ∧ some k_ ≠ (.slice none 0 0 : Value).ownBlock ∧ some k_ ≠ (.slice Ao49 t235.length co49 : Value).ownBlock ∧ k_ ≠ gb222 ∧ k_ ≠ gb223 ∧ k_ ≠ gb224)) k_ ∧ some k_ ≠ (v240 : Value).ownBlock) rfl rfl ?aO ?aR (fun _ hk => hk) ?aF ?aB ?aS ?aL ?_
           (case aR => exact (by skip; exact Kd.V_F (Kd.V_mono (ok' := (fun k_ => ((fun k_ => (P0_0_ k_ ∨ w.heap.size ≤ k_) ∧ some k_ ≠ (.slice none 0 0 : Value).ownBlock ∧ some k_ ≠ (.slice Ao49 t235.length co49 : Value).ownBlock ∧ k_ ≠ gb222 ∧ k_ ≠ gb223 ∧ k_ ≠ gb224)) k_ ∧ some k_ ≠ (v240 : Value).ownBlock)) (HO246.out) (fun k_ hk => ⟨⟨hk.1.1.1, ⟨hk.1.1.2.1, ⟨hk.1.2, ⟨hk.1.1.2.2.1, ⟨hk.1.1.2.2.2.1, hk.1.1.2.2.2.2⟩⟩⟩⟩⟩, hk.2⟩))))
           (case aB => exact (by repeat (first | (with_reducible first | exact HB.out | apply below_alloc | apply pw_below_drewN | apply below_drew1 | refine below_set ?_ GE222.out | refine below_set ?_ GE223.out | refine below_set ?_ GE224.out) | exact HB.out)))
           (case aF => exact (fun k_ hk => ⟨(.inr (Nat.le_trans (below_size (by repeat (first | (with_reducible first | exact HB.out | apply below_alloc | apply pw_below_drewN | apply below_drew1 | refine below_set ?_ GE222.out | refine below_set ?_ GE223.out | refine below_set ?_ GE224.out) | exact HB.out))) hk)), Kd.fresh' (Kd.R_lt (uR HO_7.out)) k_ hk, Kd.fresh' (Kd.R_lt (uR HO238.out)) k_ hk, Kd.freshB (g := gb222) (o := .cells #[.slice A0_0 l0_0.length c0_0] 50 (0, 0)) (uB BK222.out) k_ hk, Kd.freshB (g := gb223) (o := .cells #[.int .i64 a1_0, .int .i64 a1_1, .string a1_2, .int .i64 a1_3] 61 (0, 0)) (uB BK223.out) k_ hk, Kd.freshB (g := gb224) (o := .cells #[.slice none 0 0] 50 (0, 0)) (uB BK224.out) k_ hk⟩))
           (case aO => exact (by (with_reducible repeat (first | apply Kd.N_alloc | apply Kd.N_drewN | apply Kd.N_drew)); exact HO241.out))
           (case aS => exact (below_size (by repeat (first | (with_reducible first | exact HB.out | apply below_alloc | apply pw_below_drewN | apply below_drew1 | refine below_set ?_ GE222.out | refine below_set ?_ GE223.out | refine below_set ?_ GE224.out) | exact HB.out))))
           (case aL => have := LMc40.out; omega)
           intro v248 w52 ho hb hg hat
           rw [← Ny247.out] at ho
           have n0_ := Aside0.mk (Kd.R_over' (uR HO_7.out) (Kd.N_typed (by (with_reducible repeat (first | apply Kd.N_alloc | apply Kd.N_drewN | apply Kd.N_drew)); exact HO241.out)) (by decide) hg)
           have n1_ := Aside0.mk (Kd.V_afterv (ok := (fun k_ => (P0_0_ k_ ∨ w.heap.size ≤ k_) ∧ some k_ ≠ (.slice none 0 0 : Value).ownBlock ∧ some k_ ≠ (.slice Ao49 t235.length co49 : Value).ownBlock ∧ k_ ≠ gb222 ∧ k_ ≠ gb223 ∧ k_ ≠ gb224)) (by exact uV <| Kd.V_mono HO_8.out (fun _ hk => ⟨⟨hk.1.1.1, ⟨hk.1.1.2.1, ⟨hk.1.2, ⟨hk.1.1.2.2.1, ⟨hk.1.1.2.2.2.1, hk.1.1.2.2.2.2⟩⟩⟩⟩⟩, hk.2⟩)) hg hat)
           have n2_ := Aside0.mk (Kd.V_afterv (ok := (fun k_ => (P0_0_ k_ ∨ w.heap.size ≤ k_) ∧ some k_ ≠ (.slice none 0 0 : Value).ownBlock ∧ some k_ ≠ (.slice Ao49 t235.length co49 : Value).ownBlock ∧ k_ ≠ gb222 ∧ k_ ≠ gb223 ∧ k_ ≠ gb224)) (by exact uV <| Kd.V_mono HO_223000.out (fun _ hk => ⟨⟨hk.1.1.1, ⟨hk.1.1.2.1, ⟨hk.1.2, ⟨hk.1.1.2.2.1, ⟨hk.1.1.2.2.2.1, hk.1.1.2.2.2.2⟩⟩⟩⟩⟩, hk.2⟩)) hg hat)
           have n3_ := Aside0.mk (blk_grown (g := gb222) (o := .cells #[.slice A0_0 l0_0.length c0_0] 50 (0, 0)) (uB BK222.out) hg (Kd.N_ne HO241.out BK222.out (by decide)))
           have n4_ := Aside0.mk (blk_grown (g := gb223) (o := .cells #[.int .i64 a1_0, .int .i64 a1_1, .string a1_2, .int .i64 a1_3] 61 (0, 0)) (uB BK223.out) hg (Kd.N_ne HO241.out BK223.out (by decide)))
           have n5_ := Aside0.mk (blk_grown (g := gb224) (o := .cells #[.slice none 0 0] 50 (0, 0)) (uB BK224.out) hg (Kd.N_ne HO241.out BK224.out (by decide)))
           have n6_ := Aside0.mk (Kd.R_over' (uR HO238.out) (Kd.N_typed (by (with_reducible repeat (first | apply Kd.N_alloc | apply Kd.N_drewN | apply Kd.N_drew)); exact HO241.out)) (by decide) hg)
           have n7_ := Aside0.mk (Kd.V_afterv (ok := (fun k_ => (P0_0_ k_ ∨ w.heap.size ≤ k_) ∧ some k_ ≠ (.slice none 0 0 : Value).ownBlock ∧ some k_ ≠ (.slice Ao49 t235.length co49 : Value).ownBlock ∧ k_ ≠ gb222 ∧ k_ ≠ gb223 ∧ k_ ≠ gb224)) (by exact uV <| Kd.V_mono HO246.out (fun _ hk => ⟨⟨hk.1.1.1, ⟨hk.1.1.2.1, ⟨hk.1.2, ⟨hk.1.1.2.2.1, ⟨hk.1.1.2.2.2.1, hk.1.1.2.2.2.2⟩⟩⟩⟩⟩, hk.2⟩)) hg hat)
           have n8_ := Aside0.mk (hb)
           have n9_ := Aside0.mk (ho)
           clear HO_7
           clear HO_8
           clear HO_223000
           clear BK222
           clear BK223
           clear BK224
           clear HO238
           clear HO246
           clear HB
           clear HO241
           have HO_7 := n0_
           have HO_8 := n1_
           have HO_223000 := n2_
           have BK222 := n3_
           have BK223 := n4_
           have BK224 := n5_
           have HO238 := n6_
           have HO246 := n7_
           have HB := n8_
           have HO249 := n9_
           clear n0_ n1_ n2_ n3_ n4_ n5_ n6_ n7_ n8_ n9_
           clear ho hb hg hat
           refine hK.out _ _ ⟨(blk_cell BK222.out 0).trans rfl, (blk_cell BK223.out 0).trans rfl, (blk_cell BK223.out 1).trans rfl, (blk_cell BK223.out 2).trans rfl, (blk_cell BK223.out 3).trans rfl⟩ (fun hHeld => ?_)
           clear hK K
           refine norm_ (a' := ?_) ?_ ?_
           rotate_left
           ·
            show Act.put _ (some 83) _ = _
            simp only [Act.put, List.setIfInBounds_toArray, List.set_cons_zero, List.set_cons_succ, i64_w, i32_w]
            rfl
           refine one_ (i := 12) (N := some 90) #[true, true, true, true, true, true, true, true, true, true, true, true, true, false, false] rfl rfl (one_of HT_.out (by kernel_rfl)) (by decide) (fun K hK => ?_)
           refine Kd.N_lit_step k70 _ 70 ?hg (N' := 90) ?hd (xs := ([(⟨a1_1, a1_2, t235⟩ : S70)] : List (S70))) (inner := [.int .i64 a1_1, .string a1_2, .slice Ao49 t235.length co49]) (ok := (fun k_ => (P0_0_ k_ ∨ w.heap.size ≤ k_) ∧ some k_ ≠ (.slice none 0 0 : Value).ownBlock ∧ some k_ ≠ (v248 : Value).ownBlock ∧ k_ ≠ gb222 ∧ k_ ≠ gb223 ∧ k_ ≠ gb224)) (okp := (fun k_ => (P0_0_ k_ ∨ w.heap.size ≤ k_) ∧ some k_ ≠ (.slice none 0 0 : Value).ownBlock ∧ some k_ ≠ (v248 : Value).ownBlock ∧ k_ ≠ gb222 ∧ k_ ≠ gb223 ∧ k_ ≠ gb224)) ?hr ?hp (fun _ hk => hk) ((show ∀ k_, w52.heap.size ≤ k_ → (fun k_ => (P0_0_ k_ ∨ w.heap.size ≤ k_) ∧ some k_ ≠ (.slice none 0 0 : Value).ownBlock ∧ some k_ ≠ (v248 : Value).ownBlock ∧ k_ ≠ gb222 ∧ k_ ≠ gb223 ∧ k_ ≠ gb224) k_ from fun k_ hk => ⟨(.inr (Nat.le_trans (below_size (by repeat (first | (with_reducible first | exact HB.out | apply below_alloc | apply pw_below_drewN | apply below_drew1 | refine below_set ?_ GE222.out | refine below_set ?_ GE223.out | refine below_set ?_ GE224.out) | exact HB.out))) hk)), Kd.fresh' (Kd.R_lt (uR HO_7.out)) k_ hk, Kd.fresh' (Kd.N_lt (by (with_reducible repeat (first | apply Kd.N_alloc | apply Kd.N_drewN | apply Kd.N_drew)); exact HO249.out)) k_ hk, Kd.freshB (g := gb222) (o := .cells #[.slice A0_0 l0_0.length c0_0] 50 (0, 0)) (uB BK222.out) k_ hk, Kd.freshB (g := gb223) (o := .cells #[.int .i64 a1_0, .int .i64 a1_1, .string a1_2, .int .i64 a1_3] 61 (0, 0)) (uB BK223.out) k_ hk, Kd.freshB (g := gb224) (o := .cells #[.slice none 0 0] 50 (0, 0)) (uB BK224.out) k_ hk⟩) _ (Nat.le_refl _)) (Below.refl _ _) (Nat.le_refl _) (by simp) ?_; (case hd => rfl); (case hg => rfl); (case hr => first | (go_simp; done) | (go_simp; rfl)); (case hp => exact (Reps.c3 (show Kd.FK k70 _ _ (⟨a1_1, a1_2, t235⟩ : S70) [.int .i64 a1_1, .string a1_2, .slice Ao49 t235.length co49] from (k70_mkF _ _ (⟨a1_1, a1_2, t235⟩ : S70) (Kd.R_reads' (Kd.R_mono (ok' := (fun k_ => (P0_0_ k_ ∨ w.heap.size ≤ k_) ∧ some k_ ≠ (.slice none 0 0 : Value).ownBlock ∧ some k_ ≠ (v248 : Value).ownBlock ∧ k_ ≠ gb222 ∧ k_ ≠ gb223 ∧ k_ ≠ gb224)) (Kd.R_types (Kd.R_types (Kd.R_types (Kd.R_apart' (HO238.out) (Kd.N_typed HO249.out) (by decide)) BK222.out (by decide)) BK223.out (by decide)) BK224.out (by decide)) (fun k_ hk => ⟨(.inr (hk.1.1.1.1.1.1)), ⟨hk.1.1.1.1.2, ⟨hk.1.1.1.2, ⟨hk.1.1.2, ⟨hk.1.2, hk.2⟩⟩⟩⟩⟩))).2.1 (Kd.R_F (Kd.R_mono (ok' := (fun k_ => (P0_0_ k_ ∨ w.heap.size ≤ k_) ∧ some k_ ≠ (.slice none 0 0 : Value).ownBlock ∧ some k_ ≠ (v248 : Value).ownBlock ∧ k_ ≠ gb222 ∧ k_ ≠ gb223 ∧ k_ ≠ gb224)) (Kd.R_types (Kd.R_types (Kd.R_types (Kd.R_apart' (HO238.out) (Kd.N_typed HO249.out) (by decide)) BK222.out (by decide)) BK223.out (by decide)) BK224.out (by decide)) (fun k_ hk => ⟨(.inr (hk.1.1.1.1.1.1)), ⟨hk.1.1.1.1.2, ⟨hk.1.1.1.2, ⟨hk.1.1.2, ⟨hk.1.2, hk.2⟩⟩⟩⟩⟩))))) (Reps.none _ _)))
           intro v251 w53 ho54 hb hg_ hnew_
           clear hg_ hnew_
           (first | rw [← Ny250.out] at ho54 | (simp only [Int.reduceToNat] at ho54; rw [← Ny250.out] at ho54))
           have n0_ := cR HO_7 hb
           have n1_ := Aside0.mk (Kd.V_elder' (uV HO_8.out) (Kd.N_base ho54) hb)
           have n2_ := Aside0.mk (Kd.V_elder' (uV HO_223000.out) (Kd.N_base ho54) hb)
           have n3_ := Aside0.mk (Kd.V_elder' (uV HO246.out) (Kd.N_base ho54) hb)
           have n4_ := Aside0.mk (Kd.N_elder' (by (with_reducible repeat (first | apply Kd.N_alloc | apply Kd.N_drewN | apply Kd.N_drew)); exact HO249.out) (Kd.N_base ho54) hb)
           have n5_ := Aside0.mk (Kd.N_lower ho54 (below_size (by repeat (first | (with_reducible first | exact HB.out | apply below_alloc | apply pw_below_drewN | apply below_drew1 | refine below_set ?_ GE222.out | refine below_set ?_ GE223.out | refine below_set ?_ GE224.out) | exact HB.out))))
           have n6_ := cB BK222 hb
           have n7_ := cB BK223 hb
           have n8_ := cB BK224 hb
           have n9_ := Aside0.mk (below_step (by repeat (first | (with_reducible first | exact HB.out | apply below_alloc | apply pw_below_drewN | apply below_drew1 | refine below_set ?_ GE222.out | refine below_set ?_ GE223.out | refine below_set ?_ GE224.out) | exact HB.out)) hb)
           clear HO_7
           clear HO_8
           clear HO_223000
           clear HO246
           clear HO249
           clear BK222
           clear BK223
           clear BK224
           clear HB
           clear HO238
           have HO_7 := n0_
           have HO_8 := n1_
           have HO_223000 := n2_
           have HO246 := n3_
           have HO249 := n4_
           have HO252 := n5_
           have BK222 := n6_
           have BK223 := n7_
           have BK224 := n8_
           have HB := n9_
           clear n0_ n1_ n2_ n3_ n4_ n5_ n6_ n7_ n8_ n9_
           clear hb ho54
           refine hK.out _ _ ⟨(blk_cell BK222.out 0).trans rfl, (blk_cell BK223.out 0).trans rfl, (blk_cell BK223.out 1).trans rfl, (blk_cell BK223.out 2).trans rfl, (blk_cell BK223.out 3).trans rfl⟩ (fun hHeld => ?_)
           clear hK K
           refine norm_ (a' := ?_) ?_ ?_
           rotate_left
           ·
            show Act.put _ (some 90) _ = _
            simp only [Act.put, List.setIfInBounds_toArray, List.set_cons_zero, List.set_cons_succ, i64_w, i32_w]
            rfl
           exact norm_ (by simp only [putAll, Act.put, List.setIfInBounds_toArray, List.set_cons_zero, List.set_cons_succ]) (hCont (v240, v248, v251) _ ⟨hHeld, (by exact uV <| Kd.V_mono HO246.out (fun _ hk => ⟨hk.1.1.1, ⟨hk.1.2, ⟨hk.2, ⟨hk.1.1.2.1, ⟨hk.1.1.2.2.2.1, ⟨hk.1.1.2.2.2.2.1, hk.1.1.2.2.2.2.2⟩⟩⟩⟩⟩⟩)), (by (with_reducible repeat (first | apply Kd.N_alloc | apply Kd.N_drewN | apply Kd.N_drew)); exact Kd.N_mono HO249.out (fun _ hk => ⟨hk.1.1, ⟨hk.2, ⟨hk.1.2.1, ⟨hk.1.2.2.2.1, ⟨hk.1.2.2.2.2.1, hk.1.2.2.2.2.2⟩⟩⟩⟩⟩)), (by (with_reducible repeat (first | apply Kd.N_alloc | apply Kd.N_drewN | apply Kd.N_drew)); exact Kd.N_mono HO252.out (fun _ hk => ⟨hk.1, ⟨hk.2.2.1, ⟨hk.2.1, ⟨hk.2.2.2.1, ⟨hk.2.2.2.2.1, hk.2.2.2.2.2⟩⟩⟩⟩⟩)), (by exact uV <| Kd.V_mono HO_223000.out (fun _ hk => ⟨hk.1.1.1, ⟨hk.1.2, ⟨hk.2, ⟨hk.1.1.2.1, ⟨hk.1.1.2.2.2.1, ⟨hk.1.1.2.2.2.2.1, hk.1.1.2.2.2.2.2⟩⟩⟩⟩⟩⟩)), (by exact uR <| Kd.R_mono HO_7.out (fun _ hk => hk.1)), (by exact uV <| Kd.V_mono HO_8.out (fun _ hk => ⟨hk.1.1.1, ⟨hk.1.2, ⟨hk.2, ⟨hk.1.1.2.1, ⟨hk.1.1.2.2.2.1, ⟨hk.1.1.2.2.2.2.1, hk.1.1.2.2.2.2.2⟩⟩⟩⟩⟩⟩)), (uB BK222.out), (uB BK223.out), (uB BK224.out), (by repeat (first | (with_reducible first | exact HB.out | apply below_alloc | apply pw_below_drewN | apply below_drew1 | refine below_set ?_ GE222.out | refine below_set ?_ GE223.out | refine below_set ?_ GE224.out) | exact HB.out))⟩)
          ·
           skip
           refine Kd.N_lit_step k70 _ 70 ?hg (N' := 90) ?hd (xs := ([(⟨a1_1, a1_2, t235⟩ : S70)] : List (S70))) (inner := [.int .i64 a1_1, .string a1_2, .slice Ao49 t235.length co49]) (ok := (fun k_ => (P0_0_ k_ ∨ w.heap.size ≤ k_) ∧ some k_ ≠ (.slice none 0 0 : Value).ownBlock ∧ some k_ ≠ (v240 : Value).ownBlock ∧ k_ ≠ gb222 ∧ k_ ≠ gb223 ∧ k_ ≠ gb224)) (okp := (fun k_ => (P0_0_ k_ ∨ w.heap.size ≤ k_) ∧ some k_ ≠ (.slice none 0 0 : Value).ownBlock ∧ some k_ ≠ (v240 : Value).ownBlock ∧ k_ ≠ gb222 ∧ k_ ≠ gb223 ∧ k_ ≠ gb224)) ?hr ?hp (fun _ hk => hk) ((show ∀ k_, w50.heap.size ≤ k_ → (fun k_ => (P0_0_ k_ ∨ w.heap.size ≤ k_) ∧ some k_ ≠ (.slice none 0 0 : Value).ownBlock ∧ some k_ ≠ (v240 : Value).ownBlock ∧ k_ ≠ gb222 ∧ k_ ≠ gb223 ∧ k_ ≠ gb224) k_ from fun k_ hk => ⟨(.inr (Nat.le_trans (below_size (by repeat (first | (with_reducible first | exact HB.out | apply below_alloc | apply pw_below_drewN | apply below_drew1 | refine below_set ?_ GE222.out | refine below_set ?_ GE223.out | refine below_set ?_ GE224.out) | exact HB.out))) hk)), Kd.fresh' (Kd.R_lt (uR HO_7.out)) k_ hk, Kd.fresh' (Kd.N_lt (by (with_reducible repeat (first | apply Kd.N_alloc | apply Kd.N_drewN | apply Kd.N_drew)); exact HO241.out)) k_ hk, Kd.freshB (g := gb222) (o := .cells #[.slice A0_0 l0_0.length c0_0] 50 (0, 0)) (uB BK222.out) k_ hk, Kd.freshB (g := gb223) (o := .cells #[.int .i64 a1_0, .int .i64 a1_1, .string a1_2, .int .i64 a1_3] 61 (0, 0)) (uB BK223.out) k_ hk, Kd.freshB (g := gb224) (o := .cells #[.slice none 0 0] 50 (0, 0)) (uB BK224.out) k_ hk⟩) _ (Nat.le_refl _)) (Below.refl _ _) (Nat.le_refl _) (by simp) ?_; (case hd => rfl); (case hg => rfl); (case hr => first | (go_simp; done) | (go_simp; rfl)); (case hp => exact (Reps.c3 (show Kd.FK k70 _ _ (⟨a1_1, a1_2, t235⟩ : S70) [.int .i64 a1_1, .string a1_2, .slice Ao49 t235.length co49] from (k70_mkF _ _ (⟨a1_1, a1_2, t235⟩ : S70) (Kd.R_reads' (Kd.R_mono (ok' := (fun k_ => (P0_0_ k_ ∨ w.heap.size ≤ k_) ∧ some k_ ≠ (.slice none 0 0 : Value).ownBlock ∧ some k_ ≠ (v240 : Value).ownBlock ∧ k_ ≠ gb222 ∧ k_ ≠ gb223 ∧ k_ ≠ gb224)) (Kd.R_types (Kd.R_types (Kd.R_types (Kd.R_apart' (HO238.out) (Kd.N_typed HO241.out) (by decide)) BK222.out (by decide)) BK223.out (by decide)) BK224.out (by decide)) (fun k_ hk => ⟨(.inr (hk.1.1.1.1.1.1)), ⟨hk.1.1.1.1.2, ⟨hk.1.1.1.2, ⟨hk.1.1.2, ⟨hk.1.2, hk.2⟩⟩⟩⟩⟩))).2.1 (Kd.R_F (Kd.R_mono (ok' := (fun k_ => (P0_0_ k_ ∨ w.heap.size ≤ k_) ∧ some k_ ≠ (.slice none 0 0 : Value).ownBlock ∧ some k_ ≠ (v240 : Value).ownBlock ∧ k_ ≠ gb222 ∧ k_ ≠ gb223 ∧ k_ ≠ gb224)) (Kd.R_types (Kd.R_types (Kd.R_types (Kd.R_apart' (HO238.out) (Kd.N_typed HO241.out) (by decide)) BK222.out (by decide)) BK223.out (by decide)) BK224.out (by decide)) (fun k_ hk => ⟨(.inr (hk.1.1.1.1.1.1)), ⟨hk.1.1.1.1.2, ⟨hk.1.1.1.2, ⟨hk.1.1.2, ⟨hk.1.2, hk.2⟩⟩⟩⟩⟩))))) (Reps.none _ _)))
           intro v251 w52 ho53 hb hg_ hnew_
           clear hg_ hnew_
           (first | rw [← Ny250.out] at ho53 | (simp only [Int.reduceToNat] at ho53; rw [← Ny250.out] at ho53))
           have n0_ := cR HO_7 hb
           have n1_ := Aside0.mk (Kd.V_elder' (uV HO_8.out) (Kd.N_base ho53) hb)
           have n2_ := Aside0.mk (Kd.V_elder' (uV HO_223000.out) (Kd.N_base ho53) hb)
           have n3_ := Aside0.mk (Kd.V_elder' (uV HO246.out) (Kd.N_base ho53) hb)
           have n4_ := Aside0.mk (Kd.N_elder' (by (with_reducible repeat (first | apply Kd.N_alloc | apply Kd.N_drewN | apply Kd.N_drew)); exact HO241.out) (Kd.N_base ho53) hb)
           have n5_ := Aside0.mk (Kd.N_lower ho53 (below_size (by repeat (first | (with_reducible first | exact HB.out | apply below_alloc | apply pw_below_drewN | apply below_drew1 | refine below_set ?_ GE222.out | refine below_set ?_ GE223.out | refine below_set ?_ GE224.out) | exact HB.out))))
           have n6_ := cB BK222 hb
           have n7_ := cB BK223 hb
           have n8_ := cB BK224 hb
           have n9_ := Aside0.mk (below_step (by repeat (first | (with_reducible first | exact HB.out | apply below_alloc | apply pw_below_drewN | apply below_drew1 | refine below_set ?_ GE222.out | refine below_set ?_ GE223.out | refine below_set ?_ GE224.out) | exact HB.out)) hb)
           clear HO_7
           clear HO_8
           clear HO_223000
           clear HO246
           clear HO241
           clear BK222
           clear BK223
           clear BK224
           clear HB
           clear HO238
           have HO_7 := n0_
           have HO_8 := n1_
           have HO_223000 := n2_
           have HO246 := n3_
           have HO241 := n4_
           have HO252 := n5_
           have BK222 := n6_
           have BK223 := n7_
           have BK224 := n8_
           have HB := n9_
           clear n0_ n1_ n2_ n3_ n4_ n5_ n6_ n7_ n8_ n9_
           clear hb ho53
           refine hK.out _ _ ⟨(blk_cell BK222.out 0).trans rfl, (blk_cell BK223.out 0).trans rfl, (blk_cell BK223.out 1).trans rfl, (blk_cell BK223.out 2).trans rfl, (blk_cell BK223.out 3).trans rfl⟩ (fun hHeld => ?_)
           clear hK K
           refine norm_ (a' := ?_) ?_ ?_
           rotate_left
           ·
            show Act.put _ (some 90) _ = _
            simp only [Act.put, List.setIfInBounds_toArray, List.set_cons_zero, List.set_cons_succ, i64_w, i32_w]
            rfl
           refine one_ (i := 5) (N := some 83) #[true, true, true, true, true, true, true, true, true, true, true, true, true, false, false] rfl rfl (one_of HT_.out (by kernel_rfl)) (by decide) (fun K hK => ?_)
           refine Kd.N_append_rows_step k70 (w0 := w) w.heap.size (by rfl) (.tmp 78) (.tmp 82) 48 70 (.agg #[(.int .i64 0), (.string ⟨#[]⟩), (.slice none 0 0)]) 48 rfl Try.underlying48 info70 rfl (by decide) (by omega) v240 y239 y242 _ _ _ (fun k_ => (P0_0_ k_ ∨ w.heap.size ≤ k_) ∧ some k_ ≠ (.slice none 0 0 : Value).ownBlock ∧ some k_ ≠ (v251 : Value).ownBlock ∧ k_ ≠ gb222 ∧ k_ ≠ gb223 ∧ k_ ≠ gb224) (fun k_ => ((fun k_ => (P0_0_ k_ ∨ w.heap.size ≤ k_) ∧ some k_ ≠ (.slice none 0 0 : Value).ownBlock ∧ some k_ ≠ (v251 : Value).ownBlock ∧ k_ ≠ gb222 ∧ k_ ≠ gb223 ∧ k_ ≠ gb224)) k_ ∧ some k_ ≠ (v240 : Value).ownBlock) rfl rfl ?aO ?aR (fun _ hk => hk) ?aF ?aB ?aS ?aL ?_
           (case aR => exact (by skip; exact Kd.V_F (Kd.V_mono (ok' := (fun k_ => ((fun k_ => (P0_0_ k_ ∨ w.heap.size ≤ k_) ∧ some k_ ≠ (.slice none 0 0 : Value).ownBlock ∧ some k_ ≠ (v251 : Value).ownBlock ∧ k_ ≠ gb222 ∧ k_ ≠ gb223 ∧ k_ ≠ gb224)) k_ ∧ some k_ ≠ (v240 : Value).ownBlock)) (HO246.out) (fun k_ hk => ⟨⟨hk.1.1.1.1, ⟨hk.1.1.1.2.1, ⟨hk.2, ⟨hk.1.1.1.2.2.1, ⟨hk.1.1.1.2.2.2.1, hk.1.1.1.2.2.2.2⟩⟩⟩⟩⟩, hk.1.2⟩))))
           (case aB => exact (by repeat (first | (with_reducible first | exact HB.out | apply below_alloc | apply pw_below_drewN | apply below_drew1 | refine below_set ?_ GE222.out | refine below_set ?_ GE223.out | refine below_set ?_ GE224.out) | exact HB.out)))
           (case aF => exact (fun k_ hk => ⟨(.inr (Nat.le_trans (below_size (by repeat (first | (with_reducible first | exact HB.out | apply below_alloc | apply pw_below_drewN | apply below_drew1 | refine below_set ?_ GE222.out | refine below_set ?_ GE223.out | refine below_set ?_ GE224.out) | exact HB.out))) hk)), Kd.fresh' (Kd.R_lt (uR HO_7.out)) k_ hk, Kd.fresh' (Kd.N_lt (by (with_reducible repeat (first | apply Kd.N_alloc | apply Kd.N_drewN | apply Kd.N_drew)); exact HO252.out)) k_ hk, Kd.freshB (g := gb222) (o := .cells #[.slice A0_0 l0_0.length c0_0] 50 (0, 0)) (uB BK222.out) k_ hk, Kd.freshB (g := gb223) (o := .cells #[.int .i64 a1_0, .int .i64 a1_1, .string a1_2, .int .i64 a1_3] 61 (0, 0)) (uB BK223.out) k_ hk, Kd.freshB (g := gb224) (o := .cells #[.slice none 0 0] 50 (0, 0)) (uB BK224.out) k_ hk⟩))
           (case aO => exact (by (with_reducible repeat (first | apply Kd.N_alloc | apply Kd.N_drewN | apply Kd.N_drew)); exact Kd.N_mono HO241.out (fun _ hk => ⟨hk.1.1, ⟨hk.1.2.1, ⟨hk.2, ⟨hk.1.2.2.2.1, ⟨hk.1.2.2.2.2.1, hk.1.2.2.2.2.2⟩⟩⟩⟩⟩)))
           (case aS => exact (below_size (by repeat (first | (with_reducible first | exact HB.out | apply below_alloc | apply pw_below_drewN | apply below_drew1 | refine below_set ?_ GE222.out | refine below_set ?_ GE223.out | refine below_set ?_ GE224.out) | exact HB.out))))
           (case aL => have := LMc40.out; omega)
           intro v248 w54 ho hb hg hat
           rw [← Ny247.out] at ho
           have n0_ := Aside0.mk (Kd.R_over' (uR HO_7.out) (Kd.N_typed (by (with_reducible repeat (first | apply Kd.N_alloc | apply Kd.N_drewN | apply Kd.N_drew)); exact HO241.out)) (by decide) hg)
           have n1_ := Aside0.mk (Kd.V_afterv (ok := (fun k_ => (P0_0_ k_ ∨ w.heap.size ≤ k_) ∧ some k_ ≠ (.slice none 0 0 : Value).ownBlock ∧ some k_ ≠ (v251 : Value).ownBlock ∧ k_ ≠ gb222 ∧ k_ ≠ gb223 ∧ k_ ≠ gb224)) (by exact uV <| Kd.V_mono HO_8.out (fun _ hk => ⟨⟨hk.1.1.1.1, ⟨hk.1.1.1.2.1, ⟨hk.2, ⟨hk.1.1.1.2.2.1, ⟨hk.1.1.1.2.2.2.1, hk.1.1.1.2.2.2.2⟩⟩⟩⟩⟩, hk.1.2⟩)) hg hat)
           have n2_ := Aside0.mk (Kd.V_afterv (ok := (fun k_ => (P0_0_ k_ ∨ w.heap.size ≤ k_) ∧ some k_ ≠ (.slice none 0 0 : Value).ownBlock ∧ some k_ ≠ (v251 : Value).ownBlock ∧ k_ ≠ gb222 ∧ k_ ≠ gb223 ∧ k_ ≠ gb224)) (by exact uV <| Kd.V_mono HO_223000.out (fun _ hk => ⟨⟨hk.1.1.1.1, ⟨hk.1.1.1.2.1, ⟨hk.2, ⟨hk.1.1.1.2.2.1, ⟨hk.1.1.1.2.2.2.1, hk.1.1.1.2.2.2.2⟩⟩⟩⟩⟩, hk.1.2⟩)) hg hat)
           have n3_ := Aside0.mk (blk_grown (g := gb222) (o := .cells #[.slice A0_0 l0_0.length c0_0] 50 (0, 0)) (uB BK222.out) hg (Kd.N_ne HO241.out BK222.out (by decide)))
           have n4_ := Aside0.mk (blk_grown (g := gb223) (o := .cells #[.int .i64 a1_0, .int .i64 a1_1, .string a1_2, .int .i64 a1_3] 61 (0, 0)) (uB BK223.out) hg (Kd.N_ne HO241.out BK223.out (by decide)))
           have n5_ := Aside0.mk (blk_grown (g := gb224) (o := .cells #[.slice none 0 0] 50 (0, 0)) (uB BK224.out) hg (Kd.N_ne HO241.out BK224.out (by decide)))
           have n6_ := Aside0.mk (Kd.V_afterv (ok := (fun k_ => (P0_0_ k_ ∨ w.heap.size ≤ k_) ∧ some k_ ≠ (.slice none 0 0 : Value).ownBlock ∧ some k_ ≠ (v251 : Value).ownBlock ∧ k_ ≠ gb222 ∧ k_ ≠ gb223 ∧ k_ ≠ gb224)) (by exact uV <| Kd.V_mono HO246.out (fun _ hk => ⟨⟨hk.1.1.1.1, ⟨hk.1.1.1.2.1, ⟨hk.2, ⟨hk.1.1.1.2.2.1, ⟨hk.1.1.1.2.2.2.1, hk.1.1.1.2.2.2.2⟩⟩⟩⟩⟩, hk.1.2⟩)) hg hat)
           have n7_ := Aside0.mk (Kd.N_afterv (ok := (fun k_ => (P0_0_ k_ ∨ w.heap.size ≤ k_) ∧ some k_ ≠ (.slice none 0 0 : Value).ownBlock ∧ k_ ≠ gb222 ∧ k_ ≠ gb223 ∧ k_ ≠ gb224)) (by (with_reducible repeat (first | apply Kd.N_alloc | apply Kd.N_drewN | apply Kd.N_drew)); exact Kd.N_mono HO252.out (fun _ hk => ⟨⟨hk.1, ⟨hk.2.1, ⟨hk.2.2.2.1, ⟨hk.2.2.2.2.1, hk.2.2.2.2.2⟩⟩⟩⟩, hk.2.2.1⟩)) hg hat)
           have n8_ := Aside0.mk (hb)
           have n9_ := Aside0.mk (ho)
           clear HO_7
           clear HO_8
           clear HO_223000
           clear BK222
           clear BK223
           clear BK224
           clear HO246
           clear HO252
           clear HB
           clear HO241
           have HO_7 := n0_
           have HO_8 := n1_
           have HO_223000 := n2_
           have BK222 := n3_
           have BK223 := n4_
           have BK224 := n5_
           have HO246 := n6_
           have HO252 := n7_
           have HB := n8_
           have HO249 := n9_
           clear n0_ n1_ n2_ n3_ n4_ n5_ n6_ n7_ n8_ n9_
           clear ho hb hg hat
           refine hK.out _ _ ⟨(blk_cell BK222.out 0).trans rfl, (blk_cell BK223.out 0).trans rfl, (blk_cell BK223.out 1).trans rfl, (blk_cell BK223.out 2).trans rfl, (blk_cell BK223.out 3).trans rfl⟩ (fun hHeld => ?_)
           clear hK K
           refine norm_ (a' := ?_) ?_ ?_
           rotate_left
           ·
            show Act.put _ (some 83) _ = _
            simp only [Act.put, List.setIfInBounds_toArray, List.set_cons_zero, List.set_cons_succ, i64_w, i32_w]
            rfl
           exact norm_ (by simp only [putAll, Act.put, List.setIfInBounds_toArray, List.set_cons_zero, List.set_cons_succ]) (hCont (v240, v248, v251) _ ⟨hHeld, (by exact uV <| Kd.V_mono HO246.out (fun _ hk => ⟨hk.1.1, ⟨hk.2, ⟨hk.1.2.2.1, ⟨hk.1.2.1, ⟨hk.1.2.2.2.1, ⟨hk.1.2.2.2.2.1, hk.1.2.2.2.2.2⟩⟩⟩⟩⟩⟩)), (by (with_reducible repeat (first | apply Kd.N_alloc | apply Kd.N_drewN | apply Kd.N_drew)); exact Kd.N_mono HO249.out (fun _ hk => ⟨hk.1, ⟨hk.2.2.1, ⟨hk.2.1, ⟨hk.2.2.2.1, ⟨hk.2.2.2.2.1, hk.2.2.2.2.2⟩⟩⟩⟩⟩)), (by (with_reducible repeat (first | apply Kd.N_alloc | apply Kd.N_drewN | apply Kd.N_drew)); exact Kd.N_mono HO252.out (fun _ hk => ⟨hk.1.1, ⟨hk.2, ⟨hk.1.2.1, ⟨hk.1.2.2.1, ⟨hk.1.2.2.2.1, hk.1.2.2.2.2⟩⟩⟩⟩⟩)), (by exact uV <| Kd.V_mono HO_223000.out (fun _ hk => ⟨hk.1.1, ⟨hk.2, ⟨hk.1.2.2.1, ⟨hk.1.2.1, ⟨hk.1.2.2.2.1, ⟨hk.1.2.2.2.2.1, hk.1.2.2.2.2.2⟩⟩⟩⟩⟩⟩)), (by exact uR <| Kd.R_mono HO_7.out (fun _ hk => hk.1)), (by exact uV <| Kd.V_mono HO_8.out (fun _ hk => ⟨hk.1.1, ⟨hk.2, ⟨hk.1.2.2.1, ⟨hk.1.2.1, ⟨hk.1.2.2.2.1, ⟨hk.1.2.2.2.2.1, hk.1.2.2.2.2.2⟩⟩⟩⟩⟩⟩)), (uB BK222.out), (uB BK223.out), (uB BK224.out), (by repeat (first | (with_reducible first | exact HB.out | apply below_alloc | apply pw_below_drewN | apply below_drew1 | refine below_set ?_ GE222.out | refine below_set ?_ GE223.out | refine below_set ?_ GE224.out) | exact HB.out))⟩)
         ·
          skip
          refine Kd.N_lit_step k70 _ 70 ?hg (N' := 90) ?hd (xs := ([(⟨a1_1, a1_2, t235⟩ : S70)] : List (S70))) (inner := [.int .i64 a1_1, .string a1_2, .slice Ao49 t235.length co49]) (ok := (fun k_ => (P0_0_ k_ ∨ w.heap.size ≤ k_) ∧ some k_ ≠ (.slice none 0 0 : Value).ownBlock ∧ k_ ≠ gb222 ∧ k_ ≠ gb223 ∧ k_ ≠ gb224)) (okp := (fun k_ => (P0_0_ k_ ∨ w.heap.size ≤ k_) ∧ some k_ ≠ (.slice none 0 0 : Value).ownBlock ∧ k_ ≠ gb222 ∧ k_ ≠ gb223 ∧ k_ ≠ gb224)) ?hr ?hp (fun _ hk => hk) ((show ∀ k_, w47.heap.size ≤ k_ → (fun k_ => (P0_0_ k_ ∨ w.heap.size ≤ k_) ∧ some k_ ≠ (.slice none 0 0 : Value).ownBlock ∧ k_ ≠ gb222 ∧ k_ ≠ gb223 ∧ k_ ≠ gb224) k_ from fun k_ hk => ⟨(.inr (Nat.le_trans (below_size (by repeat (first | (with_reducible first | exact HB.out | apply below_alloc | apply pw_below_drewN | apply below_drew1 | refine below_set ?_ GE222.out | refine below_set ?_ GE223.out | refine below_set ?_ GE224.out) | exact HB.out))) hk)), Kd.fresh' (Kd.R_lt (uR HO_7.out)) k_ hk, Kd.freshB (g := gb222) (o := .cells #[.slice A0_0 l0_0.length c0_0] 50 (0, 0)) (uB BK222.out) k_ hk, Kd.freshB (g := gb223) (o := .cells #[.int .i64 a1_0, .int .i64 a1_1, .string a1_2, .int .i64 a1_3] 61 (0, 0)) (uB BK223.out) k_ hk, Kd.freshB (g := gb224) (o := .cells #[.slice none 0 0] 50 (0, 0)) (uB BK224.out) k_ hk⟩) _ (Nat.le_refl _)) (Below.refl _ _) (Nat.le_refl _) (by simp) ?_; (case hd => rfl); (case hg => rfl); (case hr => first | (go_simp; done) | (go_simp; rfl)); (case hp => exact (Reps.c3 (show Kd.FK k70 _ _ (⟨a1_1, a1_2, t235⟩ : S70) [.int .i64 a1_1, .string a1_2, .slice Ao49 t235.length co49] from (k70_mkF _ _ (⟨a1_1, a1_2, t235⟩ : S70) (Kd.R_reads' (Kd.R_mono (ok' := (fun k_ => (P0_0_ k_ ∨ w.heap.size ≤ k_) ∧ some k_ ≠ (.slice none 0 0 : Value).ownBlock ∧ k_ ≠ gb222 ∧ k_ ≠ gb223 ∧ k_ ≠ gb224)) (Kd.R_types (Kd.R_types (Kd.R_types (HO238.out) BK222.out (by decide)) BK223.out (by decide)) BK224.out (by decide)) (fun k_ hk => ⟨(.inr (hk.1.1.1.1.1)), ⟨hk.1.1.1.2, ⟨hk.1.1.2, ⟨hk.1.2, hk.2⟩⟩⟩⟩))).2.1 (Kd.R_F (Kd.R_mono (ok' := (fun k_ => (P0_0_ k_ ∨ w.heap.size ≤ k_) ∧ some k_ ≠ (.slice none 0 0 : Value).ownBlock ∧ k_ ≠ gb222 ∧ k_ ≠ gb223 ∧ k_ ≠ gb224)) (Kd.R_types (Kd.R_types (Kd.R_types (HO238.out) BK222.out (by decide)) BK223.out (by decide)) BK224.out (by decide)) (fun k_ hk => ⟨(.inr (hk.1.1.1.1.1)), ⟨hk.1.1.1.2, ⟨hk.1.1.2, ⟨hk.1.2, hk.2⟩⟩⟩⟩))))) (Reps.none _ _)))
          intro v251 w50 ho51 hb hg_ hnew_
          clear hg_ hnew_
          (first | rw [← Ny250.out] at ho51 | (simp only [Int.reduceToNat] at ho51; rw [← Ny250.out] at ho51))
          have n0_ := cR HO_7 hb
          have n1_ := Aside0.mk (Kd.V_elder' (uV HO_8.out) (Kd.N_base ho51) hb)
          have n2_ := Aside0.mk (Kd.V_elder' (uV HO_223000.out) (Kd.N_base ho51) hb)
          have n3_ := Aside0.mk (Kd.V_elder' (uV HO246.out) (Kd.N_base ho51) hb)
          have n4_ := Aside0.mk (Kd.N_lower ho51 (below_size (by repeat (first | (with_reducible first | exact HB.out | apply below_alloc | apply pw_below_drewN | apply below_drew1 | refine below_set ?_ GE222.out | refine below_set ?_ GE223.out | refine below_set ?_ GE224.out) | exact HB.out))))
          have n5_ := cB BK222 hb
          have n6_ := cB BK223 hb
          have n7_ := cB BK224 hb
          have n8_ := Aside0.mk (below_step (by repeat (first | (with_reducible first | exact HB.out | apply below_alloc | apply pw_below_drewN | apply below_drew1 | refine below_set ?_ GE222.out | refine below_set ?_ GE223.out | refine below_set ?_ GE224.out) | exact HB.out)) hb)
          clear HO_7
          clear HO_8
          clear HO_223000
          clear HO246
          clear BK222
          clear BK223
          clear BK224
          clear HB
          clear HO238
          have HO_7 := n0_
          have HO_8 := n1_
          have HO_223000 := n2_
          have HO246 := n3_
          have HO252 := n4_
          have BK222 := n5_
          have BK223 := n6_
          have BK224 := n7_
          have HB := n8_
          clear n0_ n1_ n2_ n3_ n4_ n5_ n6_ n7_ n8_
          clear hb ho51
          refine hK.out _ _ ⟨(blk_cell BK222.out 0).trans rfl, (blk_cell BK223.out 0).trans rfl, (blk_cell BK223.out 1).trans rfl, (blk_cell BK223.out 2).trans rfl, (blk_cell BK223.out 3).trans rfl⟩ (fun hHeld => ?_)
          clear hK K
          refine norm_ (a' := ?_) ?_ ?_
          rotate_left
          ·
           show Act.put _ (some 90) _ = _
           simp only [Act.put, List.setIfInBounds_toArray, List.set_cons_zero, List.set_cons_succ, i64_w, i32_w]
           rfl
          refine one_ (i := 0) (N := some 78) #[true, true, true, true, true, false, true, true, true, true, true, true, true, false, false] rfl rfl (one_of HT_.out (by kernel_rfl)) (by decide) (fun K hK => ?_)
          refine Kd.N_lit_step k70 _ 70 ?hg (N' := 78) ?hd (xs := ([] : List (S70))) (inner := []) (ok := (fun k_ => (P0_0_ k_ ∨ w.heap.size ≤ k_) ∧ some k_ ≠ (.slice none 0 0 : Value).ownBlock ∧ some k_ ≠ (v251 : Value).ownBlock ∧ k_ ≠ gb222 ∧ k_ ≠ gb223 ∧ k_ ≠ gb224)) (okp := (fun k_ => (P0_0_ k_ ∨ w.heap.size ≤ k_) ∧ some k_ ≠ (.slice none 0 0 : Value).ownBlock ∧ some k_ ≠ (v251 : Value).ownBlock ∧ k_ ≠ gb222 ∧ k_ ≠ gb223 ∧ k_ ≠ gb224)) ?hr ?hp (fun _ hk => hk) ((show ∀ k_, w50.heap.size ≤ k_ → (fun k_ => (P0_0_ k_ ∨ w.heap.size ≤ k_) ∧ some k_ ≠ (.slice none 0 0 : Value).ownBlock ∧ some k_ ≠ (v251 : Value).ownBlock ∧ k_ ≠ gb222 ∧ k_ ≠ gb223 ∧ k_ ≠ gb224) k_ from fun k_ hk => ⟨(.inr (Nat.le_trans (below_size (by repeat (first | (with_reducible first | exact HB.out | apply below_alloc | apply pw_below_drewN | apply below_drew1 | refine below_set ?_ GE222.out | refine below_set ?_ GE223.out | refine below_set ?_ GE224.out) | exact HB.out))) hk)), Kd.fresh' (Kd.R_lt (uR HO_7.out)) k_ hk, Kd.fresh' (Kd.N_lt (by (with_reducible repeat (first | apply Kd.N_alloc | apply Kd.N_drewN | apply Kd.N_drew)); exact HO252.out)) k_ hk, Kd.freshB (g := gb222) (o := .cells #[.slice A0_0 l0_0.length c0_0] 50 (0, 0)) (uB BK222.out) k_ hk, Kd.freshB (g := gb223) (o := .cells #[.int .i64 a1_0, .int .i64 a1_1, .string a1_2, .int .i64 a1_3] 61 (0, 0)) (uB BK223.out) k_ hk, Kd.freshB (g := gb224) (o := .cells #[.slice none 0 0] 50 (0, 0)) (uB BK224.out) k_ hk⟩) _ (Nat.le_refl _)) (Below.refl _ _) (Nat.le_refl _) (by simp) ?_; (case hd => rfl); (case hg => rfl); (case hr => first | (go_simp; done) | (go_simp; rfl)); (case hp => exact (Reps.none _ _))
          intro v240 w52 ho53 hb hg_ hnew_
          clear hg_ hnew_
          (first | rw [← Ny239.out] at ho53 | (simp only [Int.reduceToNat] at ho53; rw [← Ny239.out] at ho53))
          have n0_ := cR HO_7 hb
          have n1_ := Aside0.mk (Kd.V_elder' (uV HO_8.out) (Kd.N_base ho53) hb)
          have n2_ := Aside0.mk (Kd.V_elder' (uV HO_223000.out) (Kd.N_base ho53) hb)
          have n3_ := Aside0.mk (Kd.V_elder' (uV HO246.out) (Kd.N_base ho53) hb)
          have n4_ := Aside0.mk (Kd.N_elder' (by (with_reducible repeat (first | apply Kd.N_alloc | apply Kd.N_drewN | apply Kd.N_drew)); exact HO252.out) (Kd.N_base ho53) hb)
          have n5_ := Aside0.mk (Kd.N_lower ho53 (below_size (by repeat (first | (with_reducible first | exact HB.out | apply below_alloc | apply pw_below_drewN | apply below_drew1 | refine below_set ?_ GE222.out | refine below_set ?_ GE223.out | refine below_set ?_ GE224.out) | exact HB.out))))
          have n6_ := cB BK222 hb
          have n7_ := cB BK223 hb
          have n8_ := cB BK224 hb
          have n9_ := Aside0.mk (below_step (by repeat (first | (with_reducible first | exact HB.out | apply below_alloc | apply pw_below_drewN | apply below_drew1 | refine below_set ?_ GE222.out | refine below_set ?_ GE223.out | refine below_set ?_ GE224.out) | exact HB.out)) hb)
          clear HO_7
          clear HO_8
          clear HO_223000
          clear HO246
          clear HO252
          clear BK222
          clear BK223
          clear BK224
          clear HB
          have HO_7 := n0_
          have HO_8 := n1_
          have HO_223000 := n2_
          have HO246 := n3_
          have HO252 := n4_
          have HO241 := n5_
          have BK222 := n6_
          have BK223 := n7_
          have BK224 := n8_
          have HB := n9_
          clear n0_ n1_ n2_ n3_ n4_ n5_ n6_ n7_ n8_ n9_
          clear hb ho53
          refine hK.out _ _ ⟨(blk_cell BK222.out 0).trans rfl, (blk_cell BK223.out 0).trans rfl, (blk_cell BK223.out 1).trans rfl, (blk_cell BK223.out 2).trans rfl, (blk_cell BK223.out 3).trans rfl⟩ (fun hHeld => ?_)
          clear hK K
          refine norm_ (a' := ?_) ?_ ?_
          rotate_left
          ·
           show Act.put _ (some 78) _ = _
           simp only [Act.put, List.setIfInBounds_toArray, List.set_cons_zero, List.set_cons_succ, i64_w, i32_w]
           rfl
          refine one_ (i := 5) (N := some 83) #[true, true, true, true, true, true, true, true, true, true, true, true, true, false, false] rfl rfl (one_of HT_.out (by kernel_rfl)) (by decide) (fun K hK => ?_)
          refine Kd.N_append_rows_step k70 (w0 := w) w.heap.size (by rfl) (.tmp 78) (.tmp 82) 48 70 (.agg #[(.int .i64 0), (.string ⟨#[]⟩), (.slice none 0 0)]) 48 rfl Try.underlying48 info70 rfl (by decide) (by omega) v240 y239 y242 _ _ _ (fun k_ => (P0_0_ k_ ∨ w.heap.size ≤ k_) ∧ some k_ ≠ (.slice none 0 0 : Value).ownBlock ∧ some k_ ≠ (v251 : Value).ownBlock ∧ k_ ≠ gb222 ∧ k_ ≠ gb223 ∧ k_ ≠ gb224) (fun k_ => ((fun k_ => (P0_0_ k_ ∨ w.heap.size ≤ k_) ∧ some k_ ≠ (.slice none 0 0 : Value).ownBlock ∧ some k_ ≠ (v251 : Value).ownBlock ∧ k_ ≠ gb222 ∧ k_ ≠ gb223 ∧ k_ ≠ gb224)) k_ ∧ some k_ ≠ (v240 : Value).ownBlock) rfl rfl ?aO ?aR (fun _ hk => hk) ?aF ?aB ?aS ?aL ?_
          (case aR => exact (by skip; exact Kd.V_F (Kd.V_mono (ok' := (fun k_ => ((fun k_ => (P0_0_ k_ ∨ w.heap.size ≤ k_) ∧ some k_ ≠ (.slice none 0 0 : Value).ownBlock ∧ some k_ ≠ (v251 : Value).ownBlock ∧ k_ ≠ gb222 ∧ k_ ≠ gb223 ∧ k_ ≠ gb224)) k_ ∧ some k_ ≠ (v240 : Value).ownBlock)) (HO246.out) (fun k_ hk => ⟨⟨hk.1.1.1.1, ⟨hk.1.1.1.2.1, ⟨hk.1.2, ⟨hk.1.1.1.2.2.1, ⟨hk.1.1.1.2.2.2.1, hk.1.1.1.2.2.2.2⟩⟩⟩⟩⟩, hk.2⟩))))
          (case aB => exact (by repeat (first | (with_reducible first | exact HB.out | apply below_alloc | apply pw_below_drewN | apply below_drew1 | refine below_set ?_ GE222.out | refine below_set ?_ GE223.out | refine below_set ?_ GE224.out) | exact HB.out)))
          (case aF => exact (fun k_ hk => ⟨(.inr (Nat.le_trans (below_size (by repeat (first | (with_reducible first | exact HB.out | apply below_alloc | apply pw_below_drewN | apply below_drew1 | refine below_set ?_ GE222.out | refine below_set ?_ GE223.out | refine below_set ?_ GE224.out) | exact HB.out))) hk)), Kd.fresh' (Kd.R_lt (uR HO_7.out)) k_ hk, Kd.fresh' (Kd.N_lt (by (with_reducible repeat (first | apply Kd.N_alloc | apply Kd.N_drewN | apply Kd.N_drew)); exact HO252.out)) k_ hk, Kd.freshB (g := gb222) (o := .cells #[.slice A0_0 l0_0.length c0_0] 50 (0, 0)) (uB BK222.out) k_ hk, Kd.freshB (g := gb223) (o := .cells #[.int .i64 a1_0, .int .i64 a1_1, .string a1_2, .int .i64 a1_3] 61 (0, 0)) (uB BK223.out) k_ hk, Kd.freshB (g := gb224) (o := .cells #[.slice none 0 0] 50 (0, 0)) (uB BK224.out) k_ hk⟩))
          (case aO => exact (by (with_reducible repeat (first | apply Kd.N_alloc | apply Kd.N_drewN | apply Kd.N_drew)); exact HO241.out))
          (case aS => exact (below_size (by repeat (first | (with_reducible first | exact HB.out | apply below_alloc | apply pw_below_drewN | apply below_drew1 | refine below_set ?_ GE222.out | refine below_set ?_ GE223.out | refine below_set ?_ GE224.out) | exact HB.out))))
          (case aL => have := LMc40.out; omega)
          intro v248 w54 ho hb hg hat
          rw [← Ny247.out] at ho
          have n0_ := Aside0.mk (Kd.R_over' (uR HO_7.out) (Kd.N_typed (by (with_reducible repeat (first | apply Kd.N_alloc | apply Kd.N_drewN | apply Kd.N_drew)); exact HO241.out)) (by decide) hg)
          have n1_ := Aside0.mk (Kd.V_afterv (ok := (fun k_ => (P0_0_ k_ ∨ w.heap.size ≤ k_) ∧ some k_ ≠ (.slice none 0 0 : Value).ownBlock ∧ some k_ ≠ (v251 : Value).ownBlock ∧ k_ ≠ gb222 ∧ k_ ≠ gb223 ∧ k_ ≠ gb224)) (by exact uV <| Kd.V_mono HO_8.out (fun _ hk => ⟨⟨hk.1.1.1.1, ⟨hk.1.1.1.2.1, ⟨hk.1.2, ⟨hk.1.1.1.2.2.1, ⟨hk.1.1.1.2.2.2.1, hk.1.1.1.2.2.2.2⟩⟩⟩⟩⟩, hk.2⟩)) hg hat)
          have n2_ := Aside0.mk (Kd.V_afterv (ok := (fun k_ => (P0_0_ k_ ∨ w.heap.size ≤ k_) ∧ some k_ ≠ (.slice none 0 0 : Value).ownBlock ∧ some k_ ≠ (v251 : Value).ownBlock ∧ k_ ≠ gb222 ∧ k_ ≠ gb223 ∧ k_ ≠ gb224)) (by exact uV <| Kd.V_mono HO_223000.out (fun _ hk => ⟨⟨hk.1.1.1.1, ⟨hk.1.1.1.2.1, ⟨hk.1.2, ⟨hk.1.1.1.2.2.1, ⟨hk.1.1.1.2.2.2.1, hk.1.1.1.2.2.2.2⟩⟩⟩⟩⟩, hk.2⟩)) hg hat)
          have n3_ := Aside0.mk (blk_grown (g := gb222) (o := .cells #[.slice A0_0 l0_0.length c0_0] 50 (0, 0)) (uB BK222.out) hg (Kd.N_ne HO241.out BK222.out (by decide)))
          have n4_ := Aside0.mk (blk_grown (g := gb223) (o := .cells #[.int .i64 a1_0, .int .i64 a1_1, .string a1_2, .int .i64 a1_3] 61 (0, 0)) (uB BK223.out) hg (Kd.N_ne HO241.out BK223.out (by decide)))
          have n5_ := Aside0.mk (blk_grown (g := gb224) (o := .cells #[.slice none 0 0] 50 (0, 0)) (uB BK224.out) hg (Kd.N_ne HO241.out BK224.out (by decide)))
          have n6_ := Aside0.mk (Kd.V_afterv (ok := (fun k_ => (P0_0_ k_ ∨ w.heap.size ≤ k_) ∧ some k_ ≠ (.slice none 0 0 : Value).ownBlock ∧ some k_ ≠ (v251 : Value).ownBlock ∧ k_ ≠ gb222 ∧ k_ ≠ gb223 ∧ k_ ≠ gb224)) (by exact uV <| Kd.V_mono HO246.out (fun _ hk => ⟨⟨hk.1.1.1.1, ⟨hk.1.1.1.2.1, ⟨hk.1.2, ⟨hk.1.1.1.2.2.1, ⟨hk.1.1.1.2.2.2.1, hk.1.1.1.2.2.2.2⟩⟩⟩⟩⟩, hk.2⟩)) hg hat)
          have n7_ := Aside0.mk (Kd.N_afterv (ok := (fun k_ => (P0_0_ k_ ∨ w.heap.size ≤ k_) ∧ some k_ ≠ (.slice none 0 0 : Value).ownBlock ∧ k_ ≠ gb222 ∧ k_ ≠ gb223 ∧ k_ ≠ gb224)) (by (with_reducible repeat (first | apply Kd.N_alloc | apply Kd.N_drewN | apply Kd.N_drew)); exact HO252.out) hg hat)
          have n8_ := Aside0.mk (hb)
          have n9_ := Aside0.mk (ho)
          clear HO_7
          clear HO_8
          clear HO_223000
          clear BK222
          clear BK223
          clear BK224
          clear HO246
          clear HO252
          clear HB
          clear HO241
          have HO_7 := n0_
          have HO_8 := n1_
          have HO_223000 := n2_
          have BK222 := n3_
          have BK223 := n4_
          have BK224 := n5_
          have HO246 := n6_
          have HO252 := n7_
          have HB := n8_
          have HO249 := n9_
          clear n0_ n1_ n2_ n3_ n4_ n5_ n6_ n7_ n8_ n9_
          clear ho hb hg hat
          refine hK.out _ _ ⟨(blk_cell BK222.out 0).trans rfl, (blk_cell BK223.out 0).trans rfl, (blk_cell BK223.out 1).trans rfl, (blk_cell BK223.out 2).trans rfl, (blk_cell BK223.out 3).trans rfl⟩ (fun hHeld => ?_)
          clear hK K
          refine norm_ (a' := ?_) ?_ ?_
          rotate_left
          ·
           show Act.put _ (some 83) _ = _
           simp only [Act.put, List.setIfInBounds_toArray, List.set_cons_zero, List.set_cons_succ, i64_w, i32_w]
           rfl
          exact norm_ (by simp only [putAll, Act.put, List.setIfInBounds_toArray, List.set_cons_zero, List.set_cons_succ]) (hCont (v240, v248, v251) _ ⟨hHeld, (by exact uV <| Kd.V_mono HO246.out (fun _ hk => ⟨hk.1.1, ⟨hk.2, ⟨hk.1.2.2.1, ⟨hk.1.2.1, ⟨hk.1.2.2.2.1, ⟨hk.1.2.2.2.2.1, hk.1.2.2.2.2.2⟩⟩⟩⟩⟩⟩)), (by (with_reducible repeat (first | apply Kd.N_alloc | apply Kd.N_drewN | apply Kd.N_drew)); exact Kd.N_mono HO249.out (fun _ hk => ⟨hk.1, ⟨hk.2.2.1, ⟨hk.2.1, ⟨hk.2.2.2.1, ⟨hk.2.2.2.2.1, hk.2.2.2.2.2⟩⟩⟩⟩⟩)), (by (with_reducible repeat (first | apply Kd.N_alloc | apply Kd.N_drewN | apply Kd.N_drew)); exact Kd.N_mono HO252.out (fun _ hk => ⟨hk.1.1, ⟨hk.2, ⟨hk.1.2.1, ⟨hk.1.2.2.1, ⟨hk.1.2.2.2.1, hk.1.2.2.2.2⟩⟩⟩⟩⟩)), (by exact uV <| Kd.V_mono HO_223000.out (fun _ hk => ⟨hk.1.1, ⟨hk.2, ⟨hk.1.2.2.1, ⟨hk.1.2.1, ⟨hk.1.2.2.2.1, ⟨hk.1.2.2.2.2.1, hk.1.2.2.2.2.2⟩⟩⟩⟩⟩⟩)), (by exact uR <| Kd.R_mono HO_7.out (fun _ hk => hk.1)), (by exact uV <| Kd.V_mono HO_8.out (fun _ hk => ⟨hk.1.1, ⟨hk.2, ⟨hk.1.2.2.1, ⟨hk.1.2.1, ⟨hk.1.2.2.2.1, ⟨hk.1.2.2.2.2.1, hk.1.2.2.2.2.2⟩⟩⟩⟩⟩⟩)), (uB BK222.out), (uB BK223.out), (uB BK224.out), (by repeat (first | (with_reducible first | exact HB.out | apply below_alloc | apply pw_below_drewN | apply below_drew1 | refine below_set ?_ GE222.out | refine below_set ?_ GE223.out | refine below_set ?_ GE224.out) | exact HB.out))⟩)
        rintro ⟨v240, v248, v251⟩ w55 ⟨hS_, h0_, h1_, h2_, h3_, h4_, h5_, h6_, h7_, h8_, h9_⟩
        have n0_ : Aside0 (Kd.V k70 70 w55 w.heap.size (fun k_ => (P0_0_ k_ ∨ w.heap.size ≤ k_) ∧ some k_ ≠ (v248 : Value).ownBlock ∧ some k_ ≠ (v251 : Value).ownBlock ∧ some k_ ≠ (.slice none 0 0 : Value).ownBlock ∧ k_ ≠ gb222 ∧ k_ ≠ gb223 ∧ k_ ≠ gb224) (.slice A0_0 y242.length c0_0) y242) := ⟨h0_⟩
        have n1_ : Aside0 (Kd.N k70 70 w55 w.heap.size (fun k_ => (P0_0_ k_ ∨ w.heap.size ≤ k_) ∧ some k_ ≠ (v251 : Value).ownBlock ∧ some k_ ≠ (.slice none 0 0 : Value).ownBlock ∧ k_ ≠ gb222 ∧ k_ ≠ gb223 ∧ k_ ≠ gb224) v248 y247) := ⟨h1_⟩
        have n2_ : Aside0 (Kd.N k70 70 w55 w.heap.size (fun k_ => (P0_0_ k_ ∨ w.heap.size ≤ k_) ∧ some k_ ≠ (v248 : Value).ownBlock ∧ some k_ ≠ (.slice none 0 0 : Value).ownBlock ∧ k_ ≠ gb222 ∧ k_ ≠ gb223 ∧ k_ ≠ gb224) v251 y250) := ⟨h2_⟩
        have n3_ : Aside0 (Kd.V k70 70 w55 w.heap.size (fun k_ => (P0_0_ k_ ∨ w.heap.size ≤ k_) ∧ some k_ ≠ (v248 : Value).ownBlock ∧ some k_ ≠ (v251 : Value).ownBlock ∧ some k_ ≠ (.slice none 0 0 : Value).ownBlock ∧ k_ ≠ gb222 ∧ k_ ≠ gb223 ∧ k_ ≠ gb224) (.slice A0_0 l0_0.length c0_0) l0_0) := ⟨h3_⟩
        have n4_ : Aside0 (Kd.R k96 96 w55 w.heap.size (fun k_ => (w.heap.size ≤ k_)) (.slice none 0 0) ([] : List (S96))) := ⟨h4_⟩
        have n5_ : Aside0 (Kd.V k70 70 w55 w.heap.size (fun k_ => (P0_0_ k_ ∨ w.heap.size ≤ k_) ∧ some k_ ≠ (v248 : Value).ownBlock ∧ some k_ ≠ (v251 : Value).ownBlock ∧ some k_ ≠ (.slice none 0 0 : Value).ownBlock ∧ k_ ≠ gb222 ∧ k_ ≠ gb223 ∧ k_ ≠ gb224) (.slice A28 y228.length c28) y228) := ⟨h5_⟩
        have n6_ : Aside0 (w55.heap[gb222]? = some (.cells #[.slice A0_0 l0_0.length c0_0] 50 (0, 0))) := ⟨h6_⟩
        have n7_ : Aside0 (w55.heap[gb223]? = some (.cells #[.int .i64 a1_0, .int .i64 a1_1, .string a1_2, .int .i64 a1_3] 61 (0, 0))) := ⟨h7_⟩
        have n8_ : Aside0 (w55.heap[gb224]? = some (.cells #[.slice none 0 0] 50 (0, 0))) := ⟨h8_⟩
        have n9_ : Aside0 (Below w.heap.size w w55) := ⟨h9_⟩
        clear HO_7
        clear HO_8
        clear HO_223000
        clear HO238
        clear BK222
        clear BK223
        clear BK224
        clear HB
        clear h0_ h1_ h2_ h3_ h4_ h5_ h6_ h7_ h8_ h9_
        have HO246 := n0_
        have HO249 := n1_
        have HO252 := n2_
        have HO_223000 := n3_
        have HO_7 := n4_
        have HO_8 := n5_
        have BK222 := n6_
        have BK223 := n7_
        have BK224 := n8_
        have HB := n9_
        clear n0_ n1_ n2_ n3_ n4_ n5_ n6_ n7_ n8_ n9_
        have hHeld : w55.cell? ⟨gb222, 0, none⟩ = some (.slice A0_0 l0_0.length c0_0) ∧ w55.cell? ⟨gb223, 0, none⟩ = some (.int .i64 a1_0) ∧ w55.cell? ⟨gb223, 1, none⟩ = some (.int .i64 a1_1) ∧ w55.cell? ⟨gb223, 2, none⟩ = some (.string a1_2) ∧ w55.cell? ⟨gb223, 3, none⟩ = some (.int .i64 a1_3) := hS_
        obtain ⟨Ao57, co57, eo57⟩ := Kd.N_slice HO252.out
        (first | subst eo57 | (injection eo57 with f1_ f2_ f3_; have f4_ := f1_.symm; have f5_ := f3_.symm; clear f1_ f2_ f3_; subst f4_; subst f5_))
        refine norm_ (a' := ?_) ?_ ?_
        rotate_left
        ·
         simp only [putAll, Act.put, List.setIfInBounds_toArray, List.set_cons_zero, List.set_cons_succ]
         rfl
        refine one_ (i := 13) (N := some 91) #[true, true, true, true, true, true, true, true, true, true, true, true, true, true, false] rfl rfl (one_of HT_.out (by kernel_rfl)) (by decide) (fun K hK => ?_)
        refine Kd.N_append_rows_step k70 (w0 := w) w.heap.size (by rfl) (.tmp 83) (.tmp 90) 48 70 (.agg #[(.int .i64 0), (.string ⟨#[]⟩), (.slice none 0 0)]) 48 rfl Try.underlying48 info70 rfl (by decide) (by omega) v248 y247 y250 _ _ _ (fun k_ => (P0_0_ k_ ∨ w.heap.size ≤ k_) ∧ some k_ ≠ (.slice none 0 0 : Value).ownBlock ∧ k_ ≠ gb222 ∧ k_ ≠ gb223 ∧ k_ ≠ gb224) (fun k_ => ((fun k_ => (P0_0_ k_ ∨ w.heap.size ≤ k_) ∧ some k_ ≠ (.slice none 0 0 : Value).ownBlock ∧ k_ ≠ gb222 ∧ k_ ≠ gb223 ∧ k_ ≠ gb224)) k_ ∧ some k_ ≠ (v248 : Value).ownBlock) rfl rfl ?aO ?aR (fun _ hk => hk) ?aF ?aB ?aS ?aL ?_
        (case aR => exact (by skip; exact Kd.N_F (Kd.N_mono (ok' := (fun k_ => ((fun k_ => (P0_0_ k_ ∨ w.heap.size ≤ k_) ∧ some k_ ≠ (.slice none 0 0 : Value).ownBlock ∧ k_ ≠ gb222 ∧ k_ ≠ gb223 ∧ k_ ≠ gb224)) k_ ∧ some k_ ≠ (v248 : Value).ownBlock)) (HO252.out) (fun k_ hk => ⟨⟨hk.1, ⟨hk.2.2.1, ⟨hk.2.2.2.1, ⟨hk.2.2.2.2.1, hk.2.2.2.2.2⟩⟩⟩⟩, hk.2.1⟩))))
        (case aB => exact (by repeat (first | (with_reducible first | exact HB.out | apply below_alloc | apply pw_below_drewN | apply below_drew1 | refine below_set ?_ GE222.out | refine below_set ?_ GE223.out | refine below_set ?_ GE224.out) | exact HB.out)))
        (case aF => exact (fun k_ hk => ⟨(.inr (Nat.le_trans (below_size (by repeat (first | (with_reducible first | exact HB.out | apply below_alloc | apply pw_below_drewN | apply below_drew1 | refine below_set ?_ GE222.out | refine below_set ?_ GE223.out | refine below_set ?_ GE224.out) | exact HB.out))) hk)), Kd.fresh' (Kd.R_lt (uR HO_7.out)) k_ hk, Kd.freshB (g := gb222) (o := .cells #[.slice A0_0 l0_0.length c0_0] 50 (0, 0)) (uB BK222.out) k_ hk, Kd.freshB (g := gb223) (o := .cells #[.int .i64 a1_0, .int .i64 a1_1, .string a1_2, .int .i64 a1_3] 61 (0, 0)) (uB BK223.out) k_ hk, Kd.freshB (g := gb224) (o := .cells #[.slice none 0 0] 50 (0, 0)) (uB BK224.out) k_ hk⟩))
        (case aO => exact (by (with_reducible repeat (first | apply Kd.N_alloc | apply Kd.N_drewN | apply Kd.N_drew)); exact Kd.N_mono HO249.out (fun _ hk => ⟨hk.1, ⟨hk.2.2.1, ⟨hk.2.2.2.1, ⟨hk.2.2.2.2.1, hk.2.2.2.2.2⟩⟩⟩⟩)))
        (case aS => exact (below_size (by repeat (first | (with_reducible first | exact HB.out | apply below_alloc | apply pw_below_drewN | apply below_drew1 | refine below_set ?_ GE222.out | refine below_set ?_ GE223.out | refine below_set ?_ GE224.out) | exact HB.out))))
        (case aL => have := LMc41.out; omega)
        intro v254 w56 ho hb hg hat
        rw [← Ny253.out] at ho
        have n0_ := Aside0.mk (Kd.R_over' (uR HO_7.out) (Kd.N_typed (by (with_reducible repeat (first | apply Kd.N_alloc | apply Kd.N_drewN | apply Kd.N_drew)); exact HO249.out)) (by decide) hg)
        have n1_ := Aside0.mk (Kd.V_afterv (ok := (fun k_ => (P0_0_ k_ ∨ w.heap.size ≤ k_) ∧ some k_ ≠ (.slice none 0 0 : Value).ownBlock ∧ some k_ ≠ (.slice Ao57 y250.length co57 : Value).ownBlock ∧ k_ ≠ gb222 ∧ k_ ≠ gb223 ∧ k_ ≠ gb224)) (by exact uV <| Kd.V_mono HO_8.out (fun _ hk => ⟨⟨hk.1, ⟨hk.2.2.2.1, ⟨hk.2.2.1, ⟨hk.2.2.2.2.1, ⟨hk.2.2.2.2.2.1, hk.2.2.2.2.2.2⟩⟩⟩⟩⟩, hk.2.1⟩)) hg hat)
        have n2_ := Aside0.mk (Kd.V_afterv (ok := (fun k_ => (P0_0_ k_ ∨ w.heap.size ≤ k_) ∧ some k_ ≠ (.slice none 0 0 : Value).ownBlock ∧ some k_ ≠ (.slice Ao57 y250.length co57 : Value).ownBlock ∧ k_ ≠ gb222 ∧ k_ ≠ gb223 ∧ k_ ≠ gb224)) (by exact uV <| Kd.V_mono HO_223000.out (fun _ hk => ⟨⟨hk.1, ⟨hk.2.2.2.1, ⟨hk.2.2.1, ⟨hk.2.2.2.2.1, ⟨hk.2.2.2.2.2.1, hk.2.2.2.2.2.2⟩⟩⟩⟩⟩, hk.2.1⟩)) hg hat)
        have n3_ := Aside0.mk (blk_grown (g := gb222) (o := .cells #[.slice A0_0 l0_0.length c0_0] 50 (0, 0)) (uB BK222.out) hg (Kd.N_ne HO249.out BK222.out (by decide)))
        have n4_ := Aside0.mk (blk_grown (g := gb223) (o := .cells #[.int .i64 a1_0, .int .i64 a1_1, .string a1_2, .int .i64 a1_3] 61 (0, 0)) (uB BK223.out) hg (Kd.N_ne HO249.out BK223.out (by decide)))
        have n5_ := Aside0.mk (blk_grown (g := gb224) (o := .cells #[.slice none 0 0] 50 (0, 0)) (uB BK224.out) hg (Kd.N_ne HO249.out BK224.out (by decide)))
        have n6_ := Aside0.mk (Kd.V_afterv (ok := (fun k_ => (P0_0_ k_ ∨ w.heap.size ≤ k_) ∧ some k_ ≠ (.slice none 0 0 : Value).ownBlock ∧ some k_ ≠ (.slice Ao57 y250.length co57 : Value).ownBlock ∧ k_ ≠ gb222 ∧ k_ ≠ gb223 ∧ k_ ≠ gb224)) (by exact uV <| Kd.V_mono HO246.out (fun _ hk => ⟨⟨hk.1, ⟨hk.2.2.2.1, ⟨hk.2.2.1, ⟨hk.2.2.2.2.1, ⟨hk.2.2.2.2.2.1, hk.2.2.2.2.2.2⟩⟩⟩⟩⟩, hk.2.1⟩)) hg hat)
        have n7_ := Aside0.mk (Kd.N_afterv (ok := (fun k_ => (P0_0_ k_ ∨ w.heap.size ≤ k_) ∧ some k_ ≠ (.slice none 0 0 : Value).ownBlock ∧ k_ ≠ gb222 ∧ k_ ≠ gb223 ∧ k_ ≠ gb224)) (by (with_reducible repeat (first | apply Kd.N_alloc | apply Kd.N_drewN | apply Kd.N_drew)); exact Kd.N_mono HO252.out (fun _ hk => ⟨⟨hk.1, ⟨hk.2.2.1, ⟨hk.2.2.2.1, ⟨hk.2.2.2.2.1, hk.2.2.2.2.2⟩⟩⟩⟩, hk.2.1⟩)) hg hat)
        have n8_ := Aside0.mk (hb)
        have n9_ := Aside0.mk (ho)
        clear HO_7
        clear HO_8
        clear HO_223000
        clear BK222
        clear BK223
        clear BK224
        clear HO246
        clear HO252
        clear HB
        clear HO249
        have HO_7 := n0_
        have HO_8 := n1_
        have HO_223000 := n2_
        have BK222 := n3_
        have BK223 := n4_
        have BK224 := n5_
        have HO246 := n6_
        have HO252 := n7_
        have HB := n8_
        have HO255 := n9_
        clear n0_ n1_ n2_ n3_ n4_ n5_ n6_ n7_ n8_ n9_
        clear ho hb hg hat
        refine hK.out _ _ ⟨(blk_cell BK222.out 0).trans rfl, (blk_cell BK223.out 0).trans rfl, (blk_cell BK223.out 1).trans rfl, (blk_cell BK223.out 2).trans rfl, (blk_cell BK223.out 3).trans rfl⟩ (fun hHeld => ?_)
        clear hK K
        refine norm_ (a' := ?_) ?_ ?_
        rotate_left
        ·
         show Act.put _ (some 91) _ = _
         simp only [Act.put, List.setIfInBounds_toArray, List.set_cons_zero, List.set_cons_succ, i64_w, i32_w]
         rfl
        refine pu 14 (some 10) rfl rfl (ao HT_) (fun _ _ _ h => h) ya aa ?_
        refine done_ (done_of HT_.out (by kernel_rfl)) ?_
        try go_wp2_with (first | ((with_reducible refine gate_builtin (b := .append) (xs := #[.tmp 92, .tmp 93]) rfl ?_); at_builtin; refine Kd.N_append_rows k70 (w0 := w) w.heap.size rfl (.tmp 92) (.tmp 93) 48 70 (.agg #[(.int .i64 0), (.string ⟨#[]⟩), (.slice none 0 0)]) 48 rfl Try.underlying48 info70 rfl (by decide) (by omega) v254 y253 y228 _ _ _ (fun k_ => (P0_0_ k_ ∨ w.heap.size ≤ k_) ∧ some k_ ≠ (.slice none 0 0 : Value).ownBlock ∧ k_ ≠ gb222 ∧ k_ ≠ gb223 ∧ k_ ≠ gb224) (fun k_ => ((fun k_ => (P0_0_ k_ ∨ w.heap.size ≤ k_) ∧ some k_ ≠ (.slice none 0 0 : Value).ownBlock ∧ k_ ≠ gb222 ∧ k_ ≠ gb223 ∧ k_ ≠ gb224)) k_ ∧ some k_ ≠ (v254 : Value).ownBlock) rfl rfl ?aO ?aR (fun _ hk => hk) ?aF ?aB ?aS ?aL ?_; (case aR => exact (by skip; exact Kd.V_F (Kd.V_mono (ok' := (fun k_ => ((fun k_ => (P0_0_ k_ ∨ w.heap.size ≤ k_) ∧ some k_ ≠ (.slice none 0 0 : Value).ownBlock ∧ k_ ≠ gb222 ∧ k_ ≠ gb223 ∧ k_ ≠ gb224)) k_ ∧ some k_ ≠ (v254 : Value).ownBlock)) (HO_8.out) (fun k_ hk => ⟨⟨hk.1.1, ⟨hk.1.2.1, ⟨hk.1.2.2.2.1, ⟨hk.1.2.2.2.2.1, hk.1.2.2.2.2.2⟩⟩⟩⟩, hk.2⟩)))); (case aB => exact (by repeat (first | (with_reducible first | exact HB.out | apply below_alloc | apply pw_below_drewN | apply below_drew1 | refine below_set ?_ GE222.out | refine below_set ?_ GE223.out | refine below_set ?_ GE224.out) | exact HB.out))); (case aF => exact (fun k_ hk => ⟨(.inr (Nat.le_trans (below_size (by repeat (first | (with_reducible first | exact HB.out | apply below_alloc | apply pw_below_drewN | apply below_drew1 | refine below_set ?_ GE222.out | refine below_set ?_ GE223.out | refine below_set ?_ GE224.out) | exact HB.out))) hk)), Kd.fresh' (Kd.R_lt (uR HO_7.out)) k_ hk, Kd.freshB (g := gb222) (o := .cells #[.slice A0_0 l0_0.length c0_0] 50 (0, 0)) (uB BK222.out) k_ hk, Kd.freshB (g := gb223) (o := .cells #[.int .i64 a1_0, .int .i64 a1_1, .string a1_2, .int .i64 a1_3] 61 (0, 0)) (uB BK223.out) k_ hk, Kd.freshB (g := gb224) (o := .cells #[.slice none 0 0] 50 (0, 0)) (uB BK224.out) k_ hk⟩)); (case aO => exact (by (with_reducible repeat (first | apply Kd.N_alloc | apply Kd.N_drewN | apply Kd.N_drew)); exact HO255.out)); (case aS => exact (below_size (by repeat (first | (with_reducible first | exact HB.out | apply below_alloc | apply pw_below_drewN | apply below_drew1 | refine below_set ?_ GE222.out | refine below_set ?_ GE223.out | refine below_set ?_ GE224.out) | exact HB.out)))); (case aL => have := LMc42.out; omega); intro v257 w58 ho hb hg hat; rw [← Ny256.out] at ho; replace HO_7 := Aside0.mk (Kd.R_over' (uR HO_7.out) (Kd.N_typed (by (with_reducible repeat (first | apply Kd.N_alloc | apply Kd.N_drewN | apply Kd.N_drew)); exact HO255.out)) (by decide) hg); replace HO_8 := Aside0.mk (Kd.V_afterv (ok := (fun k_ => (P0_0_ k_ ∨ w.heap.size ≤ k_) ∧ some k_ ≠ (.slice none 0 0 : Value).ownBlock ∧ some k_ ≠ (.slice Ao57 y250.length co57 : Value).ownBlock ∧ k_ ≠ gb222 ∧ k_ ≠ gb223 ∧ k_ ≠ gb224)) (uV HO_8.out) hg hat); replace HO_223000 := Aside0.mk (Kd.V_afterv (ok := (fun k_ => (P0_0_ k_ ∨ w.heap.size ≤ k_) ∧ some k_ ≠ (.slice none 0 0 : Value).ownBlock ∧ some k_ ≠ (.slice Ao57 y250.length co57 : Value).ownBlock ∧ k_ ≠ gb222 ∧ k_ ≠ gb223 ∧ k_ ≠ gb224)) (uV HO_223000.out) hg hat); replace BK222 := Aside0.mk (blk_grown (g := gb222) (o := .cells #[.slice A0_0 l0_0.length c0_0] 50 (0, 0)) (uB BK222.out) hg (Kd.N_ne HO255.out BK222.out (by decide))); replace BK223 := Aside0.mk (blk_grown (g := gb223) (o := .cells #[.int .i64 a1_0, .int .i64 a1_1, .string a1_2, .int .i64 a1_3] 61 (0, 0)) (uB BK223.out) hg (Kd.N_ne HO255.out BK223.out (by decide))); replace BK224 := Aside0.mk (blk_grown (g := gb224) (o := .cells #[.slice none 0 0] 50 (0, 0)) (uB BK224.out) hg (Kd.N_ne HO255.out BK224.out (by decide))); replace HO246 := Aside0.mk (Kd.V_afterv (ok := (fun k_ => (P0_0_ k_ ∨ w.heap.size ≤ k_) ∧ some k_ ≠ (.slice none 0 0 : Value).ownBlock ∧ some k_ ≠ (.slice Ao57 y250.length co57 : Value).ownBlock ∧ k_ ≠ gb222 ∧ k_ ≠ gb223 ∧ k_ ≠ gb224)) (uV HO246.out) hg hat); replace HO252 := Aside0.mk (Kd.N_afterv (ok := (fun k_ => (P0_0_ k_ ∨ w.heap.size ≤ k_) ∧ some k_ ≠ (.slice none 0 0 : Value).ownBlock ∧ k_ ≠ gb222 ∧ k_ ≠ gb223 ∧ k_ ≠ gb224)) (by (with_reducible repeat (first | apply Kd.N_alloc | apply Kd.N_drewN | apply Kd.N_drew)); exact HO252.out) hg hat); replace HB := Aside0.mk (hb); have HO258 := Aside0.mk (ho); clear HO255; clear ho hb hg hat; obtain ⟨Ao59, co59, eo59⟩ := Kd.N_slice HO258.out; subst eo59; have hnb60 := NB224_222.out; have hnc60 := NB222_224.out; have hcz61_0 : w58.cell? ⟨gb224, 0, none⟩ = some (.slice none 0 0) := (blk_cell BK224.out 0).trans rfl; have hfz61_0 := blk_frozen BK224.out 0))
        refine bodyPost_ret (results_ct rfl _ _ gb224 50 #[.slice Ao59 y256.length co59] (0, 0) _ rfl (by (with_reducible repeat (first | refine blk_drewN ?_ _ | refine blk_drew ?_ | refine blk_alloc ?_ _)); refine blk_put (cs := #[.slice none 0 0]) ?_ 0 _ rfl; exact uB <| BK224.out) Try.underlying50 rfl (by kernel_rfl)) rfl ?_
        exact ⟨_, by first | rfl | (simp [errW_none, errW_some] <;> rfl) | (simp [*, errW_none, errW_some] <;> rfl), by (with_reducible repeat (first | apply Kd.N_alloc | apply Kd.N_drewN | apply Kd.N_drew)); exact Kd.N_mono (Kd.N_far (p := ⟨gb224, 0, none⟩) (Kd.N_mono HO258.out (fun k_ hk => (⟨hk, hk.2.2.2.2⟩ : _ ∧ k_ ≠ gb224))) (fun _ hk => hk.2) (.slice Ao59 y256.length co59)) (fun _ hk => hk.1.1), by repeat (first | (with_reducible first | exact HB.out | apply below_alloc | apply pw_below_drewN | apply below_drew1 | refine below_set ?_ GE222.out | refine below_set ?_ GE223.out | refine below_set ?_ GE224.out) | exact HB.out)⟩
       ·
        rw [if_neg c37] at H
        have c37b0 : (t236 == 0) = false := beq_eq_false_iff_ne.mpr c37
        have c37b1 : (t236 != 0) = true := bne_iff_ne.mpr c37
        exact absurd H (by simp)
 ·
  replace c4 := Bool.eq_false_iff.mpr c4
  subst c4
  rw [if_neg (show ¬ (false = true) by decide)] at H
  exact absurd H (by simp)

end Go.Proofs.Ytklhjponikgkkaa.X
