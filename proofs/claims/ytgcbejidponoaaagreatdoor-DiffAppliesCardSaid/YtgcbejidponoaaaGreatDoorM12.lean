/- Printed by a program of this session's own: what functions of the program compute, and that the machine computes it. No condition of its own. -/
import Derived.Test.YtgcbejidponoaaaGreatDoorM3
import Derived.Test.YtgcbejidponoaaaGreatDoorM9
import Derived.Test.YtgcbejidponoaaaGreatDoorM11
import Derived.Test.YtgcbejidponoaaaGreatDoorM10
import Derived.Test.YtgcbejidponoaaaGreatDoorM4
namespace Go.Proofs.YtgcbejidponoaaaGreatDoor.X
open Go.RowKit Go.Proofs.YtgcbejidponoaaaGreatDoorW.PrintWords Go.Proofs.YtgcbejidponoaaaGreatDoorW.PrintLast Go.Proofs.YtgcbejidponoaaaGreatDoorW.PrintMore
attribute [local go_sem] max2_int min2_int max_two min_two max_three min_three max_four min_four
set_option linter.unusedVariables false
set_option linter.unusedSimpArgs false
set_option maxHeartbeats 8000000
set_option maxRecDepth 100000
def r08_Text.l0 : Nat → List (S45) → List ByteArray → Int → Option (ByteArray)
 | 0, _, _, _ => none
 | k + 1, x0, x3, x4 => if x4 < (x0.length : Int) then (if 0 ≤ x4 then ((r01_Number.f k ((rd_T45 x0 x4).f0)).bind fun t602 => (if t602.size + 1 ≤ 9223372036854775807 then (if (t602 ++ (⟨#[124]⟩ : ByteArray)).size + ((rd_T45 x0 x4).f1).size ≤ 9223372036854775807 then (if ((t602 ++ (⟨#[124]⟩ : ByteArray)) ++ ((rd_T45 x0 x4).f1)).size + 1 ≤ 9223372036854775807 then ((r01_Text.f k ((rd_T45 x0 x4).f2.f0) ((rd_T45 x0 x4).f2.f1)).bind fun t605 => (if (((t602 ++ (⟨#[124]⟩ : ByteArray)) ++ ((rd_T45 x0 x4).f1)) ++ (⟨#[124]⟩ : ByteArray)).size + t605.size ≤ 9223372036854775807 then (if x3.length < 8796093022208 then (r08_Text.l0 k x0 (x3 ++ [(((t602 ++ (⟨#[124]⟩ : ByteArray)) ++ ((rd_T45 x0 x4).f1)) ++ (⟨#[124]⟩ : ByteArray)) ++ t605]) (wrap64 (x4 + 1))) else (none)) else (none))) else (none)) else (none)) else (none))) else (none)) else ((r02_Join.f k (⟨#[59]⟩ : ByteArray) x3).bind fun t609 => (some t609))
def r08_Text.f (k : Nat) (l0 : List (S45)) : Option (ByteArray) := if (l0.length : Int) = 0 then (some (⟨#[45]⟩ : ByteArray)) else (r08_Text.l0 k l0 ([] : List ByteArray) 0)
theorem r08_Text.mono_l : ∀ k, (∀ y0 y1 y2, LeC (r08_Text.l0 k y0 y1 y2) (r08_Text.l0 (k + 1) y0 y1 y2))
 | 0 => fun _ _ _ => ⟨fun r h => by simp [r08_Text.l0] at h⟩
 | k + 1 => by have ih0 := r08_Text.mono_l k; exact fun _ _ _ => by unfold r08_Text.l0; exact lm
theorem r08_Text.mono : ∀ a0 k, LeO (r08_Text.f k a0) (r08_Text.f (k + 1) a0) := by
 intro a0 k
 have ih0 := r08_Text.mono_l k
 unfold r08_Text.f
 exact lo
instance r08_Text.mI {a0 k} : LeC (r08_Text.f k a0) (r08_Text.f (k + 1) a0) := ⟨r08_Text.mono _ _⟩
def r08_Text.T7 : Bool × List (List Nat × List Nat) := (true, [([], []), ([], []), ([], []), ([1, 2], [1, 2]), ([3], [3]), ([4], [4]), ([5], [5]), ([6], [6]), ([], []), ([], []), ([8, 9], [8, 9]), ([10], [10]), ([11], [11]), ([7, 12], [7, 12]), ([13], [13]), ([], []), ([], []), ([15, 16], [15, 16]), ([17], [17]), ([18], [18]), ([19, 6], [19]), ([14, 20], [14, 20]), ([21], [21]), ([0, 22, 20], [0, 22]), ([23, 23, 0, 1, 2, 3, 4, 5, 6, 7, 8, 9, 10, 11, 12, 13, 14, 15, 16, 17, 18, 19, 20, 21, 22, 23], [0, 23])])
def r08_Text.B7 : List Nat := [0, 0, 0, 6, 14, 30, 62, 126, 0, 0, 768, 1792, 3840, 8190, 16382, 0, 0, 98304, 229376, 491520, 1015934, 2097150, 4194302, 8388607, 16777215]
theorem r08_Text.tab7 : rtab .any (opsOf Tryz.f33 7) = r08_Text.T7 := by kernel_rfl
theorem r08_Text.bits7 : waitsOk r08_Text.T7.2 r08_Text.B7 = true := by kernel_rfl
theorem r08_Text.calls (k : Nat) (A0 : Option Addr) (c0 : Nat) (l0 : List (S45)) (r : ByteArray) (w : World) (hr0 : Kd.C k45 w A0 l0.length l0) (hc0 : l0.length ≤ c0) (h : r08_Text.f k l0 = some r) :
 Calls Tryz.prog 33 #[.slice A0 l0.length c0] w fun e w' => e = .returned (.string r) ∧ Below w.heap.size w w' := by
 have hu43 := Tryz.underlying43
 have HR0 := Aside0.mk hr0
 have HC0 := Aside0.mk hc0
 clear hr0 hc0
 have HB := Aside0.mk (Below.refl w.heap.size w)
 have H : (if (l0.length : Int) = 0 then (some (⟨#[45]⟩ : ByteArray)) else (r08_Text.l0 k l0 ([] : List ByteArray) 0)) = some r := h
 clear h
 by_cases c2 : (l0.length : Int) = 0
 ·
  rw [if_pos c2] at H
  have c2b0 : ((l0.length : Int) == 0) = true := beq_iff_eq.mpr c2
  have c2b1 : ((l0.length : Int) != 0) = false := bne_eq_false_iff_eq.mpr c2
  clear c2
  obtain rfl := Option.some.inj H
  go_enter Tryz.func33, Tryz.ntmps33
  go_wp2
  go_ret
  exact ⟨re_, uW HB.out⟩
 ·
  rw [if_neg c2] at H
  have c2b0 : ((l0.length : Int) == 0) = false := beq_eq_false_iff_ne.mpr c2
  have c2b1 : ((l0.length : Int) != 0) = true := bne_iff_ne.mpr c2
  have c2b2 : ¬ (l0 = []) := fun h_ => c2 (by rw [h_]; rfl)
  have H' := Aside0.mk H
  clear H
  go_enter Tryz.func33, Tryz.ntmps33
  go_wp2
  go_loopg [3, 4] k (fun kq v3 v4 w' => ∃ (x3_1 : List ByteArray) (x4_1 : Int), v4 = .int .i64 x4_1 ∧ Aside0 (r08_Text.l0 kq l0 x3_1 x4_1 = some r) ∧ Aside0 (kq ≤ k) ∧ Aside0 (Kd.R Kd.string 9 w' w.heap.size (fun _ => True) v3 x3_1) ∧ Aside0 (Below w.heap.size w w'))
  case atStart => exact ⟨(([] : List ByteArray)), (0), rs_, H', ⟨Nat.le_refl _⟩, ⟨nl_⟩, ⟨uW HB.out⟩⟩
  case round =>
   clear H'
   try clear c2
   try clear c2b0
   try clear c2b1
   try clear c2b2
   try clear p2
   obtain ⟨x3_1, x4_1, rfl, HA, HK1, HO_3, HB⟩ := hrel
   cases gk with
   | zero => exact absurd HA.out (by simp [r08_Text.l0])
   | succ k1 =>
    have H := HA.out
    clear HA
    simp only [r08_Text.l0] at H
    by_cases c3 : x4_1 < (l0.length : Int)
    ·
     rw [if_pos c3] at H
     have c3b0 : decide (x4_1 < (l0.length : Int)) = true := decide_eq_true c3
     clear c3
     obtain ⟨c4b0, H⟩ := gdd H
     obtain ⟨t602, A5, H⟩ := bs H
     try dsimp only at H
     obtain ⟨c6, H⟩ := gd H
     have c6b0 := eq_true c6
     have c6b1 : decide (t602.size + 1 ≤ 9223372036854775807) = true := decide_eq_true c6
     try have c6b2 : (9223372036854775807 < t602.size + 1) = False := eq_false (Nat.not_lt.2 c6)
     obtain ⟨c7, H⟩ := gd H
     have c7b0 := eq_true c7
     have c7b1 : decide ((t602 ++ (⟨#[124]⟩ : ByteArray)).size + ((rd_T45 l0 x4_1).f1).size ≤ 9223372036854775807) = true := decide_eq_true c7
     try have c7b2 : (9223372036854775807 < (t602 ++ (⟨#[124]⟩ : ByteArray)).size + ((rd_T45 l0 x4_1).f1).size) = False := eq_false (Nat.not_lt.2 c7)
     try have c7b8 := c7b2
     try simp only [ByteArray.size_append] at c7b8
     try have c7b9 := c7b2
     try simp only [ByteArray.size_append, show (⟨#[124]⟩ : ByteArray).size = 1 from rfl] at c7b9
     obtain ⟨c8, H⟩ := gd H
     have c8b0 := eq_true c8
     have c8b1 : decide (((t602 ++ (⟨#[124]⟩ : ByteArray)) ++ ((rd_T45 l0 x4_1).f1)).size + 1 ≤ 9223372036854775807) = true := decide_eq_true c8
     try have c8b2 : (9223372036854775807 < ((t602 ++ (⟨#[124]⟩ : ByteArray)) ++ ((rd_T45 l0 x4_1).f1)).size + 1) = False := eq_false (Nat.not_lt.2 c8)
     try have c8b8 := c8b2
     try simp only [ByteArray.size_append] at c8b8
     try have c8b9 := c8b2
     try simp only [ByteArray.size_append, show (⟨#[124]⟩ : ByteArray).size = 1 from rfl] at c8b9
     obtain ⟨t605, A9, H⟩ := bs H
     try dsimp only at H
     obtain ⟨c10, H⟩ := gd H
     have c10b0 := eq_true c10
     have c10b1 : decide ((((t602 ++ (⟨#[124]⟩ : ByteArray)) ++ ((rd_T45 l0 x4_1).f1)) ++ (⟨#[124]⟩ : ByteArray)).size + t605.size ≤ 9223372036854775807) = true := decide_eq_true c10
     try have c10b2 : (9223372036854775807 < (((t602 ++ (⟨#[124]⟩ : ByteArray)) ++ ((rd_T45 l0 x4_1).f1)) ++ (⟨#[124]⟩ : ByteArray)).size + t605.size) = False := eq_false (Nat.not_lt.2 c10)
     try have c10b8 := c10b2
     try simp only [ByteArray.size_append] at c10b8
     try have c10b9 := c10b2
     try simp only [ByteArray.size_append, show (⟨#[124]⟩ : ByteArray).size = 1 from rfl] at c10b9
     obtain ⟨c11, H⟩ := gd H
     have LMc11 := Aside0.mk c11
     clear c11
     obtain ⟨y606, hy606⟩ : ∃ y_ : List ByteArray, y_ = (x3_1 ++ [(((t602 ++ (⟨#[124]⟩ : ByteArray)) ++ ((rd_T45 l0 x4_1).f1)) ++ (⟨#[124]⟩ : ByteArray)) ++ t605]) := ⟨_, rfl⟩
     replace H : (r08_Text.l0 k1 l0 y606 (wrap64 (x4_1 + 1))) = some r := by first | (rw [hy606]; with_reducible exact H) | (have H2_ := (Option.bind_some _ _).symm.trans H; rw [hy606]; with_reducible exact H2_) | (have H2_ := (Option.bind_some _ _).symm.trans H; with_reducible exact H2_) | with_reducible exact H | (rw [hy606]; exact H) | exact H
     have Ny606 := Aside0.mk hy606
     clear hy606
     have H' := Aside0.mk H
     clear H
     try go_wp2
     replace HO_3 := Aside0.mk (Kd.R_drew HO_3.out)
     replace HB := Aside0.mk (below_drew1 HB.out)
     have p601 : 0 ≤ (x4_1 : Int) := od
     have q601 : x4_1 < (l0.length : Int) := od
     obtain ⟨ad601, e601, hx601_0, hx601_1, hx601_2, hx601_3⟩ := at_T45 HR0.out x4_1 p601 q601
     have hw601_3 := hx601_3
     have hw601_2 := hx601_2
     have hw601_1 := hx601_1
     have hw601_0 := hx601_0
     cases e601
     replace hx601_0 := kc HB hx601_0
     replace hx601_1 := kc HB hx601_1
     replace hx601_2 := kc HB hx601_2
     replace hx601_3 := kc HB hx601_3
     replace p601 := eq_true p601
     replace q601 := eq_true q601
     have p603 : 0 ≤ (x4_1 : Int) := od
     have q603 : x4_1 < (l0.length : Int) := od
     obtain ⟨ad603, e603, hx603_0, hx603_1, hx603_2, hx603_3⟩ := at_T45 HR0.out x4_1 p603 q603
     have hw603_3 := hx603_3
     have hw603_2 := hx603_2
     have hw603_1 := hx603_1
     have hw603_0 := hx603_0
     obtain rfl : ad601 = ad603 := (by injection e603)
     replace hx603_0 := kc HB hx603_0
     replace hx603_1 := kc HB hx603_1
     replace hx603_2 := kc HB hx603_2
     replace hx603_3 := kc HB hx603_3
     replace p603 := eq_true p603
     replace q603 := eq_true q603
     have p604 : 0 ≤ (x4_1 : Int) := od
     have q604 : x4_1 < (l0.length : Int) := od
     obtain ⟨ad604, e604, hx604_0, hx604_1, hx604_2, hx604_3⟩ := at_T45 HR0.out x4_1 p604 q604
     have hw604_3 := hx604_3
     have hw604_2 := hx604_2
     have hw604_1 := hx604_1
     have hw604_0 := hx604_0
     obtain rfl : ad601 = ad604 := (by injection e604)
     replace hx604_0 := kc HB hx604_0
     replace hx604_1 := kc HB hx604_1
     replace hx604_2 := kc HB hx604_2
     replace hx604_3 := kc HB hx604_3
     replace p604 := eq_true p604
     replace q604 := eq_true q604
     refine start_ (n := 25) (S := fun w' => w'.cell? (ad601.add ((x4_1).toNat * 4)) = some (.int .i64 ((rd_T45 l0 x4_1).f0)) ∧ w'.cell? ⟨(ad601.add ((x4_1).toNat * 4)).block, (ad601.add ((x4_1).toNat * 4)).off + 1, none⟩ = some (.string ((rd_T45 l0 x4_1).f1)) ∧ w'.cell? ⟨(ad601.add ((x4_1).toNat * 4)).block, (ad601.add ((x4_1).toNat * 4)).off + 2, none⟩ = some (.int .i64 ((rd_T45 l0 x4_1).f2.f0)) ∧ w'.cell? ⟨(ad601.add ((x4_1).toNat * 4)).block, (ad601.add ((x4_1).toNat * 4)).off + 3, none⟩ = some (.bool ((rd_T45 l0 x4_1).f2.f1)) ∧ w'.cell? (ad601.add ((x4_1).toNat * 4)) = some (.int .i64 ((rd_T45 l0 x4_1).f0)) ∧ w'.cell? ⟨(ad601.add ((x4_1).toNat * 4)).block, (ad601.add ((x4_1).toNat * 4)).off + 1, none⟩ = some (.string ((rd_T45 l0 x4_1).f1)) ∧ w'.cell? ⟨(ad601.add ((x4_1).toNat * 4)).block, (ad601.add ((x4_1).toNat * 4)).off + 2, none⟩ = some (.int .i64 ((rd_T45 l0 x4_1).f2.f0)) ∧ w'.cell? ⟨(ad601.add ((x4_1).toNat * 4)).block, (ad601.add ((x4_1).toNat * 4)).off + 3, none⟩ = some (.bool ((rd_T45 l0 x4_1).f2.f1)) ∧ w'.cell? (ad601.add ((x4_1).toNat * 4)) = some (.int .i64 ((rd_T45 l0 x4_1).f0)) ∧ w'.cell? ⟨(ad601.add ((x4_1).toNat * 4)).block, (ad601.add ((x4_1).toNat * 4)).off + 1, none⟩ = some (.string ((rd_T45 l0 x4_1).f1)) ∧ w'.cell? ⟨(ad601.add ((x4_1).toNat * 4)).block, (ad601.add ((x4_1).toNat * 4)).off + 2, none⟩ = some (.int .i64 ((rd_T45 l0 x4_1).f2.f0)) ∧ w'.cell? ⟨(ad601.add ((x4_1).toNat * 4)).block, (ad601.add ((x4_1).toNat * 4)).off + 3, none⟩ = some (.bool ((rd_T45 l0 x4_1).f2.f1))) (ds := []) _ (by kernel_rfl) rfl rfl ⟨(kc HB hw601_0), (kc HB hw601_1), (kc HB hw601_2), (kc HB hw601_3), (kc HB hw603_0), (kc HB hw603_1), (kc HB hw603_2), (kc HB hw603_3), (kc HB hw604_0), (kc HB hw604_1), (kc HB hw604_2), (kc HB hw604_3)⟩ (fun hHeld => ?_); refine with_tabW r08_Text.tab7 r08_Text.bits7 (fun HT_ HW_ => ?_)
     generalize wr.drew = w12 at HO_3 HB hx601_0 hx601_1 hx601_2 hx601_3 hx603_0 hx603_1 hx603_2 hx603_3 hx604_0 hx604_1 hx604_2 hx604_3 hHeld ⊢
     refine p1 0 (some 14) ?_
     refine p1 1 (some 15) ?_
     refine p1 2 (some 16) ?_
     refine p1 3 (some 17) ?_
     refine p1 4 (some 18) ?_
     refine p1 8 (some 22) ?_
     refine p1 9 (some 23) ?_
     refine p1 10 (some 24) ?_
     refine p1 11 (some 25) ?_
     refine p1 15 (some 29) ?_
     refine p1 16 (some 30) ?_
     refine p1 17 (some 31) ?_
     refine p1 18 (some 32) ?_
     refine t1 5 (some 19) rfl rfl hHeld (Or.inl ⟨by rfl, by rintro w' ⟨s0, s1, s2, s3, s4, s5, s6, s7, s8, s9, s10, s11⟩; go_simp; with_reducible rfl⟩) ?_
     refine t1 12 (some 26) rfl rfl hHeld (Or.inl ⟨by rfl, by rintro w' ⟨s0, s1, s2, s3, s4, s5, s6, s7, s8, s9, s10, s11⟩; go_simp; with_reducible rfl⟩) ?_
     refine t1 19 (some 33) rfl rfl hHeld (Or.inl ⟨by rfl, by rintro w' ⟨s0, s1, s2, s3, s4, s5, s6, s7, s8, s9, s10, s11⟩; go_simp; with_reducible rfl⟩) ?_
     refine o1 6 (some 20) rfl rfl (fun K hK => ?_)
     refine gS Tryz.func34 #[.int .i64 ((rd_T45 l0 x4_1).f0)] ?_
     with_reducible refine (r01_Number.calls k1 ((rd_T45 l0 x4_1).f0) t602 _ A5.out).mono ?_
     rintro e w13 ⟨rfl, hb⟩
     refine ⟨_, rfl, ?_⟩
     replace HO_3 := cR HO_3 hb
     replace HB := cW HB hb
     (try clear hb)
     refine hK.out _ _ ⟨(kc HB hw601_0), (kc HB hw601_1), (kc HB hw601_2), (kc HB hw601_3), (kc HB hw603_0), (kc HB hw603_1), (kc HB hw603_2), (kc HB hw603_3), (kc HB hw604_0), (kc HB hw604_1), (kc HB hw604_2), (kc HB hw604_3)⟩ (fun hHeld => ?_)
     clear hK K
     refine norm_ (a' := ?_) ?_ ?_
     rotate_left
     ·
      show Act.put _ (some 20) _ = _
      simp only [Act.put, List.setIfInBounds_toArray, List.set_cons_zero, List.set_cons_succ, i64_w, i32_w]
      rfl
     refine p1 7 (some 21) ?_
     refine p1 13 (some 27) ?_
     refine p1 14 (some 28) ?_
     refine o1 20 (some 34) rfl rfl (fun K hK => ?_)
     refine gS Tryz.func55 #[.agg #[.int .i64 ((rd_T45 l0 x4_1).f2.f0), .bool ((rd_T45 l0 x4_1).f2.f1)]] ?_
     with_reducible refine (r01_Text.calls k1 ((rd_T45 l0 x4_1).f2.f0) ((rd_T45 l0 x4_1).f2.f1) t605 _ A9.out).mono ?_
     rintro e w14 ⟨rfl, hb⟩
     refine ⟨_, rfl, ?_⟩
     replace HO_3 := cR HO_3 hb
     replace HB := cW HB hb
     (try clear hb)
     refine hK.out _ _ ⟨(kc HB hw601_0), (kc HB hw601_1), (kc HB hw601_2), (kc HB hw601_3), (kc HB hw603_0), (kc HB hw603_1), (kc HB hw603_2), (kc HB hw603_3), (kc HB hw604_0), (kc HB hw604_1), (kc HB hw604_2), (kc HB hw604_3)⟩ (fun hHeld => ?_)
     clear hK K
     refine norm_ (a' := ?_) ?_ ?_
     rotate_left
     ·
      show Act.put _ (some 34) _ = _
      simp only [Act.put, List.setIfInBounds_toArray, List.set_cons_zero, List.set_cons_succ, i64_w, i32_w]
      rfl
     refine p1 21 (some 35) ?_
     refine o1 22 (some 36) rfl rfl (fun K hK => ?_)
     refine value_ (w1 := ?_) (v := ?_) (by rfl) rfl ?_ ?_
     rotate_left 2
     ·
      go_simp
      constructor
      ·
       rfl
      ·
       rfl
     refine hK.out _ _ ⟨(World.cell?_alloc_lt _ _ _ (World.block_lt_of_cell? _ _ ((kc HB hw601_0)))).trans ((kc HB hw601_0)), (World.cell?_alloc_lt _ _ _ (World.block_lt_of_cell? _ _ ((kc HB hw601_1)))).trans ((kc HB hw601_1)), (World.cell?_alloc_lt _ _ _ (World.block_lt_of_cell? _ _ ((kc HB hw601_2)))).trans ((kc HB hw601_2)), (World.cell?_alloc_lt _ _ _ (World.block_lt_of_cell? _ _ ((kc HB hw601_3)))).trans ((kc HB hw601_3)), (World.cell?_alloc_lt _ _ _ (World.block_lt_of_cell? _ _ ((kc HB hw603_0)))).trans ((kc HB hw603_0)), (World.cell?_alloc_lt _ _ _ (World.block_lt_of_cell? _ _ ((kc HB hw603_1)))).trans ((kc HB hw603_1)), (World.cell?_alloc_lt _ _ _ (World.block_lt_of_cell? _ _ ((kc HB hw603_2)))).trans ((kc HB hw603_2)), (World.cell?_alloc_lt _ _ _ (World.block_lt_of_cell? _ _ ((kc HB hw603_3)))).trans ((kc HB hw603_3)), (World.cell?_alloc_lt _ _ _ (World.block_lt_of_cell? _ _ ((kc HB hw604_0)))).trans ((kc HB hw604_0)), (World.cell?_alloc_lt _ _ _ (World.block_lt_of_cell? _ _ ((kc HB hw604_1)))).trans ((kc HB hw604_1)), (World.cell?_alloc_lt _ _ _ (World.block_lt_of_cell? _ _ ((kc HB hw604_2)))).trans ((kc HB hw604_2)), (World.cell?_alloc_lt _ _ _ (World.block_lt_of_cell? _ _ ((kc HB hw604_3)))).trans ((kc HB hw604_3))⟩ (fun hHeld => ?_)
     clear hK K
     refine norm_ (a' := ?_) ?_ ?_
     rotate_left
     ·
      show Act.put _ (some 36) _ = _
      simp only [Act.put, List.setIfInBounds_toArray, List.set_cons_zero, List.set_cons_succ, i64_w, i32_w]
      rfl
     refine o1 23 (some 37) rfl rfl (fun K hK => ?_)
     refine Kd.R_append_step Kd.string (w0 := w) w.heap.size (by rfl) (.tmp 14) (.tmp 36) 52 9 (.string ⟨#[]⟩) 16 rfl Tryz.underlying52 info9 rfl (by decide) (by omega) u3 x3_1 ((((t602 ++ (⟨#[124]⟩ : ByteArray)) ++ ((rd_T45 l0 x4_1).f1)) ++ (⟨#[124]⟩ : ByteArray)) ++ t605) [.string ((((t602 ++ (⟨#[124]⟩ : ByteArray)) ++ ((rd_T45 l0 x4_1).f1)) ++ (⟨#[124]⟩ : ByteArray)) ++ t605)] (fun _ => True) (fun _ => False) rfl rfl ?aP (fun _ hk => hk.elim) ?aF ?aO ?aB ?aS ?aL ?_
     (case aP => exact rfl)
     (case aB => exact (uW HB.out))
     (case aF => exact (fun _ _ => trivial))
     (case aO => exact (uR HO_3.out))
     (case aS => exact (below_size (uW HB.out)))
     (case aL => have := LMc11.out; omega)
     intro v607 w15 ho hb hg hat
     rw [← Ny606.out] at ho
     replace HB := Aside0.mk (hb)
     have HO608 := Aside0.mk (ho)
     clear HO_3
     clear ho hb hg hat
     refine hK.out _ _ ⟨(kc HB hw601_0), (kc HB hw601_1), (kc HB hw601_2), (kc HB hw601_3), (kc HB hw603_0), (kc HB hw603_1), (kc HB hw603_2), (kc HB hw603_3), (kc HB hw604_0), (kc HB hw604_1), (kc HB hw604_2), (kc HB hw604_3)⟩ (fun hHeld => ?_)
     clear hK K
     refine norm_ (a' := ?_) ?_ ?_
     rotate_left
     ·
      show Act.put _ (some 37) _ = _
      simp only [Act.put, List.setIfInBounds_toArray, List.set_cons_zero, List.set_cons_succ, i64_w, i32_w]
      rfl
     refine p1 24 (some 3) ?_
     refine done_ (done_of HT_.out (by kernel_rfl)) ?_
     try go_wp2
     go_roundg k1
     case measure => have := HK1.out; omega
     case rel => exact ⟨(y606), (wrap64 (x4_1 + 1)), rs_, H', ⟨by have := HK1.out; omega⟩, ⟨uR HO608.out⟩, ⟨uW HB.out⟩⟩
    ·
     rw [if_neg c3] at H
     have c3b0 : decide (x4_1 < (l0.length : Int)) = false := decide_eq_false c3
     clear c3
     obtain ⟨t609, A16, H⟩ := bs H
     try dsimp only at H
     obtain rfl := Option.some.inj H
     obtain ⟨Ao17, co17, eo17⟩ := Kd.R_slice HO_3.out
     subst eo17
     go_wp2_with (first | (refine gL (some 39) rfl Tryz.func35 #[.string (⟨#[59]⟩ : ByteArray), .slice Ao17 x3_1.length co17] ?_; (with_reducible refine (r02_Join.calls k1 (⟨#[59]⟩ : ByteArray) _ _ x3_1 t609 _ ?side1 ?side2 A16.out).mono ?_); (case side1 => exact uC <| (Kd.R_reads' HO_3.out).2.2); (case side2 => exact (Kd.R_reads' HO_3.out).2.1); rintro e w' ⟨rfl, ⟨nd, rfl⟩⟩; refine ⟨_, rfl, ?_⟩))
     go_ret
     exact ⟨re_, uW HB.out⟩
def r09_Text.l0 : Nat → List (S48) → List ByteArray → Int → Option (ByteArray)
 | 0, _, _, _ => none
 | k + 1, x0, x3, x4 => if x4 < (x0.length : Int) then (if 0 ≤ x4 then ((r08_Text.f k (([(⟨(rd_T48 x0 x4).f0.f0, (rd_T48 x0 x4).f0.f1, (⟨(rd_T48 x0 x4).f0.f2.f0, (rd_T48 x0 x4).f0.f2.f1⟩ : S43)⟩ : S45)] : List (S45)))).bind fun t615 => (if (rd_T48 x0 x4).f1 = true then ((r01_Number.f k ((rd_T48 x0 x4).f0.f0)).bind fun t618 => (if 1 + t618.size ≤ 9223372036854775807 then (if ((⟨#[33]⟩ : ByteArray) ++ t618).size + 1 ≤ 9223372036854775807 then (if (((⟨#[33]⟩ : ByteArray) ++ t618) ++ (⟨#[124]⟩ : ByteArray)).size + ((rd_T48 x0 x4).f0.f1).size ≤ 9223372036854775807 then (if x3.length < 8796093022208 then (r09_Text.l0 k x0 (x3 ++ [(((⟨#[33]⟩ : ByteArray) ++ t618) ++ (⟨#[124]⟩ : ByteArray)) ++ ((rd_T48 x0 x4).f0.f1)]) (wrap64 (x4 + 1))) else (none)) else (none)) else (none)) else (none))) else (if x3.length < 8796093022208 then (r09_Text.l0 k x0 (x3 ++ [t615]) (wrap64 (x4 + 1))) else (none)))) else (none)) else ((r02_Join.f k (⟨#[59]⟩ : ByteArray) x3).bind fun t610 => (some t610))
def r09_Text.f (k : Nat) (l0 : List (S48)) : Option (ByteArray) := if (l0.length : Int) = 0 then (some (⟨#[45]⟩ : ByteArray)) else (r09_Text.l0 k l0 ([] : List ByteArray) 0)
theorem r09_Text.mono_l : ∀ k, (∀ y0 y1 y2, LeC (r09_Text.l0 k y0 y1 y2) (r09_Text.l0 (k + 1) y0 y1 y2))
 | 0 => fun _ _ _ => ⟨fun r h => by simp [r09_Text.l0] at h⟩
 | k + 1 => by have ih0 := r09_Text.mono_l k; exact fun _ _ _ => by unfold r09_Text.l0; exact lm
theorem r09_Text.mono : ∀ a0 k, LeO (r09_Text.f k a0) (r09_Text.f (k + 1) a0) := by
 intro a0 k
 have ih0 := r09_Text.mono_l k
 unfold r09_Text.f
 exact lo
instance r09_Text.mI {a0 k} : LeC (r09_Text.f k a0) (r09_Text.f (k + 1) a0) := ⟨r09_Text.mono _ _⟩
def r09_Text.T9 : Bool × List (List Nat × List Nat) := (true, [([], []), ([], []), ([0, 1], [0, 1]), ([2], [2]), ([3], [3]), ([4], [4]), ([5], [5]), ([6], [6]), ([7], [7]), ([], []), ([], []), ([9, 10], [9, 10]), ([11], [11]), ([12], [12]), ([13], [13]), ([8, 14], [8, 14]), ([15, 6, 0, 1, 2, 3, 4, 5, 6, 7, 8, 9, 10, 11, 12, 13, 14, 15], [15])])
def r09_Text.B9 : List Nat := [0, 0, 3, 7, 15, 31, 63, 127, 255, 0, 0, 1536, 3584, 7680, 15872, 32767, 65535]
theorem r09_Text.tab9 : rtab .any (opsOf Tryz.f15 9) = r09_Text.T9 := by kernel_rfl
theorem r09_Text.bits9 : waitsOk r09_Text.T9.2 r09_Text.B9 = true := by kernel_rfl
theorem r09_Text.calls (k : Nat) (A0 : Option Addr) (c0 : Nat) (l0 : List (S48)) (r : ByteArray) (w : World) (hr0 : Kd.C k48 w A0 l0.length l0) (hc0 : l0.length ≤ c0) (h : r09_Text.f k l0 = some r) :
 Calls Tryz.prog 15 #[.slice A0 l0.length c0] w fun e w' => e = .returned (.string r) ∧ Below w.heap.size w w' := by
 have hu45 := Tryz.underlying45
 have HR0 := Aside0.mk hr0
 have HC0 := Aside0.mk hc0
 clear hr0 hc0
 have HB := Aside0.mk (Below.refl w.heap.size w)
 have H : (if (l0.length : Int) = 0 then (some (⟨#[45]⟩ : ByteArray)) else (r09_Text.l0 k l0 ([] : List ByteArray) 0)) = some r := h
 clear h
 by_cases c2 : (l0.length : Int) = 0
 ·
  rw [if_pos c2] at H
  have c2b0 : ((l0.length : Int) == 0) = true := beq_iff_eq.mpr c2
  have c2b1 : ((l0.length : Int) != 0) = false := bne_eq_false_iff_eq.mpr c2
  clear c2
  obtain rfl := Option.some.inj H
  go_enter Tryz.func15, Tryz.ntmps15
  go_wp2
  go_ret
  exact ⟨re_, uW HB.out⟩
 ·
  rw [if_neg c2] at H
  have c2b0 : ((l0.length : Int) == 0) = false := beq_eq_false_iff_ne.mpr c2
  have c2b1 : ((l0.length : Int) != 0) = true := bne_iff_ne.mpr c2
  have c2b2 : ¬ (l0 = []) := fun h_ => c2 (by rw [h_]; rfl)
  have H' := Aside0.mk H
  clear H
  go_enter Tryz.func15, Tryz.ntmps15
  go_wp2
  go_loopg [3, 4] k (fun kq v3 v4 w' => ∃ (x3_1 : List ByteArray) (x4_1 : Int), v4 = .int .i64 x4_1 ∧ Aside0 (r09_Text.l0 kq l0 x3_1 x4_1 = some r) ∧ Aside0 (kq ≤ k) ∧ Aside0 (Kd.R Kd.string 9 w' w.heap.size (fun _ => True) v3 x3_1) ∧ Aside0 (Below w.heap.size w w'))
  case atStart => exact ⟨(([] : List ByteArray)), (0), rs_, H', ⟨Nat.le_refl _⟩, ⟨nl_⟩, ⟨uW HB.out⟩⟩
  case round =>
   clear H'
   try clear c1
   try clear c2
   try clear c2b0
   try clear c2b1
   try clear c2b2
   try clear p2
   obtain ⟨x3_1, x4_1, rfl, HA, HK1, HO_3, HB⟩ := hrel
   cases gk with
   | zero => exact absurd HA.out (by simp [r09_Text.l0])
   | succ k1 =>
    have H := HA.out
    clear HA
    simp only [r09_Text.l0] at H
    by_cases c3 : x4_1 < (l0.length : Int)
    ·
     rw [if_pos c3] at H
     have c3b0 : decide (x4_1 < (l0.length : Int)) = true := decide_eq_true c3
     clear c3
     obtain ⟨c4b0, H⟩ := gdd H
     obtain ⟨y612, hy612⟩ : ∃ y_ : List (S45), y_ = (([(⟨(rd_T48 l0 x4_1).f0.f0, (rd_T48 l0 x4_1).f0.f1, (⟨(rd_T48 l0 x4_1).f0.f2.f0, (rd_T48 l0 x4_1).f0.f2.f1⟩ : S43)⟩ : S45)] : List (S45))) := ⟨_, rfl⟩
     replace H : ((r08_Text.f k1 y612).bind fun t615 => (if (rd_T48 l0 x4_1).f1 = true then ((r01_Number.f k1 ((rd_T48 l0 x4_1).f0.f0)).bind fun t618 => (if 1 + t618.size ≤ 9223372036854775807 then (if ((⟨#[33]⟩ : ByteArray) ++ t618).size + 1 ≤ 9223372036854775807 then (if (((⟨#[33]⟩ : ByteArray) ++ t618) ++ (⟨#[124]⟩ : ByteArray)).size + ((rd_T48 l0 x4_1).f0.f1).size ≤ 9223372036854775807 then (if x3_1.length < 8796093022208 then (r09_Text.l0 k1 l0 (x3_1 ++ [(((⟨#[33]⟩ : ByteArray) ++ t618) ++ (⟨#[124]⟩ : ByteArray)) ++ ((rd_T48 l0 x4_1).f0.f1)]) (wrap64 (x4_1 + 1))) else (none)) else (none)) else (none)) else (none))) else (if x3_1.length < 8796093022208 then (r09_Text.l0 k1 l0 (x3_1 ++ [t615]) (wrap64 (x4_1 + 1))) else (none)))) = some r := by first | (rw [hy612]; with_reducible exact H) | (have H2_ := (Option.bind_some _ _).symm.trans H; rw [hy612]; with_reducible exact H2_) | (have H2_ := (Option.bind_some _ _).symm.trans H; with_reducible exact H2_) | with_reducible exact H | (rw [hy612]; exact H) | exact H
     have Ny612 := Aside0.mk hy612
     clear hy612
     obtain ⟨t615, A5, H⟩ := bs H
     try dsimp only at H
     obtain ⟨bq6, hbq6⟩ : ∃ b_ : Bool, b_ = ((rd_T48 l0 x4_1).f1) := ⟨_, rfl⟩
     replace H : (if bq6 = true then ((r01_Number.f k1 ((rd_T48 l0 x4_1).f0.f0)).bind fun t618 => (if 1 + t618.size ≤ 9223372036854775807 then (if ((⟨#[33]⟩ : ByteArray) ++ t618).size + 1 ≤ 9223372036854775807 then (if (((⟨#[33]⟩ : ByteArray) ++ t618) ++ (⟨#[124]⟩ : ByteArray)).size + ((rd_T48 l0 x4_1).f0.f1).size ≤ 9223372036854775807 then (if x3_1.length < 8796093022208 then (r09_Text.l0 k1 l0 (x3_1 ++ [(((⟨#[33]⟩ : ByteArray) ++ t618) ++ (⟨#[124]⟩ : ByteArray)) ++ ((rd_T48 l0 x4_1).f0.f1)]) (wrap64 (x4_1 + 1))) else (none)) else (none)) else (none)) else (none))) else (if x3_1.length < 8796093022208 then (r09_Text.l0 k1 l0 (x3_1 ++ [t615]) (wrap64 (x4_1 + 1))) else (none))) = some r := by rw [← hbq6] at H; exact H
     have Nbq6 := Aside0.mk hbq6
     clear hbq6
     by_cases c7 : bq6 = true
     ·
      subst c7
      rw [if_pos rfl] at H
      obtain ⟨t618, A8, H⟩ := bs H
      try dsimp only at H
      obtain ⟨c9, H⟩ := gd H
      have c9b0 := eq_true c9
      have c9b1 : decide (1 + t618.size ≤ 9223372036854775807) = true := decide_eq_true c9
      try have c9b2 : (9223372036854775807 < 1 + t618.size) = False := eq_false (Nat.not_lt.2 c9)
      obtain ⟨c10, H⟩ := gd H
      have c10b0 := eq_true c10
      have c10b1 : decide (((⟨#[33]⟩ : ByteArray) ++ t618).size + 1 ≤ 9223372036854775807) = true := decide_eq_true c10
      try have c10b2 : (9223372036854775807 < ((⟨#[33]⟩ : ByteArray) ++ t618).size + 1) = False := eq_false (Nat.not_lt.2 c10)
      try have c10b8 := c10b2
      try simp only [ByteArray.size_append] at c10b8
      try have c10b9 := c10b2
      try simp only [ByteArray.size_append, show (⟨#[33]⟩ : ByteArray).size = 1 from rfl] at c10b9
      obtain ⟨c11, H⟩ := gd H
      have c11b0 := eq_true c11
      have c11b1 : decide ((((⟨#[33]⟩ : ByteArray) ++ t618) ++ (⟨#[124]⟩ : ByteArray)).size + ((rd_T48 l0 x4_1).f0.f1).size ≤ 9223372036854775807) = true := decide_eq_true c11
      try have c11b2 : (9223372036854775807 < (((⟨#[33]⟩ : ByteArray) ++ t618) ++ (⟨#[124]⟩ : ByteArray)).size + ((rd_T48 l0 x4_1).f0.f1).size) = False := eq_false (Nat.not_lt.2 c11)
      try have c11b8 := c11b2
      try simp only [ByteArray.size_append] at c11b8
      try have c11b9 := c11b2
      try simp only [ByteArray.size_append, show (⟨#[124]⟩ : ByteArray).size = 1 from rfl, show (⟨#[33]⟩ : ByteArray).size = 1 from rfl] at c11b9
      obtain ⟨c12, H⟩ := gd H
      have LMc12 := Aside0.mk c12
      clear c12
      obtain ⟨y620, hy620⟩ : ∃ y_ : List ByteArray, y_ = (x3_1 ++ [(((⟨#[33]⟩ : ByteArray) ++ t618) ++ (⟨#[124]⟩ : ByteArray)) ++ ((rd_T48 l0 x4_1).f0.f1)]) := ⟨_, rfl⟩
      replace H : (r09_Text.l0 k1 l0 y620 (wrap64 (x4_1 + 1))) = some r := by first | (rw [hy620]; with_reducible exact H) | (have H2_ := (Option.bind_some _ _).symm.trans H; rw [hy620]; with_reducible exact H2_) | (have H2_ := (Option.bind_some _ _).symm.trans H; with_reducible exact H2_) | with_reducible exact H | (rw [hy620]; exact H) | exact H
      have Ny620 := Aside0.mk hy620
      clear hy620
      have H' := Aside0.mk H
      clear H
      have p611 : 0 ≤ (x4_1 : Int) := od
      have q611 : x4_1 < (l0.length : Int) := od
      obtain ⟨ad611, e611, hx611_0, hx611_1, hx611_2, hx611_3, hx611_4⟩ := at_T48 HR0.out x4_1 p611 q611
      (try rw [← Nbq6.out] at hx611_3)
      (try rw [← Nbq6.out] at hx611_4)
      cases e611
      replace hx611_0 := kc HB hx611_0
      replace hx611_1 := kc HB hx611_1
      replace hx611_2 := kc HB hx611_2
      replace hx611_3 := kc HB hx611_3
      replace hx611_4 := kc HB hx611_4
      replace p611 := eq_true p611
      replace q611 := eq_true q611
      try go_wp2_with (first | ((with_reducible refine gate_dst (N := 20) rfl ?_); refine Kd.R_lit k45 _ 45 ?hg (N := 20) ?hd (xs := ([(⟨(rd_T48 l0 x4_1).f0.f0, (rd_T48 l0 x4_1).f0.f1, (⟨(rd_T48 l0 x4_1).f0.f2.f0, (rd_T48 l0 x4_1).f0.f2.f1⟩ : S43)⟩ : S45)] : List (S45))) (inner := [.int .i64 ((rd_T48 l0 x4_1).f0.f0), .string ((rd_T48 l0 x4_1).f0.f1), .int .i64 ((rd_T48 l0 x4_1).f0.f2.f0), .bool ((rd_T48 l0 x4_1).f0.f2.f1)]) (ok := fun _ => True) (okp := fun _ => True) ?hr ?hp (fun _ hk => hk) trivial (Below.refl _ _) (Nat.le_refl _) (by simp) ?_; (case hd => rfl); (case hg => rfl); (case hr => first | (go_simp; done) | (go_simp; rfl)); (case hp => exact (Reps.c4 (show Kd.M k45 _ _ _ (⟨(rd_T48 l0 x4_1).f0.f0, (rd_T48 l0 x4_1).f0.f1, (⟨(rd_T48 l0 x4_1).f0.f2.f0, (rd_T48 l0 x4_1).f0.f2.f1⟩ : S43)⟩ : S45) [.int .i64 ((rd_T48 l0 x4_1).f0.f0), .string ((rd_T48 l0 x4_1).f0.f1), .int .i64 ((rd_T48 l0 x4_1).f0.f2.f0), .bool ((rd_T48 l0 x4_1).f0.f2.f1)] from (k45_mkM _ _ _ (⟨(rd_T48 l0 x4_1).f0.f0, (rd_T48 l0 x4_1).f0.f1, (⟨(rd_T48 l0 x4_1).f0.f2.f0, (rd_T48 l0 x4_1).f0.f2.f1⟩ : S43)⟩ : S45) )) (Reps.none _ _))); intro v613 w13 ho14 hb hg_ hnew_; clear hg_ hnew_; (first | rw [← Ny612.out] at ho14 | (simp only [Int.reduceToNat] at ho14; rw [← Ny612.out] at ho14)); replace HO_3 := cR HO_3 hb; have HO614 := Aside0.mk (Kd.R_lower ho14 (below_size (uW HB.out))); replace HB := cW HB hb; clear hb ho14; obtain ⟨Ao15, co15, eo15⟩ := Kd.R_slice HO614.out; subst eo15) | (refine gL (some 21) rfl Tryz.func33 #[.slice Ao15 y612.length co15] ?_; (with_reducible refine (r08_Text.calls k1 _ _ y612 t615 _ ?side1 ?side2 A5.out).mono ?_); (case side1 => exact uC <| (Kd.R_reads' HO614.out).2.2); (case side2 => exact (Kd.R_reads' HO614.out).2.1); rintro e w16 ⟨rfl, hb⟩; refine ⟨_, rfl, ?_⟩; replace HO_3 := cR HO_3 hb; replace HO614 := cR HO614 hb; replace HB := cW HB hb; (try clear hb); have p616 : 0 ≤ (x4_1 : Int) := od; have q616 : x4_1 < (l0.length : Int) := od; obtain ⟨ad616, e616, hx616_0, hx616_1, hx616_2, hx616_3, hx616_4⟩ := at_T48 HR0.out x4_1 p616 q616; (try rw [← Nbq6.out] at hx616_3); (try rw [← Nbq6.out] at hx616_4); obtain rfl : ad611 = ad616 := (by injection e616); replace hx616_0 := kc HB hx616_0; replace hx616_1 := kc HB hx616_1; replace hx616_2 := kc HB hx616_2; replace hx616_3 := kc HB hx616_3; replace hx616_4 := kc HB hx616_4; replace p616 := eq_true p616; replace q616 := eq_true q616))
      replace HO_3 := Aside0.mk (Kd.R_drew HO_3.out)
      replace HO614 := Aside0.mk (Kd.R_drew HO614.out)
      replace HB := Aside0.mk (below_drew1 HB.out)
      have p617 : 0 ≤ (x4_1 : Int) := od
      have q617 : x4_1 < (l0.length : Int) := od
      obtain ⟨ad617, e617, hx617_0, hx617_1, hx617_2, hx617_3, hx617_4⟩ := at_T48 HR0.out x4_1 p617 q617
      have hw617_4 := hx617_4
      have hw617_3 := hx617_3
      have hw617_2 := hx617_2
      have hw617_1 := hx617_1
      have hw617_0 := hx617_0
      (try rw [← Nbq6.out] at hx617_3)
      (try rw [← Nbq6.out] at hw617_3)
      (try rw [← Nbq6.out] at hx617_4)
      (try rw [← Nbq6.out] at hw617_4)
      obtain rfl : ad611 = ad617 := (by injection e617)
      replace hx617_0 := kc HB hx617_0
      replace hx617_1 := kc HB hx617_1
      replace hx617_2 := kc HB hx617_2
      replace hx617_3 := kc HB hx617_3
      replace hx617_4 := kc HB hx617_4
      replace p617 := eq_true p617
      replace q617 := eq_true q617
      have p619 : 0 ≤ (x4_1 : Int) := od
      have q619 : x4_1 < (l0.length : Int) := od
      obtain ⟨ad619, e619, hx619_0, hx619_1, hx619_2, hx619_3, hx619_4⟩ := at_T48 HR0.out x4_1 p619 q619
      have hw619_4 := hx619_4
      have hw619_3 := hx619_3
      have hw619_2 := hx619_2
      have hw619_1 := hx619_1
      have hw619_0 := hx619_0
      (try rw [← Nbq6.out] at hx619_3)
      (try rw [← Nbq6.out] at hw619_3)
      (try rw [← Nbq6.out] at hx619_4)
      (try rw [← Nbq6.out] at hw619_4)
      obtain rfl : ad611 = ad619 := (by injection e619)
      replace hx619_0 := kc HB hx619_0
      replace hx619_1 := kc HB hx619_1
      replace hx619_2 := kc HB hx619_2
      replace hx619_3 := kc HB hx619_3
      replace hx619_4 := kc HB hx619_4
      replace p619 := eq_true p619
      replace q619 := eq_true q619
      refine start_ (n := 17) (S := fun w' => w'.cell? (ad611.add ((x4_1).toNat * 5)) = some (.int .i64 ((rd_T48 l0 x4_1).f0.f0)) ∧ w'.cell? ⟨(ad611.add ((x4_1).toNat * 5)).block, (ad611.add ((x4_1).toNat * 5)).off + 1, none⟩ = some (.string ((rd_T48 l0 x4_1).f0.f1)) ∧ w'.cell? ⟨(ad611.add ((x4_1).toNat * 5)).block, (ad611.add ((x4_1).toNat * 5)).off + 2, none⟩ = some (.int .i64 ((rd_T48 l0 x4_1).f0.f2.f0)) ∧ w'.cell? ⟨(ad611.add ((x4_1).toNat * 5)).block, (ad611.add ((x4_1).toNat * 5)).off + 3, none⟩ = some (.bool ((rd_T48 l0 x4_1).f0.f2.f1)) ∧ w'.cell? ⟨(ad611.add ((x4_1).toNat * 5)).block, (ad611.add ((x4_1).toNat * 5)).off + 4, none⟩ = some (.bool (true)) ∧ w'.cell? (ad611.add ((x4_1).toNat * 5)) = some (.int .i64 ((rd_T48 l0 x4_1).f0.f0)) ∧ w'.cell? ⟨(ad611.add ((x4_1).toNat * 5)).block, (ad611.add ((x4_1).toNat * 5)).off + 1, none⟩ = some (.string ((rd_T48 l0 x4_1).f0.f1)) ∧ w'.cell? ⟨(ad611.add ((x4_1).toNat * 5)).block, (ad611.add ((x4_1).toNat * 5)).off + 2, none⟩ = some (.int .i64 ((rd_T48 l0 x4_1).f0.f2.f0)) ∧ w'.cell? ⟨(ad611.add ((x4_1).toNat * 5)).block, (ad611.add ((x4_1).toNat * 5)).off + 3, none⟩ = some (.bool ((rd_T48 l0 x4_1).f0.f2.f1)) ∧ w'.cell? ⟨(ad611.add ((x4_1).toNat * 5)).block, (ad611.add ((x4_1).toNat * 5)).off + 4, none⟩ = some (.bool (true))) (ds := []) _ (by kernel_rfl) rfl rfl ⟨(kc HB hw617_0), (kc HB hw617_1), (kc HB hw617_2), (kc HB hw617_3), (kc HB hw617_4), (kc HB hw619_0), (kc HB hw619_1), (kc HB hw619_2), (kc HB hw619_3), (kc HB hw619_4)⟩ (fun hHeld => ?_); refine with_tabW r09_Text.tab9 r09_Text.bits9 (fun HT_ HW_ => ?_)
      generalize w16.drew = w17 at HO_3 HO614 HB hx617_0 hx617_1 hx617_2 hx617_3 hx617_4 hx619_0 hx619_1 hx619_2 hx619_3 hx619_4 hHeld ⊢
      refine p1 0 (some 27) ?_
      refine p1 1 (some 28) ?_
      refine p1 2 (some 29) ?_
      refine p1 3 (some 30) ?_
      refine p1 4 (some 31) ?_
      refine p1 9 (some 36) ?_
      refine p1 10 (some 37) ?_
      refine p1 11 (some 38) ?_
      refine p1 12 (some 39) ?_
      refine p1 13 (some 40) ?_
      refine t1 5 (some 32) rfl rfl hHeld (Or.inl ⟨by rfl, by rintro w' ⟨s0, s1, s2, s3, s4, s5, s6, s7, s8, s9⟩; go_simp; with_reducible rfl⟩) ?_
      refine t1 14 (some 41) rfl rfl hHeld (Or.inl ⟨by rfl, by rintro w' ⟨s0, s1, s2, s3, s4, s5, s6, s7, s8, s9⟩; go_simp; with_reducible rfl⟩) ?_
      refine o1 6 (some 33) rfl rfl (fun K hK => ?_)
      refine gS Tryz.func34 #[.int .i64 ((rd_T48 l0 x4_1).f0.f0)] ?_
      with_reducible refine (r01_Number.calls k1 ((rd_T48 l0 x4_1).f0.f0) t618 _ A8.out).mono ?_
      rintro e w18 ⟨rfl, hb⟩
      refine ⟨_, rfl, ?_⟩
      replace HO_3 := cR HO_3 hb
      replace HO614 := cR HO614 hb
      replace HB := cW HB hb
      (try clear hb)
      refine hK.out _ _ ⟨(kc HB hw617_0), (kc HB hw617_1), (kc HB hw617_2), (kc HB hw617_3), (kc HB hw617_4), (kc HB hw619_0), (kc HB hw619_1), (kc HB hw619_2), (kc HB hw619_3), (kc HB hw619_4)⟩ (fun hHeld => ?_)
      clear hK K
      refine norm_ (a' := ?_) ?_ ?_
      rotate_left
      ·
       show Act.put _ (some 33) _ = _
       simp only [Act.put, List.setIfInBounds_toArray, List.set_cons_zero, List.set_cons_succ, i64_w, i32_w]
       rfl
      refine p1 7 (some 34) ?_
      refine p1 8 (some 35) ?_
      refine p1 15 (some 42) ?_
      refine p1 16 (some 5) ?_
      refine done_ (done_of HT_.out (by kernel_rfl)) ?_
      try go_wp2_with (first | ((with_reducible refine gate_builtin (b := .append) (xs := #[.tmp 43, .tmp 45]) rfl ?_); at_builtin; refine Kd.R_append Kd.string (w0 := w) w.heap.size rfl (.tmp 43) (.tmp 45) 52 9 (.string ⟨#[]⟩) 16 rfl Tryz.underlying52 info9 rfl (by decide) (by omega) u3 x3_1 ((((⟨#[33]⟩ : ByteArray) ++ t618) ++ (⟨#[124]⟩ : ByteArray)) ++ ((rd_T48 l0 x4_1).f0.f1)) [.string ((((⟨#[33]⟩ : ByteArray) ++ t618) ++ (⟨#[124]⟩ : ByteArray)) ++ ((rd_T48 l0 x4_1).f0.f1))] (fun _ => True) (fun _ => False) rfl rfl ?aP (fun _ hk => hk.elim) ?aF ?aO ?aB ?aS ?aL ?_; (case aP => exact rfl); (case aB => exact (uW HB.out)); (case aF => exact (fun _ _ => trivial)); (case aO => exact (uR HO_3.out)); (case aS => exact (below_size (uW HB.out))); (case aL => have := LMc12.out; omega); intro v621 w19 ho hb hg hat; rw [← Ny620.out] at ho; replace HO614 := Aside0.mk (Kd.R_over' (uR HO614.out) (Kd.R_typed (uR HO_3.out)) (by decide) hg); replace HB := Aside0.mk (hb); have HO622 := Aside0.mk (ho); clear HO_3; clear ho hb hg hat))
      go_roundg k1
      case measure => have := HK1.out; omega
      case rel => exact ⟨(y620), (wrap64 (x4_1 + 1)), rs_, (by first | exact H' | (rw [← Nbq6.out]; exact H')), ⟨by have := HK1.out; omega⟩, ⟨uR HO622.out⟩, ⟨uW HB.out⟩⟩
     ·
      replace c7 := Bool.eq_false_iff.mpr c7
      subst c7
      rw [if_neg (show ¬ (false = true) by decide)] at H
      obtain ⟨c20, H⟩ := gd H
      have LMc20 := Aside0.mk c20
      clear c20
      obtain ⟨y623, hy623⟩ : ∃ y_ : List ByteArray, y_ = (x3_1 ++ [t615]) := ⟨_, rfl⟩
      replace H : (r09_Text.l0 k1 l0 y623 (wrap64 (x4_1 + 1))) = some r := by first | (rw [hy623]; with_reducible exact H) | (have H2_ := (Option.bind_some _ _).symm.trans H; rw [hy623]; with_reducible exact H2_) | (have H2_ := (Option.bind_some _ _).symm.trans H; with_reducible exact H2_) | with_reducible exact H | (rw [hy623]; exact H) | exact H
      have Ny623 := Aside0.mk hy623
      clear hy623
      have H' := Aside0.mk H
      clear H
      have p611 : 0 ≤ (x4_1 : Int) := od
      have q611 : x4_1 < (l0.length : Int) := od
      obtain ⟨ad611, e611, hx611_0, hx611_1, hx611_2, hx611_3, hx611_4⟩ := at_T48 HR0.out x4_1 p611 q611
      (try rw [← Nbq6.out] at hx611_3)
      (try rw [← Nbq6.out] at hx611_4)
      cases e611
      replace hx611_0 := kc HB hx611_0
      replace hx611_1 := kc HB hx611_1
      replace hx611_2 := kc HB hx611_2
      replace hx611_3 := kc HB hx611_3
      replace hx611_4 := kc HB hx611_4
      replace p611 := eq_true p611
      replace q611 := eq_true q611
      go_wp2_with (first | ((with_reducible refine gate_dst (N := 20) rfl ?_); refine Kd.R_lit k45 _ 45 ?hg (N := 20) ?hd (xs := ([(⟨(rd_T48 l0 x4_1).f0.f0, (rd_T48 l0 x4_1).f0.f1, (⟨(rd_T48 l0 x4_1).f0.f2.f0, (rd_T48 l0 x4_1).f0.f2.f1⟩ : S43)⟩ : S45)] : List (S45))) (inner := [.int .i64 ((rd_T48 l0 x4_1).f0.f0), .string ((rd_T48 l0 x4_1).f0.f1), .int .i64 ((rd_T48 l0 x4_1).f0.f2.f0), .bool ((rd_T48 l0 x4_1).f0.f2.f1)]) (ok := fun _ => True) (okp := fun _ => True) ?hr ?hp (fun _ hk => hk) trivial (Below.refl _ _) (Nat.le_refl _) (by simp) ?_; (case hd => rfl); (case hg => rfl); (case hr => first | (go_simp; done) | (go_simp; rfl)); (case hp => exact (Reps.c4 (show Kd.M k45 _ _ _ (⟨(rd_T48 l0 x4_1).f0.f0, (rd_T48 l0 x4_1).f0.f1, (⟨(rd_T48 l0 x4_1).f0.f2.f0, (rd_T48 l0 x4_1).f0.f2.f1⟩ : S43)⟩ : S45) [.int .i64 ((rd_T48 l0 x4_1).f0.f0), .string ((rd_T48 l0 x4_1).f0.f1), .int .i64 ((rd_T48 l0 x4_1).f0.f2.f0), .bool ((rd_T48 l0 x4_1).f0.f2.f1)] from (k45_mkM _ _ _ (⟨(rd_T48 l0 x4_1).f0.f0, (rd_T48 l0 x4_1).f0.f1, (⟨(rd_T48 l0 x4_1).f0.f2.f0, (rd_T48 l0 x4_1).f0.f2.f1⟩ : S43)⟩ : S45) )) (Reps.none _ _))); intro v613 w21 ho22 hb hg_ hnew_; clear hg_ hnew_; (first | rw [← Ny612.out] at ho22 | (simp only [Int.reduceToNat] at ho22; rw [← Ny612.out] at ho22)); replace HO_3 := cR HO_3 hb; have HO614 := Aside0.mk (Kd.R_lower ho22 (below_size (uW HB.out))); replace HB := cW HB hb; clear hb ho22; obtain ⟨Ao23, co23, eo23⟩ := Kd.R_slice HO614.out; subst eo23) | (refine gL (some 21) rfl Tryz.func33 #[.slice Ao23 y612.length co23] ?_; (with_reducible refine (r08_Text.calls k1 _ _ y612 t615 _ ?side1 ?side2 A5.out).mono ?_); (case side1 => exact uC <| (Kd.R_reads' HO614.out).2.2); (case side2 => exact (Kd.R_reads' HO614.out).2.1); rintro e w24 ⟨rfl, hb⟩; refine ⟨_, rfl, ?_⟩; replace HO_3 := cR HO_3 hb; replace HO614 := cR HO614 hb; replace HB := cW HB hb; (try clear hb); have p616 : 0 ≤ (x4_1 : Int) := od; have q616 : x4_1 < (l0.length : Int) := od; obtain ⟨ad616, e616, hx616_0, hx616_1, hx616_2, hx616_3, hx616_4⟩ := at_T48 HR0.out x4_1 p616 q616; (try rw [← Nbq6.out] at hx616_3); (try rw [← Nbq6.out] at hx616_4); obtain rfl : ad611 = ad616 := (by injection e616); replace hx616_0 := kc HB hx616_0; replace hx616_1 := kc HB hx616_1; replace hx616_2 := kc HB hx616_2; replace hx616_3 := kc HB hx616_3; replace hx616_4 := kc HB hx616_4; replace p616 := eq_true p616; replace q616 := eq_true q616) | ((with_reducible refine gate_builtin (b := .append) (xs := #[.tmp 43, .tmp 45]) rfl ?_); at_builtin; refine Kd.R_append Kd.string (w0 := w) w.heap.size rfl (.tmp 43) (.tmp 45) 52 9 (.string ⟨#[]⟩) 16 rfl Tryz.underlying52 info9 rfl (by decide) (by omega) u3 x3_1 t615 [.string t615] (fun _ => True) (fun _ => False) rfl rfl ?aP (fun _ hk => hk.elim) ?aF ?aO ?aB ?aS ?aL ?_; (case aP => exact rfl); (case aB => exact (uW HB.out)); (case aF => exact (fun _ _ => trivial)); (case aO => exact (uR HO_3.out)); (case aS => exact (below_size (uW HB.out))); (case aL => have := LMc20.out; omega); intro v624 w25 ho hb hg hat; rw [← Ny623.out] at ho; replace HO614 := Aside0.mk (Kd.R_over' (uR HO614.out) (Kd.R_typed (uR HO_3.out)) (by decide) hg); replace HB := Aside0.mk (hb); have HO625 := Aside0.mk (ho); clear HO_3; clear ho hb hg hat))
      go_roundg k1
      case measure => have := HK1.out; omega
      case rel => exact ⟨(y623), (wrap64 (x4_1 + 1)), rs_, (by first | exact H' | (rw [← Nbq6.out]; exact H')), ⟨by have := HK1.out; omega⟩, ⟨uR HO625.out⟩, ⟨uW HB.out⟩⟩
    ·
     rw [if_neg c3] at H
     have c3b0 : decide (x4_1 < (l0.length : Int)) = false := decide_eq_false c3
     clear c3
     obtain ⟨t610, A26, H⟩ := bs H
     try dsimp only at H
     obtain rfl := Option.some.inj H
     obtain ⟨Ao27, co27, eo27⟩ := Kd.R_slice HO_3.out
     subst eo27
     go_wp2_with (first | (refine gL (some 48) rfl Tryz.func35 #[.string (⟨#[59]⟩ : ByteArray), .slice Ao27 x3_1.length co27] ?_; (with_reducible refine (r02_Join.calls k1 (⟨#[59]⟩ : ByteArray) _ _ x3_1 t610 _ ?side1 ?side2 A26.out).mono ?_); (case side1 => exact uC <| (Kd.R_reads' HO_3.out).2.2); (case side2 => exact (Kd.R_reads' HO_3.out).2.1); rintro e w' ⟨rfl, ⟨nd, rfl⟩⟩; refine ⟨_, rfl, ?_⟩))
     go_ret
     exact ⟨re_, uW HB.out⟩
def r09_Great.l0 : Nat → List (S48) → Int → Option (Bool)
 | 0, _, _ => none
 | k + 1, x0, x3 => if x3 < (x0.length : Int) then (if 0 ≤ x3 then (if (((rd_T48 x0 x3).f0.f1).size : Int) > 300 then (some true) else (r09_Great.l0 k x0 (wrap64 (x3 + 1)))) else (none)) else (some false)
def r09_Great.f (k : Nat) (l0 : List (S48)) : Option (Bool) := if (l0.length : Int) > 100 then (some true) else (r09_Great.l0 k l0 0)
theorem r09_Great.mono_l : ∀ k, (∀ y0 y1, LeC (r09_Great.l0 k y0 y1) (r09_Great.l0 (k + 1) y0 y1))
 | 0 => fun _ _ => ⟨fun r h => by simp [r09_Great.l0] at h⟩
 | k + 1 => by have ih0 := r09_Great.mono_l k; exact fun _ _ => by unfold r09_Great.l0; exact lm
theorem r09_Great.mono : ∀ a0 k, LeO (r09_Great.f k a0) (r09_Great.f (k + 1) a0) := by
 intro a0 k
 have ih0 := r09_Great.mono_l k
 unfold r09_Great.f
 exact lo
instance r09_Great.mI {a0 k} : LeC (r09_Great.f k a0) (r09_Great.f (k + 1) a0) := ⟨r09_Great.mono _ _⟩
theorem r09_Great.calls (k : Nat) (A0 : Option Addr) (c0 : Nat) (l0 : List (S48)) (r : Bool) (w : World) (hr0 : Kd.C k48 w A0 l0.length l0) (hc0 : l0.length ≤ c0) (h : r09_Great.f k l0 = some r) :
 Calls Tryz.prog 16 #[.slice A0 l0.length c0] w fun e w' => e = .returned (.bool r) ∧ Drawn0 w w' := by
 have HR0 := Aside0.mk hr0
 have HC0 := Aside0.mk hc0
 clear hr0 hc0
 have H : (if (l0.length : Int) > 100 then (some true) else (r09_Great.l0 k l0 0)) = some r := h
 clear h
 by_cases c2 : (l0.length : Int) > 100
 ·
  rw [if_pos c2] at H
  have c2b0 : decide (100 < (l0.length : Int)) = true := decide_eq_true c2
  have c2b1 : decide (100 < l0.length) = true := decide_eq_true (by omega)
  clear c2
  obtain rfl := Option.some.inj H
  go_enter Tryz.func16, Tryz.ntmps16
  go_wp2
  go_ret
  exact ⟨rs_, dr_⟩
 ·
  rw [if_neg c2] at H
  have c2b0 : decide (100 < (l0.length : Int)) = false := decide_eq_false c2
  have c2b1 : decide (100 < l0.length) = false := decide_eq_false (by omega)
  clear c2
  have H' := Aside0.mk H
  clear H
  go_enter Tryz.func16, Tryz.ntmps16
  go_wp2
  go_loopg [3] k (fun kq v3 w' => ∃ (x3_1 : Int), v3 = .int .i64 x3_1 ∧ Aside0 (r09_Great.l0 kq l0 x3_1 = some r) ∧ Aside0 (kq ≤ k) ∧ Drawn0 w w')
  case atStart => exact ⟨(0), rs_, H', ⟨Nat.le_refl _⟩, dr_⟩
  case round =>
   clear H'
   try clear c1
   try clear c2
   try clear c2b0
   try clear c2b1
   try clear p2
   obtain ⟨x3_1, rfl, HA, HK1, ⟨m1, rfl⟩⟩ := hrel
   cases gk with
   | zero => exact absurd HA.out (by simp [r09_Great.l0])
   | succ k1 =>
    have H := HA.out
    clear HA
    simp only [r09_Great.l0] at H
    by_cases c3 : x3_1 < (l0.length : Int)
    ·
     rw [if_pos c3] at H
     have c3b0 : decide (x3_1 < (l0.length : Int)) = true := decide_eq_true c3
     clear c3
     obtain ⟨c4b0, H⟩ := gdd H
     by_cases c5 : (((rd_T48 l0 x3_1).f0.f1).size : Int) > 300
     ·
      rw [if_pos c5] at H
      have c5b0 : decide (300 < (((rd_T48 l0 x3_1).f0.f1).size : Int)) = true := decide_eq_true c5
      have c5b1 : decide (300 < ((rd_T48 l0 x3_1).f0.f1).size) = true := decide_eq_true (by omega)
      clear c5
      obtain rfl := Option.some.inj H
      have p626 : 0 ≤ (x3_1 : Int) := od
      have q626 : x3_1 < (l0.length : Int) := od
      obtain ⟨ad626, e626, hx626_0, hx626_1, hx626_2, hx626_3, hx626_4⟩ := at_T48 HR0.out x3_1 p626 q626
      cases e626
      replace p626 := eq_true p626
      replace q626 := eq_true q626
      go_wp2
      go_ret
      exact ⟨rs_, dr_⟩
     ·
      rw [if_neg c5] at H
      have c5b0 : decide (300 < (((rd_T48 l0 x3_1).f0.f1).size : Int)) = false := decide_eq_false c5
      have c5b1 : decide (300 < ((rd_T48 l0 x3_1).f0.f1).size) = false := decide_eq_false (by omega)
      clear c5
      have H' := Aside0.mk H
      clear H
      have p626 : 0 ≤ (x3_1 : Int) := od
      have q626 : x3_1 < (l0.length : Int) := od
      obtain ⟨ad626, e626, hx626_0, hx626_1, hx626_2, hx626_3, hx626_4⟩ := at_T48 HR0.out x3_1 p626 q626
      cases e626
      replace p626 := eq_true p626
      replace q626 := eq_true q626
      go_wp2
      go_roundg k1
      case measure => have := HK1.out; omega
      case rel => exact ⟨(wrap64 (x3_1 + 1)), rs_, H', ⟨by have := HK1.out; omega⟩, dr_⟩
    ·
     rw [if_neg c3] at H
     have c3b0 : decide (x3_1 < (l0.length : Int)) = false := decide_eq_false c3
     clear c3
     obtain rfl := Option.some.inj H
     go_wp2
     go_ret
     exact ⟨rs_, dr_⟩
def r08_Right.l0 : Nat → List (S45) → Int → Option (Bool)
 | 0, _, _ => none
 | k + 1, x0, x3 => if x3 < (x0.length : Int) then (if 0 ≤ x3 then ((r08_group.f k ((rd_T45 x0 x3).f1)).bind fun t628 => (if t628 = 0 then (r08_Right.l0 k x0 (wrap64 (x3 + 1))) else (some false))) else (none)) else ((r08_rise.f k x0).bind fun t629 => (some t629))
def r08_Right.f (k : Nat) (l0 : List (S45)) : Option (Bool) := r08_Right.l0 k l0 0
theorem r08_Right.mono_l : ∀ k, (∀ y0 y1, LeC (r08_Right.l0 k y0 y1) (r08_Right.l0 (k + 1) y0 y1))
 | 0 => fun _ _ => ⟨fun r h => by simp [r08_Right.l0] at h⟩
 | k + 1 => by have ih0 := r08_Right.mono_l k; exact fun _ _ => by unfold r08_Right.l0; exact lm
theorem r08_Right.mono : ∀ a0 k, LeO (r08_Right.f k a0) (r08_Right.f (k + 1) a0) := by
 intro a0 k
 have ih0 := r08_Right.mono_l k
 unfold r08_Right.f
 exact lo
instance r08_Right.mI {a0 k} : LeC (r08_Right.f k a0) (r08_Right.f (k + 1) a0) := ⟨r08_Right.mono _ _⟩
theorem r08_Right.calls (k : Nat) (A0 : Option Addr) (c0 : Nat) (l0 : List (S45)) (r : Bool) (w : World) (hr0 : Kd.C k45 w A0 l0.length l0) (hc0 : l0.length ≤ c0) (h : r08_Right.f k l0 = some r) :
 Calls Tryz.prog 27 #[.slice A0 l0.length c0] w fun e w' => e = .returned (.bool r) ∧ Below w.heap.size w w' := by
 have HR0 := Aside0.mk hr0
 have HC0 := Aside0.mk hc0
 clear hr0 hc0
 have HB := Aside0.mk (Below.refl w.heap.size w)
 have H : (r08_Right.l0 k l0 0) = some r := h
 clear h
 have H' := Aside0.mk H
 clear H
 go_enter Tryz.func27, Tryz.ntmps27
 go_wp2
 go_loopg [3] k (fun kq v3 w' => ∃ (x3_1 : Int), v3 = .int .i64 x3_1 ∧ Aside0 (r08_Right.l0 kq l0 x3_1 = some r) ∧ Aside0 (kq ≤ k) ∧ Aside0 (Below w.heap.size w w'))
 case atStart => exact ⟨(0), rs_, H', ⟨Nat.le_refl _⟩, ⟨uW HB.out⟩⟩
 case round =>
  clear H'
  obtain ⟨x3_1, rfl, HA, HK1, HB⟩ := hrel
  cases gk with
  | zero => exact absurd HA.out (by simp [r08_Right.l0])
  | succ k1 =>
   have H := HA.out
   clear HA
   simp only [r08_Right.l0] at H
   by_cases c2 : x3_1 < (l0.length : Int)
   ·
    rw [if_pos c2] at H
    have c2b0 : decide (x3_1 < (l0.length : Int)) = true := decide_eq_true c2
    clear c2
    obtain ⟨c3b0, H⟩ := gdd H
    obtain ⟨t628, A4, H⟩ := bs H
    try dsimp only at H
    by_cases c5 : t628 = 0
    ·
     rw [if_pos c5] at H
     have c5b0 : (t628 == 0) = true := beq_iff_eq.mpr c5
     have c5b1 : (t628 != 0) = false := bne_eq_false_iff_eq.mpr c5
     clear c5
     have H' := Aside0.mk H
     clear H
     have p627 : 0 ≤ (x3_1 : Int) := od
     have q627 : x3_1 < (l0.length : Int) := od
     obtain ⟨ad627, e627, hx627_0, hx627_1, hx627_2, hx627_3⟩ := at_T45 HR0.out x3_1 p627 q627
     cases e627
     replace hx627_0 := kc HB hx627_0
     replace hx627_1 := kc HB hx627_1
     replace hx627_2 := kc HB hx627_2
     replace hx627_3 := kc HB hx627_3
     replace p627 := eq_true p627
     replace q627 := eq_true q627
     go_wp2_with (first | (refine gL (some 15) rfl Tryz.func51 #[.string ((rd_T45 l0 x3_1).f1)] ?_; (with_reducible refine (r08_group.calls k1 ((rd_T45 l0 x3_1).f1) t628 _ A4.out).mono ?_); rintro e w6 ⟨rfl, hb⟩; refine ⟨_, rfl, ?_⟩; replace HB := cW HB hb; (try clear hb)))
     go_roundg k1
     case measure => have := HK1.out; omega
     case rel => exact ⟨(wrap64 (x3_1 + 1)), rs_, H', ⟨by have := HK1.out; omega⟩, ⟨uW HB.out⟩⟩
    ·
     rw [if_neg c5] at H
     have c5b0 : (t628 == 0) = false := beq_eq_false_iff_ne.mpr c5
     have c5b1 : (t628 != 0) = true := bne_iff_ne.mpr c5
     obtain rfl := Option.some.inj H
     have p627 : 0 ≤ (x3_1 : Int) := od
     have q627 : x3_1 < (l0.length : Int) := od
     obtain ⟨ad627, e627, hx627_0, hx627_1, hx627_2, hx627_3⟩ := at_T45 HR0.out x3_1 p627 q627
     cases e627
     replace hx627_0 := kc HB hx627_0
     replace hx627_1 := kc HB hx627_1
     replace hx627_2 := kc HB hx627_2
     replace hx627_3 := kc HB hx627_3
     replace p627 := eq_true p627
     replace q627 := eq_true q627
     go_wp2_with (first | (refine gL (some 15) rfl Tryz.func51 #[.string ((rd_T45 l0 x3_1).f1)] ?_; (with_reducible refine (r08_group.calls k1 ((rd_T45 l0 x3_1).f1) t628 _ A4.out).mono ?_); rintro e w7 ⟨rfl, hb⟩; refine ⟨_, rfl, ?_⟩; replace HB := cW HB hb; (try clear hb)))
     go_ret
     exact ⟨re_, uW HB.out⟩
   ·
    rw [if_neg c2] at H
    have c2b0 : decide (x3_1 < (l0.length : Int)) = false := decide_eq_false c2
    clear c2
    obtain ⟨t629, A8, H⟩ := bs H
    try dsimp only at H
    obtain rfl := Option.some.inj H
    go_wp2_with (first | (refine gL (some 18) rfl Tryz.func44 #[.slice A0 l0.length c0] ?_; (with_reducible refine (r08_rise.calls k1 _ _ l0 t629 _ ?side1 ?side2 A8.out).mono ?_); (case side1 => exact uC <| (Kd.C_below HR0.out HB.out)); (case side2 => exact HC0.out); rintro e w9 ⟨rfl, hb⟩; refine ⟨_, rfl, ?_⟩; replace HB := cW HB hb; (try clear hb)))
    go_ret
    exact ⟨re_, uW HB.out⟩
attribute [local go_sem high] eqA43
def r09_Right.l0 : Nat → List (S48) → List (S45) → Int → Option (Bool)
 | 0, _, _, _ => none
 | k + 1, x0, x3, x4 => if x4 < (x0.length : Int) then (if 0 ≤ x4 then (if (rd_T48 x0 x4).f1 = true then (if (!(((rd_T48 x0 x4).f0.f2.f0) == 0) || (((rd_T48 x0 x4).f0.f2.f1))) = true then (some false) else (if x3.length < 3518437208883 then (r09_Right.l0 k x0 (x3 ++ [(⟨(rd_T48 x0 x4).f0.f0, (rd_T48 x0 x4).f0.f1, (⟨(rd_T48 x0 x4).f0.f2.f0, (rd_T48 x0 x4).f0.f2.f1⟩ : S43)⟩ : S45)]) (wrap64 (x4 + 1))) else (none))) else (if x3.length < 3518437208883 then (r09_Right.l0 k x0 (x3 ++ [(⟨(rd_T48 x0 x4).f0.f0, (rd_T48 x0 x4).f0.f1, (⟨(rd_T48 x0 x4).f0.f2.f0, (rd_T48 x0 x4).f0.f2.f1⟩ : S43)⟩ : S45)]) (wrap64 (x4 + 1))) else (none))) else (none)) else ((r08_Right.f k x3).bind fun t640 => (some t640))
def r09_Right.f (k : Nat) (l0 : List (S48)) : Option (Bool) := r09_Right.l0 k l0 ([] : List (S45)) 0
theorem r09_Right.mono_l : ∀ k, (∀ y0 y1 y2, LeC (r09_Right.l0 k y0 y1 y2) (r09_Right.l0 (k + 1) y0 y1 y2))
 | 0 => fun _ _ _ => ⟨fun r h => by simp [r09_Right.l0] at h⟩
 | k + 1 => by have ih0 := r09_Right.mono_l k; exact fun _ _ _ => by unfold r09_Right.l0; exact lm
theorem r09_Right.mono : ∀ a0 k, LeO (r09_Right.f k a0) (r09_Right.f (k + 1) a0) := by
 intro a0 k
 have ih0 := r09_Right.mono_l k
 unfold r09_Right.f
 exact lo
instance r09_Right.mI {a0 k} : LeC (r09_Right.f k a0) (r09_Right.f (k + 1) a0) := ⟨r09_Right.mono _ _⟩
theorem r09_Right.calls (k : Nat) (A0 : Option Addr) (c0 : Nat) (l0 : List (S48)) (r : Bool) (w : World) (hr0 : Kd.C k48 w A0 l0.length l0) (hc0 : l0.length ≤ c0) (h : r09_Right.f k l0 = some r) :
 Calls Tryz.prog 22 #[.slice A0 l0.length c0] w fun e w' => e = .returned (.bool r) ∧ Below w.heap.size w w' := by
 have hu43 := Tryz.underlying43
 have hu45 := Tryz.underlying45
 have HR0 := Aside0.mk hr0
 have HC0 := Aside0.mk hc0
 clear hr0 hc0
 have HB := Aside0.mk (Below.refl w.heap.size w)
 have H : (r09_Right.l0 k l0 ([] : List (S45)) 0) = some r := h
 clear h
 have H' := Aside0.mk H
 clear H
 go_enter Tryz.func22, Tryz.ntmps22
 go_wp2
 go_loopg [3, 4] k (fun kq v3 v4 w' => ∃ (x3_1 : List (S45)) (x4_1 : Int), v4 = .int .i64 x4_1 ∧ Aside0 (r09_Right.l0 kq l0 x3_1 x4_1 = some r) ∧ Aside0 (kq ≤ k) ∧ Aside0 (Kd.R k45 45 w' w.heap.size (fun _ => True) v3 x3_1) ∧ Aside0 (Below w.heap.size w w'))
 case atStart => exact ⟨(([] : List (S45))), (0), rs_, H', ⟨Nat.le_refl _⟩, ⟨nl_⟩, ⟨uW HB.out⟩⟩
 case round =>
  clear H'
  obtain ⟨x3_1, x4_1, rfl, HA, HK1, HO_3, HB⟩ := hrel
  cases gk with
  | zero => exact absurd HA.out (by simp [r09_Right.l0])
  | succ k1 =>
   have H := HA.out
   clear HA
   simp only [r09_Right.l0] at H
   by_cases c2 : x4_1 < (l0.length : Int)
   ·
    rw [if_pos c2] at H
    have c2b0 : decide (x4_1 < (l0.length : Int)) = true := decide_eq_true c2
    clear c2
    obtain ⟨c3b0, H⟩ := gdd H
    obtain ⟨bq4, hbq4⟩ : ∃ b_ : Bool, b_ = ((rd_T48 l0 x4_1).f1) := ⟨_, rfl⟩
    replace H : (if bq4 = true then (if (!(((rd_T48 l0 x4_1).f0.f2.f0) == 0) || (((rd_T48 l0 x4_1).f0.f2.f1))) = true then (some false) else (if x3_1.length < 3518437208883 then (r09_Right.l0 k1 l0 (x3_1 ++ [(⟨(rd_T48 l0 x4_1).f0.f0, (rd_T48 l0 x4_1).f0.f1, (⟨(rd_T48 l0 x4_1).f0.f2.f0, (rd_T48 l0 x4_1).f0.f2.f1⟩ : S43)⟩ : S45)]) (wrap64 (x4_1 + 1))) else (none))) else (if x3_1.length < 3518437208883 then (r09_Right.l0 k1 l0 (x3_1 ++ [(⟨(rd_T48 l0 x4_1).f0.f0, (rd_T48 l0 x4_1).f0.f1, (⟨(rd_T48 l0 x4_1).f0.f2.f0, (rd_T48 l0 x4_1).f0.f2.f1⟩ : S43)⟩ : S45)]) (wrap64 (x4_1 + 1))) else (none))) = some r := by rw [← hbq4] at H; exact H
    have Nbq4 := Aside0.mk hbq4
    clear hbq4
    by_cases c5 : bq4 = true
    ·
     subst c5
     rw [if_pos rfl] at H
     by_cases c6 : (!(((rd_T48 l0 x4_1).f0.f2.f0) == 0) || (((rd_T48 l0 x4_1).f0.f2.f1))) = true
     ·
      rw [if_pos c6] at H
      have c6b0 : (!(((rd_T48 l0 x4_1).f0.f2.f0) == 0) || (((rd_T48 l0 x4_1).f0.f2.f1))) = true := c6
      clear c6
      obtain rfl := Option.some.inj H
      have p630 : 0 ≤ (x4_1 : Int) := od
      have q630 : x4_1 < (l0.length : Int) := od
      obtain ⟨ad630, e630, hx630_0, hx630_1, hx630_2, hx630_3, hx630_4⟩ := at_T48 HR0.out x4_1 p630 q630
      (try rw [← Nbq4.out] at hx630_3)
      (try rw [← Nbq4.out] at hx630_4)
      cases e630
      replace hx630_0 := kc HB hx630_0
      replace hx630_1 := kc HB hx630_1
      replace hx630_2 := kc HB hx630_2
      replace hx630_3 := kc HB hx630_3
      replace hx630_4 := kc HB hx630_4
      replace p630 := eq_true p630
      replace q630 := eq_true q630
      have p631 : 0 ≤ (x4_1 : Int) := od
      have q631 : x4_1 < (l0.length : Int) := od
      obtain ⟨ad631, e631, hx631_0, hx631_1, hx631_2, hx631_3, hx631_4⟩ := at_T48 HR0.out x4_1 p631 q631
      (try rw [← Nbq4.out] at hx631_3)
      (try rw [← Nbq4.out] at hx631_4)
      obtain rfl : ad630 = ad631 := (by injection e631)
      replace hx631_0 := kc HB hx631_0
      replace hx631_1 := kc HB hx631_1
      replace hx631_2 := kc HB hx631_2
      replace hx631_3 := kc HB hx631_3
      replace hx631_4 := kc HB hx631_4
      replace p631 := eq_true p631
      replace q631 := eq_true q631
      go_wp2
      go_ret
      exact ⟨re_, uW HB.out⟩
     ·
      rw [if_neg c6] at H
      have c6b0 : (!(((rd_T48 l0 x4_1).f0.f2.f0) == 0) || (((rd_T48 l0 x4_1).f0.f2.f1))) = false := by simpa using c6
      clear c6
      obtain ⟨c7, H⟩ := gd H
      have LMc7 := Aside0.mk c7
      clear c7
      obtain ⟨y633, hy633⟩ : ∃ y_ : List (S45), y_ = (x3_1 ++ [(⟨(rd_T48 l0 x4_1).f0.f0, (rd_T48 l0 x4_1).f0.f1, (⟨(rd_T48 l0 x4_1).f0.f2.f0, (rd_T48 l0 x4_1).f0.f2.f1⟩ : S43)⟩ : S45)]) := ⟨_, rfl⟩
      replace H : (r09_Right.l0 k1 l0 y633 (wrap64 (x4_1 + 1))) = some r := by first | (rw [hy633]; with_reducible exact H) | (have H2_ := (Option.bind_some _ _).symm.trans H; rw [hy633]; with_reducible exact H2_) | (have H2_ := (Option.bind_some _ _).symm.trans H; with_reducible exact H2_) | with_reducible exact H | (rw [hy633]; exact H) | exact H
      have Ny633 := Aside0.mk hy633
      clear hy633
      have H' := Aside0.mk H
      clear H
      have p630 : 0 ≤ (x4_1 : Int) := od
      have q630 : x4_1 < (l0.length : Int) := od
      obtain ⟨ad630, e630, hx630_0, hx630_1, hx630_2, hx630_3, hx630_4⟩ := at_T48 HR0.out x4_1 p630 q630
      (try rw [← Nbq4.out] at hx630_3)
      (try rw [← Nbq4.out] at hx630_4)
      cases e630
      replace hx630_0 := kc HB hx630_0
      replace hx630_1 := kc HB hx630_1
      replace hx630_2 := kc HB hx630_2
      replace hx630_3 := kc HB hx630_3
      replace hx630_4 := kc HB hx630_4
      replace p630 := eq_true p630
      replace q630 := eq_true q630
      have p631 : 0 ≤ (x4_1 : Int) := od
      have q631 : x4_1 < (l0.length : Int) := od
      obtain ⟨ad631, e631, hx631_0, hx631_1, hx631_2, hx631_3, hx631_4⟩ := at_T48 HR0.out x4_1 p631 q631
      (try rw [← Nbq4.out] at hx631_3)
      (try rw [← Nbq4.out] at hx631_4)
      obtain rfl : ad630 = ad631 := (by injection e631)
      replace hx631_0 := kc HB hx631_0
      replace hx631_1 := kc HB hx631_1
      replace hx631_2 := kc HB hx631_2
      replace hx631_3 := kc HB hx631_3
      replace hx631_4 := kc HB hx631_4
      replace p631 := eq_true p631
      replace q631 := eq_true q631
      have p632 : 0 ≤ (x4_1 : Int) := od
      have q632 : x4_1 < (l0.length : Int) := od
      obtain ⟨ad632, e632, hx632_0, hx632_1, hx632_2, hx632_3, hx632_4⟩ := at_T48 HR0.out x4_1 p632 q632
      (try rw [← Nbq4.out] at hx632_3)
      (try rw [← Nbq4.out] at hx632_4)
      obtain rfl : ad630 = ad632 := (by injection e632)
      replace hx632_0 := kc HB hx632_0
      replace hx632_1 := kc HB hx632_1
      replace hx632_2 := kc HB hx632_2
      replace hx632_3 := kc HB hx632_3
      replace hx632_4 := kc HB hx632_4
      replace p632 := eq_true p632
      replace q632 := eq_true q632
      go_wp2_with (first | ((with_reducible refine gate_builtin (b := .append) (xs := #[.tmp 26, .tmp 32]) rfl ?_); at_builtin; refine Kd.R_append k45 (w0 := w) w.heap.size rfl (.tmp 26) (.tmp 32) 22 45 (.agg #[(.int .i64 0), (.string ⟨#[]⟩), (.int .i64 0), (.bool false)]) 40 rfl Tryz.underlying22 info45 rfl (by decide) (by omega) u3 x3_1 (⟨(rd_T48 l0 x4_1).f0.f0, (rd_T48 l0 x4_1).f0.f1, (⟨(rd_T48 l0 x4_1).f0.f2.f0, (rd_T48 l0 x4_1).f0.f2.f1⟩ : S43)⟩ : S45) [.int .i64 ((rd_T48 l0 x4_1).f0.f0), .string ((rd_T48 l0 x4_1).f0.f1), .int .i64 ((rd_T48 l0 x4_1).f0.f2.f0), .bool ((rd_T48 l0 x4_1).f0.f2.f1)] (fun _ => True) (fun _ => False) rfl rfl ?aP (fun _ hk => hk.elim) ?aF ?aO ?aB ?aS ?aL ?_; (case aP => exact k45_mkM _ _ _ (⟨(rd_T48 l0 x4_1).f0.f0, (rd_T48 l0 x4_1).f0.f1, (⟨(rd_T48 l0 x4_1).f0.f2.f0, (rd_T48 l0 x4_1).f0.f2.f1⟩ : S43)⟩ : S45)); (case aB => exact (uW HB.out)); (case aF => exact (fun _ _ => trivial)); (case aO => exact (uR HO_3.out)); (case aS => exact (below_size (uW HB.out))); (case aL => have := LMc7.out; omega); intro v634 w8 ho hb hg hat; rw [← Ny633.out] at ho; replace HB := Aside0.mk (hb); have HO635 := Aside0.mk (ho); clear HO_3; clear ho hb hg hat))
      go_roundg k1
      case measure => have := HK1.out; omega
      case rel => exact ⟨(y633), (wrap64 (x4_1 + 1)), rs_, (by first | exact H' | (rw [← Nbq4.out]; exact H')), ⟨by have := HK1.out; omega⟩, ⟨uR HO635.out⟩, ⟨uW HB.out⟩⟩
    ·
     replace c5 := Bool.eq_false_iff.mpr c5
     subst c5
     rw [if_neg (show ¬ (false = true) by decide)] at H
     obtain ⟨c9, H⟩ := gd H
     have LMc9 := Aside0.mk c9
     clear c9
     obtain ⟨y637, hy637⟩ : ∃ y_ : List (S45), y_ = (x3_1 ++ [(⟨(rd_T48 l0 x4_1).f0.f0, (rd_T48 l0 x4_1).f0.f1, (⟨(rd_T48 l0 x4_1).f0.f2.f0, (rd_T48 l0 x4_1).f0.f2.f1⟩ : S43)⟩ : S45)]) := ⟨_, rfl⟩
     replace H : (r09_Right.l0 k1 l0 y637 (wrap64 (x4_1 + 1))) = some r := by first | (rw [hy637]; with_reducible exact H) | (have H2_ := (Option.bind_some _ _).symm.trans H; rw [hy637]; with_reducible exact H2_) | (have H2_ := (Option.bind_some _ _).symm.trans H; with_reducible exact H2_) | with_reducible exact H | (rw [hy637]; exact H) | exact H
     have Ny637 := Aside0.mk hy637
     clear hy637
     have H' := Aside0.mk H
     clear H
     have p630 : 0 ≤ (x4_1 : Int) := od
     have q630 : x4_1 < (l0.length : Int) := od
     obtain ⟨ad630, e630, hx630_0, hx630_1, hx630_2, hx630_3, hx630_4⟩ := at_T48 HR0.out x4_1 p630 q630
     (try rw [← Nbq4.out] at hx630_3)
     (try rw [← Nbq4.out] at hx630_4)
     cases e630
     replace hx630_0 := kc HB hx630_0
     replace hx630_1 := kc HB hx630_1
     replace hx630_2 := kc HB hx630_2
     replace hx630_3 := kc HB hx630_3
     replace hx630_4 := kc HB hx630_4
     replace p630 := eq_true p630
     replace q630 := eq_true q630
     have p636 : 0 ≤ (x4_1 : Int) := od
     have q636 : x4_1 < (l0.length : Int) := od
     obtain ⟨ad636, e636, hx636_0, hx636_1, hx636_2, hx636_3, hx636_4⟩ := at_T48 HR0.out x4_1 p636 q636
     (try rw [← Nbq4.out] at hx636_3)
     (try rw [← Nbq4.out] at hx636_4)
     obtain rfl : ad630 = ad636 := (by injection e636)
     replace hx636_0 := kc HB hx636_0
     replace hx636_1 := kc HB hx636_1
     replace hx636_2 := kc HB hx636_2
     replace hx636_3 := kc HB hx636_3
     replace hx636_4 := kc HB hx636_4
     replace p636 := eq_true p636
     replace q636 := eq_true q636
     go_wp2_with (first | ((with_reducible refine gate_builtin (b := .append) (xs := #[.tmp 26, .tmp 32]) rfl ?_); at_builtin; refine Kd.R_append k45 (w0 := w) w.heap.size rfl (.tmp 26) (.tmp 32) 22 45 (.agg #[(.int .i64 0), (.string ⟨#[]⟩), (.int .i64 0), (.bool false)]) 40 rfl Tryz.underlying22 info45 rfl (by decide) (by omega) u3 x3_1 (⟨(rd_T48 l0 x4_1).f0.f0, (rd_T48 l0 x4_1).f0.f1, (⟨(rd_T48 l0 x4_1).f0.f2.f0, (rd_T48 l0 x4_1).f0.f2.f1⟩ : S43)⟩ : S45) [.int .i64 ((rd_T48 l0 x4_1).f0.f0), .string ((rd_T48 l0 x4_1).f0.f1), .int .i64 ((rd_T48 l0 x4_1).f0.f2.f0), .bool ((rd_T48 l0 x4_1).f0.f2.f1)] (fun _ => True) (fun _ => False) rfl rfl ?aP (fun _ hk => hk.elim) ?aF ?aO ?aB ?aS ?aL ?_; (case aP => exact k45_mkM _ _ _ (⟨(rd_T48 l0 x4_1).f0.f0, (rd_T48 l0 x4_1).f0.f1, (⟨(rd_T48 l0 x4_1).f0.f2.f0, (rd_T48 l0 x4_1).f0.f2.f1⟩ : S43)⟩ : S45)); (case aB => exact (uW HB.out)); (case aF => exact (fun _ _ => trivial)); (case aO => exact (uR HO_3.out)); (case aS => exact (below_size (uW HB.out))); (case aL => have := LMc9.out; omega); intro v638 w10 ho hb hg hat; rw [← Ny637.out] at ho; replace HB := Aside0.mk (hb); have HO639 := Aside0.mk (ho); clear HO_3; clear ho hb hg hat))
     go_roundg k1
     case measure => have := HK1.out; omega
     case rel => exact ⟨(y637), (wrap64 (x4_1 + 1)), rs_, (by first | exact H' | (rw [← Nbq4.out]; exact H')), ⟨by have := HK1.out; omega⟩, ⟨uR HO639.out⟩, ⟨uW HB.out⟩⟩
   ·
    rw [if_neg c2] at H
    have c2b0 : decide (x4_1 < (l0.length : Int)) = false := decide_eq_false c2
    clear c2
    obtain ⟨t640, A11, H⟩ := bs H
    try dsimp only at H
    obtain rfl := Option.some.inj H
    obtain ⟨Ao12, co12, eo12⟩ := Kd.R_slice HO_3.out
    subst eo12
    go_wp2_with (first | (refine gL (some 35) rfl Tryz.func27 #[.slice Ao12 x3_1.length co12] ?_; (with_reducible refine (r08_Right.calls k1 _ _ x3_1 t640 _ ?side1 ?side2 A11.out).mono ?_); (case side1 => exact uC <| (Kd.R_reads' HO_3.out).2.2); (case side2 => exact (Kd.R_reads' HO_3.out).2.1); rintro e w13 ⟨rfl, hb⟩; refine ⟨_, rfl, ?_⟩; replace HO_3 := cR HO_3 hb; replace HB := cW HB hb; (try clear hb)))
    go_ret
    exact ⟨re_, uW HB.out⟩
def r09_find.l0 : Nat → List (S45) → Int → Int → ByteArray → Int → Bool → Option (Int)
 | 0, _, _, _, _, _, _ => none
 | k + 1, x0, x5, x642000, x642001, x642002, x642003 => if x5 < (x0.length : Int) then (if 0 ≤ x5 then (if ((rd_T45 x0 x5).f0) = x642000 then (if ((rd_T45 x0 x5).f1).toList = x642001.toList then (some x5) else (r09_find.l0 k x0 (wrap64 (x5 + 1)) x642000 x642001 x642002 x642003)) else (r09_find.l0 k x0 (wrap64 (x5 + 1)) x642000 x642001 x642002 x642003)) else (none)) else (some (-1))
def r09_find.f (k : Nat) (l0 : List (S45)) (a1_0 : Int) (a1_1 : ByteArray) (a1_2 : Int) (a1_3 : Bool) : Option (Int) := r09_find.l0 k l0 0 a1_0 a1_1 a1_2 a1_3
theorem r09_find.mono_l : ∀ k, (∀ y0 y1 y2 y3 y4 y5, LeC (r09_find.l0 k y0 y1 y2 y3 y4 y5) (r09_find.l0 (k + 1) y0 y1 y2 y3 y4 y5))
 | 0 => fun _ _ _ _ _ _ => ⟨fun r h => by simp [r09_find.l0] at h⟩
 | k + 1 => by have ih0 := r09_find.mono_l k; exact fun _ _ _ _ _ _ => by unfold r09_find.l0; exact lm
theorem r09_find.mono : ∀ a0 a1 a2 a3 a4 k, LeO (r09_find.f k a0 a1 a2 a3 a4) (r09_find.f (k + 1) a0 a1 a2 a3 a4) := by
 intro a0 a1 a2 a3 a4 k
 have ih0 := r09_find.mono_l k
 unfold r09_find.f
 exact lo
instance r09_find.mI {a0 a1 a2 a3 a4 k} : LeC (r09_find.f k a0 a1 a2 a3 a4) (r09_find.f (k + 1) a0 a1 a2 a3 a4) := ⟨r09_find.mono _ _ _ _ _ _⟩
theorem r09_find.calls (k : Nat) (A0 : Option Addr) (c0 : Nat) (l0 : List (S45)) (a1_0 : Int) (a1_1 : ByteArray) (a1_2 : Int) (a1_3 : Bool) (r : Int) (w : World) (hr0 : Kd.C k45 w A0 l0.length l0) (hc0 : l0.length ≤ c0) (h : r09_find.f k l0 a1_0 a1_1 a1_2 a1_3 = some r) :
 Calls Tryz.prog 28 #[.slice A0 l0.length c0, .agg #[.int .i64 a1_0, .string a1_1, .int .i64 a1_2, .bool a1_3]] w fun e w' => e = .returned (.int .i64 r) ∧ Below w.heap.size w w' := by
 have hu45 := Tryz.underlying45
 have HR0 := Aside0.mk hr0
 have HC0 := Aside0.mk hc0
 clear hr0 hc0
 have HB := Aside0.mk (Below.refl w.heap.size w)
 have H : (r09_find.l0 k l0 0 a1_0 a1_1 a1_2 a1_3) = some r := h
 clear h
 have H' := Aside0.mk H
 clear H
 go_enter Tryz.func28, Tryz.ntmps28
 go_wp2_with (first | ((with_reducible refine gate_dst (N := 3) rfl ?_); refine bx (N := 3) #[.int .i64 a1_0, .string a1_1, .int .i64 a1_2, .bool a1_3] 45 ?_; intro gb641 hg w3 hbox hb; have BK641 := Aside0.mk (hbox); have GW641 := gw hg (uW HB.out); have GE641 := GW641; replace HB := cW HB hb; clear hb hbox hg))
 repeat (go_quiet (first | ((with_reducible refine gate_dst (N := 3) rfl ?_); refine bx (N := 3) #[.int .i64 a1_0, .string a1_1, .int .i64 a1_2, .bool a1_3] 45 ?_; intro gb641 hg w3 hbox hb; have BK641 := Aside0.mk (hbox); have GW641 := gw hg (uW HB.out); have GE641 := GW641; replace HB := cW HB hb; clear hb hbox hg)); try go_wp2_with (first | ((with_reducible refine gate_dst (N := 3) rfl ?_); refine bx (N := 3) #[.int .i64 a1_0, .string a1_1, .int .i64 a1_2, .bool a1_3] 45 ?_; intro gb641 hg w3 hbox hb; have BK641 := Aside0.mk (hbox); have GW641 := gw hg (uW HB.out); have GE641 := GW641; replace HB := cW HB hb; clear hb hbox hg)))
 go_loopg [5] k (fun kq v5 w' => ∃ (x5_1 : Int), v5 = .int .i64 x5_1 ∧ Aside0 (r09_find.l0 kq l0 x5_1 a1_0 a1_1 a1_2 a1_3 = some r) ∧ Aside0 (kq ≤ k) ∧ Aside0 (w'.heap[gb641]? = some (.cells #[.int .i64 a1_0, .string a1_1, .int .i64 a1_2, .bool a1_3] 45 (0, 0))) ∧ Aside0 (Below w.heap.size w w'))
 case atStart => exact ⟨(0), rs_, H', ⟨Nat.le_refl _⟩, ⟨uB BK641.out⟩, ⟨bl⟩⟩
 case round =>
  clear H'
  try clear c2
  try clear p2
  obtain ⟨x5_1, rfl, HA, HK1, BK641, HB⟩ := hrel
  cases gk with
  | zero => exact absurd HA.out (by simp [r09_find.l0])
  | succ k1 =>
   have H := HA.out
   clear HA
   simp only [r09_find.l0] at H
   by_cases c4 : x5_1 < (l0.length : Int)
   ·
    rw [if_pos c4] at H
    have c4b0 : decide (x5_1 < (l0.length : Int)) = true := decide_eq_true c4
    clear c4
    obtain ⟨c5b0, H⟩ := gdd H
    by_cases c6 : ((rd_T45 l0 x5_1).f0) = a1_0
    ·
     rw [if_pos c6] at H
     have c6b0 : (((rd_T45 l0 x5_1).f0) == a1_0) = true := beq_iff_eq.mpr c6
     have c6b1 : (((rd_T45 l0 x5_1).f0) != a1_0) = false := bne_eq_false_iff_eq.mpr c6
     clear c6
     by_cases c7 : ((rd_T45 l0 x5_1).f1).toList = a1_1.toList
     ·
      rw [if_pos c7] at H
      have c7b0 : (((rd_T45 l0 x5_1).f1).toList == a1_1.toList) = true := beq_iff_eq.mpr c7
      have c7b1 : (((rd_T45 l0 x5_1).f1).toList != a1_1.toList) = false := bne_eq_false_iff_eq.mpr c7
      clear c7
      obtain rfl := Option.some.inj H
      have p642 : 0 ≤ (x5_1 : Int) := od
      have q642 : x5_1 < (l0.length : Int) := od
      obtain ⟨ad642, e642, hx642_0, hx642_1, hx642_2, hx642_3⟩ := at_T45 HR0.out x5_1 p642 q642
      cases e642
      replace hx642_0 := kc HB hx642_0
      replace hx642_1 := kc HB hx642_1
      replace hx642_2 := kc HB hx642_2
      replace hx642_3 := kc HB hx642_3
      replace p642 := eq_true p642
      replace q642 := eq_true q642
      obtain ⟨hcz8_0, hcz8_1, hcz8_2, hcz8_3, hfz8_0, hfz8_1, hfz8_2, hfz8_3⟩ := z4 BK641
      have p643 : 0 ≤ (x5_1 : Int) := od
      have q643 : x5_1 < (l0.length : Int) := od
      obtain ⟨ad643, e643, hx643_0, hx643_1, hx643_2, hx643_3⟩ := at_T45 HR0.out x5_1 p643 q643
      obtain rfl : ad642 = ad643 := (by injection e643)
      replace hx643_0 := kc HB hx643_0
      replace hx643_1 := kc HB hx643_1
      replace hx643_2 := kc HB hx643_2
      replace hx643_3 := kc HB hx643_3
      replace p643 := eq_true p643
      replace q643 := eq_true q643
      go_wp2
      repeat (go_quiet (fail); try go_wp2)
      go_ret
      exact ⟨re_, bl⟩
     ·
      rw [if_neg c7] at H
      have c7b0 : (((rd_T45 l0 x5_1).f1).toList == a1_1.toList) = false := beq_eq_false_iff_ne.mpr c7
      have c7b1 : (((rd_T45 l0 x5_1).f1).toList != a1_1.toList) = true := bne_iff_ne.mpr c7
      have H' := Aside0.mk H
      clear H
      have p642 : 0 ≤ (x5_1 : Int) := od
      have q642 : x5_1 < (l0.length : Int) := od
      obtain ⟨ad642, e642, hx642_0, hx642_1, hx642_2, hx642_3⟩ := at_T45 HR0.out x5_1 p642 q642
      cases e642
      replace hx642_0 := kc HB hx642_0
      replace hx642_1 := kc HB hx642_1
      replace hx642_2 := kc HB hx642_2
      replace hx642_3 := kc HB hx642_3
      replace p642 := eq_true p642
      replace q642 := eq_true q642
      obtain ⟨hcz9_0, hcz9_1, hcz9_2, hcz9_3, hfz9_0, hfz9_1, hfz9_2, hfz9_3⟩ := z4 BK641
      have p643 : 0 ≤ (x5_1 : Int) := od
      have q643 : x5_1 < (l0.length : Int) := od
      obtain ⟨ad643, e643, hx643_0, hx643_1, hx643_2, hx643_3⟩ := at_T45 HR0.out x5_1 p643 q643
      obtain rfl : ad642 = ad643 := (by injection e643)
      replace hx643_0 := kc HB hx643_0
      replace hx643_1 := kc HB hx643_1
      replace hx643_2 := kc HB hx643_2
      replace hx643_3 := kc HB hx643_3
      replace p643 := eq_true p643
      replace q643 := eq_true q643
      go_wp2
      repeat (go_quiet (fail); try go_wp2)
      go_roundg k1
      case measure => have := HK1.out; omega
      case rel => exact ⟨(wrap64 (x5_1 + 1)), rs_, H', ⟨by have := HK1.out; omega⟩, ⟨uB BK641.out⟩, ⟨bl⟩⟩
    ·
     rw [if_neg c6] at H
     have c6b0 : (((rd_T45 l0 x5_1).f0) == a1_0) = false := beq_eq_false_iff_ne.mpr c6
     have c6b1 : (((rd_T45 l0 x5_1).f0) != a1_0) = true := bne_iff_ne.mpr c6
     have H' := Aside0.mk H
     clear H
     have p642 : 0 ≤ (x5_1 : Int) := od
     have q642 : x5_1 < (l0.length : Int) := od
     obtain ⟨ad642, e642, hx642_0, hx642_1, hx642_2, hx642_3⟩ := at_T45 HR0.out x5_1 p642 q642
     cases e642
     replace hx642_0 := kc HB hx642_0
     replace hx642_1 := kc HB hx642_1
     replace hx642_2 := kc HB hx642_2
     replace hx642_3 := kc HB hx642_3
     replace p642 := eq_true p642
     replace q642 := eq_true q642
     obtain ⟨hcz10_0, hcz10_1, hcz10_2, hcz10_3, hfz10_0, hfz10_1, hfz10_2, hfz10_3⟩ := z4 BK641
     go_wp2
     repeat (go_quiet (fail); try go_wp2)
     go_roundg k1
     case measure => have := HK1.out; omega
     case rel => exact ⟨(wrap64 (x5_1 + 1)), rs_, H', ⟨by have := HK1.out; omega⟩, ⟨uB BK641.out⟩, ⟨bl⟩⟩
   ·
    rw [if_neg c4] at H
    have c4b0 : decide (x5_1 < (l0.length : Int)) = false := decide_eq_false c4
    clear c4
    obtain rfl := Option.some.inj H
    go_wp2
    repeat (go_quiet (fail); try go_wp2)
    go_ret
    exact ⟨re_, bl⟩
end Go.Proofs.YtgcbejidponoaaaGreatDoor.X
