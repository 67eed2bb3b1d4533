/- Printed by a program of this session's own: what functions of the program compute, and that the machine computes it. No condition of its own. -/
import Derived.Test.YtgcbejidponoaaaGreatDoorM3
import Derived.Test.YtgcbejidponoaaaGreatDoorM6
import Derived.Test.YtgcbejidponoaaaGreatDoorM7
import Derived.Test.YtgcbejidponoaaaGreatDoorM8
import Derived.Test.YtgcbejidponoaaaGreatDoorM11
import Derived.Test.YtgcbejidponoaaaGreatDoorM12
import Derived.Test.YtgcbejidponoaaaGreatDoorM13
import Derived.Test.YtgcbejidponoaaaGreatDoorM14
namespace Go.Proofs.YtgcbejidponoaaaGreatDoor.X
open Go.RowKit Go.Proofs.YtgcbejidponoaaaGreatDoorW.PrintWords Go.Proofs.YtgcbejidponoaaaGreatDoorW.PrintLast Go.Proofs.YtgcbejidponoaaaGreatDoorW.PrintMore
attribute [local go_sem] max2_int min2_int max_two min_two max_three min_three max_four min_four
set_option linter.unusedVariables false
set_option linter.unusedSimpArgs false
set_option maxHeartbeats 8000000
set_option maxRecDepth 100000
def ebbtideref09_Text.l0 : Nat → List (S48) → List ByteArray → Int → Option (ByteArray)
 | 0, _, _, _ => none
 | k + 1, x0, x3, x4 => if x4 < (x0.length : Int) then (if 0 ≤ x4 then ((ebbtideref08_Text.f k (([(⟨(rd_T48 x0 x4).f0.f0, (rd_T48 x0 x4).f0.f1, (⟨(rd_T48 x0 x4).f0.f2.f0, (rd_T48 x0 x4).f0.f2.f1⟩ : S43)⟩ : S45)] : List (S45)))).bind fun t674 => (if (rd_T48 x0 x4).f1 = true then ((ebbtideref01_Number.f k ((rd_T48 x0 x4).f0.f0)).bind fun t677 => (if 1 + t677.size ≤ 9223372036854775807 then (if ((⟨#[33]⟩ : ByteArray) ++ t677).size + 1 ≤ 9223372036854775807 then (if (((⟨#[33]⟩ : ByteArray) ++ t677) ++ (⟨#[124]⟩ : ByteArray)).size + ((rd_T48 x0 x4).f0.f1).size ≤ 9223372036854775807 then (if x3.length < 8796093022208 then (ebbtideref09_Text.l0 k x0 (x3 ++ [(((⟨#[33]⟩ : ByteArray) ++ t677) ++ (⟨#[124]⟩ : ByteArray)) ++ ((rd_T48 x0 x4).f0.f1)]) (wrap64 (x4 + 1))) else (none)) else (none)) else (none)) else (none))) else (if x3.length < 8796093022208 then (ebbtideref09_Text.l0 k x0 (x3 ++ [t674]) (wrap64 (x4 + 1))) else (none)))) else (none)) else ((ebbtideref02_Join.f k (⟨#[59]⟩ : ByteArray) x3).bind fun t669 => (some t669))
def ebbtideref09_Text.f (k : Nat) (l0 : List (S48)) : Option (ByteArray) := if (l0.length : Int) = 0 then (some (⟨#[45]⟩ : ByteArray)) else (ebbtideref09_Text.l0 k l0 ([] : List ByteArray) 0)
theorem ebbtideref09_Text.mono_l : ∀ k, (∀ y0 y1 y2, LeC (ebbtideref09_Text.l0 k y0 y1 y2) (ebbtideref09_Text.l0 (k + 1) y0 y1 y2))
 | 0 => fun _ _ _ => ⟨fun r h => by simp [ebbtideref09_Text.l0] at h⟩
 | k + 1 => by have ih0 := ebbtideref09_Text.mono_l k; exact fun _ _ _ => by unfold ebbtideref09_Text.l0; exact lm
theorem ebbtideref09_Text.mono : ∀ a0 k, LeO (ebbtideref09_Text.f k a0) (ebbtideref09_Text.f (k + 1) a0) := by
 intro a0 k
 have ih0 := ebbtideref09_Text.mono_l k
 unfold ebbtideref09_Text.f
 exact lo
instance ebbtideref09_Text.mI {a0 k} : LeC (ebbtideref09_Text.f k a0) (ebbtideref09_Text.f (k + 1) a0) := ⟨ebbtideref09_Text.mono _ _⟩
def ebbtideref09_Text.T9 : Bool × List (List Nat × List Nat) := (true, [([], []), ([], []), ([0, 1], [0, 1]), ([2], [2]), ([3], [3]), ([4], [4]), ([5], [5]), ([6], [6]), ([7], [7]), ([], []), ([], []), ([9, 10], [9, 10]), ([11], [11]), ([12], [12]), ([13], [13]), ([8, 14], [8, 14]), ([15, 6, 0, 1, 2, 3, 4, 5, 6, 7, 8, 9, 10, 11, 12, 13, 14, 15], [15])])
def ebbtideref09_Text.B9 : List Nat := [0, 0, 3, 7, 15, 31, 63, 127, 255, 0, 0, 1536, 3584, 7680, 15872, 32767, 65535]
theorem ebbtideref09_Text.tab9 : rtab .any (opsOf Tryz.f15 9) = ebbtideref09_Text.T9 := by kernel_rfl
theorem ebbtideref09_Text.bits9 : waitsOk ebbtideref09_Text.T9.2 ebbtideref09_Text.B9 = true := by kernel_rfl
theorem ebbtideref09_Text.calls (k : Nat) (A0 : Option Addr) (c0 : Nat) (l0 : List (S48)) (r : ByteArray) (w : World) (hr0 : Kd.C k48 w A0 l0.length l0) (hc0 : l0.length ≤ c0) (h : ebbtideref09_Text.f k l0 = some r) :
 Calls Tryz.prog 15 #[.slice A0 l0.length c0] w fun e w' => e = .returned (.string r) ∧ Below w.heap.size w w' := by
 have hu45 := Tryz.underlying45
 have HR0 := Aside0.mk hr0
 have HC0 := Aside0.mk hc0
 clear hr0 hc0
 have HB := Aside0.mk (Below.refl w.heap.size w)
 have H : (if (l0.length : Int) = 0 then (some (⟨#[45]⟩ : ByteArray)) else (ebbtideref09_Text.l0 k l0 ([] : List ByteArray) 0)) = some r := h
 clear h
 by_cases c2 : (l0.length : Int) = 0
 ·
  rw [if_pos c2] at H
  have c2b0 : ((l0.length : Int) == 0) = true := beq_iff_eq.mpr c2
  have c2b1 : ((l0.length : Int) != 0) = false := bne_eq_false_iff_eq.mpr c2
  clear c2
  obtain rfl := Option.some.inj H
  go_enter Tryz.func15, Tryz.ntmps15
  go_wp2
  go_ret
  exact ⟨re_, uW HB.out⟩
 ·
  rw [if_neg c2] at H
  have c2b0 : ((l0.length : Int) == 0) = false := beq_eq_false_iff_ne.mpr c2
  have c2b1 : ((l0.length : Int) != 0) = true := bne_iff_ne.mpr c2
  have c2b2 : ¬ (l0 = []) := fun h_ => c2 (by rw [h_]; rfl)
  have H' := Aside0.mk H
  clear H
  go_enter Tryz.func15, Tryz.ntmps15
  go_wp2
  go_loopg [3, 4] k (fun kq v3 v4 w' => ∃ (x3_1 : List ByteArray) (x4_1 : Int), v4 = .int .i64 x4_1 ∧ Aside0 (ebbtideref09_Text.l0 kq l0 x3_1 x4_1 = some r) ∧ Aside0 (kq ≤ k) ∧ Aside0 (Kd.R Kd.string 9 w' w.heap.size (fun _ => True) v3 x3_1) ∧ Aside0 (Below w.heap.size w w'))
  case atStart => exact ⟨(([] : List ByteArray)), (0), rs_, H', ⟨Nat.le_refl _⟩, ⟨nl_⟩, ⟨uW HB.out⟩⟩
  case round =>
   clear H'
   try clear c1
   try clear c2
   try clear c2b0
   try clear c2b1
   try clear c2b2
   try clear p2
   obtain ⟨x3_1, x4_1, rfl, HA, HK1, HO_3, HB⟩ := hrel
   cases gk with
   | zero => exact absurd HA.out (by simp [ebbtideref09_Text.l0])
   | succ k1 =>
    have H := HA.out
    clear HA
    simp only [ebbtideref09_Text.l0] at H
    by_cases c3 : x4_1 < (l0.length : Int)
    ·
     rw [if_pos c3] at H
     have c3b0 : decide (x4_1 < (l0.length : Int)) = true := decide_eq_true c3
     clear c3
     obtain ⟨c4b0, H⟩ := gdd H
     obtain ⟨y671, hy671⟩ : ∃ y_ : List (S45), y_ = (([(⟨(rd_T48 l0 x4_1).f0.f0, (rd_T48 l0 x4_1).f0.f1, (⟨(rd_T48 l0 x4_1).f0.f2.f0, (rd_T48 l0 x4_1).f0.f2.f1⟩ : S43)⟩ : S45)] : List (S45))) := ⟨_, rfl⟩
     replace H : ((ebbtideref08_Text.f k1 y671).bind fun t674 => (if (rd_T48 l0 x4_1).f1 = true then ((ebbtideref01_Number.f k1 ((rd_T48 l0 x4_1).f0.f0)).bind fun t677 => (if 1 + t677.size ≤ 9223372036854775807 then (if ((⟨#[33]⟩ : ByteArray) ++ t677).size + 1 ≤ 9223372036854775807 then (if (((⟨#[33]⟩ : ByteArray) ++ t677) ++ (⟨#[124]⟩ : ByteArray)).size + ((rd_T48 l0 x4_1).f0.f1).size ≤ 9223372036854775807 then (if x3_1.length < 8796093022208 then (ebbtideref09_Text.l0 k1 l0 (x3_1 ++ [(((⟨#[33]⟩ : ByteArray) ++ t677) ++ (⟨#[124]⟩ : ByteArray)) ++ ((rd_T48 l0 x4_1).f0.f1)]) (wrap64 (x4_1 + 1))) else (none)) else (none)) else (none)) else (none))) else (if x3_1.length < 8796093022208 then (ebbtideref09_Text.l0 k1 l0 (x3_1 ++ [t674]) (wrap64 (x4_1 + 1))) else (none)))) = some r := by first | (rw [hy671]; with_reducible exact H) | (have H2_ := (Option.bind_some _ _).symm.trans H; rw [hy671]; with_reducible exact H2_) | (have H2_ := (Option.bind_some _ _).symm.trans H; with_reducible exact H2_) | with_reducible exact H | (rw [hy671]; exact H) | exact H
     have Ny671 := Aside0.mk hy671
     clear hy671
     obtain ⟨t674, A5, H⟩ := bs H
     try dsimp only at H
     obtain ⟨bq6, hbq6⟩ : ∃ b_ : Bool, b_ = ((rd_T48 l0 x4_1).f1) := ⟨_, rfl⟩
     replace H : (if bq6 = true then ((ebbtideref01_Number.f k1 ((rd_T48 l0 x4_1).f0.f0)).bind fun t677 => (if 1 + t677.size ≤ 9223372036854775807 then (if ((⟨#[33]⟩ : ByteArray) ++ t677).size + 1 ≤ 9223372036854775807 then (if (((⟨#[33]⟩ : ByteArray) ++ t677) ++ (⟨#[124]⟩ : ByteArray)).size + ((rd_T48 l0 x4_1).f0.f1).size ≤ 9223372036854775807 then (if x3_1.length < 8796093022208 then (ebbtideref09_Text.l0 k1 l0 (x3_1 ++ [(((⟨#[33]⟩ : ByteArray) ++ t677) ++ (⟨#[124]⟩ : ByteArray)) ++ ((rd_T48 l0 x4_1).f0.f1)]) (wrap64 (x4_1 + 1))) else (none)) else (none)) else (none)) else (none))) else (if x3_1.length < 8796093022208 then (ebbtideref09_Text.l0 k1 l0 (x3_1 ++ [t674]) (wrap64 (x4_1 + 1))) else (none))) = some r := by rw [← hbq6] at H; exact H
     have Nbq6 := Aside0.mk hbq6
     clear hbq6
     by_cases c7 : bq6 = true
     ·
      subst c7
      rw [if_pos rfl] at H
      obtain ⟨t677, A8, H⟩ := bs H
      try dsimp only at H
      obtain ⟨c9, H⟩ := gd H
      have c9b0 := eq_true c9
      have c9b1 : decide (1 + t677.size ≤ 9223372036854775807) = true := decide_eq_true c9
      try have c9b2 : (9223372036854775807 < 1 + t677.size) = False := eq_false (Nat.not_lt.2 c9)
      obtain ⟨c10, H⟩ := gd H
      have c10b0 := eq_true c10
      have c10b1 : decide (((⟨#[33]⟩ : ByteArray) ++ t677).size + 1 ≤ 9223372036854775807) = true := decide_eq_true c10
      try have c10b2 : (9223372036854775807 < ((⟨#[33]⟩ : ByteArray) ++ t677).size + 1) = False := eq_false (Nat.not_lt.2 c10)
      try have c10b8 := c10b2
      try simp only [ByteArray.size_append] at c10b8
      try have c10b9 := c10b2
      try simp only [ByteArray.size_append, show (⟨#[33]⟩ : ByteArray).size = 1 from rfl] at c10b9
      obtain ⟨c11, H⟩ := gd H
      have c11b0 := eq_true c11
      have c11b1 : decide ((((⟨#[33]⟩ : ByteArray) ++ t677) ++ (⟨#[124]⟩ : ByteArray)).size + ((rd_T48 l0 x4_1).f0.f1).size ≤ 9223372036854775807) = true := decide_eq_true c11
      try have c11b2 : (9223372036854775807 < (((⟨#[33]⟩ : ByteArray) ++ t677) ++ (⟨#[124]⟩ : ByteArray)).size + ((rd_T48 l0 x4_1).f0.f1).size) = False := eq_false (Nat.not_lt.2 c11)
      try have c11b8 := c11b2
      try simp only [ByteArray.size_append] at c11b8
      try have c11b9 := c11b2
      try simp only [ByteArray.size_append, show (⟨#[124]⟩ : ByteArray).size = 1 from rfl, show (⟨#[33]⟩ : ByteArray).size = 1 from rfl] at c11b9
      obtain ⟨c12, H⟩ := gd H
      have LMc12 := Aside0.mk c12
      clear c12
      obtain ⟨y679, hy679⟩ : ∃ y_ : List ByteArray, y_ = (x3_1 ++ [(((⟨#[33]⟩ : ByteArray) ++ t677) ++ (⟨#[124]⟩ : ByteArray)) ++ ((rd_T48 l0 x4_1).f0.f1)]) := ⟨_, rfl⟩
      replace H : (ebbtideref09_Text.l0 k1 l0 y679 (wrap64 (x4_1 + 1))) = some r := by first | (rw [hy679]; with_reducible exact H) | (have H2_ := (Option.bind_some _ _).symm.trans H; rw [hy679]; with_reducible exact H2_) | (have H2_ := (Option.bind_some _ _).symm.trans H; with_reducible exact H2_) | with_reducible exact H | (rw [hy679]; exact H) | exact H
      have Ny679 := Aside0.mk hy679
      clear hy679
      have H' := Aside0.mk H
      clear H
      have p670 : 0 ≤ (x4_1 : Int) := od
      have q670 : x4_1 < (l0.length : Int) := od
      obtain ⟨ad670, e670, hx670_0, hx670_1, hx670_2, hx670_3, hx670_4⟩ := at_T48 HR0.out x4_1 p670 q670
      (try rw [← Nbq6.out] at hx670_3)
      (try rw [← Nbq6.out] at hx670_4)
      cases e670
      replace hx670_0 := kc HB hx670_0
      replace hx670_1 := kc HB hx670_1
      replace hx670_2 := kc HB hx670_2
      replace hx670_3 := kc HB hx670_3
      replace hx670_4 := kc HB hx670_4
      replace p670 := eq_true p670
      replace q670 := eq_true q670
      try go_wp2_with (first | ((with_reducible refine gate_dst (N := 20) rfl ?_); refine Kd.R_lit k45 _ 45 ?hg (N := 20) ?hd (xs := ([(⟨(rd_T48 l0 x4_1).f0.f0, (rd_T48 l0 x4_1).f0.f1, (⟨(rd_T48 l0 x4_1).f0.f2.f0, (rd_T48 l0 x4_1).f0.f2.f1⟩ : S43)⟩ : S45)] : List (S45))) (inner := [.int .i64 ((rd_T48 l0 x4_1).f0.f0), .string ((rd_T48 l0 x4_1).f0.f1), .int .i64 ((rd_T48 l0 x4_1).f0.f2.f0), .bool ((rd_T48 l0 x4_1).f0.f2.f1)]) (ok := fun _ => True) (okp := fun _ => True) ?hr ?hp (fun _ hk => hk) trivial (Below.refl _ _) (Nat.le_refl _) (by simp) ?_; (case hd => rfl); (case hg => rfl); (case hr => first | (go_simp; done) | (go_simp; rfl)); (case hp => exact (Reps.c4 (show Kd.M k45 _ _ _ (⟨(rd_T48 l0 x4_1).f0.f0, (rd_T48 l0 x4_1).f0.f1, (⟨(rd_T48 l0 x4_1).f0.f2.f0, (rd_T48 l0 x4_1).f0.f2.f1⟩ : S43)⟩ : S45) [.int .i64 ((rd_T48 l0 x4_1).f0.f0), .string ((rd_T48 l0 x4_1).f0.f1), .int .i64 ((rd_T48 l0 x4_1).f0.f2.f0), .bool ((rd_T48 l0 x4_1).f0.f2.f1)] from (k45_mkM _ _ _ (⟨(rd_T48 l0 x4_1).f0.f0, (rd_T48 l0 x4_1).f0.f1, (⟨(rd_T48 l0 x4_1).f0.f2.f0, (rd_T48 l0 x4_1).f0.f2.f1⟩ : S43)⟩ : S45) )) (Reps.none _ _))); intro v672 w13 ho14 hb hg_ hnew_; clear hg_ hnew_; (first | rw [← Ny671.out] at ho14 | (simp only [Int.reduceToNat] at ho14; rw [← Ny671.out] at ho14)); replace HO_3 := cR HO_3 hb; have HO673 := Aside0.mk (Kd.R_lower ho14 (below_size (uW HB.out))); replace HB := cW HB hb; clear hb ho14; obtain ⟨Ao15, co15, eo15⟩ := Kd.R_slice HO673.out; subst eo15) | (refine gL (some 21) rfl Tryz.func33 #[.slice Ao15 y671.length co15] ?_; (with_reducible refine (ebbtideref08_Text.calls k1 _ _ y671 t674 _ ?side1 ?side2 A5.out).mono ?_); (case side1 => exact uC <| (Kd.R_reads' HO673.out).2.2); (case side2 => exact (Kd.R_reads' HO673.out).2.1); rintro e w16 ⟨rfl, hb⟩; refine ⟨_, rfl, ?_⟩; replace HO_3 := cR HO_3 hb; replace HO673 := cR HO673 hb; replace HB := cW HB hb; (try clear hb); have p675 : 0 ≤ (x4_1 : Int) := od; have q675 : x4_1 < (l0.length : Int) := od; obtain ⟨ad675, e675, hx675_0, hx675_1, hx675_2, hx675_3, hx675_4⟩ := at_T48 HR0.out x4_1 p675 q675; (try rw [← Nbq6.out] at hx675_3); (try rw [← Nbq6.out] at hx675_4); obtain rfl : ad670 = ad675 := (by injection e675); replace hx675_0 := kc HB hx675_0; replace hx675_1 := kc HB hx675_1; replace hx675_2 := kc HB hx675_2; replace hx675_3 := kc HB hx675_3; replace hx675_4 := kc HB hx675_4; replace p675 := eq_true p675; replace q675 := eq_true q675))
      have n0_ := Aside0.mk (Kd.R_drew HO_3.out)
      have n1_ := Aside0.mk (Kd.R_drew HO673.out)
      have n2_ := Aside0.mk (below_drew1 HB.out)
      clear HO_3
      clear HO673
      clear HB
      have HO_3 := n0_
      have HO673 := n1_
      have HB := n2_
      clear n0_ n1_ n2_
      have p676 : 0 ≤ (x4_1 : Int) := od
      have q676 : x4_1 < (l0.length : Int) := od
      obtain ⟨ad676, e676, hx676_0, hx676_1, hx676_2, hx676_3, hx676_4⟩ := at_T48 HR0.out x4_1 p676 q676
      have hw676_4 := hx676_4
      have hw676_3 := hx676_3
      have hw676_2 := hx676_2
      have hw676_1 := hx676_1
      have hw676_0 := hx676_0
      (try rw [← Nbq6.out] at hx676_3)
      (try rw [← Nbq6.out] at hw676_3)
      (try rw [← Nbq6.out] at hx676_4)
      (try rw [← Nbq6.out] at hw676_4)
      obtain rfl : ad670 = ad676 := (by injection e676)
      replace hx676_0 := kc HB hx676_0
      replace hx676_1 := kc HB hx676_1
      replace hx676_2 := kc HB hx676_2
      replace hx676_3 := kc HB hx676_3
      replace hx676_4 := kc HB hx676_4
      replace p676 := eq_true p676
      replace q676 := eq_true q676
      have p678 : 0 ≤ (x4_1 : Int) := od
      have q678 : x4_1 < (l0.length : Int) := od
      obtain ⟨ad678, e678, hx678_0, hx678_1, hx678_2, hx678_3, hx678_4⟩ := at_T48 HR0.out x4_1 p678 q678
      have hw678_4 := hx678_4
      have hw678_3 := hx678_3
      have hw678_2 := hx678_2
      have hw678_1 := hx678_1
      have hw678_0 := hx678_0
      (try rw [← Nbq6.out] at hx678_3)
      (try rw [← Nbq6.out] at hw678_3)
      (try rw [← Nbq6.out] at hx678_4)
      (try rw [← Nbq6.out] at hw678_4)
      obtain rfl : ad670 = ad678 := (by injection e678)
      replace hx678_0 := kc HB hx678_0
      replace hx678_1 := kc HB hx678_1
      replace hx678_2 := kc HB hx678_2
      replace hx678_3 := kc HB hx678_3
      replace hx678_4 := kc HB hx678_4
      replace p678 := eq_true p678
      replace q678 := eq_true q678
      refine start_ (n := 17) (S := fun w' => w'.cell? (ad670.add ((x4_1).toNat * 5)) = some (.int .i64 ((rd_T48 l0 x4_1).f0.f0)) ∧ w'.cell? ⟨(ad670.add ((x4_1).toNat * 5)).block, (ad670.add ((x4_1).toNat * 5)).off + 1, none⟩ = some (.string ((rd_T48 l0 x4_1).f0.f1)) ∧ w'.cell? ⟨(ad670.add ((x4_1).toNat * 5)).block, (ad670.add ((x4_1).toNat * 5)).off + 2, none⟩ = some (.int .i64 ((rd_T48 l0 x4_1).f0.f2.f0)) ∧ w'.cell? ⟨(ad670.add ((x4_1).toNat * 5)).block, (ad670.add ((x4_1).toNat * 5)).off + 3, none⟩ = some (.bool ((rd_T48 l0 x4_1).f0.f2.f1)) ∧ w'.cell? ⟨(ad670.add ((x4_1).toNat * 5)).block, (ad670.add ((x4_1).toNat * 5)).off + 4, none⟩ = some (.bool (true)) ∧ w'.cell? (ad670.add ((x4_1).toNat * 5)) = some (.int .i64 ((rd_T48 l0 x4_1).f0.f0)) ∧ w'.cell? ⟨(ad670.add ((x4_1).toNat * 5)).block, (ad670.add ((x4_1).toNat * 5)).off + 1, none⟩ = some (.string ((rd_T48 l0 x4_1).f0.f1)) ∧ w'.cell? ⟨(ad670.add ((x4_1).toNat * 5)).block, (ad670.add ((x4_1).toNat * 5)).off + 2, none⟩ = some (.int .i64 ((rd_T48 l0 x4_1).f0.f2.f0)) ∧ w'.cell? ⟨(ad670.add ((x4_1).toNat * 5)).block, (ad670.add ((x4_1).toNat * 5)).off + 3, none⟩ = some (.bool ((rd_T48 l0 x4_1).f0.f2.f1)) ∧ w'.cell? ⟨(ad670.add ((x4_1).toNat * 5)).block, (ad670.add ((x4_1).toNat * 5)).off + 4, none⟩ = some (.bool (true))) (ds := []) #[false, false, false, false, false, false, false, false, false, false, false, false, false, false, false, false, false] (by kernel_rfl) rfl rfl ⟨(kc HB hw676_0), (kc HB hw676_1), (kc HB hw676_2), (kc HB hw676_3), (kc HB hw676_4), (kc HB hw678_0), (kc HB hw678_1), (kc HB hw678_2), (kc HB hw678_3), (kc HB hw678_4)⟩ (fun hHeld => ?_); refine with_tabW ebbtideref09_Text.tab9 ebbtideref09_Text.bits9 (fun HT_ HW_ => ?_)
      generalize w16.drew = w17 at HO_3 HO673 HB hx676_0 hx676_1 hx676_2 hx676_3 hx676_4 hx678_0 hx678_1 hx678_2 hx678_3 hx678_4 hHeld ⊢
      refine p1 0 (some 27) ?_
      refine p1 1 (some 28) ?_
      refine p1 2 (some 29) ?_
      refine p1 3 (some 30) ?_
      refine p1 4 (some 31) ?_
      refine p1 9 (some 36) ?_
      refine p1 10 (some 37) ?_
      refine p1 11 (some 38) ?_
      refine p1 12 (some 39) ?_
      refine p1 13 (some 40) ?_
      refine t1 5 (some 32) rfl rfl hHeld (Or.inl ⟨by rfl, by rintro w' ⟨s0, s1, s2, s3, s4, s5, s6, s7, s8, s9⟩; go_simp; with_reducible rfl⟩) ?_
      refine t1 14 (some 41) rfl rfl hHeld (Or.inl ⟨by rfl, by rintro w' ⟨s0, s1, s2, s3, s4, s5, s6, s7, s8, s9⟩; go_simp; with_reducible rfl⟩) ?_
      refine one_ (i := 6) (N := some 33) #[true, true, true, true, true, true, true, false, false, true, true, true, true, true, true, false, false] rfl rfl (one_of HT_.out (by kernel_rfl)) (by decide) (fun K hK => ?_)
      refine goes_ Tryz.func34 (by kernel_rfl) rfl #[.int .i64 ((rd_T48 l0 x4_1).f0.f0)] (by rfl) rfl rfl (by (try simp only [List.map_toArray, List.map_cons, List.map_nil]); first | done | rfl | (simp only [List.length_drop, List.length_take]; rfl)) ?_
      with_reducible refine (ebbtideref01_Number.calls k1 ((rd_T48 l0 x4_1).f0.f0) t677 _ A8.out).mono ?_
      rintro e w18 ⟨rfl, hb⟩
      refine ⟨_, rfl, ?_⟩
      have n0_ := cR HO_3 hb
      have n1_ := cR HO673 hb
      have n2_ := cW HB hb
      clear HO_3
      clear HO673
      clear HB
      have HO_3 := n0_
      have HO673 := n1_
      have HB := n2_
      clear n0_ n1_ n2_
      (try clear hb)
      (try clear hb2)
      (try clear hk)
      (try clear hi)
      refine hK.out _ _ ⟨(kc HB hw676_0), (kc HB hw676_1), (kc HB hw676_2), (kc HB hw676_3), (kc HB hw676_4), (kc HB hw678_0), (kc HB hw678_1), (kc HB hw678_2), (kc HB hw678_3), (kc HB hw678_4)⟩ (fun hHeld => ?_)
      clear hK K
      refine norm_ (a' := ?_) ?_ ?_
      rotate_left
      ·
       show Act.put _ (some 33) _ = _
       simp only [Act.put, List.setIfInBounds_toArray, List.set_cons_zero, List.set_cons_succ, i64_w, i32_w]
       rfl
      refine p1 7 (some 34) ?_
      refine p1 8 (some 35) ?_
      refine p1 15 (some 42) ?_
      refine p1 16 (some 5) ?_
      refine done_ (done_of HT_.out (by kernel_rfl)) ?_
      try go_wp2_with (first | ((with_reducible refine gate_builtin (b := .append) (xs := #[.tmp 43, .tmp 45]) rfl ?_); at_builtin; refine Kd.R_append Kd.string (w0 := w) w.heap.size rfl (.tmp 43) (.tmp 45) 52 9 (.string ⟨#[]⟩) 16 rfl Tryz.underlying52 info9 rfl (by decide) (by omega) u3 x3_1 ((((⟨#[33]⟩ : ByteArray) ++ t677) ++ (⟨#[124]⟩ : ByteArray)) ++ ((rd_T48 l0 x4_1).f0.f1)) [.string ((((⟨#[33]⟩ : ByteArray) ++ t677) ++ (⟨#[124]⟩ : ByteArray)) ++ ((rd_T48 l0 x4_1).f0.f1))] (fun _ => True) (fun _ => False) rfl rfl ?aP (fun _ hk => hk.elim) ?aF ?aO ?aB ?aS ?aL ?_; (case aP => exact rfl); (case aB => exact (uW HB.out)); (case aF => exact (fun _ _ => trivial)); (case aO => exact (uR HO_3.out)); (case aS => exact (below_size (uW HB.out))); (case aL => have := LMc12.out; omega); intro v680 w19 ho hb hg hat; rw [← Ny679.out] at ho; replace HO673 := Aside0.mk (Kd.R_over' (uR HO673.out) (Kd.R_typed (uR HO_3.out)) (by decide) hg); replace HB := Aside0.mk (hb); have HO681 := Aside0.mk (ho); clear HO_3; clear ho hb hg hat))
      go_roundg k1
      case measure => have := HK1.out; omega
      case rel => exact ⟨(y679), (wrap64 (x4_1 + 1)), rs_, (by first | exact H' | (rw [← Nbq6.out]; exact H')), ⟨by have := HK1.out; omega⟩, ⟨uR HO681.out⟩, ⟨uW HB.out⟩⟩
     ·
      replace c7 := Bool.eq_false_iff.mpr c7
      subst c7
      rw [if_neg (show ¬ (false = true) by decide)] at H
      obtain ⟨c20, H⟩ := gd H
      have LMc20 := Aside0.mk c20
      clear c20
      obtain ⟨y682, hy682⟩ : ∃ y_ : List ByteArray, y_ = (x3_1 ++ [t674]) := ⟨_, rfl⟩
      replace H : (ebbtideref09_Text.l0 k1 l0 y682 (wrap64 (x4_1 + 1))) = some r := by first | (rw [hy682]; with_reducible exact H) | (have H2_ := (Option.bind_some _ _).symm.trans H; rw [hy682]; with_reducible exact H2_) | (have H2_ := (Option.bind_some _ _).symm.trans H; with_reducible exact H2_) | with_reducible exact H | (rw [hy682]; exact H) | exact H
      have Ny682 := Aside0.mk hy682
      clear hy682
      have H' := Aside0.mk H
      clear H
      have p670 : 0 ≤ (x4_1 : Int) := od
      have q670 : x4_1 < (l0.length : Int) := od
      obtain ⟨ad670, e670, hx670_0, hx670_1, hx670_2, hx670_3, hx670_4⟩ := at_T48 HR0.out x4_1 p670 q670
      (try rw [← Nbq6.out] at hx670_3)
      (try rw [← Nbq6.out] at hx670_4)
      cases e670
      replace hx670_0 := kc HB hx670_0
      replace hx670_1 := kc HB hx670_1
      replace hx670_2 := kc HB hx670_2
      replace hx670_3 := kc HB hx670_3
      replace hx670_4 := kc HB hx670_4
      replace p670 := eq_true p670
      replace q670 := eq_true q670
      go_wp2_with (first | ((with_reducible refine gate_dst (N := 20) rfl ?_); refine Kd.R_lit k45 _ 45 ?hg (N := 20) ?hd (xs := ([(⟨(rd_T48 l0 x4_1).f0.f0, (rd_T48 l0 x4_1).f0.f1, (⟨(rd_T48 l0 x4_1).f0.f2.f0, (rd_T48 l0 x4_1).f0.f2.f1⟩ : S43)⟩ : S45)] : List (S45))) (inner := [.int .i64 ((rd_T48 l0 x4_1).f0.f0), .string ((rd_T48 l0 x4_1).f0.f1), .int .i64 ((rd_T48 l0 x4_1).f0.f2.f0), .bool ((rd_T48 l0 x4_1).f0.f2.f1)]) (ok := fun _ => True) (okp := fun _ => True) ?hr ?hp (fun _ hk => hk) trivial (Below.refl _ _) (Nat.le_refl _) (by simp) ?_; (case hd => rfl); (case hg => rfl); (case hr => first | (go_simp; done) | (go_simp; rfl)); (case hp => exact (Reps.c4 (show Kd.M k45 _ _ _ (⟨(rd_T48 l0 x4_1).f0.f0, (rd_T48 l0 x4_1).f0.f1, (⟨(rd_T48 l0 x4_1).f0.f2.f0, (rd_T48 l0 x4_1).f0.f2.f1⟩ : S43)⟩ : S45) [.int .i64 ((rd_T48 l0 x4_1).f0.f0), .string ((rd_T48 l0 x4_1).f0.f1), .int .i64 ((rd_T48 l0 x4_1).f0.f2.f0), .bool ((rd_T48 l0 x4_1).f0.f2.f1)] from (k45_mkM _ _ _ (⟨(rd_T48 l0 x4_1).f0.f0, (rd_T48 l0 x4_1).f0.f1, (⟨(rd_T48 l0 x4_1).f0.f2.f0, (rd_T48 l0 x4_1).f0.f2.f1⟩ : S43)⟩ : S45) )) (Reps.none _ _))); intro v672 w21 ho22 hb hg_ hnew_; clear hg_ hnew_; (first | rw [← Ny671.out] at ho22 | (simp only [Int.reduceToNat] at ho22; rw [← Ny671.out] at ho22)); replace HO_3 := cR HO_3 hb; have HO673 := Aside0.mk (Kd.R_lower ho22 (below_size (uW HB.out))); replace HB := cW HB hb; clear hb ho22; obtain ⟨Ao23, co23, eo23⟩ := Kd.R_slice HO673.out; subst eo23) | (refine gL (some 21) rfl Tryz.func33 #[.slice Ao23 y671.length co23] ?_; (with_reducible refine (ebbtideref08_Text.calls k1 _ _ y671 t674 _ ?side1 ?side2 A5.out).mono ?_); (case side1 => exact uC <| (Kd.R_reads' HO673.out).2.2); (case side2 => exact (Kd.R_reads' HO673.out).2.1); rintro e w24 ⟨rfl, hb⟩; refine ⟨_, rfl, ?_⟩; replace HO_3 := cR HO_3 hb; replace HO673 := cR HO673 hb; replace HB := cW HB hb; (try clear hb); have p675 : 0 ≤ (x4_1 : Int) := od; have q675 : x4_1 < (l0.length : Int) := od; obtain ⟨ad675, e675, hx675_0, hx675_1, hx675_2, hx675_3, hx675_4⟩ := at_T48 HR0.out x4_1 p675 q675; (try rw [← Nbq6.out] at hx675_3); (try rw [← Nbq6.out] at hx675_4); obtain rfl : ad670 = ad675 := (by injection e675); replace hx675_0 := kc HB hx675_0; replace hx675_1 := kc HB hx675_1; replace hx675_2 := kc HB hx675_2; replace hx675_3 := kc HB hx675_3; replace hx675_4 := kc HB hx675_4; replace p675 := eq_true p675; replace q675 := eq_true q675) | ((with_reducible refine gate_builtin (b := .append) (xs := #[.tmp 43, .tmp 45]) rfl ?_); at_builtin; refine Kd.R_append Kd.string (w0 := w) w.heap.size rfl (.tmp 43) (.tmp 45) 52 9 (.string ⟨#[]⟩) 16 rfl Tryz.underlying52 info9 rfl (by decide) (by omega) u3 x3_1 t674 [.string t674] (fun _ => True) (fun _ => False) rfl rfl ?aP (fun _ hk => hk.elim) ?aF ?aO ?aB ?aS ?aL ?_; (case aP => exact rfl); (case aB => exact (uW HB.out)); (case aF => exact (fun _ _ => trivial)); (case aO => exact (uR HO_3.out)); (case aS => exact (below_size (uW HB.out))); (case aL => have := LMc20.out; omega); intro v683 w25 ho hb hg hat; rw [← Ny682.out] at ho; replace HO673 := Aside0.mk (Kd.R_over' (uR HO673.out) (Kd.R_typed (uR HO_3.out)) (by decide) hg); replace HB := Aside0.mk (hb); have HO684 := Aside0.mk (ho); clear HO_3; clear ho hb hg hat))
      go_roundg k1
      case measure => have := HK1.out; omega
      case rel => exact ⟨(y682), (wrap64 (x4_1 + 1)), rs_, (by first | exact H' | (rw [← Nbq6.out]; exact H')), ⟨by have := HK1.out; omega⟩, ⟨uR HO684.out⟩, ⟨uW HB.out⟩⟩
    ·
     rw [if_neg c3] at H
     have c3b0 : decide (x4_1 < (l0.length : Int)) = false := decide_eq_false c3
     clear c3
     obtain ⟨t669, A26, H⟩ := bs H
     try dsimp only at H
     obtain rfl := Option.some.inj H
     obtain ⟨Ao27, co27, eo27⟩ := Kd.R_slice HO_3.out
     subst eo27
     go_wp2_with (first | (refine gL (some 48) rfl Tryz.func35 #[.string (⟨#[59]⟩ : ByteArray), .slice Ao27 x3_1.length co27] ?_; (with_reducible refine (ebbtideref02_Join.calls k1 (⟨#[59]⟩ : ByteArray) _ _ x3_1 t669 _ ?side1 ?side2 A26.out).mono ?_); (case side1 => exact uC <| (Kd.R_reads' HO_3.out).2.2); (case side2 => exact (Kd.R_reads' HO_3.out).2.1); rintro e w' ⟨rfl, ⟨nd, rfl⟩⟩; refine ⟨_, rfl, ?_⟩))
     go_ret
     exact ⟨re_, uW HB.out⟩
def ebbtidelaw09_DiffOf.j0 : Nat → List (S45) → List (S45) → Bool → Option (Bool)
 | 0, _, _, _ => none
 | k + 1, x0, x1, x17 => if x17 = true then (some true) else ((some (([] : List (S45)) : List (S45))).bind fun y688 => (if y688.length + x0.length < 3518437208883 then ((some (y688 ++ x0 : List (S45))).bind fun y691 => ((diff_Of.f k y691 x1).bind fun bt694 => ((ebbtideref09_Of.f k x0 x1).bind fun bt698 => ((ebbtideref09_Same.f k bt694.1 bt698.1).bind fun t702 => (if t702 = true then (if bt694.2 = bt698.2 then ((ebbtideref08_Same.f k y691 x0).bind fun t703 => (if t703 = true then ((diff_Text.f k bt694.1).bind fun t704 => ((ebbtideref09_Text.f k bt698.1).bind fun t705 => (some (t704.toList == t705.toList)))) else (none))) else (none)) else (none)))))) else (none)))
def ebbtidelaw09_DiffOf.f (k : Nat) (l0 : List (S45)) (l1 : List (S45)) : Option (Bool) := (ebbtidelaw09_alive.f k).bind fun t685 => (if t685 = true then ((ebbtideref08_Great.f k l0).bind fun t686 => (if t686 = true then (ebbtidelaw09_DiffOf.j0 k l0 l1 true) else ((ebbtideref08_Great.f k l1).bind fun t687 => (ebbtidelaw09_DiffOf.j0 k l0 l1 t687)))) else (none))
theorem ebbtidelaw09_DiffOf.mono_l : ∀ k, (∀ y0 y1 y2, LeC (ebbtidelaw09_DiffOf.j0 k y0 y1 y2) (ebbtidelaw09_DiffOf.j0 (k + 1) y0 y1 y2))
 | 0 => fun _ _ _ => ⟨fun r h => by simp [ebbtidelaw09_DiffOf.j0] at h⟩
 | k + 1 => by have ih0 := ebbtidelaw09_DiffOf.mono_l k; exact fun _ _ _ => by unfold ebbtidelaw09_DiffOf.j0; exact lm
theorem ebbtidelaw09_DiffOf.mono : ∀ a0 a1 k, LeO (ebbtidelaw09_DiffOf.f k a0 a1) (ebbtidelaw09_DiffOf.f (k + 1) a0 a1) := by
 intro a0 a1 k
 have ih0 := ebbtidelaw09_DiffOf.mono_l k
 unfold ebbtidelaw09_DiffOf.f
 exact lo
instance ebbtidelaw09_DiffOf.mI {a0 a1 k} : LeC (ebbtidelaw09_DiffOf.f k a0 a1) (ebbtidelaw09_DiffOf.f (k + 1) a0 a1) := ⟨ebbtidelaw09_DiffOf.mono _ _ _⟩
theorem ebbtidelaw09_DiffOf.calls (k : Nat) (A0 : Option Addr) (c0 : Nat) (l0 : List (S45)) (A1 : Option Addr) (c1 : Nat) (l1 : List (S45)) (r : Bool) (w : World) (hr0 : Kd.C k45 w A0 l0.length l0) (hc0 : l0.length ≤ c0) (hr1 : Kd.C k45 w A1 l1.length l1) (hc1 : l1.length ≤ c1) (hL : LD w) (h : ebbtidelaw09_DiffOf.f k l0 l1 = some r) :
 Calls Tryz.prog 3 #[.slice A0 l0.length c0, .slice A1 l1.length c1] w fun e w' => e = .returned (.bool r) ∧ Below w.heap.size w w' := by
 have HL0 := Aside0.mk hL
 clear hL
 have HR0 := Aside0.mk hr0
 have HC0 := Aside0.mk hc0
 clear hr0 hc0
 have HR1 := Aside0.mk hr1
 have HC1 := Aside0.mk hc1
 clear hr1 hc1
 have HB := Aside0.mk (Below.refl w.heap.size w)
 have H : ((ebbtidelaw09_alive.f k).bind fun t685 => (if t685 = true then ((ebbtideref08_Great.f k l0).bind fun t686 => (if t686 = true then (ebbtidelaw09_DiffOf.j0 k l0 l1 true) else ((ebbtideref08_Great.f k l1).bind fun t687 => (ebbtidelaw09_DiffOf.j0 k l0 l1 t687)))) else (none))) = some r := h
 clear h
 obtain ⟨t685, A3, H⟩ := bs H
 try dsimp only at H
 by_cases c4 : t685 = true
 ·
  subst c4
  rw [if_pos rfl] at H
  have HC5 := Aside0.mk H
  clear H
  go_enter Tryz.func3, Tryz.ntmps3
  go_upto_region 3 with (first | (refine gL (some 10) rfl Tryz.func8 #[] ?_; (with_reducible refine (ebbtidelaw09_alive.calls (hL := (by first | exact HL0.out | exact LD.below HL0.out (uW HB.out))) k  true _ A3.out).mono ?_); rintro e w6 ⟨rfl, hb⟩; refine ⟨_, rfl, ?_⟩; replace HB := cW HB hb; (try clear hb)))
  (try simp only [Act.put, List.setIfInBounds_toArray, List.set_cons_zero, List.set_cons_succ])
  go_cut [17] (fun v17 wc => ∃ (kq : Nat) (x17_4 : Bool), v17 = .bool x17_4 ∧ Aside0 (ebbtidelaw09_DiffOf.j0 kq l0 l1 x17_4 = some r) ∧ Aside0 (kq ≤ k) ∧ Aside0 (Below w.heap.size w wc))
  case first =>
   have H := HC5.out
   clear HC5
   obtain ⟨t686, A7, H⟩ := bs H
   try dsimp only at H
   by_cases c8 : t686 = true
   ·
    subst c8
    rw [if_pos rfl] at H
    have H' := Aside0.mk H
    clear H
    go_wp2_with (first | (refine gL (some 13) rfl Tryz.func9 #[.slice A0 l0.length c0] ?_; (with_reducible refine (ebbtideref08_Great.calls k _ _ l0 true _ ?side1 ?side2 A7.out).mono ?_); (case side1 => exact uC <| (Kd.C_below HR0.out HB.out)); (case side2 => exact HC0.out); rintro e w' ⟨rfl, ⟨nd, rfl⟩⟩; refine ⟨_, rfl, ?_⟩))
    go_meet
    case rel => exact ⟨_, (true), rs_, H', ⟨by first | omega | exact Nat.le_refl _⟩, ⟨uW HB.out⟩⟩
   ·
    replace c8 := Bool.eq_false_iff.mpr c8
    subst c8
    rw [if_neg (show ¬ (false = true) by decide)] at H
    obtain ⟨t687, A9, H⟩ := bs H
    try dsimp only at H
    have H' := Aside0.mk H
    clear H
    go_wp2_with (first | (refine gL (some 13) rfl Tryz.func9 #[.slice A0 l0.length c0] ?_; (with_reducible refine (ebbtideref08_Great.calls k _ _ l0 false _ ?side1 ?side2 A7.out).mono ?_); (case side1 => exact uC <| (Kd.C_below HR0.out HB.out)); (case side2 => exact HC0.out); rintro e w' ⟨rfl, ⟨nd, rfl⟩⟩; refine ⟨_, rfl, ?_⟩) | (go_at_call 9; (with_reducible refine (ebbtideref08_Great.calls k _ _ l1 t687 _ ?side1 ?side2 A9.out).mono ?_); (case side1 => exact (Kd.C_below HR1.out (uW HB.out))); (case side2 => exact HC1.out); rintro e w' ⟨rfl, ⟨nd, rfl⟩⟩))
    go_meet
    case rel => exact ⟨_, (t687), rs_, H', ⟨by first | omega | exact Nat.le_refl _⟩, ⟨uW HB.out⟩⟩
  case rest =>
   clear HC5
   try clear c1
   try clear p2
   try clear c3
   try clear c4
   try clear c8
   try clear c9
   obtain ⟨kq, x17_4, rfl, HA, HJ4, HB⟩ := hcut
   cases kq with
   | zero => exact absurd HA.out (by simp [ebbtidelaw09_DiffOf.j0])
   | succ kj4 =>
    have H := HA.out
    clear HA
    simp only [ebbtidelaw09_DiffOf.j0] at H
    by_cases c10 : x17_4 = true
    ·
     subst c10
     rw [if_pos rfl] at H
     obtain rfl := Option.some.inj H
     go_wp2
     go_ret
     exact ⟨re_, uW HB.out⟩
    ·
     replace c10 := Bool.eq_false_iff.mpr c10
     subst c10
     rw [if_neg (show ¬ (false = true) by decide)] at H
     obtain ⟨y688, Ny688, H⟩ := ys H
     try dsimp only at H
     obtain ⟨c11, H⟩ := gd H
     have LMc11 := Aside0.mk c11
     clear c11
     obtain ⟨y691, Ny691, H⟩ := ys H
     try dsimp only at H
     obtain ⟨⟨t694, t697⟩, A12, H⟩ := bs H
     try dsimp only at H
     obtain ⟨⟨t698, t699⟩, A13, H⟩ := bs H
     try dsimp only at H
     obtain ⟨t702, A14, H⟩ := bs H
     try dsimp only at H
     by_cases c15 : t702 = true
     ·
      subst c15
      rw [if_pos rfl] at H
      obtain ⟨c16, H⟩ := gd H
      have c16b0 : (t697 == t699) = true := beq_iff_eq.mpr c16
      have c16b1 : (t697 != t699) = false := bne_eq_false_iff_eq.mpr c16
      clear c16
      obtain ⟨t703, A17, H⟩ := bs H
      try dsimp only at H
      by_cases c18 : t703 = true
      ·
       subst c18
       rw [if_pos rfl] at H
       obtain ⟨t704, A19, H⟩ := bs H
       try dsimp only at H
       obtain ⟨t705, A20, H⟩ := bs H
       try dsimp only at H
       obtain rfl := Option.some.inj H
       go_wp2_with (first | ((with_reducible refine gate_dst (N := 18) rfl ?_); refine Kd.R_lit k45 _ 45 ?hg (N := 18) ?hd (xs := ([] : List (S45))) (inner := []) (ok := fun _ => True) (okp := fun _ => True) ?hr ?hp (fun _ hk => hk) trivial (Below.refl _ _) (Nat.le_refl _) (by simp) ?_; (case hd => rfl); (case hg => rfl); (case hr => first | (go_simp; done) | (go_simp; rfl)); (case hp => exact (Reps.none _ _)); intro v689 w21 ho22 hb hg_ hnew_; clear hg_ hnew_; (first | rw [← Ny688.out] at ho22 | (simp only [Int.reduceToNat] at ho22; rw [← Ny688.out] at ho22)); have HO690 := Aside0.mk (Kd.R_lower ho22 (below_size (uW HB.out))); replace HB := cW HB hb; clear hb ho22) | ((with_reducible refine gate_builtin (b := .append) (xs := #[.tmp 18, .tmp 19]) rfl ?_); at_builtin; refine Kd.R_append_rows k45 (w0 := w) w.heap.size rfl (.tmp 18) (.tmp 19) 22 45 (.agg #[(.int .i64 0), (.string ⟨#[]⟩), (.int .i64 0), (.bool false)]) 40 rfl Tryz.underlying22 info45 rfl (by decide) (by omega) v689 y688 l0 _ _ _ (fun _ => True) (fun _ => False) rfl rfl ?aO ?aR (fun _ _ h => h) (fun _ h => h.elim) ?aF ?aB ?aS ?aL ?_; (case aR => exact uC <| (Kd.C_below HR0.out HB.out)); (case aB => exact (uW HB.out)); (case aF => exact (fun _ _ => trivial)); (case aO => exact (uR HO690.out)); (case aS => exact (below_size (uW HB.out))); (case aL => have := LMc11.out; omega); intro v692 w23 ho hb hg hat; rw [← Ny691.out] at ho; replace HB := Aside0.mk (hb); have HO693 := Aside0.mk (ho); clear HO690; clear ho hb hg hat; obtain ⟨Ao24, co24, eo24⟩ := Kd.R_slice HO693.out; subst eo24) | (refine gL (some 24) rfl Tryz.func10 #[.slice Ao24 y691.length co24, .slice A1 l1.length c1] ?_; (with_reducible refine (diff_Of.calls (hL := (by first | exact HL0.out | exact LD.below HL0.out (uW HB.out))) kj4 (fun k_ => some k_ = (.slice Ao24 y691.length co24 : Value).ownBlock) _ _ y691 (fun k_ => k_ < w.heap.size) _ _ l1 t694 t697 _ ?side1 ?side2 A12.out).mono ?_); (case side1 => exact Kd.R_V (Kd.R_tight rfl (HO693.out))); (case side2 => exact Kd.V_mk HC1.out (Kd.F_below (Kd.C_F k45_heap HR1.out) (uW HB.out))); rintro e w25 ⟨v695, rfl, ho0, hb⟩; refine ⟨_, rfl, ?_⟩; replace HO693 := cR HO693 hb; have HO696 := Aside0.mk (Kd.R_lower (Kd.R_mono (ok' := fun k_ => True) ho0 (fun _ hk_ => trivial)) (below_size (uW HB.out))); replace HB := cW HB hb; (try clear hb); (try clear ho0)) | (refine gL (some 30) rfl Tryz.func11 #[.slice A0 l0.length c0, .slice A1 l1.length c1] ?_; (with_reducible refine (ebbtideref09_Of.calls kj4 _ _ l0 _ _ l1 t698 t699 _ ?side1 ?side2 ?side3 ?side4 A13.out).mono ?_); (case side1 => exact uC <| (Kd.C_below HR0.out HB.out)); (case side2 => exact HC0.out); (case side3 => exact uC <| (Kd.C_below HR1.out HB.out)); (case side4 => exact HC1.out); rintro e w26 ⟨v700, rfl, ho0, hb⟩; refine ⟨_, rfl, ?_⟩; replace HO693 := cR HO693 hb; have HO701 := Aside0.mk (Kd.R_lower (Kd.R_new' ho0 (Kd.R_lt (uR HO696.out))) (below_size (uW HB.out))); replace HO696 := Aside0.mk (Kd.R_elder' (uR HO696.out) (Kd.R_base ho0) hb); replace HB := cW HB hb; (try clear hb); (try clear ho0); obtain ⟨Ao27, co27, eo27⟩ := Kd.R_slice HO696.out; subst eo27; obtain ⟨Ao28, co28, eo28⟩ := Kd.R_slice HO701.out; subst eo28) | (refine gL (some 35) rfl Tryz.func12 #[.slice Ao27 t694.length co27, .slice Ao28 t698.length co28] ?_; (with_reducible refine (ebbtideref09_Same.calls kj4 _ _ t694 _ _ t698 true _ ?side1 ?side2 ?side3 ?side4 A14.out).mono ?_); (case side1 => exact uC <| (Kd.R_reads' HO696.out).2.2); (case side2 => exact (Kd.R_reads' HO696.out).2.1); (case side3 => exact uC <| (Kd.R_reads' HO701.out).2.2); (case side4 => exact (Kd.R_reads' HO701.out).2.1); rintro e w' ⟨rfl, ⟨nd, rfl⟩⟩; refine ⟨_, rfl, ?_⟩) | (go_at_call 13; (with_reducible refine (ebbtideref08_Same.calls kj4 _ _ y691 _ _ l0 true _ ?side1 ?side2 ?side3 ?side4 A17.out).mono ?_); (case side1 => exact uC <| (Kd.R_reads' HO693.out).2.2); (case side2 => exact (Kd.R_reads' HO693.out).2.1); (case side3 => exact (Kd.C_below HR0.out (uW HB.out))); (case side4 => exact HC0.out); rintro e w' ⟨rfl, ⟨nd, rfl⟩⟩) | (go_at_call 14; (with_reducible refine (diff_Text.calls (hL := (by first | exact HL0.out | exact LD.below HL0.out (uW HB.out))) kj4 _ _ t694 t704 _ ?side1 ?side2 A19.out).mono ?_); (case side1 => exact uC <| (Kd.R_reads' HO696.out).2.2); (case side2 => exact (Kd.R_reads' HO696.out).2.1); rintro e w29 ⟨rfl, hb⟩; replace HO693 := cR HO693 hb; replace HO696 := cR HO696 hb; replace HO701 := cR HO701 hb; replace HB := cW HB hb; (try clear hb)) | (go_at_call 15; (with_reducible refine (ebbtideref09_Text.calls kj4 _ _ t698 t705 _ ?side1 ?side2 A20.out).mono ?_); (case side1 => exact uC <| (Kd.R_reads' HO701.out).2.2); (case side2 => exact (Kd.R_reads' HO701.out).2.1); rintro e w30 ⟨rfl, hb⟩; replace HO693 := cR HO693 hb; replace HO696 := cR HO696 hb; replace HO701 := cR HO701 hb; replace HB := cW HB hb; (try clear hb)))
       go_ret
       exact ⟨re_, uW HB.out⟩
      ·
       replace c18 := Bool.eq_false_iff.mpr c18
       subst c18
       rw [if_neg (show ¬ (false = true) by decide)] at H
       exact absurd H (by simp)
     ·
      replace c15 := Bool.eq_false_iff.mpr c15
      subst c15
      rw [if_neg (show ¬ (false = true) by decide)] at H
      exact absurd H (by simp)
 ·
  replace c4 := Bool.eq_false_iff.mpr c4
  subst c4
  rw [if_neg (show ¬ (false = true) by decide)] at H
  exact absurd H (by simp)
def ebbtidelaw09_DiffOf.Pure : Prop := ∀ (l0 : List (S45)) (l1 : List (S45)), (l0.length ≤ maxLen ∧ ∀ x0_ ∈ l0, Q45 x0_) → l0.length * 40 ≤ 140737488351232 → (l1.length ≤ maxLen ∧ ∀ x0_ ∈ l1, Q45 x0_) → l1.length * 40 ≤ 140737488351232 → ∃ k, ebbtidelaw09_DiffOf.f k l0 l1 = some true
theorem ebbtidelaw09_DiffOf.walk (P : ebbtidelaw09_DiffOf.Pure) (l0 : List (S45)) (l1 : List (S45)) (w : World) (hL : LD w) (A0 : Option Addr) (c0 : Nat) (hr0 : Kd.C k45 w A0 l0.length l0) (hc0 : l0.length ≤ c0) (A1 : Option Addr) (c1 : Nat) (hr1 : Kd.C k45 w A1 l1.length l1) (hc1 : l1.length ≤ c1) (q0 : l0.length ≤ maxLen ∧ ∀ x0_ ∈ l0, Q45 x0_) (y0 : l0.length * 40 ≤ 140737488351232) (q1 : l1.length ≤ maxLen ∧ ∀ x0_ ∈ l1, Q45 x0_) (y1 : l1.length * 40 ≤ 140737488351232) :
 Calls Tryz.prog 3 #[.slice A0 l0.length c0, .slice A1 l1.length c1] w fun e w' => e = .returned (.bool true) ∧ Below w.heap.size w w' := by
 obtain ⟨k, h⟩ := P l0 l1 q0 y0 q1 y1
 refine (ebbtidelaw09_DiffOf.calls (hL := hL) k A0 c0 l0 A1 c1 l1 true w hr0 hc0 hr1 hc1 h).mono ?_
 rintro e w' ⟨rfl, hd⟩
 exact ⟨rfl, hd⟩
end Go.Proofs.YtgcbejidponoaaaGreatDoor.X
