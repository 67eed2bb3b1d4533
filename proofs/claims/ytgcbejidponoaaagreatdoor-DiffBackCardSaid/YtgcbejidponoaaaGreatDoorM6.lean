/- Printed by a program of this session's own: what functions of the program compute, and that the machine computes it. No condition of its own. -/
import Derived.Test.YtgcbejidponoaaaGreatDoorM3
import Derived.Test.YtgcbejidponoaaaGreatDoorM4
import Derived.Test.YtgcbejidponoaaaGreatDoorM5
namespace Go.Proofs.YtgcbejidponoaaaGreatDoor.X
open Go.RowKit Go.Proofs.YtgcbejidponoaaaGreatDoorW.PrintWords Go.Proofs.YtgcbejidponoaaaGreatDoorW.PrintLast Go.Proofs.YtgcbejidponoaaaGreatDoorW.PrintMore
attribute [local go_sem] max2_int min2_int max_two min_two max_three min_three max_four min_four
set_option linter.unusedVariables false
set_option linter.unusedSimpArgs false
set_option maxHeartbeats 8000000
set_option maxRecDepth 100000
def r08_rise.l0 : Nat → List (S45) → Int → Option (Bool)
 | 0, _, _ => none
 | k + 1, x0, x3 => if x3 < (x0.length : Int) then (if 0 ≤ (wrap64 (x3 - 1)) then (if (wrap64 (x3 - 1)) < (x0.length : Int) then (if 0 ≤ x3 then ((r08_Before.f ((rd_T45 x0 (wrap64 (x3 - 1))).f0) ((rd_T45 x0 (wrap64 (x3 - 1))).f1) ((rd_T45 x0 (wrap64 (x3 - 1))).f2.f0) ((rd_T45 x0 (wrap64 (x3 - 1))).f2.f1) ((rd_T45 x0 x3).f0) ((rd_T45 x0 x3).f1) ((rd_T45 x0 x3).f2.f0) ((rd_T45 x0 x3).f2.f1)).bind fun t218 => (if t218 = true then (r08_rise.l0 k x0 (wrap64 (x3 + 1))) else (some false))) else (none)) else (none)) else (none)) else (some true)
def r08_rise.f (k : Nat) (l0 : List (S45)) : Option (Bool) := r08_rise.l0 k l0 1
theorem r08_rise.mono_l : ∀ k, (∀ y0 y1, LeC (r08_rise.l0 k y0 y1) (r08_rise.l0 (k + 1) y0 y1))
 | 0 => fun _ _ => ⟨fun r h => by simp [r08_rise.l0] at h⟩
 | k + 1 => by have ih0 := r08_rise.mono_l k; exact fun _ _ => by unfold r08_rise.l0; exact lm
theorem r08_rise.mono : ∀ a0 k, LeO (r08_rise.f k a0) (r08_rise.f (k + 1) a0) := by
 intro a0 k
 have ih0 := r08_rise.mono_l k
 unfold r08_rise.f
 exact lo
instance r08_rise.mI {a0 k} : LeC (r08_rise.f k a0) (r08_rise.f (k + 1) a0) := ⟨r08_rise.mono _ _⟩
def r08_rise.T4 : Bool × List (List Nat × List Nat) := (true, [([], []), ([], []), ([1], [1]), ([0, 2], [0, 2]), ([3], [3]), ([], []), ([], []), ([5, 6], [5, 6]), ([7], [7]), ([4, 8], [4, 8]), ([9], [9])])
def r08_rise.B4 : List Nat := [0, 0, 2, 7, 15, 0, 0, 96, 224, 511, 1023]
theorem r08_rise.tab4 : rtab .any (opsOf Tryz.f44 4) = r08_rise.T4 := by kernel_rfl
theorem r08_rise.bits4 : waitsOk r08_rise.T4.2 r08_rise.B4 = true := by kernel_rfl
theorem r08_rise.calls (k : Nat) (A0 : Option Addr) (c0 : Nat) (l0 : List (S45)) (r : Bool) (w : World) (hr0 : Kd.C k45 w A0 l0.length l0) (hc0 : l0.length ≤ c0) (h : r08_rise.f k l0 = some r) :
 Calls Tryz.prog 44 #[.slice A0 l0.length c0] w fun e w' => e = .returned (.bool r) ∧ Below w.heap.size w w' := by
 have hu45 := Tryz.underlying45
 have HR0 := Aside0.mk hr0
 have HC0 := Aside0.mk hc0
 clear hr0 hc0
 have HB := Aside0.mk (Below.refl w.heap.size w)
 have H : (r08_rise.l0 k l0 1) = some r := h
 clear h
 have H' := Aside0.mk H
 clear H
 go_enter Tryz.func44, Tryz.ntmps44
 go_wp2
 go_loopg [3] k (fun kq v3 w' => ∃ (x3_1 : Int), v3 = .int .i64 x3_1 ∧ Aside0 (r08_rise.l0 kq l0 x3_1 = some r) ∧ Aside0 (kq ≤ k) ∧ Aside0 (Below w.heap.size w w'))
 case atStart => exact ⟨(1), rs_, H', ⟨Nat.le_refl _⟩, ⟨uW HB.out⟩⟩
 case round =>
  clear H'
  obtain ⟨x3_1, rfl, HA, HK1, HB⟩ := hrel
  cases gk with
  | zero => exact absurd HA.out (by simp [r08_rise.l0])
  | succ k1 =>
   have H := HA.out
   clear HA
   simp only [r08_rise.l0] at H
   by_cases c2 : x3_1 < (l0.length : Int)
   ·
    rw [if_pos c2] at H
    have c2b0 : decide (x3_1 < (l0.length : Int)) = true := decide_eq_true c2
    clear c2
    obtain ⟨ji3, hji3⟩ : ∃ j_ : Int, (wrap64 (x3_1 - 1)) = j_ := ⟨_, rfl⟩
    (first | rw [hji3] at H | simp only [hji3] at H)
    have hji3w : (IntKind.i64.wrap (x3_1 - 1)) = ji3 := (i64_w _).trans hji3
    obtain ⟨c4b0, H⟩ := gdd H
    obtain ⟨c5b0, H⟩ := gdd H
    obtain ⟨c6b0, H⟩ := gdd H
    obtain ⟨t218, A7, H⟩ := bs H
    try dsimp only at H
    by_cases c8 : t218 = true
    ·
     subst c8
     rw [if_pos rfl] at H
     have H' := Aside0.mk H
     clear H
     try go_wp2
     replace HB := Aside0.mk (below_drew1 HB.out)
     have p216 : 0 ≤ ((ji3) : Int) := od
     have q216 : (ji3) < (l0.length : Int) := od
     obtain ⟨ad216, e216, hx216_0, hx216_1, hx216_2, hx216_3⟩ := at_T45 HR0.out (ji3) p216 q216
     have hw216_3 := hx216_3
     have hw216_2 := hx216_2
     have hw216_1 := hx216_1
     have hw216_0 := hx216_0
     cases e216
     replace hx216_0 := kc HB hx216_0
     replace hx216_1 := kc HB hx216_1
     replace hx216_2 := kc HB hx216_2
     replace hx216_3 := kc HB hx216_3
     replace p216 := eq_true p216
     replace q216 := eq_true q216
     have p217 : 0 ≤ (x3_1 : Int) := od
     have q217 : x3_1 < (l0.length : Int) := od
     obtain ⟨ad217, e217, hx217_0, hx217_1, hx217_2, hx217_3⟩ := at_T45 HR0.out x3_1 p217 q217
     have hw217_3 := hx217_3
     have hw217_2 := hx217_2
     have hw217_1 := hx217_1
     have hw217_0 := hx217_0
     obtain rfl : ad216 = ad217 := (by injection e217)
     replace hx217_0 := kc HB hx217_0
     replace hx217_1 := kc HB hx217_1
     replace hx217_2 := kc HB hx217_2
     replace hx217_3 := kc HB hx217_3
     replace p217 := eq_true p217
     replace q217 := eq_true q217
     refine start_ (n := 11) (S := fun w' => w'.cell? (ad216.add (((ji3)).toNat * 4)) = some (.int .i64 ((rd_T45 l0 (ji3)).f0)) ∧ w'.cell? ⟨(ad216.add (((ji3)).toNat * 4)).block, (ad216.add (((ji3)).toNat * 4)).off + 1, none⟩ = some (.string ((rd_T45 l0 (ji3)).f1)) ∧ w'.cell? ⟨(ad216.add (((ji3)).toNat * 4)).block, (ad216.add (((ji3)).toNat * 4)).off + 2, none⟩ = some (.int .i64 ((rd_T45 l0 (ji3)).f2.f0)) ∧ w'.cell? ⟨(ad216.add (((ji3)).toNat * 4)).block, (ad216.add (((ji3)).toNat * 4)).off + 3, none⟩ = some (.bool ((rd_T45 l0 (ji3)).f2.f1)) ∧ w'.cell? (ad216.add ((x3_1).toNat * 4)) = some (.int .i64 ((rd_T45 l0 x3_1).f0)) ∧ w'.cell? ⟨(ad216.add ((x3_1).toNat * 4)).block, (ad216.add ((x3_1).toNat * 4)).off + 1, none⟩ = some (.string ((rd_T45 l0 x3_1).f1)) ∧ w'.cell? ⟨(ad216.add ((x3_1).toNat * 4)).block, (ad216.add ((x3_1).toNat * 4)).off + 2, none⟩ = some (.int .i64 ((rd_T45 l0 x3_1).f2.f0)) ∧ w'.cell? ⟨(ad216.add ((x3_1).toNat * 4)).block, (ad216.add ((x3_1).toNat * 4)).off + 3, none⟩ = some (.bool ((rd_T45 l0 x3_1).f2.f1))) (ds := []) _ (by kernel_rfl) rfl rfl ⟨(kc HB hw216_0), (kc HB hw216_1), (kc HB hw216_2), (kc HB hw216_3), (kc HB hw217_0), (kc HB hw217_1), (kc HB hw217_2), (kc HB hw217_3)⟩ (fun hHeld => ?_); refine with_tabW r08_rise.tab4 r08_rise.bits4 (fun HT_ HW_ => ?_)
     generalize wr.drew = w9 at HB hx216_0 hx216_1 hx216_2 hx216_3 hx217_0 hx217_1 hx217_2 hx217_3 hHeld ⊢
     refine p1 0 (some 10) ?_
     refine p1 1 (some 11) ?_
     refine p1 2 (some 12) ?_
     refine p1 3 (some 13) ?_
     refine p1 5 (some 15) ?_
     refine p1 6 (some 16) ?_
     refine p1 7 (some 17) ?_
     refine t1 4 (some 14) rfl rfl hHeld (Or.inl ⟨by rfl, by rintro w' ⟨s0, s1, s2, s3, s4, s5, s6, s7⟩; go_simp; with_reducible rfl⟩) ?_
     refine t1 8 (some 18) rfl rfl hHeld (Or.inl ⟨by rfl, by rintro w' ⟨s0, s1, s2, s3, s4, s5, s6, s7⟩; go_simp; with_reducible rfl⟩) ?_
     refine o1 9 (some 19) rfl rfl (fun K hK => ?_)
     refine goes_ Tryz.func37 (by kernel_rfl) rfl #[.agg #[.int .i64 ((rd_T45 l0 (ji3)).f0), .string ((rd_T45 l0 (ji3)).f1), .int .i64 ((rd_T45 l0 (ji3)).f2.f0), .bool ((rd_T45 l0 (ji3)).f2.f1)], .agg #[.int .i64 ((rd_T45 l0 x3_1).f0), .string ((rd_T45 l0 x3_1).f1), .int .i64 ((rd_T45 l0 x3_1).f2.f0), .bool ((rd_T45 l0 x3_1).f2.f1)]] (by rfl) rfl rfl (by (try simp only [List.map_toArray, List.map_cons, List.map_nil]); first | done | (simp only [hji3]; rfl) | rfl | (simp only [List.length_drop, List.length_take]; rfl)) ?_
     with_reducible refine (r08_Before.calls ((rd_T45 l0 (ji3)).f0) ((rd_T45 l0 (ji3)).f1) ((rd_T45 l0 (ji3)).f2.f0) ((rd_T45 l0 (ji3)).f2.f1) ((rd_T45 l0 x3_1).f0) ((rd_T45 l0 x3_1).f1) ((rd_T45 l0 x3_1).f2.f0) ((rd_T45 l0 x3_1).f2.f1) true _ A7.out).mono ?_
     rintro e w10 ⟨rfl, hb⟩
     refine ⟨_, rfl, ?_⟩
     replace HB := cW HB hb
     (try clear hb)
     refine hK.out _ _ ⟨(kc HB hw216_0), (kc HB hw216_1), (kc HB hw216_2), (kc HB hw216_3), (kc HB hw217_0), (kc HB hw217_1), (kc HB hw217_2), (kc HB hw217_3)⟩ (fun hHeld => ?_)
     clear hK K
     refine norm_ (a' := ?_) ?_ ?_
     rotate_left
     ·
      show Act.put _ (some 19) _ = _
      simp only [Act.put, List.setIfInBounds_toArray, List.set_cons_zero, List.set_cons_succ, i64_w, i32_w]
      rfl
     refine p1 10 (some 20) ?_
     refine done_ (done_of HT_.out (by kernel_rfl)) ?_
     try go_wp2
     go_roundg k1
     case measure => have := HK1.out; omega
     case rel => exact ⟨(wrap64 (x3_1 + 1)), rs_, H', ⟨by have := HK1.out; omega⟩, ⟨uW HB.out⟩⟩
    ·
     replace c8 := Bool.eq_false_iff.mpr c8
     subst c8
     rw [if_neg (show ¬ (false = true) by decide)] at H
     obtain rfl := Option.some.inj H
     try go_wp2
     replace HB := Aside0.mk (below_drew1 HB.out)
     have p216 : 0 ≤ ((ji3) : Int) := od
     have q216 : (ji3) < (l0.length : Int) := od
     obtain ⟨ad216, e216, hx216_0, hx216_1, hx216_2, hx216_3⟩ := at_T45 HR0.out (ji3) p216 q216
     have hw216_3 := hx216_3
     have hw216_2 := hx216_2
     have hw216_1 := hx216_1
     have hw216_0 := hx216_0
     cases e216
     replace hx216_0 := kc HB hx216_0
     replace hx216_1 := kc HB hx216_1
     replace hx216_2 := kc HB hx216_2
     replace hx216_3 := kc HB hx216_3
     replace p216 := eq_true p216
     replace q216 := eq_true q216
     have p217 : 0 ≤ (x3_1 : Int) := od
     have q217 : x3_1 < (l0.length : Int) := od
     obtain ⟨ad217, e217, hx217_0, hx217_1, hx217_2, hx217_3⟩ := at_T45 HR0.out x3_1 p217 q217
     have hw217_3 := hx217_3
     have hw217_2 := hx217_2
     have hw217_1 := hx217_1
     have hw217_0 := hx217_0
     obtain rfl : ad216 = ad217 := (by injection e217)
     replace hx217_0 := kc HB hx217_0
     replace hx217_1 := kc HB hx217_1
     replace hx217_2 := kc HB hx217_2
     replace hx217_3 := kc HB hx217_3
     replace p217 := eq_true p217
     replace q217 := eq_true q217
     refine start_ (n := 11) (S := fun w' => w'.cell? (ad216.add (((ji3)).toNat * 4)) = some (.int .i64 ((rd_T45 l0 (ji3)).f0)) ∧ w'.cell? ⟨(ad216.add (((ji3)).toNat * 4)).block, (ad216.add (((ji3)).toNat * 4)).off + 1, none⟩ = some (.string ((rd_T45 l0 (ji3)).f1)) ∧ w'.cell? ⟨(ad216.add (((ji3)).toNat * 4)).block, (ad216.add (((ji3)).toNat * 4)).off + 2, none⟩ = some (.int .i64 ((rd_T45 l0 (ji3)).f2.f0)) ∧ w'.cell? ⟨(ad216.add (((ji3)).toNat * 4)).block, (ad216.add (((ji3)).toNat * 4)).off + 3, none⟩ = some (.bool ((rd_T45 l0 (ji3)).f2.f1)) ∧ w'.cell? (ad216.add ((x3_1).toNat * 4)) = some (.int .i64 ((rd_T45 l0 x3_1).f0)) ∧ w'.cell? ⟨(ad216.add ((x3_1).toNat * 4)).block, (ad216.add ((x3_1).toNat * 4)).off + 1, none⟩ = some (.string ((rd_T45 l0 x3_1).f1)) ∧ w'.cell? ⟨(ad216.add ((x3_1).toNat * 4)).block, (ad216.add ((x3_1).toNat * 4)).off + 2, none⟩ = some (.int .i64 ((rd_T45 l0 x3_1).f2.f0)) ∧ w'.cell? ⟨(ad216.add ((x3_1).toNat * 4)).block, (ad216.add ((x3_1).toNat * 4)).off + 3, none⟩ = some (.bool ((rd_T45 l0 x3_1).f2.f1))) (ds := []) _ (by kernel_rfl) rfl rfl ⟨(kc HB hw216_0), (kc HB hw216_1), (kc HB hw216_2), (kc HB hw216_3), (kc HB hw217_0), (kc HB hw217_1), (kc HB hw217_2), (kc HB hw217_3)⟩ (fun hHeld => ?_); refine with_tabW r08_rise.tab4 r08_rise.bits4 (fun HT_ HW_ => ?_)
     generalize wr.drew = w11 at HB hx216_0 hx216_1 hx216_2 hx216_3 hx217_0 hx217_1 hx217_2 hx217_3 hHeld ⊢
     refine p1 0 (some 10) ?_
     refine p1 1 (some 11) ?_
     refine p1 2 (some 12) ?_
     refine p1 3 (some 13) ?_
     refine p1 5 (some 15) ?_
     refine p1 6 (some 16) ?_
     refine p1 7 (some 17) ?_
     refine t1 4 (some 14) rfl rfl hHeld (Or.inl ⟨by rfl, by rintro w' ⟨s0, s1, s2, s3, s4, s5, s6, s7⟩; go_simp; with_reducible rfl⟩) ?_
     refine t1 8 (some 18) rfl rfl hHeld (Or.inl ⟨by rfl, by rintro w' ⟨s0, s1, s2, s3, s4, s5, s6, s7⟩; go_simp; with_reducible rfl⟩) ?_
     refine o1 9 (some 19) rfl rfl (fun K hK => ?_)
     refine goes_ Tryz.func37 (by kernel_rfl) rfl #[.agg #[.int .i64 ((rd_T45 l0 (ji3)).f0), .string ((rd_T45 l0 (ji3)).f1), .int .i64 ((rd_T45 l0 (ji3)).f2.f0), .bool ((rd_T45 l0 (ji3)).f2.f1)], .agg #[.int .i64 ((rd_T45 l0 x3_1).f0), .string ((rd_T45 l0 x3_1).f1), .int .i64 ((rd_T45 l0 x3_1).f2.f0), .bool ((rd_T45 l0 x3_1).f2.f1)]] (by rfl) rfl rfl (by (try simp only [List.map_toArray, List.map_cons, List.map_nil]); first | done | (simp only [hji3]; rfl) | rfl | (simp only [List.length_drop, List.length_take]; rfl)) ?_
     with_reducible refine (r08_Before.calls ((rd_T45 l0 (ji3)).f0) ((rd_T45 l0 (ji3)).f1) ((rd_T45 l0 (ji3)).f2.f0) ((rd_T45 l0 (ji3)).f2.f1) ((rd_T45 l0 x3_1).f0) ((rd_T45 l0 x3_1).f1) ((rd_T45 l0 x3_1).f2.f0) ((rd_T45 l0 x3_1).f2.f1) false _ A7.out).mono ?_
     rintro e w12 ⟨rfl, hb⟩
     refine ⟨_, rfl, ?_⟩
     replace HB := cW HB hb
     (try clear hb)
     refine hK.out _ _ ⟨(kc HB hw216_0), (kc HB hw216_1), (kc HB hw216_2), (kc HB hw216_3), (kc HB hw217_0), (kc HB hw217_1), (kc HB hw217_2), (kc HB hw217_3)⟩ (fun hHeld => ?_)
     clear hK K
     refine norm_ (a' := ?_) ?_ ?_
     rotate_left
     ·
      show Act.put _ (some 19) _ = _
      simp only [Act.put, List.setIfInBounds_toArray, List.set_cons_zero, List.set_cons_succ, i64_w, i32_w]
      rfl
     refine p1 10 (some 20) ?_
     refine done_ (done_of HT_.out (by kernel_rfl)) ?_
     try go_wp2
     go_ret
     exact ⟨by first | rfl | (simp [errW_none, errW_some] <;> rfl) | (simp only [← hji3]; first | rfl | (simp [errW_none, errW_some] <;> rfl)) | (simp [*, errW_none, errW_some] <;> rfl), uW HB.out⟩
   ·
    rw [if_neg c2] at H
    have c2b0 : decide (x3_1 < (l0.length : Int)) = false := decide_eq_false c2
    clear c2
    obtain rfl := Option.some.inj H
    go_wp2
    go_ret
    exact ⟨re_, uW HB.out⟩
def r08_Parse.l0 : Nat → List (S45) → List ByteArray → Int → Option ((List (S45)) × Int)
 | 0, _, _, _ => none
 | k + 1, x4, x5, x6 => if x6 < (x5.length : Int) then (if 0 ≤ x6 then ((r08_one.f k (rdOf ByteArray.empty x5 x6)).bind fun bt223 => (if bt223.2.2.2.2 = 0 then (if x4.length < 3518437208883 then (r08_Parse.l0 k (x4 ++ [(⟨bt223.1, bt223.2.1, (⟨bt223.2.2.1, bt223.2.2.2.1⟩ : S43)⟩ : S45)]) x5 (wrap64 (x6 + 1))) else (none)) else (some (([] : List (S45)), bt223.2.2.2.2)))) else (none)) else ((r08_rise.f k x4).bind fun t232 => (if t232 = true then (some (x4, 0)) else (some (([] : List (S45)), 9))))
def r08_Parse.f (k : Nat) (a0 : ByteArray) : Option ((List (S45)) × Int) := if a0.toList = ([45] : List UInt8) then (some (([] : List (S45)), 0)) else ((r02_Split.f k a0 59).bind fun t219 => (r08_Parse.l0 k ([] : List (S45)) t219 0))
theorem r08_Parse.mono_l : ∀ k, (∀ y0 y1 y2, LeC (r08_Parse.l0 k y0 y1 y2) (r08_Parse.l0 (k + 1) y0 y1 y2))
 | 0 => fun _ _ _ => ⟨fun r h => by simp [r08_Parse.l0] at h⟩
 | k + 1 => by have ih0 := r08_Parse.mono_l k; exact fun _ _ _ => by unfold r08_Parse.l0; exact lm
theorem r08_Parse.mono : ∀ a0 k, LeO (r08_Parse.f k a0) (r08_Parse.f (k + 1) a0) := by
 intro a0 k
 have ih0 := r08_Parse.mono_l k
 unfold r08_Parse.f
 exact lo
instance r08_Parse.mI {a0 k} : LeC (r08_Parse.f k a0) (r08_Parse.f (k + 1) a0) := ⟨r08_Parse.mono _ _⟩
theorem r08_Parse.calls (k : Nat) (a0 : ByteArray) (r1 : List (S45)) (r2 : Int) (w : World) (h : r08_Parse.f k a0 = some (r1, r2)) :
 Calls Tryz.prog 23 #[.string a0] w fun e w' => ∃ v0_ : Value, e = .returned (.tuple #[v0_, .int .i64 r2]) ∧ Kd.R k45 45 w' w.heap.size (fun _ => True) v0_ r1 ∧ Below w.heap.size w w' := by
 have hu45 := Tryz.underlying45
 have HB := Aside0.mk (Below.refl w.heap.size w)
 have H : (if a0.toList = ([45] : List UInt8) then (some (([] : List (S45)), 0)) else ((r02_Split.f k a0 59).bind fun t219 => (r08_Parse.l0 k ([] : List (S45)) t219 0))) = some (r1, r2) := h
 clear h
 by_cases c2 : a0.toList = ([45] : List UInt8)
 ·
  rw [if_pos c2] at H
  have c2b0 : (a0.toList == ([45] : List UInt8)) = true := beq_iff_eq.mpr c2
  have c2b1 : (a0.toList != ([45] : List UInt8)) = false := bne_eq_false_iff_eq.mpr c2
  clear c2
  simp only [Option.some.injEq, Prod.mk.injEq] at H
  obtain ⟨rfl, rfl⟩ := H
  go_enter Tryz.func23, Tryz.ntmps23
  go_wp2
  go_ret2
  exact ⟨_, re_, nl_, uW HB.out⟩
 ·
  rw [if_neg c2] at H
  have c2b0 : (a0.toList == ([45] : List UInt8)) = false := beq_eq_false_iff_ne.mpr c2
  have c2b1 : (a0.toList != ([45] : List UInt8)) = true := bne_iff_ne.mpr c2
  obtain ⟨t219, A3, H⟩ := bs H
  try dsimp only at H
  have H' := Aside0.mk H
  clear H
  go_enter Tryz.func23, Tryz.ntmps23
  go_wp2_with (first | (refine gL (some 12) rfl Tryz.func41 #[.string a0, .int .u8 59] ?_; (with_reducible refine (r02_Split.calls k a0 59 t219 _ A3.out).mono ?_); rintro e w4 ⟨v220, rfl, ho0, hb⟩; refine ⟨_, rfl, ?_⟩; have HO221 := Aside0.mk (Kd.R_lower ho0 (below_size (uW HB.out))); replace HB := cW HB hb; (try clear hb); (try clear ho0)))
  (try simp only [Act.put, List.setIfInBounds_toArray, List.set_cons_zero, List.set_cons_succ])
  go_loopg [4, 6] k (fun kq v4 v6 w' => ∃ (x4_1 : List (S45)) (x6_1 : Int), v6 = .int .i64 x6_1 ∧ Aside0 (r08_Parse.l0 kq x4_1 t219 x6_1 = some (r1, r2)) ∧ Aside0 (kq ≤ k) ∧ Aside0 (Kd.R k45 45 w' w.heap.size (fun _ => True) v4 x4_1) ∧ Aside0 (Kd.R Kd.string 9 w' w.heap.size (fun _ => True) v220 t219) ∧ Aside0 (Below w.heap.size w w'))
  case atStart => exact ⟨(([] : List (S45))), (0), rs_, H', ⟨Nat.le_refl _⟩, ⟨nl_⟩, ⟨uR HO221.out⟩, ⟨uW HB.out⟩⟩
  case round =>
   clear H'
   try clear c2
   try clear c2b0
   try clear c2b1
   try clear p2
   try clear c4
   obtain ⟨x4_1, x6_1, rfl, HA, HK1, HO_4, HO_5, HB⟩ := hrel
   cases gk with
   | zero => exact absurd HA.out (by simp [r08_Parse.l0])
   | succ k1 =>
    have H := HA.out
    clear HA
    simp only [r08_Parse.l0] at H
    by_cases c5 : x6_1 < (t219.length : Int)
    ·
     rw [if_pos c5] at H
     have c5b0 : decide (x6_1 < (t219.length : Int)) = true := decide_eq_true c5
     clear c5
     obtain ⟨c6b0, H⟩ := gdd H
     obtain ⟨⟨t223, t224, t225, t226, t227⟩, A7, H⟩ := bs H
     try dsimp only at H
     by_cases c8 : t227 = 0
     ·
      rw [if_pos c8] at H
      have c8b0 : (t227 == 0) = true := beq_iff_eq.mpr c8
      have c8b1 : (t227 != 0) = false := bne_eq_false_iff_eq.mpr c8
      clear c8
      obtain ⟨c9, H⟩ := gd H
      have LMc9 := Aside0.mk c9
      clear c9
      obtain ⟨y229, hy229⟩ : ∃ y_ : List (S45), y_ = (x4_1 ++ [(⟨t223, t224, (⟨t225, t226⟩ : S43)⟩ : S45)]) := ⟨_, rfl⟩
      replace H : (r08_Parse.l0 k1 y229 t219 (wrap64 (x6_1 + 1))) = some (r1, r2) := by first | (rw [hy229]; with_reducible exact H) | (have H2_ := (Option.bind_some _ _).symm.trans H; rw [hy229]; with_reducible exact H2_) | (have H2_ := (Option.bind_some _ _).symm.trans H; with_reducible exact H2_) | with_reducible exact H | (rw [hy229]; exact H) | exact H
      have Ny229 := Aside0.mk hy229
      clear hy229
      have H' := Aside0.mk H
      clear H
      obtain ⟨Ao10, co10, eo10⟩ := Kd.R_slice HO_5.out
      subst eo10
      have p222 : 0 ≤ (x6_1 : Int) := od
      have q222 : x6_1 < (t219.length : Int) := od
      obtain ⟨ad222, e222, hx222_0⟩ := Kd.at_string (Kd.R_reads' HO_5.out).2.2 x6_1 p222 q222
      cases e222
      replace p222 := eq_true p222
      replace q222 := eq_true q222
      go_wp2_with (first | (refine gL (some 24) rfl Tryz.func43 #[.string (rdOf ByteArray.empty t219 x6_1)] ?_; (with_reducible refine (r08_one.calls k1 (rdOf ByteArray.empty t219 x6_1) t223 t224 t225 t226 t227 _ A7.out).mono ?_); rintro e w11 ⟨rfl, hb⟩; refine ⟨_, rfl, ?_⟩; replace HO_4 := cR HO_4 hb; replace HO_5 := cR HO_5 hb; replace HB := cW HB hb; (try clear hb)) | ((with_reducible refine gate_dst (N := 7) rfl ?_); refine bx (N := 7) #[.int .i64 0, .string (⟨#[]⟩ : ByteArray), .int .i64 0, .bool false] 45 ?_; intro gb228 hg w12 hbox hb; replace HO_4 := Aside0.mk (Kd.R_below (Kd.R_elderB (uR HO_4.out) gb228 (Nat.le_of_eq hg.symm)) hb); replace HO_5 := cR HO_5 hb; have BK228 := Aside0.mk (hbox); have GW228 := gw hg (uW HB.out); have GE228 := GW228; replace HB := cW HB hb; clear hb hbox hg; obtain ⟨hcz13_0, hcz13_1, hcz13_2, hcz13_3, hfz13_0, hfz13_1, hfz13_2, hfz13_3⟩ := z4 BK228) | ((with_reducible refine gate_builtin (b := .append) (xs := #[.tmp 30, .tmp 32]) rfl ?_); at_builtin; refine Kd.R_append k45 (w0 := w) w.heap.size rfl (.tmp 30) (.tmp 32) 22 45 (.agg #[(.int .i64 0), (.string ⟨#[]⟩), (.int .i64 0), (.bool false)]) 40 rfl Tryz.underlying22 info45 rfl (by decide) (by omega) u4 x4_1 (⟨t223, t224, (⟨t225, t226⟩ : S43)⟩ : S45) [.int .i64 t223, .string t224, .int .i64 t225, .bool t226] (fun k_ => k_ ≠ gb228) (fun _ => False) rfl (by first | (go_simp; done) | (go_simp; rfl)) ?aP (fun _ hk => hk.elim) ?aF ?aO ?aB ?aS ?aL ?_; (case aP => exact k45_mkM _ _ _ (⟨t223, t224, (⟨t225, t226⟩ : S43)⟩ : S45)); (case aB => exact bl); (case aF => exact (fun k_ hk => Kd.freshB (g := gb228) (o := .cells #[.int .i64 t223, .string t224, .int .i64 t225, .bool t226] 45 (0, 0)) (by (with_reducible repeat (first | refine blk_drewN ?_ _ | refine blk_drew ?_ | refine blk_alloc ?_ _)); refine blk_put (cs := #[.int .i64 t223, .string t224, .int .i64 t225, .bool false]) ?_ 3 _ rfl; (with_reducible repeat (first | refine blk_drewN ?_ _ | refine blk_drew ?_ | refine blk_alloc ?_ _)); refine blk_put (cs := #[.int .i64 t223, .string t224, .int .i64 0, .bool false]) ?_ 2 _ rfl; (with_reducible repeat (first | refine blk_drewN ?_ _ | refine blk_drew ?_ | refine blk_alloc ?_ _)); refine blk_put (cs := #[.int .i64 t223, .string (⟨#[]⟩ : ByteArray), .int .i64 0, .bool false]) ?_ 1 _ rfl; (with_reducible repeat (first | refine blk_drewN ?_ _ | refine blk_drew ?_ | refine blk_alloc ?_ _)); refine blk_put (cs := #[.int .i64 0, .string (⟨#[]⟩ : ByteArray), .int .i64 0, .bool false]) ?_ 0 _ rfl; exact uB <| BK228.out) k_ hk)); (case aO => exact (by exact uR <| Kd.R_mono (Kd.R_far (p := ⟨gb228, 3, none⟩) (Kd.R_far (p := ⟨gb228, 2, none⟩) (Kd.R_far (p := ⟨gb228, 1, none⟩) (Kd.R_far (p := ⟨gb228, 0, none⟩) (Kd.R_mono HO_4.out (fun k_ hk => (⟨hk, hk.2⟩ : _ ∧ k_ ≠ gb228))) (fun _ hk => hk.2) (.int .i64 t223)) (fun _ hk => hk.2) (.string t224)) (fun _ hk => hk.2) (.int .i64 t225)) (fun _ hk => hk.2) (.bool t226)) (fun _ hk => hk.1.2))); (case aS => exact (below_size bl)); (case aL => have := LMc9.out; omega); intro v230 w14 ho hb hg hat; rw [← Ny229.out] at ho; replace HO_5 := Aside0.mk (Kd.R_over' (by exact uR <| (Kd.R_mono (Kd.R_far (p := ⟨gb228, 3, none⟩) (Kd.R_far (p := ⟨gb228, 2, none⟩) (Kd.R_far (p := ⟨gb228, 1, none⟩) (Kd.R_far (p := ⟨gb228, 0, none⟩) (Kd.R_types HO_5.out BK228.out (by decide)) (fun _ hk => hk.2) (.int .i64 t223)) (fun _ hk => hk.2) (.string t224)) (fun _ hk => hk.2) (.int .i64 t225)) (fun _ hk => hk.2) (.bool t226)) (fun _ h_ => h_.1))) (Kd.R_typed (by exact uR <| (Kd.R_mono (Kd.R_far (p := ⟨gb228, 3, none⟩) (Kd.R_far (p := ⟨gb228, 2, none⟩) (Kd.R_far (p := ⟨gb228, 1, none⟩) (Kd.R_far (p := ⟨gb228, 0, none⟩) (Kd.R_mono HO_4.out (fun k_ hk => (⟨hk, hk.2⟩ : _ ∧ k_ ≠ gb228))) (fun _ hk => hk.2) (.int .i64 t223)) (fun _ hk => hk.2) (.string t224)) (fun _ hk => hk.2) (.int .i64 t225)) (fun _ hk => hk.2) (.bool t226)) (fun _ h_ => h_.1)))) (by decide) hg); replace BK228 := Aside0.mk (blk_grown (g := gb228) (o := .cells #[.int .i64 t223, .string t224, .int .i64 t225, .bool t226] 45 (0, 0)) (by (with_reducible repeat (first | refine blk_drewN ?_ _ | refine blk_drew ?_ | refine blk_alloc ?_ _)); refine blk_put (cs := #[.int .i64 t223, .string t224, .int .i64 t225, .bool false]) ?_ 3 _ rfl; (with_reducible repeat (first | refine blk_drewN ?_ _ | refine blk_drew ?_ | refine blk_alloc ?_ _)); refine blk_put (cs := #[.int .i64 t223, .string t224, .int .i64 0, .bool false]) ?_ 2 _ rfl; (with_reducible repeat (first | refine blk_drewN ?_ _ | refine blk_drew ?_ | refine blk_alloc ?_ _)); refine blk_put (cs := #[.int .i64 t223, .string (⟨#[]⟩ : ByteArray), .int .i64 0, .bool false]) ?_ 1 _ rfl; (with_reducible repeat (first | refine blk_drewN ?_ _ | refine blk_drew ?_ | refine blk_alloc ?_ _)); refine blk_put (cs := #[.int .i64 0, .string (⟨#[]⟩ : ByteArray), .int .i64 0, .bool false]) ?_ 0 _ rfl; exact uB <| BK228.out) hg (Kd.R_away HO_4.out (fun _ hk => hk.2))); replace HB := Aside0.mk (hb); have HO231 := Aside0.mk (ho); clear HO_4; clear ho hb hg hat))
      go_roundg k1
      case measure => have := HK1.out; omega
      case rel => exact ⟨(y229), (wrap64 (x6_1 + 1)), rs_, H', ⟨by have := HK1.out; omega⟩, ⟨by exact uR <| Kd.R_mono HO231.out (fun _ hk => trivial)⟩, ⟨uR HO_5.out⟩, ⟨bl⟩⟩
     ·
      rw [if_neg c8] at H
      have c8b0 : (t227 == 0) = false := beq_eq_false_iff_ne.mpr c8
      have c8b1 : (t227 != 0) = true := bne_iff_ne.mpr c8
      simp only [Option.some.injEq, Prod.mk.injEq] at H
      obtain ⟨rfl, rfl⟩ := H
      obtain ⟨Ao15, co15, eo15⟩ := Kd.R_slice HO_5.out
      subst eo15
      have p222 : 0 ≤ (x6_1 : Int) := od
      have q222 : x6_1 < (t219.length : Int) := od
      obtain ⟨ad222, e222, hx222_0⟩ := Kd.at_string (Kd.R_reads' HO_5.out).2.2 x6_1 p222 q222
      cases e222
      replace p222 := eq_true p222
      replace q222 := eq_true q222
      go_wp2_with (first | (refine gL (some 24) rfl Tryz.func43 #[.string (rdOf ByteArray.empty t219 x6_1)] ?_; (with_reducible refine (r08_one.calls k1 (rdOf ByteArray.empty t219 x6_1) t223 t224 t225 t226 t227 _ A7.out).mono ?_); rintro e w16 ⟨rfl, hb⟩; refine ⟨_, rfl, ?_⟩; replace HO_4 := cR HO_4 hb; replace HO_5 := cR HO_5 hb; replace HB := cW HB hb; (try clear hb)) | ((with_reducible refine gate_dst (N := 7) rfl ?_); refine bx (N := 7) #[.int .i64 0, .string (⟨#[]⟩ : ByteArray), .int .i64 0, .bool false] 45 ?_; intro gb228 hg w17 hbox hb; replace HO_4 := Aside0.mk (Kd.R_below (Kd.R_elderB (uR HO_4.out) gb228 (Nat.le_of_eq hg.symm)) hb); replace HO_5 := cR HO_5 hb; have BK228 := Aside0.mk (hbox); have GW228 := gw hg (uW HB.out); have GE228 := GW228; replace HB := cW HB hb; clear hb hbox hg; obtain ⟨hcz18_0, hcz18_1, hcz18_2, hcz18_3, hfz18_0, hfz18_1, hfz18_2, hfz18_3⟩ := z4 BK228))
      go_ret2
      exact ⟨_, re_, nl_, bl⟩
    ·
     rw [if_neg c5] at H
     have c5b0 : decide (x6_1 < (t219.length : Int)) = false := decide_eq_false c5
     clear c5
     obtain ⟨t232, A19, H⟩ := bs H
     try dsimp only at H
     by_cases c20 : t232 = true
     ·
      subst c20
      rw [if_pos rfl] at H
      simp only [Option.some.injEq, Prod.mk.injEq] at H
      obtain ⟨rfl, rfl⟩ := H
      obtain ⟨Ao21, co21, eo21⟩ := Kd.R_slice HO_5.out
      subst eo21
      obtain ⟨Ao22, co22, eo22⟩ := Kd.R_slice HO_4.out
      subst eo22
      go_wp2_with (first | (refine gL (some 35) rfl Tryz.func44 #[.slice Ao22 x4_1.length co22] ?_; (with_reducible refine (r08_rise.calls k1 _ _ x4_1 true _ ?side1 ?side2 A19.out).mono ?_); (case side1 => exact uC <| (Kd.R_reads' HO_4.out).2.2); (case side2 => exact (Kd.R_reads' HO_4.out).2.1); rintro e w23 ⟨rfl, hb⟩; refine ⟨_, rfl, ?_⟩; replace HO_4 := cR HO_4 hb; replace HO_5 := cR HO_5 hb; replace HB := cW HB hb; (try clear hb)))
      go_ret2
      exact ⟨_, re_, uR HO_4.out, uW HB.out⟩
     ·
      replace c20 := Bool.eq_false_iff.mpr c20
      subst c20
      rw [if_neg (show ¬ (false = true) by decide)] at H
      simp only [Option.some.injEq, Prod.mk.injEq] at H
      obtain ⟨rfl, rfl⟩ := H
      obtain ⟨Ao24, co24, eo24⟩ := Kd.R_slice HO_5.out
      subst eo24
      obtain ⟨Ao25, co25, eo25⟩ := Kd.R_slice HO_4.out
      subst eo25
      go_wp2_with (first | (refine gL (some 35) rfl Tryz.func44 #[.slice Ao25 x4_1.length co25] ?_; (with_reducible refine (r08_rise.calls k1 _ _ x4_1 false _ ?side1 ?side2 A19.out).mono ?_); (case side1 => exact uC <| (Kd.R_reads' HO_4.out).2.2); (case side2 => exact (Kd.R_reads' HO_4.out).2.1); rintro e w26 ⟨rfl, hb⟩; refine ⟨_, rfl, ?_⟩; replace HO_4 := cR HO_4 hb; replace HO_5 := cR HO_5 hb; replace HB := cW HB hb; (try clear hb)))
      go_ret2
      exact ⟨_, re_, nl_, uW HB.out⟩
def r08_Right.l0 : Nat → List (S45) → Int → Option (Bool)
 | 0, _, _ => none
 | k + 1, x0, x3 => if x3 < (x0.length : Int) then (if 0 ≤ x3 then ((r08_group.f k ((rd_T45 x0 x3).f1)).bind fun t234 => (if t234 = 0 then (r08_Right.l0 k x0 (wrap64 (x3 + 1))) else (some false))) else (none)) else ((r08_rise.f k x0).bind fun t235 => (some t235))
def r08_Right.f (k : Nat) (l0 : List (S45)) : Option (Bool) := r08_Right.l0 k l0 0
theorem r08_Right.mono_l : ∀ k, (∀ y0 y1, LeC (r08_Right.l0 k y0 y1) (r08_Right.l0 (k + 1) y0 y1))
 | 0 => fun _ _ => ⟨fun r h => by simp [r08_Right.l0] at h⟩
 | k + 1 => by have ih0 := r08_Right.mono_l k; exact fun _ _ => by unfold r08_Right.l0; exact lm
theorem r08_Right.mono : ∀ a0 k, LeO (r08_Right.f k a0) (r08_Right.f (k + 1) a0) := by
 intro a0 k
 have ih0 := r08_Right.mono_l k
 unfold r08_Right.f
 exact lo
instance r08_Right.mI {a0 k} : LeC (r08_Right.f k a0) (r08_Right.f (k + 1) a0) := ⟨r08_Right.mono _ _⟩
theorem r08_Right.calls (k : Nat) (A0 : Option Addr) (c0 : Nat) (l0 : List (S45)) (r : Bool) (w : World) (hr0 : Kd.C k45 w A0 l0.length l0) (hc0 : l0.length ≤ c0) (h : r08_Right.f k l0 = some r) :
 Calls Tryz.prog 27 #[.slice A0 l0.length c0] w fun e w' => e = .returned (.bool r) ∧ Below w.heap.size w w' := by
 have HR0 := Aside0.mk hr0
 have HC0 := Aside0.mk hc0
 clear hr0 hc0
 have HB := Aside0.mk (Below.refl w.heap.size w)
 have H : (r08_Right.l0 k l0 0) = some r := h
 clear h
 have H' := Aside0.mk H
 clear H
 go_enter Tryz.func27, Tryz.ntmps27
 go_wp2
 go_loopg [3] k (fun kq v3 w' => ∃ (x3_1 : Int), v3 = .int .i64 x3_1 ∧ Aside0 (r08_Right.l0 kq l0 x3_1 = some r) ∧ Aside0 (kq ≤ k) ∧ Aside0 (Below w.heap.size w w'))
 case atStart => exact ⟨(0), rs_, H', ⟨Nat.le_refl _⟩, ⟨uW HB.out⟩⟩
 case round =>
  clear H'
  obtain ⟨x3_1, rfl, HA, HK1, HB⟩ := hrel
  cases gk with
  | zero => exact absurd HA.out (by simp [r08_Right.l0])
  | succ k1 =>
   have H := HA.out
   clear HA
   simp only [r08_Right.l0] at H
   by_cases c2 : x3_1 < (l0.length : Int)
   ·
    rw [if_pos c2] at H
    have c2b0 : decide (x3_1 < (l0.length : Int)) = true := decide_eq_true c2
    clear c2
    obtain ⟨c3b0, H⟩ := gdd H
    obtain ⟨t234, A4, H⟩ := bs H
    try dsimp only at H
    by_cases c5 : t234 = 0
    ·
     rw [if_pos c5] at H
     have c5b0 : (t234 == 0) = true := beq_iff_eq.mpr c5
     have c5b1 : (t234 != 0) = false := bne_eq_false_iff_eq.mpr c5
     clear c5
     have H' := Aside0.mk H
     clear H
     have p233 : 0 ≤ (x3_1 : Int) := od
     have q233 : x3_1 < (l0.length : Int) := od
     obtain ⟨ad233, e233, hx233_0, hx233_1, hx233_2, hx233_3⟩ := at_T45 HR0.out x3_1 p233 q233
     cases e233
     replace hx233_0 := kc HB hx233_0
     replace hx233_1 := kc HB hx233_1
     replace hx233_2 := kc HB hx233_2
     replace hx233_3 := kc HB hx233_3
     replace p233 := eq_true p233
     replace q233 := eq_true q233
     go_wp2_with (first | (refine gL (some 15) rfl Tryz.func51 #[.string ((rd_T45 l0 x3_1).f1)] ?_; (with_reducible refine (r08_group.calls k1 ((rd_T45 l0 x3_1).f1) t234 _ A4.out).mono ?_); rintro e w6 ⟨rfl, hb⟩; refine ⟨_, rfl, ?_⟩; replace HB := cW HB hb; (try clear hb)))
     go_roundg k1
     case measure => have := HK1.out; omega
     case rel => exact ⟨(wrap64 (x3_1 + 1)), rs_, H', ⟨by have := HK1.out; omega⟩, ⟨uW HB.out⟩⟩
    ·
     rw [if_neg c5] at H
     have c5b0 : (t234 == 0) = false := beq_eq_false_iff_ne.mpr c5
     have c5b1 : (t234 != 0) = true := bne_iff_ne.mpr c5
     obtain rfl := Option.some.inj H
     have p233 : 0 ≤ (x3_1 : Int) := od
     have q233 : x3_1 < (l0.length : Int) := od
     obtain ⟨ad233, e233, hx233_0, hx233_1, hx233_2, hx233_3⟩ := at_T45 HR0.out x3_1 p233 q233
     cases e233
     replace hx233_0 := kc HB hx233_0
     replace hx233_1 := kc HB hx233_1
     replace hx233_2 := kc HB hx233_2
     replace hx233_3 := kc HB hx233_3
     replace p233 := eq_true p233
     replace q233 := eq_true q233
     go_wp2_with (first | (refine gL (some 15) rfl Tryz.func51 #[.string ((rd_T45 l0 x3_1).f1)] ?_; (with_reducible refine (r08_group.calls k1 ((rd_T45 l0 x3_1).f1) t234 _ A4.out).mono ?_); rintro e w7 ⟨rfl, hb⟩; refine ⟨_, rfl, ?_⟩; replace HB := cW HB hb; (try clear hb)))
     go_ret
     exact ⟨re_, uW HB.out⟩
   ·
    rw [if_neg c2] at H
    have c2b0 : decide (x3_1 < (l0.length : Int)) = false := decide_eq_false c2
    clear c2
    obtain ⟨t235, A8, H⟩ := bs H
    try dsimp only at H
    obtain rfl := Option.some.inj H
    go_wp2_with (first | (refine gL (some 18) rfl Tryz.func44 #[.slice A0 l0.length c0] ?_; (with_reducible refine (r08_rise.calls k1 _ _ l0 t235 _ ?side1 ?side2 A8.out).mono ?_); (case side1 => exact uC <| (Kd.C_below HR0.out HB.out)); (case side2 => exact HC0.out); rintro e w9 ⟨rfl, hb⟩; refine ⟨_, rfl, ?_⟩; replace HB := cW HB hb; (try clear hb)))
    go_ret
    exact ⟨re_, uW HB.out⟩
def cmp_Or_int.l0 : Nat → Int → List Int → Int → Int → Option (Int)
 | 0, _, _, _, _ => none
 | k + 1, x3, x6, x7, x8 => if x8 < x7 then (if 0 ≤ x8 then (if x8 < (x6.length : Int) then (if (rd x6 x8) = x3 then (cmp_Or_int.l0 k x3 x6 x7 (wrap64 (x8 + 1))) else (some (rd x6 x8))) else (none)) else (none)) else (some x3)
def cmp_Or_int.f (k : Nat) (l0 : List Int) : Option (Int) := cmp_Or_int.l0 k 0 l0 (l0.length : Int) 0
theorem cmp_Or_int.mono_l : ∀ k, (∀ y0 y1 y2 y3, LeC (cmp_Or_int.l0 k y0 y1 y2 y3) (cmp_Or_int.l0 (k + 1) y0 y1 y2 y3))
 | 0 => fun _ _ _ _ => ⟨fun r h => by simp [cmp_Or_int.l0] at h⟩
 | k + 1 => by have ih0 := cmp_Or_int.mono_l k; exact fun _ _ _ _ => by unfold cmp_Or_int.l0; exact lm
theorem cmp_Or_int.mono : ∀ a0 k, LeO (cmp_Or_int.f k a0) (cmp_Or_int.f (k + 1) a0) := by
 intro a0 k
 have ih0 := cmp_Or_int.mono_l k
 unfold cmp_Or_int.f
 exact lo
instance cmp_Or_int.mI {a0 k} : LeC (cmp_Or_int.f k a0) (cmp_Or_int.f (k + 1) a0) := ⟨cmp_Or_int.mono _ _⟩
theorem cmp_Or_int.calls (k : Nat) (A0 : Option Addr) (c0 : Nat) (l0 : List Int) (r : Int) (w : World) (hr0 : Kd.C (Kd.int .i64) w A0 l0.length l0) (hc0 : l0.length ≤ c0) (h : cmp_Or_int.f k l0 = some r) :
 Calls Tryz.prog 67 #[.slice A0 l0.length c0] w fun e w' => e = .returned (.int .i64 r) ∧ Drawn0 w w' := by
 have HR0 := Aside0.mk hr0
 have HC0 := Aside0.mk hc0
 clear hr0 hc0
 have H : (cmp_Or_int.l0 k 0 l0 (l0.length : Int) 0) = some r := h
 clear h
 have H' := Aside0.mk H
 clear H
 go_enter Tryz.func67, Tryz.ntmps67
 go_wp2
 go_loopg [8] k (fun kq v8 w' => ∃ (x8_1 : Int), v8 = .int .i64 x8_1 ∧ Aside0 (cmp_Or_int.l0 kq 0 l0 (l0.length : Int) x8_1 = some r) ∧ Aside0 (kq ≤ k) ∧ Drawn0 w w')
 case atStart => exact ⟨(0), rs_, H', ⟨Nat.le_refl _⟩, dr_⟩
 case round =>
  clear H'
  obtain ⟨x8_1, rfl, HA, HK1, ⟨m1, rfl⟩⟩ := hrel
  cases gk with
  | zero => exact absurd HA.out (by simp [cmp_Or_int.l0])
  | succ k1 =>
   have H := HA.out
   clear HA
   simp only [cmp_Or_int.l0] at H
   by_cases c2 : x8_1 < (l0.length : Int)
   ·
    rw [if_pos c2] at H
    have c2b0 : decide (x8_1 < (l0.length : Int)) = true := decide_eq_true c2
    clear c2
    obtain ⟨c3b0, H⟩ := gdd H
    obtain ⟨c4b0, H⟩ := gdd H
    by_cases c5 : (rd l0 x8_1) = 0
    ·
     rw [if_pos c5] at H
     have c5b0 : ((rd l0 x8_1) == 0) = true := beq_iff_eq.mpr c5
     have c5b1 : ((rd l0 x8_1) != 0) = false := bne_eq_false_iff_eq.mpr c5
     clear c5
     have H' := Aside0.mk H
     clear H
     have p236 : 0 ≤ (x8_1 : Int) := od
     have q236 : x8_1 < (l0.length : Int) := od
     obtain ⟨ad236, e236, hx236_0⟩ := Kd.at_int HR0.out x8_1 p236 q236
     cases e236
     replace p236 := eq_true p236
     replace q236 := eq_true q236
     go_wp2
     go_roundg k1
     case measure => have := HK1.out; omega
     case rel => exact ⟨(wrap64 (x8_1 + 1)), rs_, H', ⟨by have := HK1.out; omega⟩, dr_⟩
    ·
     rw [if_neg c5] at H
     have c5b0 : ((rd l0 x8_1) == 0) = false := beq_eq_false_iff_ne.mpr c5
     have c5b1 : ((rd l0 x8_1) != 0) = true := bne_iff_ne.mpr c5
     obtain rfl := Option.some.inj H
     have p236 : 0 ≤ (x8_1 : Int) := od
     have q236 : x8_1 < (l0.length : Int) := od
     obtain ⟨ad236, e236, hx236_0⟩ := Kd.at_int HR0.out x8_1 p236 q236
     cases e236
     replace p236 := eq_true p236
     replace q236 := eq_true q236
     go_wp2
     go_ret
     exact ⟨rs_, dr_⟩
   ·
    rw [if_neg c2] at H
    have c2b0 : decide (x8_1 < (l0.length : Int)) = false := decide_eq_false c2
    clear c2
    obtain rfl := Option.some.inj H
    go_wp2
    go_ret
    exact ⟨rs_, dr_⟩
def cmp_isNaN_int64.f (a0 : Int) : Option (Bool) := some (a0 != a0)
theorem cmp_isNaN_int64.calls (a0 : Int) (r : Bool) (w : World) (h : cmp_isNaN_int64.f a0 = some r) :
 Calls Tryz.prog 81 #[.int .i64 a0] w fun e w' => e = .returned (.bool r) ∧ Drawn0 w w' := by
 have H : (some (a0 != a0)) = some r := h
 clear h
 obtain rfl := Option.some.inj H
 go_enter Tryz.func81, Tryz.ntmps81
 go_wp2
 go_ret
 exact ⟨rs_, dr_⟩
def cmp_Compare_int64.f (a0 : Int) (a1 : Int) : Option (Int) := (cmp_isNaN_int64.f a0).bind fun t237 => ((cmp_isNaN_int64.f a1).bind fun t238 => (if t237 = true then (if t238 = true then (some 0) else (some (-1))) else (if t238 = true then (some 1) else (if a0 < a1 then (some (-1)) else (if a0 > a1 then (some 1) else (some 0))))))
theorem cmp_Compare_int64.calls (a0 : Int) (a1 : Int) (r : Int) (w : World) (h : cmp_Compare_int64.f a0 a1 = some r) :
 Calls Tryz.prog 68 #[.int .i64 a0, .int .i64 a1] w fun e w' => e = .returned (.int .i64 r) ∧ Drawn0 w w' := by
 have H : ((cmp_isNaN_int64.f a0).bind fun t237 => ((cmp_isNaN_int64.f a1).bind fun t238 => (if t237 = true then (if t238 = true then (some 0) else (some (-1))) else (if t238 = true then (some 1) else (if a0 < a1 then (some (-1)) else (if a0 > a1 then (some 1) else (some 0))))))) = some r := h
 clear h
 obtain ⟨t237, A3, H⟩ := bs H
 try dsimp only at H
 obtain ⟨t238, A4, H⟩ := bs H
 try dsimp only at H
 by_cases c5 : t237 = true
 ·
  subst c5
  rw [if_pos rfl] at H
  by_cases c6 : t238 = true
  ·
   subst c6
   rw [if_pos rfl] at H
   obtain rfl := Option.some.inj H
   go_enter Tryz.func68, Tryz.ntmps68
   go_wp2_with (first | (refine gL (some 8) rfl Tryz.func81 #[.int .i64 a0] ?_; (with_reducible refine (cmp_isNaN_int64.calls a0 true _ A3.out).mono ?_); rintro e w' ⟨rfl, ⟨nd, rfl⟩⟩; refine ⟨_, rfl, ?_⟩) | (refine gL (some 10) rfl Tryz.func81 #[.int .i64 a1] ?_; (with_reducible refine (cmp_isNaN_int64.calls a1 true _ A4.out).mono ?_); rintro e w' ⟨rfl, ⟨nd, rfl⟩⟩; refine ⟨_, rfl, ?_⟩))
   go_ret
   exact ⟨rs_, dr_⟩
  ·
   replace c6 := Bool.eq_false_iff.mpr c6
   subst c6
   rw [if_neg (show ¬ (false = true) by decide)] at H
   obtain rfl := Option.some.inj H
   go_enter Tryz.func68, Tryz.ntmps68
   go_wp2_with (first | (refine gL (some 8) rfl Tryz.func81 #[.int .i64 a0] ?_; (with_reducible refine (cmp_isNaN_int64.calls a0 true _ A3.out).mono ?_); rintro e w' ⟨rfl, ⟨nd, rfl⟩⟩; refine ⟨_, rfl, ?_⟩) | (refine gL (some 10) rfl Tryz.func81 #[.int .i64 a1] ?_; (with_reducible refine (cmp_isNaN_int64.calls a1 false _ A4.out).mono ?_); rintro e w' ⟨rfl, ⟨nd, rfl⟩⟩; refine ⟨_, rfl, ?_⟩))
   go_ret
   exact ⟨rs_, dr_⟩
 ·
  replace c5 := Bool.eq_false_iff.mpr c5
  subst c5
  rw [if_neg (show ¬ (false = true) by decide)] at H
  by_cases c7 : t238 = true
  ·
   subst c7
   rw [if_pos rfl] at H
   obtain rfl := Option.some.inj H
   go_enter Tryz.func68, Tryz.ntmps68
   go_wp2_with (first | (refine gL (some 8) rfl Tryz.func81 #[.int .i64 a0] ?_; (with_reducible refine (cmp_isNaN_int64.calls a0 false _ A3.out).mono ?_); rintro e w' ⟨rfl, ⟨nd, rfl⟩⟩; refine ⟨_, rfl, ?_⟩) | (refine gL (some 10) rfl Tryz.func81 #[.int .i64 a1] ?_; (with_reducible refine (cmp_isNaN_int64.calls a1 true _ A4.out).mono ?_); rintro e w' ⟨rfl, ⟨nd, rfl⟩⟩; refine ⟨_, rfl, ?_⟩))
   go_ret
   exact ⟨rs_, dr_⟩
  ·
   replace c7 := Bool.eq_false_iff.mpr c7
   subst c7
   rw [if_neg (show ¬ (false = true) by decide)] at H
   by_cases c8 : a0 < a1
   ·
    rw [if_pos c8] at H
    have c8b0 : decide (a0 < a1) = true := decide_eq_true c8
    clear c8
    obtain rfl := Option.some.inj H
    go_enter Tryz.func68, Tryz.ntmps68
    go_wp2_with (first | (refine gL (some 8) rfl Tryz.func81 #[.int .i64 a0] ?_; (with_reducible refine (cmp_isNaN_int64.calls a0 false _ A3.out).mono ?_); rintro e w' ⟨rfl, ⟨nd, rfl⟩⟩; refine ⟨_, rfl, ?_⟩) | (refine gL (some 10) rfl Tryz.func81 #[.int .i64 a1] ?_; (with_reducible refine (cmp_isNaN_int64.calls a1 false _ A4.out).mono ?_); rintro e w' ⟨rfl, ⟨nd, rfl⟩⟩; refine ⟨_, rfl, ?_⟩))
    go_ret
    exact ⟨rs_, dr_⟩
   ·
    rw [if_neg c8] at H
    have c8b0 : decide (a0 < a1) = false := decide_eq_false c8
    clear c8
    by_cases c9 : a0 > a1
    ·
     rw [if_pos c9] at H
     have c9b0 : decide (a1 < a0) = true := decide_eq_true c9
     clear c9
     obtain rfl := Option.some.inj H
     go_enter Tryz.func68, Tryz.ntmps68
     go_wp2_with (first | (refine gL (some 8) rfl Tryz.func81 #[.int .i64 a0] ?_; (with_reducible refine (cmp_isNaN_int64.calls a0 false _ A3.out).mono ?_); rintro e w' ⟨rfl, ⟨nd, rfl⟩⟩; refine ⟨_, rfl, ?_⟩) | (refine gL (some 10) rfl Tryz.func81 #[.int .i64 a1] ?_; (with_reducible refine (cmp_isNaN_int64.calls a1 false _ A4.out).mono ?_); rintro e w' ⟨rfl, ⟨nd, rfl⟩⟩; refine ⟨_, rfl, ?_⟩))
     go_ret
     exact ⟨rs_, dr_⟩
    ·
     rw [if_neg c9] at H
     have c9b0 : decide (a1 < a0) = false := decide_eq_false c9
     clear c9
     obtain rfl := Option.some.inj H
     go_enter Tryz.func68, Tryz.ntmps68
     go_wp2_with (first | (refine gL (some 8) rfl Tryz.func81 #[.int .i64 a0] ?_; (with_reducible refine (cmp_isNaN_int64.calls a0 false _ A3.out).mono ?_); rintro e w' ⟨rfl, ⟨nd, rfl⟩⟩; refine ⟨_, rfl, ?_⟩) | (refine gL (some 10) rfl Tryz.func81 #[.int .i64 a1] ?_; (with_reducible refine (cmp_isNaN_int64.calls a1 false _ A4.out).mono ?_); rintro e w' ⟨rfl, ⟨nd, rfl⟩⟩; refine ⟨_, rfl, ?_⟩))
     go_ret
     exact ⟨rs_, dr_⟩
def strings_Compare.f (a0 : ByteArray) (a1 : ByteArray) : Option (Int) := some (Lib.compareBytes a0.data.toList a1.data.toList)
theorem strings_Compare.calls (a0 : ByteArray) (a1 : ByteArray) (r : Int) (w : World) (h : strings_Compare.f a0 a1 = some r) :
 Calls Tryz.prog 69 #[.string a0, .string a1] w fun e w' => e = .returned (.int .i64 r) ∧ Drawn0 w w' := by
 obtain rfl := Option.some.inj h
 exact (Tryz.strings_Compare a0 a1 w).mono fun e w' hh => ⟨hh.1, hh.2 ▸ Drawn0.refl _⟩
def row_order.f (k : Nat) (a0_0 : Int) (a0_1 : ByteArray) (a1_0 : Int) (a1_1 : ByteArray) : Option (Int) := (cmp_Compare_int64.f a0_0 a1_0).bind fun t241 => ((strings_Compare.f a0_1 a1_1).bind fun t242 => ((cmp_Or_int.f k (([t241, t242] : List Int))).bind fun t246 => (some t246)))
theorem row_order.mono : ∀ a0 a1 a2 a3 k, LeO (row_order.f k a0 a1 a2 a3) (row_order.f (k + 1) a0 a1 a2 a3) := by
 intro a0 a1 a2 a3 k
 unfold row_order.f
 exact lo
instance row_order.mI {a0 a1 a2 a3 k} : LeC (row_order.f k a0 a1 a2 a3) (row_order.f (k + 1) a0 a1 a2 a3) := ⟨row_order.mono _ _ _ _ _⟩
def row_order.T1 : Bool × List (List Nat × List Nat) := (true, [([], []), ([0], [0]), ([], []), ([2], [2]), ([1, 3], [1, 3]), ([], []), ([5], [5]), ([], []), ([7], [7]), ([6, 8, 4], [6, 8]), ([4, 9], [4, 9]), ([10, 9], [10]), ([11, 11, 0, 1, 2, 3, 4, 5, 6, 7, 8, 9, 10, 11], [11])])
def row_order.B1 : List Nat := [0, 1, 0, 4, 15, 0, 32, 0, 128, 511, 1023, 2047, 4095]
theorem row_order.tab1 : rtab .any (opsOf Tryz.f49 1) = row_order.T1 := by kernel_rfl
theorem row_order.bits1 : waitsOk row_order.T1.2 row_order.B1 = true := by kernel_rfl
theorem row_order.calls (k : Nat) (a0_0 : Int) (a0_1 : ByteArray) (a1_0 : Int) (a1_1 : ByteArray) (r : Int) (w : World) (h : row_order.f k a0_0 a0_1 a1_0 a1_1 = some r) :
 Calls Tryz.prog 49 #[.agg #[.int .i64 a0_0, .string a0_1], .agg #[.int .i64 a1_0, .string a1_1]] w fun e w' => e = .returned (.int .i64 r) ∧ Below w.heap.size w w' := by
 have hu67 := Tryz.underlying67
 have HB := Aside0.mk (Below.refl w.heap.size w)
 have H : ((cmp_Compare_int64.f a0_0 a1_0).bind fun t241 => ((strings_Compare.f a0_1 a1_1).bind fun t242 => ((cmp_Or_int.f k (([t241, t242] : List Int))).bind fun t246 => (some t246)))) = some r := h
 clear h
 obtain ⟨t241, A3, H⟩ := bs H
 try dsimp only at H
 obtain ⟨t242, A4, H⟩ := bs H
 try dsimp only at H
 obtain ⟨y243, hy243⟩ : ∃ y_ : List Int, y_ = (([t241, t242] : List Int)) := ⟨_, rfl⟩
 replace H : ((cmp_Or_int.f k y243).bind fun t246 => (some t246)) = some r := by first | (rw [hy243]; with_reducible exact H) | (have H2_ := (Option.bind_some _ _).symm.trans H; rw [hy243]; with_reducible exact H2_) | (have H2_ := (Option.bind_some _ _).symm.trans H; with_reducible exact H2_) | with_reducible exact H | (rw [hy243]; exact H) | exact H
 have Ny243 := Aside0.mk hy243
 clear hy243
 obtain ⟨t246, A5, H⟩ := bs H
 try dsimp only at H
 obtain rfl := Option.some.inj H
 go_enter Tryz.func49, Tryz.ntmps49
 try go_wp2_with (first | ((with_reducible refine gate_dst (N := 2) rfl ?_); refine bx (N := 2) #[.int .i64 a0_0, .string a0_1] 67 ?_; intro gb239 hg w6 hbox hb; have BK239 := Aside0.mk (hbox); have GW239 := gw hg (uW HB.out); have GE239 := GW239; replace HB := cW HB hb; clear hb hbox hg) | ((with_reducible refine gate_dst (N := 3) rfl ?_); refine bx (N := 3) #[.int .i64 a1_0, .string a1_1] 67 ?_; intro gb240 hg w7 hbox hb; have BK240 := Aside0.mk (hbox); have GW240 := gw hg bl; have GE240 := GW240; replace HB := Aside0.mk (below_step bl hb); have NB239_240 := Aside0.mk ((by rw [hg]; exact Nat.ne_of_lt (blk_lt (g := gb239) (o := .cells #[.int .i64 a0_0, .string a0_1] 67 (0, 0)) (uB BK239.out)) : gb239 ≠ gb240)); have NB240_239 := Aside0.mk ((by rw [hg]; exact Nat.ne_of_gt (blk_lt (g := gb239) (o := .cells #[.int .i64 a0_0, .string a0_1] 67 (0, 0)) (uB BK239.out)) : gb240 ≠ gb239)); replace BK239 := cB BK239 hb; clear hb hbox hg))
 replace BK239 := Aside0.mk (blk_drew BK239.out)
 replace BK240 := Aside0.mk (blk_drew BK240.out)
 replace HB := Aside0.mk (below_drew1 HB.out)
 refine start_ (n := 13) (S := fun w' => w'.cell? ⟨gb239, 0, none⟩ = some (.int .i64 a0_0) ∧ w'.cell? ⟨gb239, 1, none⟩ = some (.string a0_1) ∧ w'.cell? ⟨gb240, 0, none⟩ = some (.int .i64 a1_0) ∧ w'.cell? ⟨gb240, 1, none⟩ = some (.string a1_1)) (ds := []) _ (by kernel_rfl) rfl rfl ⟨(blk_cell BK239.out 0).trans rfl, (blk_cell BK239.out 1).trans rfl, (blk_cell BK240.out 0).trans rfl, (blk_cell BK240.out 1).trans rfl⟩ (fun hHeld => ?_); refine with_tabW row_order.tab1 row_order.bits1 (fun HT_ HW_ => ?_)
 generalize w7.drew = w8 at BK239 BK240 HB hHeld ⊢
 refine p1 0 (some 5) ?_
 refine p1 2 (some 7) ?_
 refine p1 5 (some 10) ?_
 refine p1 7 (some 12) ?_
 refine t1 1 (some 6) rfl rfl hHeld (Or.inl ⟨by rfl, by rintro w' ⟨s0, s1, s2, s3⟩; go_simp; with_reducible rfl⟩) ?_
 refine t1 3 (some 8) rfl rfl hHeld (Or.inl ⟨by rfl, by rintro w' ⟨s0, s1, s2, s3⟩; go_simp; with_reducible rfl⟩) ?_
 refine t1 6 (some 11) rfl rfl hHeld (Or.inl ⟨by rfl, by rintro w' ⟨s0, s1, s2, s3⟩; go_simp; with_reducible rfl⟩) ?_
 refine t1 8 (some 13) rfl rfl hHeld (Or.inl ⟨by rfl, by rintro w' ⟨s0, s1, s2, s3⟩; go_simp; with_reducible rfl⟩) ?_
 refine o1 4 (some 9) rfl rfl (fun K hK => ?_)
 refine gS Tryz.func68 #[.int .i64 a0_0, .int .i64 a1_0] ?_
 with_reducible refine (cmp_Compare_int64.calls a0_0 a1_0 t241 _ A3.out).mono ?_
 rintro e w' ⟨rfl, ⟨nd, rfl⟩⟩
 refine ⟨_, rfl, ?_⟩
 refine hK.out _ _ ⟨(blk_cell BK239.out 0).trans rfl, (blk_cell BK239.out 1).trans rfl, (blk_cell BK240.out 0).trans rfl, (blk_cell BK240.out 1).trans rfl⟩ (fun hHeld => ?_)
 clear hK K
 refine norm_ (a' := ?_) ?_ ?_
 rotate_left
 ·
  show Act.put _ (some 9) _ = _
  simp only [Act.put, List.setIfInBounds_toArray, List.set_cons_zero, List.set_cons_succ, i64_w, i32_w]
  rfl
 refine o1 9 (some 14) rfl rfl (fun K hK => ?_)
 refine gS Tryz.func69 #[.string a0_1, .string a1_1] ?_
 with_reducible refine (strings_Compare.calls a0_1 a1_1 t242 _ A4.out).mono ?_
 rintro e w' ⟨rfl, ⟨nd, rfl⟩⟩
 refine ⟨_, rfl, ?_⟩
 refine hK.out _ _ ⟨(blk_cell BK239.out 0).trans rfl, (blk_cell BK239.out 1).trans rfl, (blk_cell BK240.out 0).trans rfl, (blk_cell BK240.out 1).trans rfl⟩ (fun hHeld => ?_)
 clear hK K
 refine norm_ (a' := ?_) ?_ ?_
 rotate_left
 ·
  show Act.put _ (some 14) _ = _
  simp only [Act.put, List.setIfInBounds_toArray, List.set_cons_zero, List.set_cons_succ, i64_w, i32_w]
  rfl
 refine o1 10 (some 15) rfl rfl (fun K hK => ?_)
 refine Kd.R_lit_step (Kd.int .i64) _ 3 ?hg (N := 15) ?hd (xs := ([t241, t242] : List Int)) (inner := [.int .i64 t241, .int .i64 t242]) (ok := fun _ => True) (okp := fun _ => True) ?hr ?hp (fun _ hk => hk) trivial (Below.refl _ _) (Nat.le_refl _) (by simp) ?_; (case hd => rfl); (case hg => rfl); (case hr => first | (go_simp; done) | (go_simp; rfl)); (case hp => exact (Reps.one (show Kd.M (Kd.int .i64) _ _ _ t241 [.int .i64 t241] from rfl) (Reps.one (show Kd.M (Kd.int .i64) _ _ _ t242 [.int .i64 t242] from rfl) (Reps.none _ _))))
 intro v244 w9 ho10 hb hg_ hnew_
 clear hg_ hnew_
 (first | rw [← Ny243.out] at ho10 | (simp only [Int.reduceToNat] at ho10; rw [← Ny243.out] at ho10))
 have HO245 := Aside0.mk (Kd.R_lower ho10 (below_size bl))
 replace BK239 := cB BK239 hb
 replace BK240 := cB BK240 hb
 replace HB := Aside0.mk (below_step bl hb)
 clear hb ho10
 obtain ⟨Ao11, co11, eo11⟩ := Kd.R_slice HO245.out
 (first | subst eo11 | (injection eo11 with f1_ f2_ f3_; have f4_ := f1_.symm; have f5_ := f3_.symm; clear f1_ f2_ f3_; subst f4_; subst f5_))
 refine hK.out _ _ ⟨(blk_cell BK239.out 0).trans rfl, (blk_cell BK239.out 1).trans rfl, (blk_cell BK240.out 0).trans rfl, (blk_cell BK240.out 1).trans rfl⟩ (fun hHeld => ?_)
 clear hK K
 refine norm_ (a' := ?_) ?_ ?_
 rotate_left
 ·
  show Act.put _ (some 15) _ = _
  simp only [Act.put, List.setIfInBounds_toArray, List.set_cons_zero, List.set_cons_succ, i64_w, i32_w]
  rfl
 refine o1 11 (some 16) rfl rfl (fun K hK => ?_)
 refine gS Tryz.func67 #[.slice Ao11 y243.length co11] ?_
 with_reducible refine (cmp_Or_int.calls k _ _ y243 t246 _ ?side1 ?side2 A5.out).mono ?_
 (case side1 => exact uC <| (Kd.R_reads' HO245.out).2.2)
 (case side2 => exact (Kd.R_reads' HO245.out).2.1)
 rintro e w' ⟨rfl, ⟨nd, rfl⟩⟩
 refine ⟨_, rfl, ?_⟩
 refine hK.out _ _ ⟨(blk_cell BK239.out 0).trans rfl, (blk_cell BK239.out 1).trans rfl, (blk_cell BK240.out 0).trans rfl, (blk_cell BK240.out 1).trans rfl⟩ (fun hHeld => ?_)
 clear hK K
 refine norm_ (a' := ?_) ?_ ?_
 rotate_left
 ·
  show Act.put _ (some 16) _ = _
  simp only [Act.put, List.setIfInBounds_toArray, List.set_cons_zero, List.set_cons_succ, i64_w, i32_w]
  rfl
 refine p1 12 (some 4) ?_
 refine done_ (done_of HT_.out (by kernel_rfl)) ?_
 try go_wp2
 go_ret
 exact ⟨re_, bl⟩
def row_of.f (a0_0 : Int) (a0_1 : ByteArray) (a0_2 : Int) (a0_3 : Bool) : Option (Int × ByteArray) := some (a0_0, a0_1)
theorem row_of.calls (a0_0 : Int) (a0_1 : ByteArray) (a0_2 : Int) (a0_3 : Bool) (r1 : Int) (r2 : ByteArray) (w : World) (h : row_of.f a0_0 a0_1 a0_2 a0_3 = some (r1, r2)) :
 Calls Tryz.prog 50 #[.agg #[.int .i64 a0_0, .string a0_1, .int .i64 a0_2, .bool a0_3]] w fun e w' => e = .returned (.agg #[.int .i64 r1, .string r2]) ∧ Below w.heap.size w w' := by
 have hu45 := Tryz.underlying45
 have hu67 := Tryz.underlying67
 have HB := Aside0.mk (Below.refl w.heap.size w)
 have H : (some (a0_0, a0_1)) = some (r1, r2) := h
 clear h
 simp only [Option.some.injEq, Prod.mk.injEq] at H
 obtain ⟨rfl, rfl⟩ := H
 go_enter Tryz.func50, Tryz.ntmps50
 go_wp2_with (first | ((with_reducible refine gate_dst (N := 1) rfl ?_); refine bx (N := 1) #[.int .i64 a0_0, .string a0_1, .int .i64 a0_2, .bool a0_3] 45 ?_; intro gb247 hg w2 hbox hb; have BK247 := Aside0.mk (hbox); have GW247 := gw hg (uW HB.out); have GE247 := GW247; replace HB := cW HB hb; clear hb hbox hg) | ((with_reducible refine gate_dst (N := 2) rfl ?_); refine bx (N := 2) #[.int .i64 0, .string (⟨#[]⟩ : ByteArray)] 67 ?_; intro gb248 hg w3 hbox hb; have BK248 := Aside0.mk (hbox); have GW248 := gw hg bl; have GE248 := GW248; replace HB := Aside0.mk (below_step bl hb); have NB247_248 := Aside0.mk ((by rw [hg]; exact Nat.ne_of_lt (blk_lt (g := gb247) (o := .cells #[.int .i64 a0_0, .string a0_1, .int .i64 a0_2, .bool a0_3] 45 (0, 0)) (uB BK247.out)) : gb247 ≠ gb248)); have NB248_247 := Aside0.mk ((by rw [hg]; exact Nat.ne_of_gt (blk_lt (g := gb247) (o := .cells #[.int .i64 a0_0, .string a0_1, .int .i64 a0_2, .bool a0_3] 45 (0, 0)) (uB BK247.out)) : gb248 ≠ gb247)); replace BK247 := cB BK247 hb; clear hb hbox hg; have hnb4 := NB247_248.out; have hnc4 := NB248_247.out; obtain ⟨hcz5_0, hcz5_1, hcz5_2, hcz5_3, hfz5_0, hfz5_1, hfz5_2, hfz5_3⟩ := z4 BK247; obtain ⟨hcz6_0, hcz6_1, hfz6_0, hfz6_1⟩ := z2 BK248))
 refine bodyPost_ret (results_cell_row rfl _ _ gb248 67 #[.int .i64 a0_0, .string a0_1] (0, 0) _ rfl (by (with_reducible repeat (first | refine blk_drewN ?_ _ | refine blk_drew ?_ | refine blk_alloc ?_ _)); refine blk_put (cs := #[.int .i64 a0_0, .string (⟨#[]⟩ : ByteArray)]) ?_ 1 _ rfl; (with_reducible repeat (first | refine blk_drewN ?_ _ | refine blk_drew ?_ | refine blk_alloc ?_ _)); refine blk_put (cs := #[.int .i64 0, .string (⟨#[]⟩ : ByteArray)]) ?_ 0 _ rfl; exact uB <| BK248.out) Tryz.underlying67 rfl (by kernel_rfl)) rfl ?_
 exact ⟨re_, bl⟩
def row_Before.f (k : Nat) (a0_0 : Int) (a0_1 : ByteArray) (a0_2 : Int) (a0_3 : Bool) (a1_0 : Int) (a1_1 : ByteArray) (a1_2 : Int) (a1_3 : Bool) : Option (Bool) := (row_of.f a0_0 a0_1 a0_2 a0_3).bind fun bt251 => ((row_of.f a1_0 a1_1 a1_2 a1_3).bind fun bt253 => ((row_order.f k bt251.1 bt251.2 bt253.1 bt253.2).bind fun t255 => (some (decide (t255 < 0)))))
theorem row_Before.mono : ∀ a0 a1 a2 a3 a4 a5 a6 a7 k, LeO (row_Before.f k a0 a1 a2 a3 a4 a5 a6 a7) (row_Before.f (k + 1) a0 a1 a2 a3 a4 a5 a6 a7) := by
 intro a0 a1 a2 a3 a4 a5 a6 a7 k
 unfold row_Before.f
 exact lo
instance row_Before.mI {a0 a1 a2 a3 a4 a5 a6 a7 k} : LeC (row_Before.f k a0 a1 a2 a3 a4 a5 a6 a7) (row_Before.f (k + 1) a0 a1 a2 a3 a4 a5 a6 a7) := ⟨row_Before.mono _ _ _ _ _ _ _ _ _⟩
theorem row_Before.calls (k : Nat) (a0_0 : Int) (a0_1 : ByteArray) (a0_2 : Int) (a0_3 : Bool) (a1_0 : Int) (a1_1 : ByteArray) (a1_2 : Int) (a1_3 : Bool) (r : Bool) (w : World) (h : row_Before.f k a0_0 a0_1 a0_2 a0_3 a1_0 a1_1 a1_2 a1_3 = some r) :
 Calls Tryz.prog 25 #[.agg #[.int .i64 a0_0, .string a0_1, .int .i64 a0_2, .bool a0_3], .agg #[.int .i64 a1_0, .string a1_1, .int .i64 a1_2, .bool a1_3]] w fun e w' => e = .returned (.bool r) ∧ Below w.heap.size w w' := by
 have hu45 := Tryz.underlying45
 have HB := Aside0.mk (Below.refl w.heap.size w)
 have H : ((row_of.f a0_0 a0_1 a0_2 a0_3).bind fun bt251 => ((row_of.f a1_0 a1_1 a1_2 a1_3).bind fun bt253 => ((row_order.f k bt251.1 bt251.2 bt253.1 bt253.2).bind fun t255 => (some (decide (t255 < 0)))))) = some r := h
 clear h
 obtain ⟨⟨t251, t252⟩, A3, H⟩ := bs H
 try dsimp only at H
 obtain ⟨⟨t253, t254⟩, A4, H⟩ := bs H
 try dsimp only at H
 obtain ⟨t255, A5, H⟩ := bs H
 try dsimp only at H
 obtain rfl := Option.some.inj H
 go_enter Tryz.func25, Tryz.ntmps25
 try go_wp2_with (first | ((with_reducible refine gate_dst (N := 2) rfl ?_); refine bx (N := 2) #[.int .i64 a0_0, .string a0_1, .int .i64 a0_2, .bool a0_3] 45 ?_; intro gb249 hg w6 hbox hb; have BK249 := Aside0.mk (hbox); have GW249 := gw hg (uW HB.out); have GE249 := GW249; replace HB := cW HB hb; clear hb hbox hg) | ((with_reducible refine gate_dst (N := 3) rfl ?_); refine bx (N := 3) #[.int .i64 a1_0, .string a1_1, .int .i64 a1_2, .bool a1_3] 45 ?_; intro gb250 hg w7 hbox hb; have BK250 := Aside0.mk (hbox); have GW250 := gw hg bl; have GE250 := GW250; replace HB := Aside0.mk (below_step bl hb); have NB249_250 := Aside0.mk ((by rw [hg]; exact Nat.ne_of_lt (blk_lt (g := gb249) (o := .cells #[.int .i64 a0_0, .string a0_1, .int .i64 a0_2, .bool a0_3] 45 (0, 0)) (uB BK249.out)) : gb249 ≠ gb250)); have NB250_249 := Aside0.mk ((by rw [hg]; exact Nat.ne_of_gt (blk_lt (g := gb249) (o := .cells #[.int .i64 a0_0, .string a0_1, .int .i64 a0_2, .bool a0_3] 45 (0, 0)) (uB BK249.out)) : gb250 ≠ gb249)); replace BK249 := cB BK249 hb; clear hb hbox hg))
 replace BK249 := Aside0.mk (blk_drew BK249.out)
 replace BK250 := Aside0.mk (blk_drew BK250.out)
 replace HB := Aside0.mk (below_drew1 HB.out)
 refine start_ (n := 7) (S := fun w' => w'.cell? ⟨gb249, 0, none⟩ = some (.int .i64 a0_0) ∧ w'.cell? ⟨gb249, 1, none⟩ = some (.string a0_1) ∧ w'.cell? ⟨gb249, 2, none⟩ = some (.int .i64 a0_2) ∧ w'.cell? ⟨gb249, 3, none⟩ = some (.bool a0_3) ∧ w'.cell? ⟨gb250, 0, none⟩ = some (.int .i64 a1_0) ∧ w'.cell? ⟨gb250, 1, none⟩ = some (.string a1_1) ∧ w'.cell? ⟨gb250, 2, none⟩ = some (.int .i64 a1_2) ∧ w'.cell? ⟨gb250, 3, none⟩ = some (.bool a1_3)) (ds := []) _ (by kernel_rfl) rfl rfl ⟨(blk_cell BK249.out 0).trans rfl, (blk_cell BK249.out 1).trans rfl, (blk_cell BK249.out 2).trans rfl, (blk_cell BK249.out 3).trans rfl, (blk_cell BK250.out 0).trans rfl, (blk_cell BK250.out 1).trans rfl, (blk_cell BK250.out 2).trans rfl, (blk_cell BK250.out 3).trans rfl⟩ (fun hHeld => ?_)
 generalize w7.drew = w8 at BK249 BK250 HB hHeld ⊢
 refine take_ (i := 0) (N := some 5) (v := ?_) (a' := ?_) #[true, false, false, false, false, false, false] rfl rfl (by kernel_rfl) (fun _ _ _ h => h) (Or.inl ⟨by rfl, ?_⟩) hHeld ?_ ?_
 rotate_left
 ·
  rintro w' ⟨s0, s1, s2, s3, s4, s5, s6, s7⟩
  go_simp
  with_reducible rfl
 rotate_left
 ·
  simp only [Act.put, List.setIfInBounds_toArray, List.set_cons_zero, List.set_cons_succ, i64_w, i32_w]
  rfl
 refine take_ (i := 2) (N := some 7) (v := ?_) (a' := ?_) #[true, false, true, false, false, false, false] rfl rfl (by kernel_rfl) (fun _ _ _ h => h) (Or.inl ⟨by rfl, ?_⟩) hHeld ?_ ?_
 rotate_left
 ·
  rintro w' ⟨s0, s1, s2, s3, s4, s5, s6, s7⟩
  go_simp
  with_reducible rfl
 rotate_left
 ·
  simp only [Act.put, List.setIfInBounds_toArray, List.set_cons_zero, List.set_cons_succ, i64_w, i32_w]
  rfl
 refine one_ (i := 1) (N := some 6) #[true, true, true, false, false, false, false] rfl rfl (by kernel_rfl) (by decide) (fun K hK => ?_)
 refine gS Tryz.func50 #[.agg #[.int .i64 a0_0, .string a0_1, .int .i64 a0_2, .bool a0_3]] ?_
 with_reducible refine (row_of.calls a0_0 a0_1 a0_2 a0_3 t251 t252 _ A3.out).mono ?_
 rintro e w9 ⟨rfl, hb⟩
 refine ⟨_, rfl, ?_⟩
 replace BK249 := cB BK249 hb
 replace BK250 := cB BK250 hb
 replace HB := Aside0.mk (below_step bl hb)
 (try clear hb)
 refine hK.out _ _ ⟨(blk_cell BK249.out 0).trans rfl, (blk_cell BK249.out 1).trans rfl, (blk_cell BK249.out 2).trans rfl, (blk_cell BK249.out 3).trans rfl, (blk_cell BK250.out 0).trans rfl, (blk_cell BK250.out 1).trans rfl, (blk_cell BK250.out 2).trans rfl, (blk_cell BK250.out 3).trans rfl⟩ (fun hHeld => ?_)
 clear hK K
 refine norm_ (a' := ?_) ?_ ?_
 rotate_left
 ·
  show Act.put _ (some 6) _ = _
  simp only [Act.put, List.setIfInBounds_toArray, List.set_cons_zero, List.set_cons_succ, i64_w, i32_w]
  rfl
 refine one_ (i := 3) (N := some 8) #[true, true, true, true, false, false, false] rfl rfl (by kernel_rfl) (by decide) (fun K hK => ?_)
 refine gS Tryz.func50 #[.agg #[.int .i64 a1_0, .string a1_1, .int .i64 a1_2, .bool a1_3]] ?_
 with_reducible refine (row_of.calls a1_0 a1_1 a1_2 a1_3 t253 t254 _ A4.out).mono ?_
 rintro e w10 ⟨rfl, hb⟩
 refine ⟨_, rfl, ?_⟩
 replace BK249 := cB BK249 hb
 replace BK250 := cB BK250 hb
 replace HB := Aside0.mk (below_step bl hb)
 (try clear hb)
 refine hK.out _ _ ⟨(blk_cell BK249.out 0).trans rfl, (blk_cell BK249.out 1).trans rfl, (blk_cell BK249.out 2).trans rfl, (blk_cell BK249.out 3).trans rfl, (blk_cell BK250.out 0).trans rfl, (blk_cell BK250.out 1).trans rfl, (blk_cell BK250.out 2).trans rfl, (blk_cell BK250.out 3).trans rfl⟩ (fun hHeld => ?_)
 clear hK K
 refine norm_ (a' := ?_) ?_ ?_
 rotate_left
 ·
  show Act.put _ (some 8) _ = _
  simp only [Act.put, List.setIfInBounds_toArray, List.set_cons_zero, List.set_cons_succ, i64_w, i32_w]
  rfl
 refine one_ (i := 4) (N := some 9) #[true, true, true, true, true, false, false] rfl rfl (by kernel_rfl) (by decide) (fun K hK => ?_)
 refine gS Tryz.func49 #[.agg #[.int .i64 t251, .string t252], .agg #[.int .i64 t253, .string t254]] ?_
 with_reducible refine (row_order.calls k t251 t252 t253 t254 t255 _ A5.out).mono ?_
 rintro e w11 ⟨rfl, hb⟩
 refine ⟨_, rfl, ?_⟩
 replace BK249 := cB BK249 hb
 replace BK250 := cB BK250 hb
 replace HB := Aside0.mk (below_step bl hb)
 (try clear hb)
 refine hK.out _ _ ⟨(blk_cell BK249.out 0).trans rfl, (blk_cell BK249.out 1).trans rfl, (blk_cell BK249.out 2).trans rfl, (blk_cell BK249.out 3).trans rfl, (blk_cell BK250.out 0).trans rfl, (blk_cell BK250.out 1).trans rfl, (blk_cell BK250.out 2).trans rfl, (blk_cell BK250.out 3).trans rfl⟩ (fun hHeld => ?_)
 clear hK K
 refine norm_ (a' := ?_) ?_ ?_
 rotate_left
 ·
  show Act.put _ (some 9) _ = _
  simp only [Act.put, List.setIfInBounds_toArray, List.set_cons_zero, List.set_cons_succ, i64_w, i32_w]
  rfl
 refine pure_ (i := 5) (N := some 10) (v := ?_) (a' := ?_) #[true, true, true, true, true, true, false] rfl rfl (by kernel_rfl) (fun _ _ _ h => h) (Or.inl ⟨by rfl, ?_⟩) ?_ ?_
 rotate_left
 ·
  intro w'
  go_simp
  with_reducible rfl
 rotate_left
 ·
  simp only [Act.put, List.setIfInBounds_toArray, List.set_cons_zero, List.set_cons_succ, i64_w, i32_w]
  rfl
 refine pure_ (i := 6) (N := some 4) (v := ?_) (a' := ?_) #[true, true, true, true, true, true, true] rfl rfl (by kernel_rfl) (fun _ _ _ h => h) (Or.inl ⟨by rfl, ?_⟩) ?_ ?_
 rotate_left
 ·
  intro w'
  go_simp
  with_reducible rfl
 rotate_left
 ·
  simp only [Act.put, List.setIfInBounds_toArray, List.set_cons_zero, List.set_cons_succ, i64_w, i32_w]
  rfl
 refine done_ (by kernel_rfl) ?_
 try go_wp2
 go_ret
 exact ⟨re_, bl⟩
def row_rise.l0 : Nat → List (S45) → Int → Option (Bool)
 | 0, _, _ => none
 | k + 1, x0, x3 => if x3 < (x0.length : Int) then (if 0 ≤ (wrap64 (x3 - 1)) then (if (wrap64 (x3 - 1)) < (x0.length : Int) then (if 0 ≤ x3 then ((row_Before.f k ((rd_T45 x0 (wrap64 (x3 - 1))).f0) ((rd_T45 x0 (wrap64 (x3 - 1))).f1) ((rd_T45 x0 (wrap64 (x3 - 1))).f2.f0) ((rd_T45 x0 (wrap64 (x3 - 1))).f2.f1) ((rd_T45 x0 x3).f0) ((rd_T45 x0 x3).f1) ((rd_T45 x0 x3).f2.f0) ((rd_T45 x0 x3).f2.f1)).bind fun t258 => (if t258 = true then (row_rise.l0 k x0 (wrap64 (x3 + 1))) else (some false))) else (none)) else (none)) else (none)) else (some true)
def row_rise.f (k : Nat) (l0 : List (S45)) : Option (Bool) := row_rise.l0 k l0 1
theorem row_rise.mono_l : ∀ k, (∀ y0 y1, LeC (row_rise.l0 k y0 y1) (row_rise.l0 (k + 1) y0 y1))
 | 0 => fun _ _ => ⟨fun r h => by simp [row_rise.l0] at h⟩
 | k + 1 => by have ih0 := row_rise.mono_l k; exact fun _ _ => by unfold row_rise.l0; exact lm
theorem row_rise.mono : ∀ a0 k, LeO (row_rise.f k a0) (row_rise.f (k + 1) a0) := by
 intro a0 k
 have ih0 := row_rise.mono_l k
 unfold row_rise.f
 exact lo
instance row_rise.mI {a0 k} : LeC (row_rise.f k a0) (row_rise.f (k + 1) a0) := ⟨row_rise.mono _ _⟩
def row_rise.T4 : Bool × List (List Nat × List Nat) := (true, [([], []), ([], []), ([1], [1]), ([0, 2], [0, 2]), ([3], [3]), ([], []), ([], []), ([5, 6], [5, 6]), ([7], [7]), ([4, 8], [4, 8]), ([9], [9])])
def row_rise.B4 : List Nat := [0, 0, 2, 7, 15, 0, 0, 96, 224, 511, 1023]
theorem row_rise.tab4 : rtab .any (opsOf Tryz.f45 4) = row_rise.T4 := by kernel_rfl
theorem row_rise.bits4 : waitsOk row_rise.T4.2 row_rise.B4 = true := by kernel_rfl
theorem row_rise.calls (k : Nat) (A0 : Option Addr) (c0 : Nat) (l0 : List (S45)) (r : Bool) (w : World) (hr0 : Kd.C k45 w A0 l0.length l0) (hc0 : l0.length ≤ c0) (h : row_rise.f k l0 = some r) :
 Calls Tryz.prog 45 #[.slice A0 l0.length c0] w fun e w' => e = .returned (.bool r) ∧ Below w.heap.size w w' := by
 have hu45 := Tryz.underlying45
 have HR0 := Aside0.mk hr0
 have HC0 := Aside0.mk hc0
 clear hr0 hc0
 have HB := Aside0.mk (Below.refl w.heap.size w)
 have H : (row_rise.l0 k l0 1) = some r := h
 clear h
 have H' := Aside0.mk H
 clear H
 go_enter Tryz.func45, Tryz.ntmps45
 go_wp2
 go_loopg [3] k (fun kq v3 w' => ∃ (x3_1 : Int), v3 = .int .i64 x3_1 ∧ Aside0 (row_rise.l0 kq l0 x3_1 = some r) ∧ Aside0 (kq ≤ k) ∧ Aside0 (Below w.heap.size w w'))
 case atStart => exact ⟨(1), rs_, H', ⟨Nat.le_refl _⟩, ⟨uW HB.out⟩⟩
 case round =>
  clear H'
  obtain ⟨x3_1, rfl, HA, HK1, HB⟩ := hrel
  cases gk with
  | zero => exact absurd HA.out (by simp [row_rise.l0])
  | succ k1 =>
   have H := HA.out
   clear HA
   simp only [row_rise.l0] at H
   by_cases c2 : x3_1 < (l0.length : Int)
   ·
    rw [if_pos c2] at H
    have c2b0 : decide (x3_1 < (l0.length : Int)) = true := decide_eq_true c2
    clear c2
    obtain ⟨ji3, hji3⟩ : ∃ j_ : Int, (wrap64 (x3_1 - 1)) = j_ := ⟨_, rfl⟩
    (first | rw [hji3] at H | simp only [hji3] at H)
    have hji3w : (IntKind.i64.wrap (x3_1 - 1)) = ji3 := (i64_w _).trans hji3
    obtain ⟨c4b0, H⟩ := gdd H
    obtain ⟨c5b0, H⟩ := gdd H
    obtain ⟨c6b0, H⟩ := gdd H
    obtain ⟨t258, A7, H⟩ := bs H
    try dsimp only at H
    by_cases c8 : t258 = true
    ·
     subst c8
     rw [if_pos rfl] at H
     have H' := Aside0.mk H
     clear H
     try go_wp2
     replace HB := Aside0.mk (below_drew1 HB.out)
     have p256 : 0 ≤ ((ji3) : Int) := od
     have q256 : (ji3) < (l0.length : Int) := od
     obtain ⟨ad256, e256, hx256_0, hx256_1, hx256_2, hx256_3⟩ := at_T45 HR0.out (ji3) p256 q256
     have hw256_3 := hx256_3
     have hw256_2 := hx256_2
     have hw256_1 := hx256_1
     have hw256_0 := hx256_0
     cases e256
     replace hx256_0 := kc HB hx256_0
     replace hx256_1 := kc HB hx256_1
     replace hx256_2 := kc HB hx256_2
     replace hx256_3 := kc HB hx256_3
     replace p256 := eq_true p256
     replace q256 := eq_true q256
     have p257 : 0 ≤ (x3_1 : Int) := od
     have q257 : x3_1 < (l0.length : Int) := od
     obtain ⟨ad257, e257, hx257_0, hx257_1, hx257_2, hx257_3⟩ := at_T45 HR0.out x3_1 p257 q257
     have hw257_3 := hx257_3
     have hw257_2 := hx257_2
     have hw257_1 := hx257_1
     have hw257_0 := hx257_0
     obtain rfl : ad256 = ad257 := (by injection e257)
     replace hx257_0 := kc HB hx257_0
     replace hx257_1 := kc HB hx257_1
     replace hx257_2 := kc HB hx257_2
     replace hx257_3 := kc HB hx257_3
     replace p257 := eq_true p257
     replace q257 := eq_true q257
     refine start_ (n := 11) (S := fun w' => w'.cell? (ad256.add (((ji3)).toNat * 4)) = some (.int .i64 ((rd_T45 l0 (ji3)).f0)) ∧ w'.cell? ⟨(ad256.add (((ji3)).toNat * 4)).block, (ad256.add (((ji3)).toNat * 4)).off + 1, none⟩ = some (.string ((rd_T45 l0 (ji3)).f1)) ∧ w'.cell? ⟨(ad256.add (((ji3)).toNat * 4)).block, (ad256.add (((ji3)).toNat * 4)).off + 2, none⟩ = some (.int .i64 ((rd_T45 l0 (ji3)).f2.f0)) ∧ w'.cell? ⟨(ad256.add (((ji3)).toNat * 4)).block, (ad256.add (((ji3)).toNat * 4)).off + 3, none⟩ = some (.bool ((rd_T45 l0 (ji3)).f2.f1)) ∧ w'.cell? (ad256.add ((x3_1).toNat * 4)) = some (.int .i64 ((rd_T45 l0 x3_1).f0)) ∧ w'.cell? ⟨(ad256.add ((x3_1).toNat * 4)).block, (ad256.add ((x3_1).toNat * 4)).off + 1, none⟩ = some (.string ((rd_T45 l0 x3_1).f1)) ∧ w'.cell? ⟨(ad256.add ((x3_1).toNat * 4)).block, (ad256.add ((x3_1).toNat * 4)).off + 2, none⟩ = some (.int .i64 ((rd_T45 l0 x3_1).f2.f0)) ∧ w'.cell? ⟨(ad256.add ((x3_1).toNat * 4)).block, (ad256.add ((x3_1).toNat * 4)).off + 3, none⟩ = some (.bool ((rd_T45 l0 x3_1).f2.f1))) (ds := []) _ (by kernel_rfl) rfl rfl ⟨(kc HB hw256_0), (kc HB hw256_1), (kc HB hw256_2), (kc HB hw256_3), (kc HB hw257_0), (kc HB hw257_1), (kc HB hw257_2), (kc HB hw257_3)⟩ (fun hHeld => ?_); refine with_tabW row_rise.tab4 row_rise.bits4 (fun HT_ HW_ => ?_)
     generalize wr.drew = w9 at HB hx256_0 hx256_1 hx256_2 hx256_3 hx257_0 hx257_1 hx257_2 hx257_3 hHeld ⊢
     refine p1 0 (some 10) ?_
     refine p1 1 (some 11) ?_
     refine p1 2 (some 12) ?_
     refine p1 3 (some 13) ?_
     refine p1 5 (some 15) ?_
     refine p1 6 (some 16) ?_
     refine p1 7 (some 17) ?_
     refine t1 4 (some 14) rfl rfl hHeld (Or.inl ⟨by rfl, by rintro w' ⟨s0, s1, s2, s3, s4, s5, s6, s7⟩; go_simp; with_reducible rfl⟩) ?_
     refine t1 8 (some 18) rfl rfl hHeld (Or.inl ⟨by rfl, by rintro w' ⟨s0, s1, s2, s3, s4, s5, s6, s7⟩; go_simp; with_reducible rfl⟩) ?_
     refine o1 9 (some 19) rfl rfl (fun K hK => ?_)
     refine goes_ Tryz.func25 (by kernel_rfl) rfl #[.agg #[.int .i64 ((rd_T45 l0 (ji3)).f0), .string ((rd_T45 l0 (ji3)).f1), .int .i64 ((rd_T45 l0 (ji3)).f2.f0), .bool ((rd_T45 l0 (ji3)).f2.f1)], .agg #[.int .i64 ((rd_T45 l0 x3_1).f0), .string ((rd_T45 l0 x3_1).f1), .int .i64 ((rd_T45 l0 x3_1).f2.f0), .bool ((rd_T45 l0 x3_1).f2.f1)]] (by rfl) rfl rfl (by (try simp only [List.map_toArray, List.map_cons, List.map_nil]); first | done | (simp only [hji3]; rfl) | rfl | (simp only [List.length_drop, List.length_take]; rfl)) ?_
     with_reducible refine (row_Before.calls k1 ((rd_T45 l0 (ji3)).f0) ((rd_T45 l0 (ji3)).f1) ((rd_T45 l0 (ji3)).f2.f0) ((rd_T45 l0 (ji3)).f2.f1) ((rd_T45 l0 x3_1).f0) ((rd_T45 l0 x3_1).f1) ((rd_T45 l0 x3_1).f2.f0) ((rd_T45 l0 x3_1).f2.f1) true _ A7.out).mono ?_
     rintro e w10 ⟨rfl, hb⟩
     refine ⟨_, rfl, ?_⟩
     replace HB := cW HB hb
     (try clear hb)
     refine hK.out _ _ ⟨(kc HB hw256_0), (kc HB hw256_1), (kc HB hw256_2), (kc HB hw256_3), (kc HB hw257_0), (kc HB hw257_1), (kc HB hw257_2), (kc HB hw257_3)⟩ (fun hHeld => ?_)
     clear hK K
     refine norm_ (a' := ?_) ?_ ?_
     rotate_left
     ·
      show Act.put _ (some 19) _ = _
      simp only [Act.put, List.setIfInBounds_toArray, List.set_cons_zero, List.set_cons_succ, i64_w, i32_w]
      rfl
     refine p1 10 (some 20) ?_
     refine done_ (done_of HT_.out (by kernel_rfl)) ?_
     try go_wp2
     go_roundg k1
     case measure => have := HK1.out; omega
     case rel => exact ⟨(wrap64 (x3_1 + 1)), rs_, H', ⟨by have := HK1.out; omega⟩, ⟨uW HB.out⟩⟩
    ·
     replace c8 := Bool.eq_false_iff.mpr c8
     subst c8
     rw [if_neg (show ¬ (false = true) by decide)] at H
     obtain rfl := Option.some.inj H
     try go_wp2
     replace HB := Aside0.mk (below_drew1 HB.out)
     have p256 : 0 ≤ ((ji3) : Int) := od
     have q256 : (ji3) < (l0.length : Int) := od
     obtain ⟨ad256, e256, hx256_0, hx256_1, hx256_2, hx256_3⟩ := at_T45 HR0.out (ji3) p256 q256
     have hw256_3 := hx256_3
     have hw256_2 := hx256_2
     have hw256_1 := hx256_1
     have hw256_0 := hx256_0
     cases e256
     replace hx256_0 := kc HB hx256_0
     replace hx256_1 := kc HB hx256_1
     replace hx256_2 := kc HB hx256_2
     replace hx256_3 := kc HB hx256_3
     replace p256 := eq_true p256
     replace q256 := eq_true q256
     have p257 : 0 ≤ (x3_1 : Int) := od
     have q257 : x3_1 < (l0.length : Int) := od
     obtain ⟨ad257, e257, hx257_0, hx257_1, hx257_2, hx257_3⟩ := at_T45 HR0.out x3_1 p257 q257
     have hw257_3 := hx257_3
     have hw257_2 := hx257_2
     have hw257_1 := hx257_1
     have hw257_0 := hx257_0
     obtain rfl : ad256 = ad257 := (by injection e257)
     replace hx257_0 := kc HB hx257_0
     replace hx257_1 := kc HB hx257_1
     replace hx257_2 := kc HB hx257_2
     replace hx257_3 := kc HB hx257_3
     replace p257 := eq_true p257
     replace q257 := eq_true q257
     refine start_ (n := 11) (S := fun w' => w'.cell? (ad256.add (((ji3)).toNat * 4)) = some (.int .i64 ((rd_T45 l0 (ji3)).f0)) ∧ w'.cell? ⟨(ad256.add (((ji3)).toNat * 4)).block, (ad256.add (((ji3)).toNat * 4)).off + 1, none⟩ = some (.string ((rd_T45 l0 (ji3)).f1)) ∧ w'.cell? ⟨(ad256.add (((ji3)).toNat * 4)).block, (ad256.add (((ji3)).toNat * 4)).off + 2, none⟩ = some (.int .i64 ((rd_T45 l0 (ji3)).f2.f0)) ∧ w'.cell? ⟨(ad256.add (((ji3)).toNat * 4)).block, (ad256.add (((ji3)).toNat * 4)).off + 3, none⟩ = some (.bool ((rd_T45 l0 (ji3)).f2.f1)) ∧ w'.cell? (ad256.add ((x3_1).toNat * 4)) = some (.int .i64 ((rd_T45 l0 x3_1).f0)) ∧ w'.cell? ⟨(ad256.add ((x3_1).toNat * 4)).block, (ad256.add ((x3_1).toNat * 4)).off + 1, none⟩ = some (.string ((rd_T45 l0 x3_1).f1)) ∧ w'.cell? ⟨(ad256.add ((x3_1).toNat * 4)).block, (ad256.add ((x3_1).toNat * 4)).off + 2, none⟩ = some (.int .i64 ((rd_T45 l0 x3_1).f2.f0)) ∧ w'.cell? ⟨(ad256.add ((x3_1).toNat * 4)).block, (ad256.add ((x3_1).toNat * 4)).off + 3, none⟩ = some (.bool ((rd_T45 l0 x3_1).f2.f1))) (ds := []) _ (by kernel_rfl) rfl rfl ⟨(kc HB hw256_0), (kc HB hw256_1), (kc HB hw256_2), (kc HB hw256_3), (kc HB hw257_0), (kc HB hw257_1), (kc HB hw257_2), (kc HB hw257_3)⟩ (fun hHeld => ?_); refine with_tabW row_rise.tab4 row_rise.bits4 (fun HT_ HW_ => ?_)
     generalize wr.drew = w11 at HB hx256_0 hx256_1 hx256_2 hx256_3 hx257_0 hx257_1 hx257_2 hx257_3 hHeld ⊢
     refine p1 0 (some 10) ?_
     refine p1 1 (some 11) ?_
     refine p1 2 (some 12) ?_
     refine p1 3 (some 13) ?_
     refine p1 5 (some 15) ?_
     refine p1 6 (some 16) ?_
     refine p1 7 (some 17) ?_
     refine t1 4 (some 14) rfl rfl hHeld (Or.inl ⟨by rfl, by rintro w' ⟨s0, s1, s2, s3, s4, s5, s6, s7⟩; go_simp; with_reducible rfl⟩) ?_
     refine t1 8 (some 18) rfl rfl hHeld (Or.inl ⟨by rfl, by rintro w' ⟨s0, s1, s2, s3, s4, s5, s6, s7⟩; go_simp; with_reducible rfl⟩) ?_
     refine o1 9 (some 19) rfl rfl (fun K hK => ?_)
     refine goes_ Tryz.func25 (by kernel_rfl) rfl #[.agg #[.int .i64 ((rd_T45 l0 (ji3)).f0), .string ((rd_T45 l0 (ji3)).f1), .int .i64 ((rd_T45 l0 (ji3)).f2.f0), .bool ((rd_T45 l0 (ji3)).f2.f1)], .agg #[.int .i64 ((rd_T45 l0 x3_1).f0), .string ((rd_T45 l0 x3_1).f1), .int .i64 ((rd_T45 l0 x3_1).f2.f0), .bool ((rd_T45 l0 x3_1).f2.f1)]] (by rfl) rfl rfl (by (try simp only [List.map_toArray, List.map_cons, List.map_nil]); first | done | (simp only [hji3]; rfl) | rfl | (simp only [List.length_drop, List.length_take]; rfl)) ?_
     with_reducible refine (row_Before.calls k1 ((rd_T45 l0 (ji3)).f0) ((rd_T45 l0 (ji3)).f1) ((rd_T45 l0 (ji3)).f2.f0) ((rd_T45 l0 (ji3)).f2.f1) ((rd_T45 l0 x3_1).f0) ((rd_T45 l0 x3_1).f1) ((rd_T45 l0 x3_1).f2.f0) ((rd_T45 l0 x3_1).f2.f1) false _ A7.out).mono ?_
     rintro e w12 ⟨rfl, hb⟩
     refine ⟨_, rfl, ?_⟩
     replace HB := cW HB hb
     (try clear hb)
     refine hK.out _ _ ⟨(kc HB hw256_0), (kc HB hw256_1), (kc HB hw256_2), (kc HB hw256_3), (kc HB hw257_0), (kc HB hw257_1), (kc HB hw257_2), (kc HB hw257_3)⟩ (fun hHeld => ?_)
     clear hK K
     refine norm_ (a' := ?_) ?_ ?_
     rotate_left
     ·
      show Act.put _ (some 19) _ = _
      simp only [Act.put, List.setIfInBounds_toArray, List.set_cons_zero, List.set_cons_succ, i64_w, i32_w]
      rfl
     refine p1 10 (some 20) ?_
     refine done_ (done_of HT_.out (by kernel_rfl)) ?_
     try go_wp2
     go_ret
     exact ⟨by first | rfl | (simp [errW_none, errW_some] <;> rfl) | (simp only [← hji3]; first | rfl | (simp [errW_none, errW_some] <;> rfl)) | (simp [*, errW_none, errW_some] <;> rfl), uW HB.out⟩
   ·
    rw [if_neg c2] at H
    have c2b0 : decide (x3_1 < (l0.length : Int)) = false := decide_eq_false c2
    clear c2
    obtain rfl := Option.some.inj H
    go_wp2
    go_ret
    exact ⟨re_, uW HB.out⟩
def api_Row_64.Fn (g : Nat) (lb : Array Value) (p : S45 → Bool) (l : List (S45)) (w : World) : Prop :=
 ∀ (W : World) (x : S45), x ∈ l → Below w.heap.size w W → Calls Tryz.prog g (#[.agg #[.int .i64 x.f0, .string x.f1, .int .i64 x.f2.f0, .bool x.f2.f1]] ++ lb) W fun e w' => e = .returned (.bool (p x)) ∧ Below W.heap.size W w'
def api_Row_64.idx (p : S45 → Bool) : List (S45) → Nat → Int
 | [], _ => -1
 | x :: l, i => if p x = true then (i : Int) else api_Row_64.idx p l (i + 1)
theorem api_Row_64.idx_miss {p : S45 → Bool} : ∀ {l : List (S45)} {i : Nat}, api_Row_64.idx p l i = -1 ∨ (i : Int) ≤ api_Row_64.idx p l i
 | [], _ => .inl rfl
 | x :: l, i => by
  unfold api_Row_64.idx
  split
  ·
   exact .inr (Int.le_refl _)
  ·
   rcases api_Row_64.idx_miss (p := p) (l := l) (i := i + 1) with h | h
   ·
    exact .inl h
   ·
    exact .inr (by omega)
theorem api_Row_64.idx_any (p : S45 → Bool) : ∀ (l : List (S45)) (i : Nat), decide (0 ≤ api_Row_64.idx p l i) = l.any p
 | [], _ => rfl
 | x :: l, i => by
  unfold api_Row_64.idx
  by_cases h : p x = true
  ·
   rw [if_pos h, List.any_cons, h, Bool.true_or]
   exact decide_eq_true (by omega)
  ·
   rw [if_neg h, api_Row_64.idx_any p l (i + 1), List.any_cons, Bool.eq_false_iff.2 h, Bool.false_or]
set_option maxHeartbeats 2000000 in
theorem api_Row_64.calls (g : Nat) (lb : Array Value) (eg : ∀ args w, (callFunc g args).run Tryz.prog w = .ok (.enter g args) w) (p : S45 → Bool) (A0 : Option Addr) (c0 : Nat) (l0 : List (S45)) (w : World) (hr0 : Kd.C k45 w A0 l0.length l0) (hp : api_Row_64.Fn g lb p l0 w) :
 Calls Tryz.prog 64 #[.slice A0 l0.length c0, .func (.func g) #[] lb] w fun e w' => e = .returned (.int .i64 (api_Row_64.idx p l0 0)) ∧ Below w.heap.size w w' := by
 have hu45 := Tryz.underlying45
 have HR0 := Aside0.mk hr0
 have HP := Aside0.mk hp
 have HL := Aside0.mk hr0.2.1
 clear hr0 hp
 go_enter Tryz.func64, Tryz.ntmps64
 go_wp2
 go_loopg [5, 8] l0.length (fun gg _ v8 wr => ∃ x : Int, v8 = .int .i64 x ∧ Aside0 (0 ≤ x) ∧ Aside0 (x ≤ (l0.length : Int)) ∧ Aside0 ((l0.length : Int) - x ≤ gg) ∧ Aside0 (api_Row_64.idx p l0 0 = api_Row_64.idx p (l0.drop x.toNat) x.toNat) ∧ Aside0 (Below w.heap.size w wr))
 case atStart => exact ⟨0, rfl, ⟨by omega⟩, ⟨by omega⟩, ⟨by omega⟩, ⟨rfl⟩, ⟨Below.refl _ _⟩⟩
 case round =>
  obtain ⟨x, rfl, H0, H1, HG, HI, HB⟩ := hrel
  by_cases hlt : x < (l0.length : Int)
  ·
   have p101 : 0 ≤ x := H0.out
   obtain ⟨ad101, e101, hx101_0, hx101_1, hx101_2, hx101_3⟩ := at_T45 HR0.out x p101 hlt
   cases e101
   have hy101_0 := kc HB hx101_0
   clear hx101_0
   have hy101_1 := kc HB hx101_1
   clear hx101_1
   have hy101_2 := kc HB hx101_2
   clear hx101_2
   have hy101_3 := kc HB hx101_3
   clear hx101_3
   have HN : Aside0 (x.toNat < l0.length) := ⟨by omega⟩
   have hget : rd_T45 l0 x = l0[x.toNat]'HN.out := by
    show l0.getD x.toNat _ = _
    rw [List.getD_eq_getElem?_getD, List.getElem?_eq_getElem HN.out, Option.getD_some]
   have hcall := HP.out wr (rd_T45 l0 x) (by rw [hget]; exact List.getElem_mem HN.out) HB.out
   have HGE := Aside0.mk hget
   clear hget
   have c1b0 : decide (x < (l0.length : Int)) = true := decide_eq_true hlt
   have pi101 : (0 ≤ (x : Int)) = True := eq_true p101
   have qi101 : (x < (l0.length : Int)) = True := eq_true hlt
   have HLT := Aside0.mk hlt
   clear hlt p101
   cases hq : p (rd_T45 l0 x) with
   | true =>
    rw [hq] at hcall
    have HQ := Aside0.mk hq
    clear hq
    go_wp2_with (go_at_fn g; refine hcall.mono ?_; rintro e w' ⟨rfl, hb'⟩)
    go_ret
    refine ⟨?_, HB.out.trans (hb'.mono HB.out.size)⟩
    rw [HI.out, List.drop_eq_getElem_cons HN.out]
    unfold api_Row_64.idx
    rw [if_pos (by rw [← HGE.out]; exact HQ.out), Int.toNat_of_nonneg H0.out]
    rfl
   | false =>
    rw [hq] at hcall
    have HQ := Aside0.mk hq
    clear hq
    go_wp2_with (go_at_fn g; refine hcall.mono ?_; rintro e w' ⟨rfl, hb'⟩)
    have hw : wrap64 (x + 1) = x + 1 := by have := HLT.out; have := HL.out; have := H0.out; unfold wrap64; omega
    (try rw [hw])
    clear hw
    go_roundg (l0.length - (x.toNat + 1))
    case measure => have := HLT.out; have := HG.out; have := H0.out; omega
    case rel =>
     refine ⟨x + 1, by first | rfl | (have := HLT.out; have := HL.out; have := H0.out; simp; unfold wrap64; omega), ⟨by have := H0.out; omega⟩, ⟨by have := HLT.out; omega⟩, ⟨by have := HLT.out; have := H0.out; omega⟩, ⟨?_⟩, ⟨HB.out.trans (hb'.mono HB.out.size)⟩⟩
     rw [HI.out, List.drop_eq_getElem_cons HN.out, show (x + 1).toNat = x.toNat + 1 from by have := H0.out; omega]
     conv => lhs; unfold api_Row_64.idx
     rw [if_neg (by rw [← HGE.out, HQ.out]; simp)]
  ·
   have hx : x = (l0.length : Int) := by have := H1.out; omega
   have c1b0 : decide (x < (l0.length : Int)) = false := decide_eq_false hlt
   clear hlt
   have HX := Aside0.mk hx
   clear hx
   go_wp2
   go_ret
   refine ⟨?_, HB.out⟩
   rw [HI.out, HX.out, Int.toNat_natCast, List.drop_of_length_le (Nat.le_refl _)]
   rfl
set_option maxHeartbeats 2000000 in
theorem api_Row_46.calls (g : Nat) (lb : Array Value) (eg : ∀ args w, (callFunc g args).run Tryz.prog w = .ok (.enter g args) w) (p : S45 → Bool) (A0 : Option Addr) (c0 : Nat) (l0 : List (S45)) (w : World) (hr0 : Kd.C k45 w A0 l0.length l0) (hp : api_Row_64.Fn g lb p l0 w) :
 Calls Tryz.prog 46 #[.slice A0 l0.length c0, .func (.func g) #[] lb] w fun e w' => e = .returned (.bool (l0.any p)) ∧ Below w.heap.size w w' := by
 have hcall := fun W => api_Row_64.calls g lb eg p A0 c0 l0 W
 rw [← api_Row_64.idx_any p l0 0]
 generalize api_Row_64.idx p l0 0 = r at hcall ⊢
 go_enter Tryz.func46, Tryz.ntmps46
 go_wp2_with (go_at_call 64; refine (hcall _ hr0 hp).mono ?_; rintro e w' ⟨rfl, hb'⟩)
 go_ret
 exact ⟨rfl, hb'⟩
def strings_IndexByte.f (a0 : ByteArray) (a1 : Int) : Option (Int) := some (Lib.indexByte a0.data.toList a1.toNat.toUInt8)
theorem strings_IndexByte.calls (a0 : ByteArray) (a1 : Int) (r : Int) (w : World) (h : strings_IndexByte.f a0 a1 = some r) :
 Calls Tryz.prog 56 #[.string a0, .int .u8 a1] w fun e w' => e = .returned (.int .i64 r) ∧ Drawn0 w w' := by
 obtain rfl := Option.some.inj h
 exact (Tryz.strings_IndexByte a0 a1 w).mono fun e w' hh => ⟨hh.1, hh.2 ▸ Drawn0.refl _⟩
def word_Split.l0 : Nat → ByteArray → Int → List ByteArray → Option (List ByteArray)
 | 0, _, _, _ => none
 | k + 1, x0, x1, x4 => (strings_IndexByte.f x0 x1).bind fun t259 => (if t259 < 0 then (if x4.length < 8796093022208 then (some (x4 ++ [x0])) else (none)) else (if 0 ≤ t259 then (if t259 ≤ (x0.size : Int) then (if x4.length < 8796093022208 then (if 0 ≤ (wrap64 (t259 + 1)) then (if (wrap64 (t259 + 1)) ≤ (x0.size : Int) then (word_Split.l0 k (x0.extract ((wrap64 (t259 + 1)) : Int).toNat x0.size) x1 (x4 ++ [x0.extract 0 (t259 : Int).toNat])) else (none)) else (none)) else (none)) else (none)) else (none)))
def word_Split.f (k : Nat) (a0 : ByteArray) (a1 : Int) : Option (List ByteArray) := word_Split.l0 k a0 a1 ([] : List ByteArray)
theorem word_Split.mono_l : ∀ k, (∀ y0 y1 y2, LeC (word_Split.l0 k y0 y1 y2) (word_Split.l0 (k + 1) y0 y1 y2))
 | 0 => fun _ _ _ => ⟨fun r h => by simp [word_Split.l0] at h⟩
 | k + 1 => by have ih0 := word_Split.mono_l k; exact fun _ _ _ => by unfold word_Split.l0; exact lm
theorem word_Split.mono : ∀ a0 a1 k, LeO (word_Split.f k a0 a1) (word_Split.f (k + 1) a0 a1) := by
 intro a0 a1 k
 have ih0 := word_Split.mono_l k
 unfold word_Split.f
 exact lo
instance word_Split.mI {a0 a1 k} : LeC (word_Split.f k a0 a1) (word_Split.f (k + 1) a0 a1) := ⟨word_Split.mono _ _ _⟩
def word_Split.T4 : Bool × List (List Nat × List Nat) := (true, [([], []), ([], []), ([], []), ([1, 2], [1, 2]), ([3], [3]), ([0, 4], [0, 4]), ([], []), ([], []), ([7], [7]), ([6, 8], [6, 8]), ([5, 5, 0, 1, 2, 3, 4, 5], [0, 5]), ([9, 10, 0, 1, 2, 3, 4, 5, 6, 7, 8, 9, 10], [1, 6, 9])])
def word_Split.B4 : List Nat := [0, 0, 0, 6, 14, 31, 0, 0, 128, 448, 63, 2047]
theorem word_Split.tab4 : rtab .any (opsOf Tryz.f39 4) = word_Split.T4 := by kernel_rfl
theorem word_Split.bits4 : waitsOk word_Split.T4.2 word_Split.B4 = true := by kernel_rfl
theorem word_Split.calls (k : Nat) (a0 : ByteArray) (a1 : Int) (r : List ByteArray) (w : World) (h : word_Split.f k a0 a1 = some r) :
 Calls Tryz.prog 39 #[.string a0, .int .u8 a1] w fun e w' => ∃ v0_ : Value, e = .returned (v0_) ∧ Kd.R Kd.string 9 w' w.heap.size (fun _ => True) v0_ r ∧ Below w.heap.size w w' := by
 have HB := Aside0.mk (Below.refl w.heap.size w)
 have H : (word_Split.l0 k a0 a1 ([] : List ByteArray)) = some r := h
 clear h
 have H' := Aside0.mk H
 clear H
 go_enter Tryz.func39, Tryz.ntmps39
 go_wp2
 go_loopg [0, 4] k (fun kq v0 v4 w' => ∃ (x0_1 : ByteArray) (x4_1 : List ByteArray), v0 = .string x0_1 ∧ Aside0 (word_Split.l0 kq x0_1 a1 x4_1 = some r) ∧ Aside0 (kq ≤ k) ∧ Aside0 (Kd.R Kd.string 9 w' w.heap.size (fun _ => True) v4 x4_1) ∧ Aside0 (Below w.heap.size w w'))
 case atStart => exact ⟨(a0), (([] : List ByteArray)), rs_, H', ⟨Nat.le_refl _⟩, ⟨nl_⟩, ⟨uW HB.out⟩⟩
 case round =>
  clear H'
  try clear p2
  obtain ⟨x0_1, x4_1, rfl, HA, HK1, HO_4, HB⟩ := hrel
  cases gk with
  | zero => exact absurd HA.out (by simp [word_Split.l0])
  | succ k1 =>
   have H := HA.out
   clear HA
   simp only [word_Split.l0] at H
   obtain ⟨t259, A3, H⟩ := bs H
   try dsimp only at H
   by_cases c4 : t259 < 0
   ·
    rw [if_pos c4] at H
    have c4b0 : decide (t259 < 0) = true := decide_eq_true c4
    clear c4
    obtain ⟨c5, H⟩ := gd H
    have LMc5 := Aside0.mk c5
    clear c5
    obtain ⟨y260, hy260⟩ : ∃ y_ : List ByteArray, y_ = (x4_1 ++ [x0_1]) := ⟨_, rfl⟩
    replace H : (some y260) = some r := by first | (rw [hy260]; with_reducible exact H) | (have H2_ := (Option.bind_some _ _).symm.trans H; rw [hy260]; with_reducible exact H2_) | (have H2_ := (Option.bind_some _ _).symm.trans H; with_reducible exact H2_) | with_reducible exact H | (rw [hy260]; exact H) | exact H
    have Ny260 := Aside0.mk hy260
    clear hy260
    obtain rfl := Option.some.inj H
    go_wp2_with (first | (refine gL (some 8) rfl Tryz.func56 #[.string x0_1, .int .u8 a1] ?_; (with_reducible refine (strings_IndexByte.calls x0_1 a1 t259 _ A3.out).mono ?_); rintro e w' ⟨rfl, ⟨nd, rfl⟩⟩; refine ⟨_, rfl, ?_⟩) | ((with_reducible refine gate_builtin (b := .append) (xs := #[.tmp 11, .tmp 13]) rfl ?_); at_builtin; refine Kd.R_append Kd.string (w0 := w) w.heap.size rfl (.tmp 11) (.tmp 13) 52 9 (.string ⟨#[]⟩) 16 rfl Tryz.underlying52 info9 rfl (by decide) (by omega) u4 x4_1 x0_1 [.string x0_1] (fun _ => True) (fun _ => False) rfl rfl ?aP (fun _ hk => hk.elim) ?aF ?aO ?aB ?aS ?aL ?_; (case aP => exact rfl); (case aB => exact (uW HB.out)); (case aF => exact (fun _ _ => trivial)); (case aO => exact (uR HO_4.out)); (case aS => exact (below_size (uW HB.out))); (case aL => have := LMc5.out; omega); intro v261 w6 ho hb hg hat; rw [← Ny260.out] at ho; replace HB := Aside0.mk (hb); have HO262 := Aside0.mk (ho); clear HO_4; clear ho hb hg hat))
    go_ret
    exact ⟨_, re_, uR HO262.out, uW HB.out⟩
   ·
    rw [if_neg c4] at H
    have c4b0 : decide (t259 < 0) = false := decide_eq_false c4
    clear c4
    by_cases c7 : 0 ≤ t259
    ·
     rw [if_pos c7] at H
     have c7b0 := eq_true c7
     have c7b1 : decide (0 ≤ t259) = true := decide_eq_true c7
     clear c7
     obtain ⟨c8, H⟩ := gd H
     have c8b0 := eq_true c8
     have c8b1 : decide (t259 ≤ (x0_1.size : Int)) = true := decide_eq_true c8
     clear c8
     obtain ⟨c9, H⟩ := gd H
     have LMc9 := Aside0.mk c9
     clear c9
     obtain ⟨y263, hy263⟩ : ∃ y_ : List ByteArray, y_ = (x4_1 ++ [x0_1.extract 0 (t259 : Int).toNat]) := ⟨_, rfl⟩
     replace H : (if 0 ≤ (wrap64 (t259 + 1)) then (if (wrap64 (t259 + 1)) ≤ (x0_1.size : Int) then (word_Split.l0 k1 (x0_1.extract ((wrap64 (t259 + 1)) : Int).toNat x0_1.size) a1 y263) else (none)) else (none)) = some r := by first | (rw [hy263]; with_reducible exact H) | (have H2_ := (Option.bind_some _ _).symm.trans H; rw [hy263]; with_reducible exact H2_) | (have H2_ := (Option.bind_some _ _).symm.trans H; with_reducible exact H2_) | with_reducible exact H | (rw [hy263]; exact H) | exact H
     have Ny263 := Aside0.mk hy263
     clear hy263
     obtain ⟨ji10, hji10⟩ : ∃ j_ : Int, (wrap64 (t259 + 1)) = j_ := ⟨_, rfl⟩
     (first | rw [hji10] at H | simp only [hji10] at H)
     (try rw [hji10] at A3)
     have hji10w : (IntKind.i64.wrap (t259 + 1)) = ji10 := (i64_w _).trans hji10
     obtain ⟨c11, H⟩ := gd H
     have c11b0 := eq_true c11
     have c11b1 : decide (0 ≤ (ji10)) = true := decide_eq_true c11
     clear c11
     obtain ⟨c12, H⟩ := gd H
     have c12b0 := eq_true c12
     have c12b1 : decide ((ji10) ≤ (x0_1.size : Int)) = true := decide_eq_true c12
     clear c12
     have H' := Aside0.mk H
     clear H
     try go_wp2_with (first | (refine gL (some 8) rfl Tryz.func56 #[.string x0_1, .int .u8 a1] ?_; (with_reducible refine (strings_IndexByte.calls x0_1 a1 t259 _ A3.out).mono ?_); rintro e w' ⟨rfl, ⟨nd, rfl⟩⟩; refine ⟨_, rfl, ?_⟩))
     (try (rw [drewN_self wr]; generalize hq_ : World.drewN wr _ = wr; have n0_ : Aside0 (Kd.R Kd.string 9 wr w.heap.size (fun _ => True) u4 x4_1) := ⟨by rw [← hq_]; exact (uR HO_4.out)⟩; have n1_ : Aside0 (Below w.heap.size w wr) := ⟨by rw [← hq_]; exact (uW HB.out)⟩; clear HO_4 HB hq_; have HO_4 := n0_; have HB := n1_; clear n0_ n1_))
     replace HO_4 := Aside0.mk (Kd.R_drew HO_4.out)
     replace HB := Aside0.mk (below_drew1 HB.out)
     refine start_ (n := 12) (S := fun w' => True) (ds := []) _ (by kernel_rfl) rfl rfl trivial (fun hHeld => ?_); refine with_tabW word_Split.tab4 word_Split.bits4 (fun HT_ HW_ => ?_)
     generalize wr.drew = w13 at HO_4 HB hHeld ⊢
     refine p1 0 (some 15) ?_
     refine p1 1 (some 16) ?_
     refine p1 2 (some 17) ?_
     refine p1 3 (some 18) ?_
     refine p1 6 (some 21) ?_
     refine p1 7 (some 22) ?_
     refine p1 8 (some 23) ?_
     refine p1 9 (some 24) ?_
     refine o1 4 (some 19) rfl rfl (fun K hK => ?_)
     refine value_ (w1 := ?_) (v := ?_) (by rfl) rfl ?_ ?_
     rotate_left 2
     ·
      go_simp
      constructor
      ·
       rfl
      ·
       rfl
     refine hK.out _ _ trivial (fun hHeld => ?_)
     clear hK K
     refine norm_ (a' := ?_) ?_ ?_
     rotate_left
     ·
      show Act.put _ (some 19) _ = _
      simp only [Act.put, List.setIfInBounds_toArray, List.set_cons_zero, List.set_cons_succ, i64_w, i32_w]
      rfl
     refine o1 5 (some 20) rfl rfl (fun K hK => ?_)
     refine Kd.R_append_step Kd.string (w0 := w) w.heap.size (by rfl) (.tmp 15) (.tmp 19) 52 9 (.string ⟨#[]⟩) 16 rfl Tryz.underlying52 info9 rfl (by decide) (by omega) u4 x4_1 (x0_1.extract 0 (t259 : Int).toNat) [.string (x0_1.extract 0 (t259 : Int).toNat)] (fun _ => True) (fun _ => False) rfl rfl ?aP (fun _ hk => hk.elim) ?aF ?aO ?aB ?aS ?aL ?_
     (case aP => exact rfl)
     (case aB => exact (uW HB.out))
     (case aF => exact (fun _ _ => trivial))
     (case aO => exact (uR HO_4.out))
     (case aS => exact (below_size (uW HB.out)))
     (case aL => have := LMc9.out; omega)
     intro v264 w14 ho hb hg hat
     rw [← Ny263.out] at ho
     replace HB := Aside0.mk (hb)
     have HO265 := Aside0.mk (ho)
     clear HO_4
     clear ho hb hg hat
     refine hK.out _ _ trivial (fun hHeld => ?_)
     clear hK K
     refine norm_ (a' := ?_) ?_ ?_
     rotate_left
     ·
      show Act.put _ (some 20) _ = _
      simp only [Act.put, List.setIfInBounds_toArray, List.set_cons_zero, List.set_cons_succ, i64_w, i32_w]
      rfl
     refine p1 10 (some 4) ?_
     refine p1 11 (some 0) ?_
     refine done_ (done_of HT_.out (by kernel_rfl)) ?_
     try go_wp2
     go_roundg k1
     case measure => have := HK1.out; omega
     case rel => exact ⟨(x0_1.extract ((ji10) : Int).toNat x0_1.size), (y263), (by first | rfl | (simp; done) | (simp only [← hji10] <;> (first | rfl | simp)) | (simp [*]; done)), H', ⟨by have := HK1.out; omega⟩, ⟨uR HO265.out⟩, ⟨uW HB.out⟩⟩
    ·
     rw [if_neg c7] at H
     exact absurd H (by simp)
def strings_Cut.f (a0 : ByteArray) (a1 : ByteArray) : Option (ByteArray × ByteArray × Bool) := if a0.size < 4294967281 then (some ((⟨(Lib.cut a0.data.toList a1.data.toList).1.toArray⟩ : ByteArray), (⟨(Lib.cut a0.data.toList a1.data.toList).2.1.toArray⟩ : ByteArray), (Lib.cut a0.data.toList a1.data.toList).2.2)) else (none)
theorem strings_Cut.calls (a0 : ByteArray) (a1 : ByteArray) (r1 : ByteArray) (r2 : ByteArray) (r3 : Bool) (w : World) (hL : LD w) (h : strings_Cut.f a0 a1 = some (r1, r2, r3)) :
 Calls Tryz.prog 79 #[.string a0, .string a1] w fun e w' => e = .returned (.tuple #[.string r1, .string r2, .bool r3]) ∧ Drawn0 w w' := by
 unfold strings_Cut.f at h
 by_cases hc : a0.size < 4294967281
 ·
  rw [if_pos hc] at h
  injection h with h
  injection h with h1 h
  injection h with h2 h3
  subst h1 h2 h3
  obtain ⟨m, hm⟩ := hL.maxLen
  exact (Tryz.strings_Cut a0 a1 m w hc hm).mono fun e w' hh => ⟨hh.1, ⟨hh.2⟩⟩
 ·
  rw [if_neg hc] at h
  exact absurd h (by simp)
def api_Tag_119.Fn (g : Nat) (lb : Array Value) (p : S98 → Bool) (l : List (S98)) (w : World) : Prop :=
 ∀ (W : World) (x : S98), x ∈ l → Below w.heap.size w W → Calls Tryz.prog g (#[.agg #[.string x.f0, .string x.f1]] ++ lb) W fun e w' => e = .returned (.bool (p x)) ∧ Below W.heap.size W w'
def api_Tag_119.idx (p : S98 → Bool) : List (S98) → Nat → Int
 | [], _ => -1
 | x :: l, i => if p x = true then (i : Int) else api_Tag_119.idx p l (i + 1)
theorem api_Tag_119.idx_miss {p : S98 → Bool} : ∀ {l : List (S98)} {i : Nat}, api_Tag_119.idx p l i = -1 ∨ (i : Int) ≤ api_Tag_119.idx p l i
 | [], _ => .inl rfl
 | x :: l, i => by
  unfold api_Tag_119.idx
  split
  ·
   exact .inr (Int.le_refl _)
  ·
   rcases api_Tag_119.idx_miss (p := p) (l := l) (i := i + 1) with h | h
   ·
    exact .inl h
   ·
    exact .inr (by omega)
theorem api_Tag_119.idx_any (p : S98 → Bool) : ∀ (l : List (S98)) (i : Nat), decide (0 ≤ api_Tag_119.idx p l i) = l.any p
 | [], _ => rfl
 | x :: l, i => by
  unfold api_Tag_119.idx
  by_cases h : p x = true
  ·
   rw [if_pos h, List.any_cons, h, Bool.true_or]
   exact decide_eq_true (by omega)
  ·
   rw [if_neg h, api_Tag_119.idx_any p l (i + 1), List.any_cons, Bool.eq_false_iff.2 h, Bool.false_or]
set_option maxHeartbeats 2000000 in
theorem api_Tag_119.calls (g : Nat) (lb : Array Value) (eg : ∀ args w, (callFunc g args).run Tryz.prog w = .ok (.enter g args) w) (p : S98 → Bool) (A0 : Option Addr) (c0 : Nat) (l0 : List (S98)) (w : World) (hr0 : Kd.C k98 w A0 l0.length l0) (hp : api_Tag_119.Fn g lb p l0 w) :
 Calls Tryz.prog 119 #[.slice A0 l0.length c0, .func (.func g) #[] lb] w fun e w' => e = .returned (.int .i64 (api_Tag_119.idx p l0 0)) ∧ Below w.heap.size w w' := by
 have hu98 := Tryz.underlying98
 have HR0 := Aside0.mk hr0
 have HP := Aside0.mk hp
 have HL := Aside0.mk hr0.2.1
 clear hr0 hp
 go_enter Tryz.func119, Tryz.ntmps119
 go_wp2
 go_loopg [5, 8] l0.length (fun gg _ v8 wr => ∃ x : Int, v8 = .int .i64 x ∧ Aside0 (0 ≤ x) ∧ Aside0 (x ≤ (l0.length : Int)) ∧ Aside0 ((l0.length : Int) - x ≤ gg) ∧ Aside0 (api_Tag_119.idx p l0 0 = api_Tag_119.idx p (l0.drop x.toNat) x.toNat) ∧ Aside0 (Below w.heap.size w wr))
 case atStart => exact ⟨0, rfl, ⟨by omega⟩, ⟨by omega⟩, ⟨by omega⟩, ⟨rfl⟩, ⟨Below.refl _ _⟩⟩
 case round =>
  obtain ⟨x, rfl, H0, H1, HG, HI, HB⟩ := hrel
  by_cases hlt : x < (l0.length : Int)
  ·
   have p101 : 0 ≤ x := H0.out
   obtain ⟨ad101, e101, hx101_0, hx101_1⟩ := at_T98 HR0.out x p101 hlt
   cases e101
   have hy101_0 := kc HB hx101_0
   clear hx101_0
   have hy101_1 := kc HB hx101_1
   clear hx101_1
   have HN : Aside0 (x.toNat < l0.length) := ⟨by omega⟩
   have hget : rd_T98 l0 x = l0[x.toNat]'HN.out := by
    show l0.getD x.toNat _ = _
    rw [List.getD_eq_getElem?_getD, List.getElem?_eq_getElem HN.out, Option.getD_some]
   have hcall := HP.out wr (rd_T98 l0 x) (by rw [hget]; exact List.getElem_mem HN.out) HB.out
   have HGE := Aside0.mk hget
   clear hget
   have c1b0 : decide (x < (l0.length : Int)) = true := decide_eq_true hlt
   have pi101 : (0 ≤ (x : Int)) = True := eq_true p101
   have qi101 : (x < (l0.length : Int)) = True := eq_true hlt
   have HLT := Aside0.mk hlt
   clear hlt p101
   cases hq : p (rd_T98 l0 x) with
   | true =>
    rw [hq] at hcall
    have HQ := Aside0.mk hq
    clear hq
    go_wp2_with (go_at_fn g; refine hcall.mono ?_; rintro e w' ⟨rfl, hb'⟩)
    go_ret
    refine ⟨?_, HB.out.trans (hb'.mono HB.out.size)⟩
    rw [HI.out, List.drop_eq_getElem_cons HN.out]
    unfold api_Tag_119.idx
    rw [if_pos (by rw [← HGE.out]; exact HQ.out), Int.toNat_of_nonneg H0.out]
    rfl
   | false =>
    rw [hq] at hcall
    have HQ := Aside0.mk hq
    clear hq
    go_wp2_with (go_at_fn g; refine hcall.mono ?_; rintro e w' ⟨rfl, hb'⟩)
    have hw : wrap64 (x + 1) = x + 1 := by have := HLT.out; have := HL.out; have := H0.out; unfold wrap64; omega
    (try rw [hw])
    clear hw
    go_roundg (l0.length - (x.toNat + 1))
    case measure => have := HLT.out; have := HG.out; have := H0.out; omega
    case rel =>
     refine ⟨x + 1, by first | rfl | (have := HLT.out; have := HL.out; have := H0.out; simp; unfold wrap64; omega), ⟨by have := H0.out; omega⟩, ⟨by have := HLT.out; omega⟩, ⟨by have := HLT.out; have := H0.out; omega⟩, ⟨?_⟩, ⟨HB.out.trans (hb'.mono HB.out.size)⟩⟩
     rw [HI.out, List.drop_eq_getElem_cons HN.out, show (x + 1).toNat = x.toNat + 1 from by have := H0.out; omega]
     conv => lhs; unfold api_Tag_119.idx
     rw [if_neg (by rw [← HGE.out, HQ.out]; simp)]
  ·
   have hx : x = (l0.length : Int) := by have := H1.out; omega
   have c1b0 : decide (x < (l0.length : Int)) = false := decide_eq_false hlt
   clear hlt
   have HX := Aside0.mk hx
   clear hx
   go_wp2
   go_ret
   refine ⟨?_, HB.out⟩
   rw [HI.out, HX.out, Int.toNat_natCast, List.drop_of_length_le (Nat.le_refl _)]
   rfl
set_option maxHeartbeats 2000000 in
theorem api_Tag_97.calls (g : Nat) (lb : Array Value) (eg : ∀ args w, (callFunc g args).run Tryz.prog w = .ok (.enter g args) w) (p : S98 → Bool) (A0 : Option Addr) (c0 : Nat) (l0 : List (S98)) (w : World) (hr0 : Kd.C k98 w A0 l0.length l0) (hp : api_Tag_119.Fn g lb p l0 w) :
 Calls Tryz.prog 97 #[.slice A0 l0.length c0, .func (.func g) #[] lb] w fun e w' => e = .returned (.bool (l0.any p)) ∧ Below w.heap.size w w' := by
 have hcall := fun W => api_Tag_119.calls g lb eg p A0 c0 l0 W
 rw [← api_Tag_119.idx_any p l0 0]
 generalize api_Tag_119.idx p l0 0 = r at hcall ⊢
 go_enter Tryz.func97, Tryz.ntmps97
 go_wp2_with (go_at_call 119; refine (hcall _ hr0 hp).mono ?_; rintro e w' ⟨rfl, hb'⟩)
 go_ret
 exact ⟨rfl, hb'⟩
def api_Tag_100.f (l0 : List (S98)) : Option ((List (S98))) := if l0.length < 4398046511104 then (some l0) else (none)
theorem api_Tag_100.calls (A0 : Option Addr) (c0 : Nat) (l0 : List (S98)) (r : List (S98)) (w : World) (hr0 : Kd.C k98 w A0 l0.length l0) (hc0 : l0.length ≤ c0) (h : api_Tag_100.f l0 = some r) :
 Calls Tryz.prog 100 #[.slice A0 l0.length c0] w fun e w' => ∃ v0_ : Value, e = .returned (v0_) ∧ Kd.R k98 98 w' w.heap.size (fun _ => True) v0_ r ∧ Below w.heap.size w w' := by
 unfold api_Tag_100.f at h
 by_cases hl : l0.length < 4398046511104
 ·
  rw [if_pos hl] at h
  obtain rfl := Option.some.inj h
  have HL := Aside0.mk hl
  clear h hl
  have HR0 := Aside0.mk hr0
  clear hr0 hc0
  cases A0 with
  | none =>
   have e : l0 = [] := by
    have h2 := HR0.out.2.2
    cases l0 with
    | nil => rfl
    | cons x l => obtain ⟨_, h3, _⟩ := h2 (by simp); cases h3
   subst e
   have heq : ∀ (n c : Nat) (W : World), (binOp .eql 78 (.slice none n c) (.slice none 0 0)).run Tryz.prog W = .ok (.bool true) W := fun n c W => Lib.run_eql_slice_nil W 78 98 none n c 0 0 Tryz.underlying78
   go_enter Tryz.func100, Tryz.ntmps100
   go_wp2
   go_ret
   exact ⟨_, rfl, Kd.R_nil _ _ _ _ _, Below.refl _ _⟩
  | some a =>
   have HB := Aside0.mk (Below.refl w.heap.size w)
   have heq : ∀ (n c : Nat) (W : World), (binOp .eql 78 (.slice (some a) n c) (.slice none 0 0)).run Tryz.prog W = .ok (.bool false) W := fun n c W => Lib.run_eql_slice_nil W 78 98 (some a) n c 0 0 Tryz.underlying78
   go_enter Tryz.func100, Tryz.ntmps100
   go_wp2_with (first | ((with_reducible refine gate_dst (N := 5) rfl ?_); refine Kd.R_lit k98 _ 98 ?hg (N := 5) ?hd (xs := ([] : List (S98))) (inner := []) (ok := fun _ => True) (okp := fun _ => True) ?hr ?hp (fun _ hk => hk) trivial (Below.refl _ _) (Nat.le_refl _) (by simp) ?_; (case hd => rfl); (case hg => rfl); (case hr => first | (go_simp; done) | (go_simp; rfl)); (case hp => exact (Reps.none _ _)); intro v129 w7 ho8 hb hg_ hnew_; clear hg_ hnew_; have n0_ := Aside0.mk (Kd.R_lower ho8 (Nat.le_refl _)); have n1_ := Aside0.mk hb; clear HB ho8 hb; have HB := n1_; have HO130 := n0_; clear n0_ n1_) | ((with_reducible refine gate_builtin (b := .append) (xs := #[.tmp 5, .tmp 6]) rfl ?_); at_builtin; refine Kd.R_append_rows k98 (w0 := w) w.heap.size rfl (.tmp 5) (.tmp 6) 78 98 (.agg #[(.string ⟨#[]⟩), (.string ⟨#[]⟩)]) 32 rfl Tryz.underlying78 info98 rfl (by decide) (by decide) v129 [] l0 _ _ _ (fun _ => True) (fun _ => False) rfl rfl ?aO ?aR (fun _ _ h => h) (fun _ h => h.elim) ?aF ?aB ?aS ?aL ?_; (case aR => exact (Kd.C_below HR0.out HB.out)); (case aB => exact HB.out); (case aF => exact (fun _ _ => trivial)); (case aO => exact HO130.out); (case aS => exact (below_size HB.out)); (case aL => have := HL.out; simp only [List.length_nil, Nat.zero_add]; omega); intro v132 w9 ho hb hg hat; clear hg hat; have n0_ := Aside0.mk hb; have n1_ := Aside0.mk ho; clear HB HO130; have HB := n0_; have HO133 := n1_; clear n0_ n1_ ho hb))
   go_ret
   exact ⟨_, rfl, HO133.out, HB.out⟩
 ·
  rw [if_neg hl] at h
  exact absurd h (by simp)
def bits_Len.f (a0 : Int) : Option (Int) := if 0 ≤ a0 ∧ a0 ≤ 18446744073709551615 then (some ((Lib.bitLen a0.toNat : Nat) : Int)) else (none)
theorem bits_Len.calls (a0 : Int) (r : Int) (w : World) (h : bits_Len.f a0 = some r) :
 Calls Tryz.prog 123 #[.int .u64 a0] w fun e w' => e = .returned (.int .i64 r) ∧ Drawn0 w w' := by
 unfold bits_Len.f at h
 by_cases hc : 0 ≤ a0 ∧ a0 ≤ 18446744073709551615
 ·
  rw [if_pos hc] at h
  obtain rfl := Option.some.inj h
  exact (Tryz.bits_Len a0 w hc.1 hc.2).mono fun e w' hh => ⟨hh.1, hh.2 ▸ Drawn0.refl _⟩
 ·
  rw [if_neg hc] at h
  exact absurd h (by simp)
def tag_order.f (a0_0 : ByteArray) (a0_1 : ByteArray) (a1_0 : ByteArray) (a1_1 : ByteArray) : Option (Int) := (strings_Compare.f a0_0 a1_0).bind fun t268 => (some t268)
theorem tag_order.calls (a0_0 : ByteArray) (a0_1 : ByteArray) (a1_0 : ByteArray) (a1_1 : ByteArray) (r : Int) (w : World) (h : tag_order.f a0_0 a0_1 a1_0 a1_1 = some r) :
 Calls Tryz.prog 102 #[.agg #[.string a0_0, .string a0_1], .agg #[.string a1_0, .string a1_1]] w fun e w' => e = .returned (.int .i64 r) ∧ Below w.heap.size w w' := by
 have hu98 := Tryz.underlying98
 have HB := Aside0.mk (Below.refl w.heap.size w)
 have H : ((strings_Compare.f a0_0 a1_0).bind fun t268 => (some t268)) = some r := h
 clear h
 obtain ⟨t268, A3, H⟩ := bs H
 try dsimp only at H
 obtain rfl := Option.some.inj H
 go_enter Tryz.func102, Tryz.ntmps102
 go_wp2_with (first | ((with_reducible refine gate_dst (N := 2) rfl ?_); refine bx (N := 2) #[.string a0_0, .string a0_1] 98 ?_; intro gb266 hg w4 hbox hb; have BK266 := Aside0.mk (hbox); have GW266 := gw hg (uW HB.out); have GE266 := GW266; replace HB := cW HB hb; clear hb hbox hg) | ((with_reducible refine gate_dst (N := 3) rfl ?_); refine bx (N := 3) #[.string a1_0, .string a1_1] 98 ?_; intro gb267 hg w5 hbox hb; have BK267 := Aside0.mk (hbox); have GW267 := gw hg bl; have GE267 := GW267; replace HB := Aside0.mk (below_step bl hb); have NB266_267 := Aside0.mk ((by rw [hg]; exact Nat.ne_of_lt (blk_lt (g := gb266) (o := .cells #[.string a0_0, .string a0_1] 98 (0, 0)) (uB BK266.out)) : gb266 ≠ gb267)); have NB267_266 := Aside0.mk ((by rw [hg]; exact Nat.ne_of_gt (blk_lt (g := gb266) (o := .cells #[.string a0_0, .string a0_1] 98 (0, 0)) (uB BK266.out)) : gb267 ≠ gb266)); replace BK266 := cB BK266 hb; clear hb hbox hg; have hnb6 := NB266_267.out; have hnc6 := NB267_266.out; obtain ⟨hcz7_0, hcz7_1, hfz7_0, hfz7_1⟩ := z2 BK266; obtain ⟨hcz8_0, hcz8_1, hfz8_0, hfz8_1⟩ := z2 BK267) | (refine gL (some 9) rfl Tryz.func69 #[.string a0_0, .string a1_0] ?_; (with_reducible refine (strings_Compare.calls a0_0 a1_0 t268 _ A3.out).mono ?_); rintro e w' ⟨rfl, ⟨nd, rfl⟩⟩; refine ⟨_, rfl, ?_⟩))
 go_ret
 exact ⟨re_, bl⟩
def strings_Trim.f (a0 : ByteArray) (a1 : ByteArray) : Option (ByteArray) := if a0.size ≤ 9223372036854775807 ∧ a1.size < 4294967281 ∧ a1.data.toList.all (fun b => decide (b.toNat < 128)) = true then (some (⟨(Lib.trimS a0.data.toList a1.data.toList).toArray⟩ : ByteArray)) else (none)
theorem strings_Trim.calls (a0 : ByteArray) (a1 : ByteArray) (r : ByteArray) (w : World) (h : strings_Trim.f a0 a1 = some r) :
 Calls Tryz.prog 112 #[.string a0, .string a1] w fun e w' => e = .returned (.string r) ∧ Below w.heap.size w w' := by
 unfold strings_Trim.f at h
 by_cases hc : a0.size ≤ 9223372036854775807 ∧ a1.size < 4294967281 ∧ a1.data.toList.all (fun b => decide (b.toNat < 128)) = true
 ·
  rw [if_pos hc] at h
  obtain rfl := Option.some.inj h
  exact Tryz.strings_Trim_laid a0 a1 w hc.1 hc.2.1 (ascii_of_all hc.2.2)
 ·
  rw [if_neg hc] at h
  exact absurd h (by simp)
def word_made.f (a0 : ByteArray) (a1 : ByteArray) : Option (Bool) := if a0.toList = ([] : List UInt8) then (some false) else (if (a0.size : Int) ≤ 12 then ((strings_Trim.f a0 a1).bind fun t269 => (some (t269.toList == ([] : List UInt8)))) else (some false))
theorem word_made.calls (a0 : ByteArray) (a1 : ByteArray) (r : Bool) (w : World) (h : word_made.f a0 a1 = some r) :
 Calls Tryz.prog 144 #[.string a0, .string a1] w fun e w' => e = .returned (.bool r) ∧ Below w.heap.size w w' := by
 have HB := Aside0.mk (Below.refl w.heap.size w)
 have H : (if a0.toList = ([] : List UInt8) then (some false) else (if (a0.size : Int) ≤ 12 then ((strings_Trim.f a0 a1).bind fun t269 => (some (t269.toList == ([] : List UInt8)))) else (some false))) = some r := h
 clear h
 by_cases c3 : a0.toList = ([] : List UInt8)
 ·
  rw [if_pos c3] at H
  have c3b0 : (a0.toList == ([] : List UInt8)) = true := beq_iff_eq.mpr c3
  have c3b1 : (a0.toList != ([] : List UInt8)) = false := bne_eq_false_iff_eq.mpr c3
  clear c3
  obtain rfl := Option.some.inj H
  go_enter Tryz.func144, Tryz.ntmps144
  go_wp2
  go_ret
  exact ⟨re_, uW HB.out⟩
 ·
  rw [if_neg c3] at H
  have c3b0 : (a0.toList == ([] : List UInt8)) = false := beq_eq_false_iff_ne.mpr c3
  have c3b1 : (a0.toList != ([] : List UInt8)) = true := bne_iff_ne.mpr c3
  by_cases c4 : (a0.size : Int) ≤ 12
  ·
   rw [if_pos c4] at H
   have c4b0 : decide ((a0.size : Int) ≤ 12) = true := decide_eq_true c4
   have c4b1 : decide (a0.size ≤ 12) = true := decide_eq_true (by omega)
   clear c4
   obtain ⟨t269, A5, H⟩ := bs H
   try dsimp only at H
   obtain rfl := Option.some.inj H
   go_enter Tryz.func144, Tryz.ntmps144
   go_wp2_with (first | (go_at_call 112; (with_reducible refine (strings_Trim.calls a0 a1 t269 _ A5.out).mono ?_); rintro e w6 ⟨rfl, hb⟩; replace HB := cW HB hb; (try clear hb)))
   go_ret
   exact ⟨re_, uW HB.out⟩
  ·
   rw [if_neg c4] at H
   have c4b0 : decide ((a0.size : Int) ≤ 12) = false := decide_eq_false c4
   have c4b1 : decide (a0.size ≤ 12) = false := decide_eq_false (by omega)
   clear c4
   obtain rfl := Option.some.inj H
   go_enter Tryz.func144, Tryz.ntmps144
   go_wp2
   go_ret
   exact ⟨re_, uW HB.out⟩
def word_Name.f (a0 : ByteArray) : Option (Bool) := (word_made.f a0 (⟨#[97, 98, 99, 100, 101, 102, 103, 104, 105, 106, 107, 108, 109, 110, 111, 112, 113, 114, 115, 116, 117, 118, 119, 120, 121, 122, 48, 49, 50, 51, 52, 53, 54, 55, 56, 57, 95]⟩ : ByteArray)).bind fun t270 => (if t270 = true then (if 0 < (a0.size : Int) then ((strings_IndexByte.f (⟨#[97, 98, 99, 100, 101, 102, 103, 104, 105, 106, 107, 108, 109, 110, 111, 112, 113, 114, 115, 116, 117, 118, 119, 120, 121, 122]⟩ : ByteArray) (bt a0 0)).bind fun t271 => (some (decide (t271 ≥ 0)))) else (none)) else (some false))
theorem word_Name.calls (a0 : ByteArray) (r : Bool) (w : World) (h : word_Name.f a0 = some r) :
 Calls Tryz.prog 120 #[.string a0] w fun e w' => e = .returned (.bool r) ∧ Below w.heap.size w w' := by
 have HB := Aside0.mk (Below.refl w.heap.size w)
 have H : ((word_made.f a0 (⟨#[97, 98, 99, 100, 101, 102, 103, 104, 105, 106, 107, 108, 109, 110, 111, 112, 113, 114, 115, 116, 117, 118, 119, 120, 121, 122, 48, 49, 50, 51, 52, 53, 54, 55, 56, 57, 95]⟩ : ByteArray)).bind fun t270 => (if t270 = true then (if 0 < (a0.size : Int) then ((strings_IndexByte.f (⟨#[97, 98, 99, 100, 101, 102, 103, 104, 105, 106, 107, 108, 109, 110, 111, 112, 113, 114, 115, 116, 117, 118, 119, 120, 121, 122]⟩ : ByteArray) (bt a0 0)).bind fun t271 => (some (decide (t271 ≥ 0)))) else (none)) else (some false))) = some r := h
 clear h
 obtain ⟨t270, A2, H⟩ := bs H
 try dsimp only at H
 by_cases c3 : t270 = true
 ·
  subst c3
  rw [if_pos rfl] at H
  obtain ⟨c4, H⟩ := gd H
  have c4b0 : decide (0 < (a0.size : Int)) = true := decide_eq_true c4
  have c4b1 : decide (0 < a0.size) = true := decide_eq_true (by omega)
  clear c4
  obtain ⟨t271, A6, H⟩ := bs H
  try dsimp only at H
  obtain rfl := Option.some.inj H
  go_enter Tryz.func120, Tryz.ntmps120
  go_wp2_with (first | (refine gL (some 4) rfl Tryz.func144 #[.string a0, .string (⟨#[97, 98, 99, 100, 101, 102, 103, 104, 105, 106, 107, 108, 109, 110, 111, 112, 113, 114, 115, 116, 117, 118, 119, 120, 121, 122, 48, 49, 50, 51, 52, 53, 54, 55, 56, 57, 95]⟩ : ByteArray)] ?_; (with_reducible refine (word_made.calls a0 (⟨#[97, 98, 99, 100, 101, 102, 103, 104, 105, 106, 107, 108, 109, 110, 111, 112, 113, 114, 115, 116, 117, 118, 119, 120, 121, 122, 48, 49, 50, 51, 52, 53, 54, 55, 56, 57, 95]⟩ : ByteArray) true _ A2.out).mono ?_); rintro e w7 ⟨rfl, hb⟩; refine ⟨_, rfl, ?_⟩; replace HB := cW HB hb; (try clear hb); have p5 : 0 ≤ (0 : Int) := (by omega); have q5 : 0 < a0.size := (by have : (0 : Int) < (a0.size : Int) := od; omega); have hx5 : ∀ h : 0 < a0.size, ((a0[0]'h).toNat : Int) = bt a0 0 := bt_at a0 0; clear p5; have qi5 : (0 < (a0.size : Int)) = True := eq_true (od); replace q5 := eq_true q5) | (go_at_call 56; (with_reducible refine (strings_IndexByte.calls (⟨#[97, 98, 99, 100, 101, 102, 103, 104, 105, 106, 107, 108, 109, 110, 111, 112, 113, 114, 115, 116, 117, 118, 119, 120, 121, 122]⟩ : ByteArray) (bt a0 0) t271 _ A6.out).mono ?_); rintro e w' ⟨rfl, ⟨nd, rfl⟩⟩))
  go_ret
  exact ⟨re_, uW HB.out⟩
 ·
  replace c3 := Bool.eq_false_iff.mpr c3
  subst c3
  rw [if_neg (show ¬ (false = true) by decide)] at H
  obtain rfl := Option.some.inj H
  go_enter Tryz.func120, Tryz.ntmps120
  go_wp2_with (first | (refine gL (some 4) rfl Tryz.func144 #[.string a0, .string (⟨#[97, 98, 99, 100, 101, 102, 103, 104, 105, 106, 107, 108, 109, 110, 111, 112, 113, 114, 115, 116, 117, 118, 119, 120, 121, 122, 48, 49, 50, 51, 52, 53, 54, 55, 56, 57, 95]⟩ : ByteArray)] ?_; (with_reducible refine (word_made.calls a0 (⟨#[97, 98, 99, 100, 101, 102, 103, 104, 105, 106, 107, 108, 109, 110, 111, 112, 113, 114, 115, 116, 117, 118, 119, 120, 121, 122, 48, 49, 50, 51, 52, 53, 54, 55, 56, 57, 95]⟩ : ByteArray) false _ A2.out).mono ?_); rintro e w8 ⟨rfl, hb⟩; refine ⟨_, rfl, ?_⟩; replace HB := cW HB hb; (try clear hb)))
  go_ret
  exact ⟨re_, uW HB.out⟩
def word_Value.f (a0 : ByteArray) : Option (Bool) := (word_made.f a0 (⟨#[97, 98, 99, 100, 101, 102, 103, 104, 105, 106, 107, 108, 109, 110, 111, 112, 113, 114, 115, 116, 117, 118, 119, 120, 121, 122, 48, 49, 50, 51, 52, 53, 54, 55, 56, 57, 95, 45, 46]⟩ : ByteArray)).bind fun t272 => (some t272)
theorem word_Value.calls (a0 : ByteArray) (r : Bool) (w : World) (h : word_Value.f a0 = some r) :
 Calls Tryz.prog 121 #[.string a0] w fun e w' => e = .returned (.bool r) ∧ Below w.heap.size w w' := by
 have HB := Aside0.mk (Below.refl w.heap.size w)
 have H : ((word_made.f a0 (⟨#[97, 98, 99, 100, 101, 102, 103, 104, 105, 106, 107, 108, 109, 110, 111, 112, 113, 114, 115, 116, 117, 118, 119, 120, 121, 122, 48, 49, 50, 51, 52, 53, 54, 55, 56, 57, 95, 45, 46]⟩ : ByteArray)).bind fun t272 => (some t272)) = some r := h
 clear h
 obtain ⟨t272, A2, H⟩ := bs H
 try dsimp only at H
 obtain rfl := Option.some.inj H
 go_enter Tryz.func121, Tryz.ntmps121
 go_wp2_with (first | (refine gL (some 4) rfl Tryz.func144 #[.string a0, .string (⟨#[97, 98, 99, 100, 101, 102, 103, 104, 105, 106, 107, 108, 109, 110, 111, 112, 113, 114, 115, 116, 117, 118, 119, 120, 121, 122, 48, 49, 50, 51, 52, 53, 54, 55, 56, 57, 95, 45, 46]⟩ : ByteArray)] ?_; (with_reducible refine (word_made.calls a0 (⟨#[97, 98, 99, 100, 101, 102, 103, 104, 105, 106, 107, 108, 109, 110, 111, 112, 113, 114, 115, 116, 117, 118, 119, 120, 121, 122, 48, 49, 50, 51, 52, 53, 54, 55, 56, 57, 95, 45, 46]⟩ : ByteArray) t272 _ A2.out).mono ?_); rintro e w3 ⟨rfl, hb⟩; refine ⟨_, rfl, ?_⟩; replace HB := cW HB hb; (try clear hb)))
 go_ret
 exact ⟨re_, uW HB.out⟩
def tag_may.f (a0_0 : ByteArray) (a0_1 : ByteArray) : Option (Bool) := (word_Name.f a0_0).bind fun t274 => (if t274 = true then ((word_Value.f a0_1).bind fun t275 => (some t275)) else (some false))
theorem tag_may.calls (a0_0 : ByteArray) (a0_1 : ByteArray) (r : Bool) (w : World) (h : tag_may.f a0_0 a0_1 = some r) :
 Calls Tryz.prog 99 #[.agg #[.string a0_0, .string a0_1]] w fun e w' => e = .returned (.bool r) ∧ Below w.heap.size w w' := by
 have hu98 := Tryz.underlying98
 have HB := Aside0.mk (Below.refl w.heap.size w)
 have H : ((word_Name.f a0_0).bind fun t274 => (if t274 = true then ((word_Value.f a0_1).bind fun t275 => (some t275)) else (some false))) = some r := h
 clear h
 obtain ⟨t274, A2, H⟩ := bs H
 try dsimp only at H
 by_cases c3 : t274 = true
 ·
  subst c3
  rw [if_pos rfl] at H
  obtain ⟨t275, A4, H⟩ := bs H
  try dsimp only at H
  obtain rfl := Option.some.inj H
  go_enter Tryz.func99, Tryz.ntmps99
  go_wp2_with (first | ((with_reducible refine gate_dst (N := 1) rfl ?_); refine bx (N := 1) #[.string a0_0, .string a0_1] 98 ?_; intro gb273 hg w5 hbox hb; have BK273 := Aside0.mk (hbox); have GW273 := gw hg (uW HB.out); have GE273 := GW273; replace HB := cW HB hb; clear hb hbox hg; obtain ⟨hcz6_0, hcz6_1, hfz6_0, hfz6_1⟩ := z2 BK273) | (refine gL (some 5) rfl Tryz.func120 #[.string a0_0] ?_; (with_reducible refine (word_Name.calls a0_0 true _ A2.out).mono ?_); rintro e w7 ⟨rfl, hb⟩; refine ⟨_, rfl, ?_⟩; replace BK273 := cB BK273 hb; replace HB := Aside0.mk (below_step bl hb); (try clear hb); obtain ⟨hcz8_0, hcz8_1, hfz8_0, hfz8_1⟩ := z2 BK273) | (go_at_call 121; (with_reducible refine (word_Value.calls a0_1 t275 _ A4.out).mono ?_); rintro e w9 ⟨rfl, hb⟩; replace BK273 := cB BK273 hb; replace HB := Aside0.mk (below_step bl hb); (try clear hb)))
  go_ret
  exact ⟨re_, bl⟩
 ·
  replace c3 := Bool.eq_false_iff.mpr c3
  subst c3
  rw [if_neg (show ¬ (false = true) by decide)] at H
  obtain rfl := Option.some.inj H
  go_enter Tryz.func99, Tryz.ntmps99
  go_wp2_with (first | ((with_reducible refine gate_dst (N := 1) rfl ?_); refine bx (N := 1) #[.string a0_0, .string a0_1] 98 ?_; intro gb273 hg w10 hbox hb; have BK273 := Aside0.mk (hbox); have GW273 := gw hg (uW HB.out); have GE273 := GW273; replace HB := cW HB hb; clear hb hbox hg; obtain ⟨hcz11_0, hcz11_1, hfz11_0, hfz11_1⟩ := z2 BK273) | (refine gL (some 5) rfl Tryz.func120 #[.string a0_0] ?_; (with_reducible refine (word_Name.calls a0_0 false _ A2.out).mono ?_); rintro e w12 ⟨rfl, hb⟩; refine ⟨_, rfl, ?_⟩; replace BK273 := cB BK273 hb; replace HB := Aside0.mk (below_step bl hb); (try clear hb)))
  go_ret
  exact ⟨re_, bl⟩
def tag_Canon_1.f (a0_0 : ByteArray) (a0_1 : ByteArray) : Option (Bool) := (tag_may.f a0_0 a0_1).bind fun t277 => (some (!t277))
theorem tag_Canon_1.calls (a0_0 : ByteArray) (a0_1 : ByteArray) (r : Bool) (w : World) (h : tag_Canon_1.f a0_0 a0_1 = some r) :
 Calls Tryz.prog 98 #[.agg #[.string a0_0, .string a0_1]] w fun e w' => e = .returned (.bool r) ∧ Below w.heap.size w w' := by
 have hu98 := Tryz.underlying98
 have HB := Aside0.mk (Below.refl w.heap.size w)
 have H : ((tag_may.f a0_0 a0_1).bind fun t277 => (some (!t277))) = some r := h
 clear h
 obtain ⟨t277, A2, H⟩ := bs H
 try dsimp only at H
 obtain rfl := Option.some.inj H
 go_enter Tryz.func98, Tryz.ntmps98
 go_wp2_with (first | ((with_reducible refine gate_dst (N := 1) rfl ?_); refine bx (N := 1) #[.string a0_0, .string a0_1] 98 ?_; intro gb276 hg w3 hbox hb; have BK276 := Aside0.mk (hbox); have GW276 := gw hg (uW HB.out); have GE276 := GW276; replace HB := cW HB hb; clear hb hbox hg; obtain ⟨hcz4_0, hcz4_1, hfz4_0, hfz4_1⟩ := z2 BK276) | (refine gL (some 4) rfl Tryz.func99 #[.agg #[.string a0_0, .string a0_1]] ?_; (with_reducible refine (tag_may.calls a0_0 a0_1 t277 _ A2.out).mono ?_); rintro e w5 ⟨rfl, hb⟩; refine ⟨_, rfl, ?_⟩; replace BK276 := cB BK276 hb; replace HB := Aside0.mk (below_step bl hb); (try clear hb)))
 go_ret
 exact ⟨re_, bl⟩
theorem api_Tag_with_98_119.goesV_ {P : Program} {ops : Array Oper} {Q : Exit → Act → World → Prop} {oi : Oper} {N : Option Tmp} {a : Act} {w : World} {K : Act → World → Prop} {f : FuncId} {fn : Func} {cal : Operand} {as_ : Array Operand} {ts : Array TypeId} (hf : P.funcs[f]? = some fn) (hname : (fn.name == "runtime.NumGoroutine") = false) (hb : fn.body.isSome = true) (args : Array Value)
 (hw : Region.wanted oi (yielded ops a.tmps) = true) (hN : oi.dst = N) (hop : oi.op = .call { callee := .value cal, args := as_, argTypes := ts }) (hev : a.eval cal = .func (.func f) #[] #[]) (hargs : as_.map a.eval = args)
 (h : Calls P f args w fun e w' => ∃ v, e = .returned v ∧ K (a.put N v) w') : if Region.wanted oi (yielded ops a.tmps) = true then Oper.wp P oi a w K Q else K (a.put N undef) w := by
 refine call_ f args hw hN ?_ h
 have he := enters_ hf hname hb args w
 unfold execOp
 simp [hop, resolve, Deferred.ofValue, invoke, hev, hargs, he]
theorem api_Tag_with_98_119.goesVL_ {P : Program} {ops : Array Oper} {Q : Exit → Act → World → Prop} {rest : List Oper} {oi : Oper} {a : Act} {w : World} (N : Option Tmp) (hd : oi.dst = N) (hg : oi.guard = none) {f : FuncId} {fn : Func} {cal : Operand} {as_ : Array Operand} {ts : Array TypeId} (hf : P.funcs[f]? = some fn) (hname : (fn.name == "runtime.NumGoroutine") = false) (hb : fn.body.isSome = true) (args : Array Value)
 (hop : oi.op = .call { callee := .value cal, args := as_, argTypes := ts }) (hev : a.eval cal = .func (.func f) #[] #[]) (hargs : as_.map a.eval = args)
 (h : Calls P f args w fun e w' => ∃ v, e = .returned v ∧ wpList P ops Q rest (a.put N v) w') : wpList P ops Q (oi :: rest) a w := by
 refine wpList_plain hg fun K hK => ?_
 have he := enters_ hf hname hb args w
 have hrun : (execOp a.eval oi).run P w = .ok (.enter f args) w := by
  unfold execOp
  simp [hop, resolve, Deferred.ofValue, invoke, hev, hargs, he]
 unfold Oper.wp
 rw [hrun, Oper.upon_enter]
 refine h.mono fun e w'' hh => ?_
 obtain ⟨v, rfl, hk⟩ := hh
 subst hd
 exact hK _ _ hk
def api_Tag_with_98_119.l0 : Nat → List (S98) → Int → Int → Option (Int)
 | 0, _, _, _ => none
 | k + 1, x0, x7, x8 => if x8 < x7 then (if 0 ≤ x8 then (if x8 < (x0.length : Int) then ((tag_Canon_1.f ((rd_T98 x0 x8).f0) ((rd_T98 x0 x8).f1)).bind fun t279 => (if t279 = true then (some x8) else (api_Tag_with_98_119.l0 k x0 x7 (wrap64 (x8 + 1))))) else (none)) else (none)) else (some (-1))
def api_Tag_with_98_119.f (k : Nat) (l0 : List (S98)) : Option (Int) := api_Tag_with_98_119.l0 k l0 (l0.length : Int) 0
theorem api_Tag_with_98_119.mono_l : ∀ k, (∀ y0 y1 y2, LeC (api_Tag_with_98_119.l0 k y0 y1 y2) (api_Tag_with_98_119.l0 (k + 1) y0 y1 y2))
 | 0 => fun _ _ _ => ⟨fun r h => by simp [api_Tag_with_98_119.l0] at h⟩
 | k + 1 => by have ih0 := api_Tag_with_98_119.mono_l k; exact fun _ _ _ => by unfold api_Tag_with_98_119.l0; exact lm
theorem api_Tag_with_98_119.mono : ∀ a0 k, LeO (api_Tag_with_98_119.f k a0) (api_Tag_with_98_119.f (k + 1) a0) := by
 intro a0 k
 have ih0 := api_Tag_with_98_119.mono_l k
 unfold api_Tag_with_98_119.f
 exact lo
instance api_Tag_with_98_119.mI {a0 k} : LeC (api_Tag_with_98_119.f k a0) (api_Tag_with_98_119.f (k + 1) a0) := ⟨api_Tag_with_98_119.mono _ _⟩
theorem api_Tag_with_98_119.calls (k : Nat) (A0 : Option Addr) (c0 : Nat) (l0 : List (S98)) (r : Int) (w : World) (hr0 : Kd.C k98 w A0 l0.length l0) (hc0 : l0.length ≤ c0) (h : api_Tag_with_98_119.f k l0 = some r) :
 Calls Tryz.prog 119 #[.slice A0 l0.length c0, .func (.func 98) #[] #[]] w fun e w' => e = .returned (.int .i64 r) ∧ Below w.heap.size w w' := by
 have hu98 := Tryz.underlying98
 have HR0 := Aside0.mk hr0
 have HC0 := Aside0.mk hc0
 clear hr0 hc0
 have HB := Aside0.mk (Below.refl w.heap.size w)
 have H : (api_Tag_with_98_119.l0 k l0 (l0.length : Int) 0) = some r := h
 clear h
 have H' := Aside0.mk H
 clear H
 have eg98 : ∀ args w, (callFunc 98 args).run Tryz.prog w = .ok (.enter 98 args) w := enters_of Tryz.func98 (by kernel_rfl) rfl
 go_enter Tryz.func119, Tryz.ntmps119
 go_wp2
 go_loopg [8] k (fun kq v8 w' => ∃ (x8_1 : Int), v8 = .int .i64 x8_1 ∧ Aside0 (api_Tag_with_98_119.l0 kq l0 (l0.length : Int) x8_1 = some r) ∧ Aside0 (kq ≤ k) ∧ Aside0 (Below w.heap.size w w'))
 case atStart => exact ⟨(0), rs_, H', ⟨Nat.le_refl _⟩, ⟨uW HB.out⟩⟩
 case round =>
  clear H'
  obtain ⟨x8_1, rfl, HA, HK1, HB⟩ := hrel
  cases gk with
  | zero => exact absurd HA.out (by simp [api_Tag_with_98_119.l0])
  | succ k1 =>
   have H := HA.out
   clear HA
   simp only [api_Tag_with_98_119.l0] at H
   by_cases c2 : x8_1 < (l0.length : Int)
   ·
    rw [if_pos c2] at H
    have c2b0 : decide (x8_1 < (l0.length : Int)) = true := decide_eq_true c2
    clear c2
    obtain ⟨c3b0, H⟩ := gdd H
    obtain ⟨c4b0, H⟩ := gdd H
    obtain ⟨t279, A5, H⟩ := bs H
    try dsimp only at H
    by_cases c6 : t279 = true
    ·
     subst c6
     rw [if_pos rfl] at H
     obtain rfl := Option.some.inj H
     have p278 : 0 ≤ (x8_1 : Int) := od
     have q278 : x8_1 < (l0.length : Int) := od
     obtain ⟨ad278, e278, hx278_0, hx278_1⟩ := at_T98 HR0.out x8_1 p278 q278
     cases e278
     replace hx278_0 := kc HB hx278_0
     replace hx278_1 := kc HB hx278_1
     replace p278 := eq_true p278
     replace q278 := eq_true q278
     go_wp2_with (first | (refine api_Tag_with_98_119.goesVL_ (some 16) rfl rfl Tryz.func98 (by kernel_rfl) rfl #[.agg #[.string ((rd_T98 l0 x8_1).f0), .string ((rd_T98 l0 x8_1).f1)]] rfl (by rfl) (by (try simp only [List.map_toArray, List.map_cons, List.map_nil]); first | done | rfl | (simp only [List.length_drop, List.length_take]; rfl)) ?_; (with_reducible refine (tag_Canon_1.calls ((rd_T98 l0 x8_1).f0) ((rd_T98 l0 x8_1).f1) true _ A5.out).mono ?_); rintro e w7 ⟨rfl, hb⟩; refine ⟨_, rfl, ?_⟩; replace HB := cW HB hb; (try clear hb)))
     go_ret
     exact ⟨re_, uW HB.out⟩
    ·
     replace c6 := Bool.eq_false_iff.mpr c6
     subst c6
     rw [if_neg (show ¬ (false = true) by decide)] at H
     have H' := Aside0.mk H
     clear H
     have p278 : 0 ≤ (x8_1 : Int) := od
     have q278 : x8_1 < (l0.length : Int) := od
     obtain ⟨ad278, e278, hx278_0, hx278_1⟩ := at_T98 HR0.out x8_1 p278 q278
     cases e278
     replace hx278_0 := kc HB hx278_0
     replace hx278_1 := kc HB hx278_1
     replace p278 := eq_true p278
     replace q278 := eq_true q278
     go_wp2_with (first | (refine api_Tag_with_98_119.goesVL_ (some 16) rfl rfl Tryz.func98 (by kernel_rfl) rfl #[.agg #[.string ((rd_T98 l0 x8_1).f0), .string ((rd_T98 l0 x8_1).f1)]] rfl (by rfl) (by (try simp only [List.map_toArray, List.map_cons, List.map_nil]); first | done | rfl | (simp only [List.length_drop, List.length_take]; rfl)) ?_; (with_reducible refine (tag_Canon_1.calls ((rd_T98 l0 x8_1).f0) ((rd_T98 l0 x8_1).f1) false _ A5.out).mono ?_); rintro e w8 ⟨rfl, hb⟩; refine ⟨_, rfl, ?_⟩; replace HB := cW HB hb; (try clear hb)))
     go_roundg k1
     case measure => have := HK1.out; omega
     case rel => exact ⟨(wrap64 (x8_1 + 1)), rs_, H', ⟨by have := HK1.out; omega⟩, ⟨uW HB.out⟩⟩
   ·
    rw [if_neg c2] at H
    have c2b0 : decide (x8_1 < (l0.length : Int)) = false := decide_eq_false c2
    clear c2
    obtain rfl := Option.some.inj H
    go_wp2
    go_ret
    exact ⟨re_, uW HB.out⟩
def api_Tag_with_98_97.f (k : Nat) (l0 : List (S98)) : Option (Bool) := (api_Tag_with_98_119.f k l0).bind fun t280 => (some (decide (t280 ≥ 0)))
theorem api_Tag_with_98_97.mono : ∀ a0 k, LeO (api_Tag_with_98_97.f k a0) (api_Tag_with_98_97.f (k + 1) a0) := by
 intro a0 k
 unfold api_Tag_with_98_97.f
 exact lo
instance api_Tag_with_98_97.mI {a0 k} : LeC (api_Tag_with_98_97.f k a0) (api_Tag_with_98_97.f (k + 1) a0) := ⟨api_Tag_with_98_97.mono _ _⟩
theorem api_Tag_with_98_97.calls (k : Nat) (A0 : Option Addr) (c0 : Nat) (l0 : List (S98)) (r : Bool) (w : World) (hr0 : Kd.C k98 w A0 l0.length l0) (hc0 : l0.length ≤ c0) (h : api_Tag_with_98_97.f k l0 = some r) :
 Calls Tryz.prog 97 #[.slice A0 l0.length c0, .func (.func 98) #[] #[]] w fun e w' => e = .returned (.bool r) ∧ Below w.heap.size w w' := by
 have HR0 := Aside0.mk hr0
 have HC0 := Aside0.mk hc0
 clear hr0 hc0
 have HB := Aside0.mk (Below.refl w.heap.size w)
 have H : ((api_Tag_with_98_119.f k l0).bind fun t280 => (some (decide (t280 ≥ 0)))) = some r := h
 clear h
 obtain ⟨t280, A2, H⟩ := bs H
 try dsimp only at H
 obtain rfl := Option.some.inj H
 go_enter Tryz.func97, Tryz.ntmps97
 go_wp2_with (first | (refine gL (some 7) rfl Tryz.func119 #[.slice A0 l0.length c0, (.func (.func 98) #[] #[])] ?_; (with_reducible refine (api_Tag_with_98_119.calls k _ _ l0 t280 _ ?side1 ?side2 A2.out).mono ?_); (case side1 => exact uC <| HR0.out); (case side2 => exact HC0.out); rintro e w3 ⟨rfl, hb⟩; refine ⟨_, rfl, ?_⟩; replace HB := cW HB hb; (try clear hb)))
 go_ret
 exact ⟨re_, uW HB.out⟩
end Go.Proofs.YtgcbejidponoaaaGreatDoor.X
