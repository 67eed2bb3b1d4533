/- Printed by a program of this session's own: what functions of the program compute, and that the machine computes it. No condition of its own. -/
import Derived.Test.YtofaindjbhmopaaM3
import Derived.Test.YtofaindjbhmopaaM8
namespace Go.Proofs.Ytofaindjbhmopaa.X
open Go.RowKit Go.Proofs.YtofaindjbhmopaaW.PrintWords Go.Proofs.YtofaindjbhmopaaW.PrintLast Go.Proofs.YtofaindjbhmopaaW.PrintMore
attribute [local go_sem] max2_int min2_int max_two min_two max_three min_three max_four min_four
set_option linter.unusedVariables false
set_option linter.unusedSimpArgs false
set_option maxHeartbeats 8000000
set_option maxRecDepth 100000
def r11_Same.l0 : Nat → Int → List (S59) → List (S59) → Option (Bool)
 | 0, _, _, _ => none
 | k + 1, x5, x352000, x353000 => if x5 < (x352000.length : Int) then (if 0 ≤ x5 then (if x5 < (x353000.length : Int) then (if ((rd_T59 x352000 x5).f0) = ((rd_T59 x353000 x5).f0) then (if ((rd_T59 x352000 x5).f1).toList = ((rd_T59 x353000 x5).f1).toList then ((r10_Same.f k ((rd_T59 x352000 x5).f2) ((rd_T59 x353000 x5).f2)).bind fun t357 => (if t357 = true then (r11_Same.l0 k (wrap64 (x5 + 1)) x352000 x353000) else (some false))) else (some false)) else (some false)) else (none)) else (none)) else (some true)
def r11_Same.f (k : Nat) (l0_0 : List (S59)) (l1_0 : List (S59)) : Option (Bool) := if (l0_0.length : Int) = (l1_0.length : Int) then (r11_Same.l0 k 0 l0_0 l1_0) else (some false)
theorem r11_Same.mono_l : ∀ k, (∀ y0 y1 y2, LeC (r11_Same.l0 k y0 y1 y2) (r11_Same.l0 (k + 1) y0 y1 y2))
 | 0 => fun _ _ _ => ⟨fun r h => by simp [r11_Same.l0] at h⟩
 | k + 1 => by have ih0 := r11_Same.mono_l k; exact fun _ _ _ => by unfold r11_Same.l0; exact lm
theorem r11_Same.mono : ∀ a0 a1 k, LeO (r11_Same.f k a0 a1) (r11_Same.f (k + 1) a0 a1) := by
 intro a0 a1 k
 have ih0 := r11_Same.mono_l k
 unfold r11_Same.f
 exact lo
instance r11_Same.mI {a0 a1 k} : LeC (r11_Same.f k a0 a1) (r11_Same.f (k + 1) a0 a1) := ⟨r11_Same.mono _ _ _⟩
def r11_Same.T6 : Bool × List (List Nat × List Nat) := (true, [([], []), ([0], [0]), ([], []), ([1, 2], [1, 2]), ([3], [3]), ([], []), ([5], [5]), ([], []), ([6, 7], [6, 7]), ([8], [8]), ([], []), ([], []), ([10, 4, 0, 1, 2, 3, 4, 10, 11], [4, 10]), ([11, 9, 12, 0, 1, 2, 3, 4, 5, 6, 7, 8, 9, 10, 11, 12], [9, 11])])
def r11_Same.B6 : List Nat := [0, 1, 0, 7, 15, 0, 32, 0, 224, 480, 0, 0, 3103, 8191]
theorem r11_Same.tab6 : rtab .any (opsOf Try.f13 6) = r11_Same.T6 := by kernel_rfl
theorem r11_Same.bits6 : waitsOk r11_Same.T6.2 r11_Same.B6 = true := by kernel_rfl
theorem r11_Same.calls (k : Nat) (A0_0 : Option Addr) (c0_0 : Nat) (l0_0 : List (S59)) (A1_0 : Option Addr) (c1_0 : Nat) (l1_0 : List (S59)) (r : Bool) (w : World) (hr0_0 : Kd.C k59 w A0_0 l0_0.length l0_0) (hc0_0 : l0_0.length ≤ c0_0) (hr1_0 : Kd.C k59 w A1_0 l1_0.length l1_0) (hc1_0 : l1_0.length ≤ c1_0) (h : r11_Same.f k l0_0 l1_0 = some r) :
 Calls Try.prog 13 #[.agg #[.slice A0_0 l0_0.length c0_0], .agg #[.slice A1_0 l1_0.length c1_0]] w fun e w' => e = .returned (.bool r) ∧ Below w.heap.size w w' := by
 have hu24 := Try.underlying24
 have hu59 := Try.underlying59
 have HR0_0 := Aside0.mk hr0_0
 have HC0_0 := Aside0.mk hc0_0
 clear hr0_0 hc0_0
 have HR1_0 := Aside0.mk hr1_0
 have HC1_0 := Aside0.mk hc1_0
 clear hr1_0 hc1_0
 have HB := Aside0.mk (Below.refl w.heap.size w)
 have H : (if (l0_0.length : Int) = (l1_0.length : Int) then (r11_Same.l0 k 0 l0_0 l1_0) else (some false)) = some r := h
 clear h
 by_cases c3 : (l0_0.length : Int) = (l1_0.length : Int)
 ·
  rw [if_pos c3] at H
  have c3b0 : ((l0_0.length : Int) == (l1_0.length : Int)) = true := beq_iff_eq.mpr c3
  have c3b1 : ((l0_0.length : Int) != (l1_0.length : Int)) = false := bne_eq_false_iff_eq.mpr c3
  have c3b2 : (l0_0.length == l1_0.length) = true := by first | simpa using c3 | (simp at c3 ⊢; omega)
  clear c3
  have H' := Aside0.mk H
  clear H
  go_enter Try.func13, Try.ntmps13
  go_wp2_with (first | ((with_reducible refine gate_dst (N := 2) rfl ?_); refine bx (N := 2) #[.slice A0_0 l0_0.length c0_0] 24 ?_; intro gb351 hg w4 hbox hb; have BK351 := Aside0.mk (hbox); have GW351 := gw hg (uW HB.out); have GE351 := GW351; replace HB := cW HB hb; clear hb hbox hg) | ((with_reducible refine gate_dst (N := 3) rfl ?_); refine bx (N := 3) #[.slice A1_0 l1_0.length c1_0] 24 ?_; intro gb352 hg w5 hbox hb; have BK352 := Aside0.mk (hbox); have GW352 := gw hg bl; have GE352 := GW352; replace HB := Aside0.mk (below_step bl hb); have NB351_352 := Aside0.mk ((by rw [hg]; exact Nat.ne_of_lt (blk_lt (g := gb351) (o := .cells #[.slice A0_0 l0_0.length c0_0] 24 (0, 0)) (uB BK351.out)) : gb351 ≠ gb352)); have NB352_351 := Aside0.mk ((by rw [hg]; exact Nat.ne_of_gt (blk_lt (g := gb351) (o := .cells #[.slice A0_0 l0_0.length c0_0] 24 (0, 0)) (uB BK351.out)) : gb352 ≠ gb351)); replace BK351 := cB BK351 hb; clear hb hbox hg; have hnb6 := NB351_352.out; have hnc6 := NB352_351.out; obtain ⟨hcz7_0, hfz7_0⟩ := z1 BK351; obtain ⟨hcz8_0, hfz8_0⟩ := z1 BK352))
  go_loopg [5] k (fun kq v5 w' => ∃ (x5_1 : Int), v5 = .int .i64 x5_1 ∧ Aside0 (r11_Same.l0 kq x5_1 l0_0 l1_0 = some r) ∧ Aside0 (kq ≤ k) ∧ Aside0 (w'.heap[gb351]? = some (.cells #[(.slice A0_0 l0_0.length c0_0)] 24 (0, 0))) ∧ Aside0 (w'.heap[gb352]? = some (.cells #[(.slice A1_0 l1_0.length c1_0)] 24 (0, 0))) ∧ Aside0 (Below w.heap.size w w'))
  case atStart => exact ⟨(0), rs_, H', ⟨Nat.le_refl _⟩, ⟨uB BK351.out⟩, ⟨uB BK352.out⟩, ⟨bl⟩⟩
  case round =>
   clear H'
   try clear c1
   try clear p2
   try clear c3
   try clear c3b0
   try clear c3b1
   try clear c3b2
   try clear c6
   try clear hcz7_0
   try clear hcz8_0
   try clear hfz7_0
   try clear hfz8_0
   obtain ⟨x5_1, rfl, HA, HK1, BK351, BK352, HB⟩ := hrel
   cases gk with
   | zero => exact absurd HA.out (by simp [r11_Same.l0])
   | succ k1 =>
    have H := HA.out
    clear HA
    simp only [r11_Same.l0] at H
    by_cases c9 : x5_1 < (l0_0.length : Int)
    ·
     rw [if_pos c9] at H
     have c9b0 : decide (x5_1 < (l0_0.length : Int)) = true := decide_eq_true c9
     clear c9
     by_cases c10 : 0 ≤ x5_1
     ·
      rw [if_pos c10] at H
      have c10b0 : decide (0 ≤ x5_1) = true := decide_eq_true c10
      clear c10
      by_cases c11 : x5_1 < (l1_0.length : Int)
      ·
       rw [if_pos c11] at H
       have c11b0 : decide (x5_1 < (l1_0.length : Int)) = true := decide_eq_true c11
       clear c11
       by_cases c12 : ((rd_T59 l0_0 x5_1).f0) = ((rd_T59 l1_0 x5_1).f0)
       ·
        rw [if_pos c12] at H
        have c12b0 : (((rd_T59 l0_0 x5_1).f0) == ((rd_T59 l1_0 x5_1).f0)) = true := beq_iff_eq.mpr c12
        have c12b1 : (((rd_T59 l0_0 x5_1).f0) != ((rd_T59 l1_0 x5_1).f0)) = false := bne_eq_false_iff_eq.mpr c12
        clear c12
        by_cases c13 : ((rd_T59 l0_0 x5_1).f1).toList = ((rd_T59 l1_0 x5_1).f1).toList
        ·
         rw [if_pos c13] at H
         have c13b0 : (((rd_T59 l0_0 x5_1).f1).toList == ((rd_T59 l1_0 x5_1).f1).toList) = true := beq_iff_eq.mpr c13
         have c13b1 : (((rd_T59 l0_0 x5_1).f1).toList != ((rd_T59 l1_0 x5_1).f1).toList) = false := bne_eq_false_iff_eq.mpr c13
         clear c13
         obtain ⟨t357, A14, H⟩ := bs H
         try dsimp only at H
         by_cases c15 : t357 = true
         ·
          subst c15
          rw [if_pos rfl] at H
          have H' := Aside0.mk H
          clear H
          have hnb16 := NB351_352.out
          have hnc16 := NB352_351.out
          obtain ⟨hcz17_0, hfz17_0⟩ := z1 BK351
          try go_wp2
          replace BK351 := Aside0.mk (blk_drew BK351.out)
          replace BK352 := Aside0.mk (blk_drew BK352.out)
          replace HB := Aside0.mk (below_drew1 HB.out)
          have p353 : 0 ≤ (x5_1 : Int) := od
          have q353 : x5_1 < (l0_0.length : Int) := od
          obtain ⟨ad353, A353_2, c353_2, e353, hx353_0, hx353_1, hx353_2, hl353_2, hi353_2⟩ := at_T59 HR0_0.out x5_1 p353 q353
          have hw353_2 := hx353_2
          have hw353_1 := hx353_1
          have hw353_0 := hx353_0
          cases e353
          replace hx353_0 := kc HB hx353_0
          replace hx353_1 := kc HB hx353_1
          replace hx353_2 := kc HB hx353_2
          have HR353_2 := Aside0.mk hi353_2
          have HC353_2 := Aside0.mk hl353_2
          clear hi353_2 hl353_2
          replace p353 := eq_true p353
          replace q353 := eq_true q353
          have p354 : 0 ≤ (x5_1 : Int) := od
          have q354 : x5_1 < (l1_0.length : Int) := od
          obtain ⟨ad354, A354_2, c354_2, e354, hx354_0, hx354_1, hx354_2, hl354_2, hi354_2⟩ := at_T59 HR1_0.out x5_1 p354 q354
          have hw354_2 := hx354_2
          have hw354_1 := hx354_1
          have hw354_0 := hx354_0
          cases e354
          replace hx354_0 := kc HB hx354_0
          replace hx354_1 := kc HB hx354_1
          replace hx354_2 := kc HB hx354_2
          have HR354_2 := Aside0.mk hi354_2
          have HC354_2 := Aside0.mk hl354_2
          clear hi354_2 hl354_2
          replace p354 := eq_true p354
          replace q354 := eq_true q354
          refine start_ (n := 14) (S := fun w' => w'.cell? ⟨gb351, 0, none⟩ = some (.slice (some ad353) l0_0.length c0_0) ∧ w'.cell? ⟨gb352, 0, none⟩ = some (.slice (some ad354) l1_0.length c1_0) ∧ w'.cell? (ad353.add ((x5_1).toNat * 3)) = some (.int .i64 ((rd_T59 l0_0 x5_1).f0)) ∧ w'.cell? ⟨(ad353.add ((x5_1).toNat * 3)).block, (ad353.add ((x5_1).toNat * 3)).off + 1, none⟩ = some (.string ((rd_T59 l0_0 x5_1).f1)) ∧ w'.cell? ⟨(ad353.add ((x5_1).toNat * 3)).block, (ad353.add ((x5_1).toNat * 3)).off + 2, none⟩ = some (.slice A353_2 ((rd_T59 l0_0 x5_1).f2).length c353_2) ∧ w'.cell? (ad354.add ((x5_1).toNat * 3)) = some (.int .i64 ((rd_T59 l1_0 x5_1).f0)) ∧ w'.cell? ⟨(ad354.add ((x5_1).toNat * 3)).block, (ad354.add ((x5_1).toNat * 3)).off + 1, none⟩ = some (.string ((rd_T59 l1_0 x5_1).f1)) ∧ w'.cell? ⟨(ad354.add ((x5_1).toNat * 3)).block, (ad354.add ((x5_1).toNat * 3)).off + 2, none⟩ = some (.slice A354_2 ((rd_T59 l1_0 x5_1).f2).length c354_2)) (ds := []) _ (by kernel_rfl) rfl rfl ⟨(blk_cell BK351.out 0).trans rfl, (blk_cell BK352.out 0).trans rfl, (kc HB hw353_0), (kc HB hw353_1), (kc HB hw353_2), (kc HB hw354_0), (kc HB hw354_1), (kc HB hw354_2)⟩ (fun hHeld => ?_); refine with_tabW r11_Same.tab6 r11_Same.bits6 (fun HT_ HW_ => ?_)
          generalize wr.drew = w18 at BK351 BK352 HB HR353_2 HR354_2 hx353_0 hx353_1 hx353_2 hx354_0 hx354_1 hx354_2 hHeld ⊢
          refine pure_ (i := 0) (N := some 22) (v := ?_) (a' := ?_) #[true, false, false, false, false, false, false, false, false, false, false, false, false, false] rfl rfl (any_of HT_.out (by kernel_rfl)) (fun _ _ _ h => h) (Or.inl ⟨by rfl, ?_⟩) ?_ ?_
          rotate_left
          ·
           intro w'
           go_simp
           with_reducible rfl
          rotate_left
          ·
           simp only [Act.put, List.setIfInBounds_toArray, List.set_cons_zero, List.set_cons_succ, i64_w, i32_w]
           rfl
          refine pure_ (i := 2) (N := some 24) (v := ?_) (a' := ?_) #[true, false, true, false, false, false, false, false, false, false, false, false, false, false] rfl rfl (any_of HT_.out (by kernel_rfl)) (fun _ _ _ h => h) (Or.inl ⟨by rfl, ?_⟩) ?_ ?_
          rotate_left
          ·
           intro w'
           go_simp
           with_reducible rfl
          rotate_left
          ·
           simp only [Act.put, List.setIfInBounds_toArray, List.set_cons_zero, List.set_cons_succ, i64_w, i32_w]
           rfl
          refine pure_ (i := 5) (N := some 27) (v := ?_) (a' := ?_) #[true, false, true, false, false, true, false, false, false, false, false, false, false, false] rfl rfl (any_of HT_.out (by kernel_rfl)) (fun _ _ _ h => h) (Or.inl ⟨by rfl, ?_⟩) ?_ ?_
          rotate_left
          ·
           intro w'
           go_simp
           with_reducible rfl
          rotate_left
          ·
           simp only [Act.put, List.setIfInBounds_toArray, List.set_cons_zero, List.set_cons_succ, i64_w, i32_w]
           rfl
          refine pure_ (i := 7) (N := some 29) (v := ?_) (a' := ?_) #[true, false, true, false, false, true, false, true, false, false, false, false, false, false] rfl rfl (any_of HT_.out (by kernel_rfl)) (fun _ _ _ h => h) (Or.inl ⟨by rfl, ?_⟩) ?_ ?_
          rotate_left
          ·
           intro w'
           go_simp
           with_reducible rfl
          rotate_left
          ·
           simp only [Act.put, List.setIfInBounds_toArray, List.set_cons_zero, List.set_cons_succ, i64_w, i32_w]
           rfl
          refine take_ (i := 1) (N := some 23) (v := ?_) (a' := ?_) #[true, true, true, false, false, true, false, true, false, false, false, false, false, false] rfl rfl (take_ofW HT_.out HW_.out (by kernel_rfl)) (fun _ _ _ h => h) (Or.inl ⟨by rfl, ?_⟩) hHeld ?_ ?_
          rotate_left
          ·
           rintro w' ⟨s0, s1, s2, s3, s4, s5, s6, s7⟩
           go_simp
           with_reducible rfl
          rotate_left
          ·
           simp only [Act.put, List.setIfInBounds_toArray, List.set_cons_zero, List.set_cons_succ, i64_w, i32_w]
           rfl
          refine pure_ (i := 3) (N := some 25) (v := ?_) (a' := ?_) #[true, true, true, true, false, true, false, true, false, false, false, false, false, false] rfl rfl (any_of HT_.out (by kernel_rfl)) (fun _ _ _ h => h) (Or.inl ⟨by rfl, ?_⟩) ?_ ?_
          rotate_left
          ·
           intro w'
           go_simp
           with_reducible rfl
          rotate_left
          ·
           simp only [Act.put, List.setIfInBounds_toArray, List.set_cons_zero, List.set_cons_succ, i64_w, i32_w]
           rfl
          refine take_ (i := 4) (N := some 26) (v := ?_) (a' := ?_) #[true, true, true, true, true, true, false, true, false, false, false, false, false, false] rfl rfl (take_ofW HT_.out HW_.out (by kernel_rfl)) (fun _ _ _ h => h) (Or.inl ⟨by rfl, ?_⟩) hHeld ?_ ?_
          rotate_left
          ·
           rintro w' ⟨s0, s1, s2, s3, s4, s5, s6, s7⟩
           go_simp
           with_reducible rfl
          rotate_left
          ·
           simp only [Act.put, List.setIfInBounds_toArray, List.set_cons_zero, List.set_cons_succ, i64_w, i32_w]
           rfl
          refine take_ (i := 6) (N := some 28) (v := ?_) (a' := ?_) #[true, true, true, true, true, true, true, true, false, false, false, false, false, false] rfl rfl (take_ofW HT_.out HW_.out (by kernel_rfl)) (fun _ _ _ h => h) (Or.inl ⟨by rfl, ?_⟩) hHeld ?_ ?_
          rotate_left
          ·
           rintro w' ⟨s0, s1, s2, s3, s4, s5, s6, s7⟩
           go_simp
           with_reducible rfl
          rotate_left
          ·
           simp only [Act.put, List.setIfInBounds_toArray, List.set_cons_zero, List.set_cons_succ, i64_w, i32_w]
           rfl
          refine pure_ (i := 8) (N := some 30) (v := ?_) (a' := ?_) #[true, true, true, true, true, true, true, true, true, false, false, false, false, false] rfl rfl (any_of HT_.out (by kernel_rfl)) (fun _ _ _ h => h) (Or.inl ⟨by rfl, ?_⟩) ?_ ?_
          rotate_left
          ·
           intro w'
           go_simp
           with_reducible rfl
          rotate_left
          ·
           simp only [Act.put, List.setIfInBounds_toArray, List.set_cons_zero, List.set_cons_succ, i64_w, i32_w]
           rfl
          refine take_ (i := 9) (N := some 31) (v := ?_) (a' := ?_) #[true, true, true, true, true, true, true, true, true, true, false, false, false, false] rfl rfl (take_ofW HT_.out HW_.out (by kernel_rfl)) (fun _ _ _ h => h) (Or.inl ⟨by rfl, ?_⟩) hHeld ?_ ?_
          rotate_left
          ·
           rintro w' ⟨s0, s1, s2, s3, s4, s5, s6, s7⟩
           go_simp
           with_reducible rfl
          rotate_left
          ·
           simp only [Act.put, List.setIfInBounds_toArray, List.set_cons_zero, List.set_cons_succ, i64_w, i32_w]
           rfl
          refine join_ (σ := Nat × Nat) 2 #[true, true, true, true, true, true, true, true, true, true, true, true, false, false] (fun s_ => [(6, .pointer (some ⟨s_.1, 0, none⟩)), (7, .pointer (some ⟨s_.2, 0, none⟩))]) (fun s_ w' => (w'.cell? ⟨gb351, 0, none⟩ = some (.slice (some ad353) l0_0.length c0_0) ∧ w'.cell? ⟨gb352, 0, none⟩ = some (.slice (some ad354) l1_0.length c1_0) ∧ w'.cell? (ad353.add ((x5_1).toNat * 3)) = some (.int .i64 ((rd_T59 l0_0 x5_1).f0)) ∧ w'.cell? ⟨(ad353.add ((x5_1).toNat * 3)).block, (ad353.add ((x5_1).toNat * 3)).off + 1, none⟩ = some (.string ((rd_T59 l0_0 x5_1).f1)) ∧ w'.cell? ⟨(ad353.add ((x5_1).toNat * 3)).block, (ad353.add ((x5_1).toNat * 3)).off + 2, none⟩ = some (.slice A353_2 ((rd_T59 l0_0 x5_1).f2).length c353_2) ∧ w'.cell? (ad354.add ((x5_1).toNat * 3)) = some (.int .i64 ((rd_T59 l1_0 x5_1).f0)) ∧ w'.cell? ⟨(ad354.add ((x5_1).toNat * 3)).block, (ad354.add ((x5_1).toNat * 3)).off + 1, none⟩ = some (.string ((rd_T59 l1_0 x5_1).f1)) ∧ w'.cell? ⟨(ad354.add ((x5_1).toNat * 3)).block, (ad354.add ((x5_1).toNat * 3)).off + 2, none⟩ = some (.slice A354_2 ((rd_T59 l1_0 x5_1).f2).length c354_2)) ∧ (w'.heap[gb351]? = some (.cells #[.slice (some ad353) l0_0.length c0_0] 24 (0, 0))) ∧ (w'.heap[gb352]? = some (.cells #[.slice (some ad354) l1_0.length c1_0] 24 (0, 0))) ∧ (w'.heap[s_.1]? = some (.cells #[.int .i64 0, .string (⟨#[]⟩ : ByteArray), .slice none 0 0] 59 (0, 0))) ∧ (w'.heap[s_.2]? = some (.cells #[.int .i64 0, .string (⟨#[]⟩ : ByteArray), .slice none 0 0] 59 (0, 0))) ∧ (w.heap.size ≤ s_.1) ∧ (w.heap.size ≤ s_.1) ∧ (gb351 ≠ s_.1) ∧ (s_.1 ≠ gb351) ∧ (gb352 ≠ s_.1) ∧ (s_.1 ≠ gb352) ∧ (s_.2 ≠ s_.1) ∧ (s_.1 ≠ s_.2) ∧ (w.heap.size ≤ s_.2) ∧ (w.heap.size ≤ s_.2) ∧ (gb351 ≠ s_.2) ∧ (s_.2 ≠ gb351) ∧ (gb352 ≠ s_.2) ∧ (s_.2 ≠ gb352) ∧ (Below w.heap.size w w')) ?_ ?_
          rotate_left
          ·
           intro hCont
           refine two_ (i := 10) (j := 11) (Ni := some 6) (Nj := some 7) #[true, true, true, true, true, true, true, true, true, true, true, false, false, false] #[true, true, true, true, true, true, true, true, true, true, false, true, false, false] rfl rfl rfl rfl (two_of HT_.out (by kernel_rfl)) (by decide) (by decide) (fun K hK => ?_) (fun K hK => ?_)
           ·
            skip
            refine box_step ?hg (N := 6) ?hd (cs := #[.int .i64 0, .string (⟨#[]⟩ : ByteArray), .slice none 0 0]) (t := 59) ?hr ?_; (case hd => rfl); (case hg => rfl); (case hr => first | (go_simp; done) | (go_simp; rfl))
            intro gb355 hg w19 hbox hb
            have BK355 := Aside0.mk (hbox)
            have GW355 := gw hg bl
            have GE355 := gw hg bl
            replace HB := Aside0.mk (below_step bl hb)
            have NB351_355 := Aside0.mk ((by rw [hg]; exact Nat.ne_of_lt (blk_lt (g := gb351) (o := .cells #[.slice (some ad353) l0_0.length c0_0] 24 (0, 0)) (uB BK351.out)) : gb351 ≠ gb355))
            have NB355_351 := Aside0.mk ((by rw [hg]; exact Nat.ne_of_gt (blk_lt (g := gb351) (o := .cells #[.slice (some ad353) l0_0.length c0_0] 24 (0, 0)) (uB BK351.out)) : gb355 ≠ gb351))
            replace BK351 := cB BK351 hb
            have NB352_355 := Aside0.mk ((by rw [hg]; exact Nat.ne_of_lt (blk_lt (g := gb352) (o := .cells #[.slice (some ad354) l1_0.length c1_0] 24 (0, 0)) (uB BK352.out)) : gb352 ≠ gb355))
            have NB355_352 := Aside0.mk ((by rw [hg]; exact Nat.ne_of_gt (blk_lt (g := gb352) (o := .cells #[.slice (some ad354) l1_0.length c1_0] 24 (0, 0)) (uB BK352.out)) : gb355 ≠ gb352))
            replace BK352 := cB BK352 hb
            clear hb hbox hg
            refine hK.out _ _ ⟨(blk_cell BK351.out 0).trans rfl, (blk_cell BK352.out 0).trans rfl, (kc HB hw353_0), (kc HB hw353_1), (kc HB hw353_2), (kc HB hw354_0), (kc HB hw354_1), (kc HB hw354_2)⟩ (fun hHeld => ?_)
            clear hK K
            refine norm_ (a' := ?_) ?_ ?_
            rotate_left
            ·
             show Act.put _ (some 6) _ = _
             simp only [Act.put, List.setIfInBounds_toArray, List.set_cons_zero, List.set_cons_succ, i64_w, i32_w]
             rfl
            refine o1 11 (some 7) rfl rfl (fun K hK => ?_)
            refine box_step ?hg (N := 7) ?hd (cs := #[.int .i64 0, .string (⟨#[]⟩ : ByteArray), .slice none 0 0]) (t := 59) ?hr ?_; (case hd => rfl); (case hg => rfl); (case hr => first | (go_simp; done) | (go_simp; rfl))
            intro gb356 hg w20 hbox hb
            have BK356 := Aside0.mk (hbox)
            have GW356 := gw hg bl
            have GE356 := gw hg bl
            replace HB := Aside0.mk (below_step bl hb)
            have NB351_356 := Aside0.mk ((by rw [hg]; exact Nat.ne_of_lt (blk_lt (g := gb351) (o := .cells #[.slice (some ad353) l0_0.length c0_0] 24 (0, 0)) (uB BK351.out)) : gb351 ≠ gb356))
            have NB356_351 := Aside0.mk ((by rw [hg]; exact Nat.ne_of_gt (blk_lt (g := gb351) (o := .cells #[.slice (some ad353) l0_0.length c0_0] 24 (0, 0)) (uB BK351.out)) : gb356 ≠ gb351))
            replace BK351 := cB BK351 hb
            have NB352_356 := Aside0.mk ((by rw [hg]; exact Nat.ne_of_lt (blk_lt (g := gb352) (o := .cells #[.slice (some ad354) l1_0.length c1_0] 24 (0, 0)) (uB BK352.out)) : gb352 ≠ gb356))
            have NB356_352 := Aside0.mk ((by rw [hg]; exact Nat.ne_of_gt (blk_lt (g := gb352) (o := .cells #[.slice (some ad354) l1_0.length c1_0] 24 (0, 0)) (uB BK352.out)) : gb356 ≠ gb352))
            replace BK352 := cB BK352 hb
            have NB355_356 := Aside0.mk ((by rw [hg]; exact Nat.ne_of_lt (blk_lt (g := gb355) (o := .cells #[.int .i64 0, .string (⟨#[]⟩ : ByteArray), .slice none 0 0] 59 (0, 0)) (uB BK355.out)) : gb355 ≠ gb356))
            have NB356_355 := Aside0.mk ((by rw [hg]; exact Nat.ne_of_gt (blk_lt (g := gb355) (o := .cells #[.int .i64 0, .string (⟨#[]⟩ : ByteArray), .slice none 0 0] 59 (0, 0)) (uB BK355.out)) : gb356 ≠ gb355))
            replace BK355 := cB BK355 hb
            clear hb hbox hg
            refine hK.out _ _ ⟨(blk_cell BK351.out 0).trans rfl, (blk_cell BK352.out 0).trans rfl, (kc HB hw353_0), (kc HB hw353_1), (kc HB hw353_2), (kc HB hw354_0), (kc HB hw354_1), (kc HB hw354_2)⟩ (fun hHeld => ?_)
            clear hK K
            refine norm_ (a' := ?_) ?_ ?_
            rotate_left
            ·
             show Act.put _ (some 7) _ = _
             simp only [Act.put, List.setIfInBounds_toArray, List.set_cons_zero, List.set_cons_succ, i64_w, i32_w]
             rfl
            exact norm_ (by simp only [putAll, Act.put, List.setIfInBounds_toArray, List.set_cons_zero, List.set_cons_succ]) (hCont (gb355, gb356) _ ⟨hHeld, (uB BK351.out), (uB BK352.out), (uB BK355.out), (uB BK356.out), GW355.out, GE355.out, NB351_355.out, NB355_351.out, NB352_355.out, NB355_352.out, NB356_355.out, NB355_356.out, GW356.out, GE356.out, NB351_356.out, NB356_351.out, NB352_356.out, NB356_352.out, bl⟩)
           ·
            skip
            refine box_step ?hg (N := 7) ?hd (cs := #[.int .i64 0, .string (⟨#[]⟩ : ByteArray), .slice none 0 0]) (t := 59) ?hr ?_; (case hd => rfl); (case hg => rfl); (case hr => first | (go_simp; done) | (go_simp; rfl))
            intro gb356 hg w19 hbox hb
            have BK356 := Aside0.mk (hbox)
            have GW356 := gw hg bl
            have GE356 := gw hg bl
            replace HB := Aside0.mk (below_step bl hb)
            have NB351_356 := Aside0.mk ((by rw [hg]; exact Nat.ne_of_lt (blk_lt (g := gb351) (o := .cells #[.slice (some ad353) l0_0.length c0_0] 24 (0, 0)) (uB BK351.out)) : gb351 ≠ gb356))
            have NB356_351 := Aside0.mk ((by rw [hg]; exact Nat.ne_of_gt (blk_lt (g := gb351) (o := .cells #[.slice (some ad353) l0_0.length c0_0] 24 (0, 0)) (uB BK351.out)) : gb356 ≠ gb351))
            replace BK351 := cB BK351 hb
            have NB352_356 := Aside0.mk ((by rw [hg]; exact Nat.ne_of_lt (blk_lt (g := gb352) (o := .cells #[.slice (some ad354) l1_0.length c1_0] 24 (0, 0)) (uB BK352.out)) : gb352 ≠ gb356))
            have NB356_352 := Aside0.mk ((by rw [hg]; exact Nat.ne_of_gt (blk_lt (g := gb352) (o := .cells #[.slice (some ad354) l1_0.length c1_0] 24 (0, 0)) (uB BK352.out)) : gb356 ≠ gb352))
            replace BK352 := cB BK352 hb
            clear hb hbox hg
            refine hK.out _ _ ⟨(blk_cell BK351.out 0).trans rfl, (blk_cell BK352.out 0).trans rfl, (kc HB hw353_0), (kc HB hw353_1), (kc HB hw353_2), (kc HB hw354_0), (kc HB hw354_1), (kc HB hw354_2)⟩ (fun hHeld => ?_)
            clear hK K
            refine norm_ (a' := ?_) ?_ ?_
            rotate_left
            ·
             show Act.put _ (some 7) _ = _
             simp only [Act.put, List.setIfInBounds_toArray, List.set_cons_zero, List.set_cons_succ, i64_w, i32_w]
             rfl
            refine o1 10 (some 6) rfl rfl (fun K hK => ?_)
            refine box_step ?hg (N := 6) ?hd (cs := #[.int .i64 0, .string (⟨#[]⟩ : ByteArray), .slice none 0 0]) (t := 59) ?hr ?_; (case hd => rfl); (case hg => rfl); (case hr => first | (go_simp; done) | (go_simp; rfl))
            intro gb355 hg w20 hbox hb
            have BK355 := Aside0.mk (hbox)
            have GW355 := gw hg bl
            have GE355 := gw hg bl
            replace HB := Aside0.mk (below_step bl hb)
            have NB351_355 := Aside0.mk ((by rw [hg]; exact Nat.ne_of_lt (blk_lt (g := gb351) (o := .cells #[.slice (some ad353) l0_0.length c0_0] 24 (0, 0)) (uB BK351.out)) : gb351 ≠ gb355))
            have NB355_351 := Aside0.mk ((by rw [hg]; exact Nat.ne_of_gt (blk_lt (g := gb351) (o := .cells #[.slice (some ad353) l0_0.length c0_0] 24 (0, 0)) (uB BK351.out)) : gb355 ≠ gb351))
            replace BK351 := cB BK351 hb
            have NB352_355 := Aside0.mk ((by rw [hg]; exact Nat.ne_of_lt (blk_lt (g := gb352) (o := .cells #[.slice (some ad354) l1_0.length c1_0] 24 (0, 0)) (uB BK352.out)) : gb352 ≠ gb355))
            have NB355_352 := Aside0.mk ((by rw [hg]; exact Nat.ne_of_gt (blk_lt (g := gb352) (o := .cells #[.slice (some ad354) l1_0.length c1_0] 24 (0, 0)) (uB BK352.out)) : gb355 ≠ gb352))
            replace BK352 := cB BK352 hb
            have NB356_355 := Aside0.mk ((by rw [hg]; exact Nat.ne_of_lt (blk_lt (g := gb356) (o := .cells #[.int .i64 0, .string (⟨#[]⟩ : ByteArray), .slice none 0 0] 59 (0, 0)) (uB BK356.out)) : gb356 ≠ gb355))
            have NB355_356 := Aside0.mk ((by rw [hg]; exact Nat.ne_of_gt (blk_lt (g := gb356) (o := .cells #[.int .i64 0, .string (⟨#[]⟩ : ByteArray), .slice none 0 0] 59 (0, 0)) (uB BK356.out)) : gb355 ≠ gb356))
            replace BK356 := cB BK356 hb
            clear hb hbox hg
            refine hK.out _ _ ⟨(blk_cell BK351.out 0).trans rfl, (blk_cell BK352.out 0).trans rfl, (kc HB hw353_0), (kc HB hw353_1), (kc HB hw353_2), (kc HB hw354_0), (kc HB hw354_1), (kc HB hw354_2)⟩ (fun hHeld => ?_)
            clear hK K
            refine norm_ (a' := ?_) ?_ ?_
            rotate_left
            ·
             show Act.put _ (some 6) _ = _
             simp only [Act.put, List.setIfInBounds_toArray, List.set_cons_zero, List.set_cons_succ, i64_w, i32_w]
             rfl
            exact norm_ (by simp only [putAll, Act.put, List.setIfInBounds_toArray, List.set_cons_zero, List.set_cons_succ]) (hCont (gb355, gb356) _ ⟨hHeld, (uB BK351.out), (uB BK352.out), (uB BK355.out), (uB BK356.out), GW355.out, GE355.out, NB351_355.out, NB355_351.out, NB352_355.out, NB355_352.out, NB356_355.out, NB355_356.out, GW356.out, GE356.out, NB351_356.out, NB356_351.out, NB352_356.out, NB356_352.out, bl⟩)
          rintro ⟨gb355, gb356⟩ w21 ⟨hS_, h0_, h1_, h2_, h3_, h4_, h5_, h6_, h7_, h8_, h9_, h10_, h11_, h12_, h13_, h14_, h15_, h16_, h17_, h18_⟩
          have n0_ : Aside0 (w21.heap[gb351]? = some (.cells #[.slice (some ad353) l0_0.length c0_0] 24 (0, 0))) := ⟨h0_⟩
          have n1_ : Aside0 (w21.heap[gb352]? = some (.cells #[.slice (some ad354) l1_0.length c1_0] 24 (0, 0))) := ⟨h1_⟩
          have n2_ : Aside0 (w21.heap[gb355]? = some (.cells #[.int .i64 0, .string (⟨#[]⟩ : ByteArray), .slice none 0 0] 59 (0, 0))) := ⟨h2_⟩
          have n3_ : Aside0 (w21.heap[gb356]? = some (.cells #[.int .i64 0, .string (⟨#[]⟩ : ByteArray), .slice none 0 0] 59 (0, 0))) := ⟨h3_⟩
          have n4_ : Aside0 (w.heap.size ≤ gb355) := ⟨h4_⟩
          have n5_ : Aside0 (w.heap.size ≤ gb355) := ⟨h5_⟩
          have n6_ : Aside0 (gb351 ≠ gb355) := ⟨h6_⟩
          have n7_ : Aside0 (gb355 ≠ gb351) := ⟨h7_⟩
          have n8_ : Aside0 (gb352 ≠ gb355) := ⟨h8_⟩
          have n9_ : Aside0 (gb355 ≠ gb352) := ⟨h9_⟩
          have n10_ : Aside0 (gb356 ≠ gb355) := ⟨h10_⟩
          have n11_ : Aside0 (gb355 ≠ gb356) := ⟨h11_⟩
          have n12_ : Aside0 (w.heap.size ≤ gb356) := ⟨h12_⟩
          have n13_ : Aside0 (w.heap.size ≤ gb356) := ⟨h13_⟩
          have n14_ : Aside0 (gb351 ≠ gb356) := ⟨h14_⟩
          have n15_ : Aside0 (gb356 ≠ gb351) := ⟨h15_⟩
          have n16_ : Aside0 (gb352 ≠ gb356) := ⟨h16_⟩
          have n17_ : Aside0 (gb356 ≠ gb352) := ⟨h17_⟩
          have n18_ : Aside0 (Below w.heap.size w w21) := ⟨h18_⟩
          clear BK351
          clear BK352
          clear HB
          clear h0_ h1_ h2_ h3_ h4_ h5_ h6_ h7_ h8_ h9_ h10_ h11_ h12_ h13_ h14_ h15_ h16_ h17_ h18_
          have BK351 := n0_
          have BK352 := n1_
          have BK355 := n2_
          have BK356 := n3_
          have GW355 := n4_
          have GE355 := n5_
          have NB351_355 := n6_
          have NB355_351 := n7_
          have NB352_355 := n8_
          have NB355_352 := n9_
          have NB356_355 := n10_
          have NB355_356 := n11_
          have GW356 := n12_
          have GE356 := n13_
          have NB351_356 := n14_
          have NB356_351 := n15_
          have NB352_356 := n16_
          have NB356_352 := n17_
          have HB := n18_
          clear n0_ n1_ n2_ n3_ n4_ n5_ n6_ n7_ n8_ n9_ n10_ n11_ n12_ n13_ n14_ n15_ n16_ n17_ n18_
          have hHeld : w21.cell? ⟨gb351, 0, none⟩ = some (.slice (some ad353) l0_0.length c0_0) ∧ w21.cell? ⟨gb352, 0, none⟩ = some (.slice (some ad354) l1_0.length c1_0) ∧ w21.cell? (ad353.add ((x5_1).toNat * 3)) = some (.int .i64 ((rd_T59 l0_0 x5_1).f0)) ∧ w21.cell? ⟨(ad353.add ((x5_1).toNat * 3)).block, (ad353.add ((x5_1).toNat * 3)).off + 1, none⟩ = some (.string ((rd_T59 l0_0 x5_1).f1)) ∧ w21.cell? ⟨(ad353.add ((x5_1).toNat * 3)).block, (ad353.add ((x5_1).toNat * 3)).off + 2, none⟩ = some (.slice A353_2 ((rd_T59 l0_0 x5_1).f2).length c353_2) ∧ w21.cell? (ad354.add ((x5_1).toNat * 3)) = some (.int .i64 ((rd_T59 l1_0 x5_1).f0)) ∧ w21.cell? ⟨(ad354.add ((x5_1).toNat * 3)).block, (ad354.add ((x5_1).toNat * 3)).off + 1, none⟩ = some (.string ((rd_T59 l1_0 x5_1).f1)) ∧ w21.cell? ⟨(ad354.add ((x5_1).toNat * 3)).block, (ad354.add ((x5_1).toNat * 3)).off + 2, none⟩ = some (.slice A354_2 ((rd_T59 l1_0 x5_1).f2).length c354_2) := hS_
          refine norm_ (a' := ?_) ?_ ?_
          rotate_left
          ·
           simp only [putAll, Act.put, List.setIfInBounds_toArray, List.set_cons_zero, List.set_cons_succ]
           rfl
          refine o1 12 none rfl rfl (fun K hK => ?_)
          have hs22 : w21.cell? ⟨gb355, 0, none⟩ = some (.int .i64 0) := (blk_cell BK355.out 0).trans rfl
          have hfs22 := blk_frozen BK355.out 0
          have hns22_0 := NB351_355.out
          have hns22_1 := NB352_355.out
          have hns22_3 := NB356_355.out
          have hms22_0 := NB355_351.out
          have hms22_1 := NB355_352.out
          have hms22_3 := NB355_356.out
          have hs23 : w21.cell? ⟨gb355, 1, none⟩ = some (.string (⟨#[]⟩ : ByteArray)) := (blk_cell BK355.out 1).trans rfl
          have hfs23 := blk_frozen BK355.out 1
          have hns23_0 := NB351_355.out
          have hns23_1 := NB352_355.out
          have hns23_3 := NB356_355.out
          have hms23_0 := NB355_351.out
          have hms23_1 := NB355_352.out
          have hms23_3 := NB355_356.out
          have hs24 : w21.cell? ⟨gb355, 2, none⟩ = some (.slice none 0 0) := (blk_cell BK355.out 2).trans rfl
          have hfs24 := blk_frozen BK355.out 2
          have hns24_0 := NB351_355.out
          have hns24_1 := NB352_355.out
          have hns24_3 := NB356_355.out
          have hms24_0 := NB355_351.out
          have hms24_1 := NB355_352.out
          have hms24_3 := NB355_356.out
          refine skip_ (w1 := ?_) (by rfl) rfl ?_ ?_
          rotate_left
          ·
           go_simp
           rfl
          refine hK.out _ _ ⟨((cell_far (p := ⟨gb355, _, none⟩) NB351_355.out _).trans (((cell_far (p := ⟨gb355, _, none⟩) NB351_355.out _).trans (((cell_far (p := ⟨gb355, _, none⟩) NB351_355.out _).trans (hHeld.1)))))), ((cell_far (p := ⟨gb355, _, none⟩) NB352_355.out _).trans (((cell_far (p := ⟨gb355, _, none⟩) NB352_355.out _).trans (((cell_far (p := ⟨gb355, _, none⟩) NB352_355.out _).trans (hHeld.2.1)))))), ((cell_far (p := ⟨gb355, _, none⟩) (by first | exact Nat.ne_of_lt (Nat.lt_of_lt_of_le (by have := World.block_lt_of_cell? _ _ hw353_0; first | rwa [add_block] at this | exact this) GW355.out) | (rw [add_block]; exact Nat.ne_of_lt (Nat.lt_of_lt_of_le (by have := World.block_lt_of_cell? _ _ hw353_0; first | rwa [add_block] at this | exact this) GW355.out)) | (show (Addr.add _ _).block ≠ _; rw [add_block]; exact Nat.ne_of_lt (Nat.lt_of_lt_of_le (by have := World.block_lt_of_cell? _ _ hw353_0; first | rwa [add_block] at this | exact this) GW355.out)) | (dsimp only; exact Nat.ne_of_lt (Nat.lt_of_lt_of_le (by have := World.block_lt_of_cell? _ _ hw353_0; first | rwa [add_block] at this | exact this) GW355.out))) _).trans (((cell_far (p := ⟨gb355, _, none⟩) (by first | exact Nat.ne_of_lt (Nat.lt_of_lt_of_le (by have := World.block_lt_of_cell? _ _ hw353_0; first | rwa [add_block] at this | exact this) GW355.out) | (rw [add_block]; exact Nat.ne_of_lt (Nat.lt_of_lt_of_le (by have := World.block_lt_of_cell? _ _ hw353_0; first | rwa [add_block] at this | exact this) GW355.out)) | (show (Addr.add _ _).block ≠ _; rw [add_block]; exact Nat.ne_of_lt (Nat.lt_of_lt_of_le (by have := World.block_lt_of_cell? _ _ hw353_0; first | rwa [add_block] at this | exact this) GW355.out)) | (dsimp only; exact Nat.ne_of_lt (Nat.lt_of_lt_of_le (by have := World.block_lt_of_cell? _ _ hw353_0; first | rwa [add_block] at this | exact this) GW355.out))) _).trans (((cell_far (p := ⟨gb355, _, none⟩) (by first | exact Nat.ne_of_lt (Nat.lt_of_lt_of_le (by have := World.block_lt_of_cell? _ _ hw353_0; first | rwa [add_block] at this | exact this) GW355.out) | (rw [add_block]; exact Nat.ne_of_lt (Nat.lt_of_lt_of_le (by have := World.block_lt_of_cell? _ _ hw353_0; first | rwa [add_block] at this | exact this) GW355.out)) | (show (Addr.add _ _).block ≠ _; rw [add_block]; exact Nat.ne_of_lt (Nat.lt_of_lt_of_le (by have := World.block_lt_of_cell? _ _ hw353_0; first | rwa [add_block] at this | exact this) GW355.out)) | (dsimp only; exact Nat.ne_of_lt (Nat.lt_of_lt_of_le (by have := World.block_lt_of_cell? _ _ hw353_0; first | rwa [add_block] at this | exact this) GW355.out))) _).trans (hHeld.2.2.1)))))), ((cell_far (p := ⟨gb355, _, none⟩) (by first | exact Nat.ne_of_lt (Nat.lt_of_lt_of_le (by have := World.block_lt_of_cell? _ _ hw353_1; first | rwa [add_block] at this | exact this) GW355.out) | (rw [add_block]; exact Nat.ne_of_lt (Nat.lt_of_lt_of_le (by have := World.block_lt_of_cell? _ _ hw353_1; first | rwa [add_block] at this | exact this) GW355.out)) | (show (Addr.add _ _).block ≠ _; rw [add_block]; exact Nat.ne_of_lt (Nat.lt_of_lt_of_le (by have := World.block_lt_of_cell? _ _ hw353_1; first | rwa [add_block] at this | exact this) GW355.out)) | (dsimp only; exact Nat.ne_of_lt (Nat.lt_of_lt_of_le (by have := World.block_lt_of_cell? _ _ hw353_1; first | rwa [add_block] at this | exact this) GW355.out))) _).trans (((cell_far (p := ⟨gb355, _, none⟩) (by first | exact Nat.ne_of_lt (Nat.lt_of_lt_of_le (by have := World.block_lt_of_cell? _ _ hw353_1; first | rwa [add_block] at this | exact this) GW355.out) | (rw [add_block]; exact Nat.ne_of_lt (Nat.lt_of_lt_of_le (by have := World.block_lt_of_cell? _ _ hw353_1; first | rwa [add_block] at this | exact this) GW355.out)) | (show (Addr.add _ _).block ≠ _; rw [add_block]; exact Nat.ne_of_lt (Nat.lt_of_lt_of_le (by have := World.block_lt_of_cell? _ _ hw353_1; first | rwa [add_block] at this | exact this) GW355.out)) | (dsimp only; exact Nat.ne_of_lt (Nat.lt_of_lt_of_le (by have := World.block_lt_of_cell? _ _ hw353_1; first | rwa [add_block] at this | exact this) GW355.out))) _).trans (((cell_far (p := ⟨gb355, _, none⟩) (by first | exact Nat.ne_of_lt (Nat.lt_of_lt_of_le (by have := World.block_lt_of_cell? _ _ hw353_1; first | rwa [add_block] at this | exact this) GW355.out) | (rw [add_block]; exact Nat.ne_of_lt (Nat.lt_of_lt_of_le (by have := World.block_lt_of_cell? _ _ hw353_1; first | rwa [add_block] at this | exact this) GW355.out)) | (show (Addr.add _ _).block ≠ _; rw [add_block]; exact Nat.ne_of_lt (Nat.lt_of_lt_of_le (by have := World.block_lt_of_cell? _ _ hw353_1; first | rwa [add_block] at this | exact this) GW355.out)) | (dsimp only; exact Nat.ne_of_lt (Nat.lt_of_lt_of_le (by have := World.block_lt_of_cell? _ _ hw353_1; first | rwa [add_block] at this | exact this) GW355.out))) _).trans (hHeld.2.2.2.1)))))), ((cell_far (p := ⟨gb355, _, none⟩) (by first | exact Nat.ne_of_lt (Nat.lt_of_lt_of_le (by have := World.block_lt_of_cell? _ _ hw353_2; first | rwa [add_block] at this | exact this) GW355.out) | (rw [add_block]; exact Nat.ne_of_lt (Nat.lt_of_lt_of_le (by have := World.block_lt_of_cell? _ _ hw353_2; first | rwa [add_block] at this | exact this) GW355.out)) | (show (Addr.add _ _).block ≠ _; rw [add_block]; exact Nat.ne_of_lt (Nat.lt_of_lt_of_le (by have := World.block_lt_of_cell? _ _ hw353_2; first | rwa [add_block] at this | exact this) GW355.out)) | (dsimp only; exact Nat.ne_of_lt (Nat.lt_of_lt_of_le (by have := World.block_lt_of_cell? _ _ hw353_2; first | rwa [add_block] at this | exact this) GW355.out))) _).trans (((cell_far (p := ⟨gb355, _, none⟩) (by first | exact Nat.ne_of_lt (Nat.lt_of_lt_of_le (by have := World.block_lt_of_cell? _ _ hw353_2; first | rwa [add_block] at this | exact this) GW355.out) | (rw [add_block]; exact Nat.ne_of_lt (Nat.lt_of_lt_of_le (by have := World.block_lt_of_cell? _ _ hw353_2; first | rwa [add_block] at this | exact this) GW355.out)) | (show (Addr.add _ _).block ≠ _; rw [add_block]; exact Nat.ne_of_lt (Nat.lt_of_lt_of_le (by have := World.block_lt_of_cell? _ _ hw353_2; first | rwa [add_block] at this | exact this) GW355.out)) | (dsimp only; exact Nat.ne_of_lt (Nat.lt_of_lt_of_le (by have := World.block_lt_of_cell? _ _ hw353_2; first | rwa [add_block] at this | exact this) GW355.out))) _).trans (((cell_far (p := ⟨gb355, _, none⟩) (by first | exact Nat.ne_of_lt (Nat.lt_of_lt_of_le (by have := World.block_lt_of_cell? _ _ hw353_2; first | rwa [add_block] at this | exact this) GW355.out) | (rw [add_block]; exact Nat.ne_of_lt (Nat.lt_of_lt_of_le (by have := World.block_lt_of_cell? _ _ hw353_2; first | rwa [add_block] at this | exact this) GW355.out)) | (show (Addr.add _ _).block ≠ _; rw [add_block]; exact Nat.ne_of_lt (Nat.lt_of_lt_of_le (by have := World.block_lt_of_cell? _ _ hw353_2; first | rwa [add_block] at this | exact this) GW355.out)) | (dsimp only; exact Nat.ne_of_lt (Nat.lt_of_lt_of_le (by have := World.block_lt_of_cell? _ _ hw353_2; first | rwa [add_block] at this | exact this) GW355.out))) _).trans (hHeld.2.2.2.2.1)))))), ((cell_far (p := ⟨gb355, _, none⟩) (by first | exact Nat.ne_of_lt (Nat.lt_of_lt_of_le (by have := World.block_lt_of_cell? _ _ hw354_0; first | rwa [add_block] at this | exact this) GW355.out) | (rw [add_block]; exact Nat.ne_of_lt (Nat.lt_of_lt_of_le (by have := World.block_lt_of_cell? _ _ hw354_0; first | rwa [add_block] at this | exact this) GW355.out)) | (show (Addr.add _ _).block ≠ _; rw [add_block]; exact Nat.ne_of_lt (Nat.lt_of_lt_of_le (by have := World.block_lt_of_cell? _ _ hw354_0; first | rwa [add_block] at this | exact this) GW355.out)) | (dsimp only; exact Nat.ne_of_lt (Nat.lt_of_lt_of_le (by have := World.block_lt_of_cell? _ _ hw354_0; first | rwa [add_block] at this | exact this) GW355.out))) _).trans (((cell_far (p := ⟨gb355, _, none⟩) (by first | exact Nat.ne_of_lt (Nat.lt_of_lt_of_le (by have := World.block_lt_of_cell? _ _ hw354_0; first | rwa [add_block] at this | exact this) GW355.out) | (rw [add_block]; exact Nat.ne_of_lt (Nat.lt_of_lt_of_le (by have := World.block_lt_of_cell? _ _ hw354_0; first | rwa [add_block] at this | exact this) GW355.out)) | (show (Addr.add _ _).block ≠ _; rw [add_block]; exact Nat.ne_of_lt (Nat.lt_of_lt_of_le (by have := World.block_lt_of_cell? _ _ hw354_0; first | rwa [add_block] at this | exact this) GW355.out)) | (dsimp only; exact Nat.ne_of_lt (Nat.lt_of_lt_of_le (by have := World.block_lt_of_cell? _ _ hw354_0; first | rwa [add_block] at this | exact this) GW355.out))) _).trans (((cell_far (p := ⟨gb355, _, none⟩) (by first | exact Nat.ne_of_lt (Nat.lt_of_lt_of_le (by have := World.block_lt_of_cell? _ _ hw354_0; first | rwa [add_block] at this | exact this) GW355.out) | (rw [add_block]; exact Nat.ne_of_lt (Nat.lt_of_lt_of_le (by have := World.block_lt_of_cell? _ _ hw354_0; first | rwa [add_block] at this | exact this) GW355.out)) | (show (Addr.add _ _).block ≠ _; rw [add_block]; exact Nat.ne_of_lt (Nat.lt_of_lt_of_le (by have := World.block_lt_of_cell? _ _ hw354_0; first | rwa [add_block] at this | exact this) GW355.out)) | (dsimp only; exact Nat.ne_of_lt (Nat.lt_of_lt_of_le (by have := World.block_lt_of_cell? _ _ hw354_0; first | rwa [add_block] at this | exact this) GW355.out))) _).trans (hHeld.2.2.2.2.2.1)))))), ((cell_far (p := ⟨gb355, _, none⟩) (by first | exact Nat.ne_of_lt (Nat.lt_of_lt_of_le (by have := World.block_lt_of_cell? _ _ hw354_1; first | rwa [add_block] at this | exact this) GW355.out) | (rw [add_block]; exact Nat.ne_of_lt (Nat.lt_of_lt_of_le (by have := World.block_lt_of_cell? _ _ hw354_1; first | rwa [add_block] at this | exact this) GW355.out)) | (show (Addr.add _ _).block ≠ _; rw [add_block]; exact Nat.ne_of_lt (Nat.lt_of_lt_of_le (by have := World.block_lt_of_cell? _ _ hw354_1; first | rwa [add_block] at this | exact this) GW355.out)) | (dsimp only; exact Nat.ne_of_lt (Nat.lt_of_lt_of_le (by have := World.block_lt_of_cell? _ _ hw354_1; first | rwa [add_block] at this | exact this) GW355.out))) _).trans (((cell_far (p := ⟨gb355, _, none⟩) (by first | exact Nat.ne_of_lt (Nat.lt_of_lt_of_le (by have := World.block_lt_of_cell? _ _ hw354_1; first | rwa [add_block] at this | exact this) GW355.out) | (rw [add_block]; exact Nat.ne_of_lt (Nat.lt_of_lt_of_le (by have := World.block_lt_of_cell? _ _ hw354_1; first | rwa [add_block] at this | exact this) GW355.out)) | (show (Addr.add _ _).block ≠ _; rw [add_block]; exact Nat.ne_of_lt (Nat.lt_of_lt_of_le (by have := World.block_lt_of_cell? _ _ hw354_1; first | rwa [add_block] at this | exact this) GW355.out)) | (dsimp only; exact Nat.ne_of_lt (Nat.lt_of_lt_of_le (by have := World.block_lt_of_cell? _ _ hw354_1; first | rwa [add_block] at this | exact this) GW355.out))) _).trans (((cell_far (p := ⟨gb355, _, none⟩) (by first | exact Nat.ne_of_lt (Nat.lt_of_lt_of_le (by have := World.block_lt_of_cell? _ _ hw354_1; first | rwa [add_block] at this | exact this) GW355.out) | (rw [add_block]; exact Nat.ne_of_lt (Nat.lt_of_lt_of_le (by have := World.block_lt_of_cell? _ _ hw354_1; first | rwa [add_block] at this | exact this) GW355.out)) | (show (Addr.add _ _).block ≠ _; rw [add_block]; exact Nat.ne_of_lt (Nat.lt_of_lt_of_le (by have := World.block_lt_of_cell? _ _ hw354_1; first | rwa [add_block] at this | exact this) GW355.out)) | (dsimp only; exact Nat.ne_of_lt (Nat.lt_of_lt_of_le (by have := World.block_lt_of_cell? _ _ hw354_1; first | rwa [add_block] at this | exact this) GW355.out))) _).trans (hHeld.2.2.2.2.2.2.1)))))), ((cell_far (p := ⟨gb355, _, none⟩) (by first | exact Nat.ne_of_lt (Nat.lt_of_lt_of_le (by have := World.block_lt_of_cell? _ _ hw354_2; first | rwa [add_block] at this | exact this) GW355.out) | (rw [add_block]; exact Nat.ne_of_lt (Nat.lt_of_lt_of_le (by have := World.block_lt_of_cell? _ _ hw354_2; first | rwa [add_block] at this | exact this) GW355.out)) | (show (Addr.add _ _).block ≠ _; rw [add_block]; exact Nat.ne_of_lt (Nat.lt_of_lt_of_le (by have := World.block_lt_of_cell? _ _ hw354_2; first | rwa [add_block] at this | exact this) GW355.out)) | (dsimp only; exact Nat.ne_of_lt (Nat.lt_of_lt_of_le (by have := World.block_lt_of_cell? _ _ hw354_2; first | rwa [add_block] at this | exact this) GW355.out))) _).trans (((cell_far (p := ⟨gb355, _, none⟩) (by first | exact Nat.ne_of_lt (Nat.lt_of_lt_of_le (by have := World.block_lt_of_cell? _ _ hw354_2; first | rwa [add_block] at this | exact this) GW355.out) | (rw [add_block]; exact Nat.ne_of_lt (Nat.lt_of_lt_of_le (by have := World.block_lt_of_cell? _ _ hw354_2; first | rwa [add_block] at this | exact this) GW355.out)) | (show (Addr.add _ _).block ≠ _; rw [add_block]; exact Nat.ne_of_lt (Nat.lt_of_lt_of_le (by have := World.block_lt_of_cell? _ _ hw354_2; first | rwa [add_block] at this | exact this) GW355.out)) | (dsimp only; exact Nat.ne_of_lt (Nat.lt_of_lt_of_le (by have := World.block_lt_of_cell? _ _ hw354_2; first | rwa [add_block] at this | exact this) GW355.out))) _).trans (((cell_far (p := ⟨gb355, _, none⟩) (by first | exact Nat.ne_of_lt (Nat.lt_of_lt_of_le (by have := World.block_lt_of_cell? _ _ hw354_2; first | rwa [add_block] at this | exact this) GW355.out) | (rw [add_block]; exact Nat.ne_of_lt (Nat.lt_of_lt_of_le (by have := World.block_lt_of_cell? _ _ hw354_2; first | rwa [add_block] at this | exact this) GW355.out)) | (show (Addr.add _ _).block ≠ _; rw [add_block]; exact Nat.ne_of_lt (Nat.lt_of_lt_of_le (by have := World.block_lt_of_cell? _ _ hw354_2; first | rwa [add_block] at this | exact this) GW355.out)) | (dsimp only; exact Nat.ne_of_lt (Nat.lt_of_lt_of_le (by have := World.block_lt_of_cell? _ _ hw354_2; first | rwa [add_block] at this | exact this) GW355.out))) _).trans (hHeld.2.2.2.2.2.2.2))))))⟩ (fun hHeld => ?_)
          clear hK K
          refine o1 13 none rfl rfl (fun K hK => ?_)
          have hs25 : w21.cell? ⟨gb356, 0, none⟩ = some (.int .i64 0) := (blk_cell BK356.out 0).trans rfl
          have hfs25 := blk_frozen BK356.out 0
          have hns25_0 := NB351_356.out
          have hns25_1 := NB352_356.out
          have hns25_2 := NB355_356.out
          have hms25_0 := NB356_351.out
          have hms25_1 := NB356_352.out
          have hms25_2 := NB356_355.out
          have hs26 : w21.cell? ⟨gb356, 1, none⟩ = some (.string (⟨#[]⟩ : ByteArray)) := (blk_cell BK356.out 1).trans rfl
          have hfs26 := blk_frozen BK356.out 1
          have hns26_0 := NB351_356.out
          have hns26_1 := NB352_356.out
          have hns26_2 := NB355_356.out
          have hms26_0 := NB356_351.out
          have hms26_1 := NB356_352.out
          have hms26_2 := NB356_355.out
          have hs27 : w21.cell? ⟨gb356, 2, none⟩ = some (.slice none 0 0) := (blk_cell BK356.out 2).trans rfl
          have hfs27 := blk_frozen BK356.out 2
          have hns27_0 := NB351_356.out
          have hns27_1 := NB352_356.out
          have hns27_2 := NB355_356.out
          have hms27_0 := NB356_351.out
          have hms27_1 := NB356_352.out
          have hms27_2 := NB356_355.out
          refine skip_ (w1 := ?_) (by rfl) rfl ?_ ?_
          rotate_left
          ·
           go_simp
           rfl
          refine hK.out _ _ ⟨((cell_far (p := ⟨gb356, _, none⟩) NB351_356.out _).trans (((cell_far (p := ⟨gb356, _, none⟩) NB351_356.out _).trans (((cell_far (p := ⟨gb356, _, none⟩) NB351_356.out _).trans (hHeld.1)))))), ((cell_far (p := ⟨gb356, _, none⟩) NB352_356.out _).trans (((cell_far (p := ⟨gb356, _, none⟩) NB352_356.out _).trans (((cell_far (p := ⟨gb356, _, none⟩) NB352_356.out _).trans (hHeld.2.1)))))), ((cell_far (p := ⟨gb356, _, none⟩) (by first | exact Nat.ne_of_lt (Nat.lt_of_lt_of_le (by have := World.block_lt_of_cell? _ _ hw353_0; first | rwa [add_block] at this | exact this) GW356.out) | (rw [add_block]; exact Nat.ne_of_lt (Nat.lt_of_lt_of_le (by have := World.block_lt_of_cell? _ _ hw353_0; first | rwa [add_block] at this | exact this) GW356.out)) | (show (Addr.add _ _).block ≠ _; rw [add_block]; exact Nat.ne_of_lt (Nat.lt_of_lt_of_le (by have := World.block_lt_of_cell? _ _ hw353_0; first | rwa [add_block] at this | exact this) GW356.out)) | (dsimp only; exact Nat.ne_of_lt (Nat.lt_of_lt_of_le (by have := World.block_lt_of_cell? _ _ hw353_0; first | rwa [add_block] at this | exact this) GW356.out))) _).trans (((cell_far (p := ⟨gb356, _, none⟩) (by first | exact Nat.ne_of_lt (Nat.lt_of_lt_of_le (by have := World.block_lt_of_cell? _ _ hw353_0; first | rwa [add_block] at this | exact this) GW356.out) | (rw [add_block]; exact Nat.ne_of_lt (Nat.lt_of_lt_of_le (by have := World.block_lt_of_cell? _ _ hw353_0; first | rwa [add_block] at this | exact this) GW356.out)) | (show (Addr.add _ _).block ≠ _; rw [add_block]; exact Nat.ne_of_lt (Nat.lt_of_lt_of_le (by have := World.block_lt_of_cell? _ _ hw353_0; first | rwa [add_block] at this | exact this) GW356.out)) | (dsimp only; exact Nat.ne_of_lt (Nat.lt_of_lt_of_le (by have := World.block_lt_of_cell? _ _ hw353_0; first | rwa [add_block] at this | exact this) GW356.out))) _).trans (((cell_far (p := ⟨gb356, _, none⟩) (by first | exact Nat.ne_of_lt (Nat.lt_of_lt_of_le (by have := World.block_lt_of_cell? _ _ hw353_0; first | rwa [add_block] at this | exact this) GW356.out) | (rw [add_block]; exact Nat.ne_of_lt (Nat.lt_of_lt_of_le (by have := World.block_lt_of_cell? _ _ hw353_0; first | rwa [add_block] at this | exact this) GW356.out)) | (show (Addr.add _ _).block ≠ _; rw [add_block]; exact Nat.ne_of_lt (Nat.lt_of_lt_of_le (by have := World.block_lt_of_cell? _ _ hw353_0; first | rwa [add_block] at this | exact this) GW356.out)) | (dsimp only; exact Nat.ne_of_lt (Nat.lt_of_lt_of_le (by have := World.block_lt_of_cell? _ _ hw353_0; first | rwa [add_block] at this | exact this) GW356.out))) _).trans (hHeld.2.2.1)))))), ((cell_far (p := ⟨gb356, _, none⟩) (by first | exact Nat.ne_of_lt (Nat.lt_of_lt_of_le (by have := World.block_lt_of_cell? _ _ hw353_1; first | rwa [add_block] at this | exact this) GW356.out) | (rw [add_block]; exact Nat.ne_of_lt (Nat.lt_of_lt_of_le (by have := World.block_lt_of_cell? _ _ hw353_1; first | rwa [add_block] at this | exact this) GW356.out)) | (show (Addr.add _ _).block ≠ _; rw [add_block]; exact Nat.ne_of_lt (Nat.lt_of_lt_of_le (by have := World.block_lt_of_cell? _ _ hw353_1; first | rwa [add_block] at this | exact this) GW356.out)) | (dsimp only; exact Nat.ne_of_lt (Nat.lt_of_lt_of_le (by have := World.block_lt_of_cell? _ _ hw353_1; first | rwa [add_block] at this | exact this) GW356.out))) _).trans (((cell_far (p := ⟨gb356, _, none⟩) (by first | exact Nat.ne_of_lt (Nat.lt_of_lt_of_le (by have := World.block_lt_of_cell? _ _ hw353_1; first | rwa [add_block] at this | exact this) GW356.out) | (rw [add_block]; exact Nat.ne_of_lt (Nat.lt_of_lt_of_le (by have := World.block_lt_of_cell? _ _ hw353_1; first | rwa [add_block] at this | exact this) GW356.out)) | (show (Addr.add _ _).block ≠ _; rw [add_block]; exact Nat.ne_of_lt (Nat.lt_of_lt_of_le (by have := World.block_lt_of_cell? _ _ hw353_1; first | rwa [add_block] at this | exact this) GW356.out)) | (dsimp only; exact Nat.ne_of_lt (Nat.lt_of_lt_of_le (by have := World.block_lt_of_cell? _ _ hw353_1; first | rwa [add_block] at this | exact this) GW356.out))) _).trans (((cell_far (p := ⟨gb356, _, none⟩) (by first | exact Nat.ne_of_lt (Nat.lt_of_lt_of_le (by have := World.block_lt_of_cell? _ _ hw353_1; first | rwa [add_block] at this | exact this) GW356.out) | (rw [add_block]; exact Nat.ne_of_lt (Nat.lt_of_lt_of_le (by have := World.block_lt_of_cell? _ _ hw353_1; first | rwa [add_block] at this | exact this) GW356.out)) | (show (Addr.add _ _).block ≠ _; rw [add_block]; exact Nat.ne_of_lt (Nat.lt_of_lt_of_le (by have := World.block_lt_of_cell? _ _ hw353_1; first | rwa [add_block] at this | exact this) GW356.out)) | (dsimp only; exact Nat.ne_of_lt (Nat.lt_of_lt_of_le (by have := World.block_lt_of_cell? _ _ hw353_1; first | rwa [add_block] at this | exact this) GW356.out))) _).trans (hHeld.2.2.2.1)))))), ((cell_far (p := ⟨gb356, _, none⟩) (by first | exact Nat.ne_of_lt (Nat.lt_of_lt_of_le (by have := World.block_lt_of_cell? _ _ hw353_2; first | rwa [add_block] at this | exact this) GW356.out) | (rw [add_block]; exact Nat.ne_of_lt (Nat.lt_of_lt_of_le (by have := World.block_lt_of_cell? _ _ hw353_2; first | rwa [add_block] at this | exact this) GW356.out)) | (show (Addr.add _ _).block ≠ _; rw [add_block]; exact Nat.ne_of_lt (Nat.lt_of_lt_of_le (by have := World.block_lt_of_cell? _ _ hw353_2; first | rwa [add_block] at this | exact this) GW356.out)) | (dsimp only; exact Nat.ne_of_lt (Nat.lt_of_lt_of_le (by have := World.block_lt_of_cell? _ _ hw353_2; first | rwa [add_block] at this | exact this) GW356.out))) _).trans (((cell_far (p := ⟨gb356, _, none⟩) (by first | exact Nat.ne_of_lt (Nat.lt_of_lt_of_le (by have := World.block_lt_of_cell? _ _ hw353_2; first | rwa [add_block] at this | exact this) GW356.out) | (rw [add_block]; exact Nat.ne_of_lt (Nat.lt_of_lt_of_le (by have := World.block_lt_of_cell? _ _ hw353_2; first | rwa [add_block] at this | exact this) GW356.out)) | (show (Addr.add _ _).block ≠ _; rw [add_block]; exact Nat.ne_of_lt (Nat.lt_of_lt_of_le (by have := World.block_lt_of_cell? _ _ hw353_2; first | rwa [add_block] at this | exact this) GW356.out)) | (dsimp only; exact Nat.ne_of_lt (Nat.lt_of_lt_of_le (by have := World.block_lt_of_cell? _ _ hw353_2; first | rwa [add_block] at this | exact this) GW356.out))) _).trans (((cell_far (p := ⟨gb356, _, none⟩) (by first | exact Nat.ne_of_lt (Nat.lt_of_lt_of_le (by have := World.block_lt_of_cell? _ _ hw353_2; first | rwa [add_block] at this | exact this) GW356.out) | (rw [add_block]; exact Nat.ne_of_lt (Nat.lt_of_lt_of_le (by have := World.block_lt_of_cell? _ _ hw353_2; first | rwa [add_block] at this | exact this) GW356.out)) | (show (Addr.add _ _).block ≠ _; rw [add_block]; exact Nat.ne_of_lt (Nat.lt_of_lt_of_le (by have := World.block_lt_of_cell? _ _ hw353_2; first | rwa [add_block] at this | exact this) GW356.out)) | (dsimp only; exact Nat.ne_of_lt (Nat.lt_of_lt_of_le (by have := World.block_lt_of_cell? _ _ hw353_2; first | rwa [add_block] at this | exact this) GW356.out))) _).trans (hHeld.2.2.2.2.1)))))), ((cell_far (p := ⟨gb356, _, none⟩) (by first | exact Nat.ne_of_lt (Nat.lt_of_lt_of_le (by have := World.block_lt_of_cell? _ _ hw354_0; first | rwa [add_block] at this | exact this) GW356.out) | (rw [add_block]; exact Nat.ne_of_lt (Nat.lt_of_lt_of_le (by have := World.block_lt_of_cell? _ _ hw354_0; first | rwa [add_block] at this | exact this) GW356.out)) | (show (Addr.add _ _).block ≠ _; rw [add_block]; exact Nat.ne_of_lt (Nat.lt_of_lt_of_le (by have := World.block_lt_of_cell? _ _ hw354_0; first | rwa [add_block] at this | exact this) GW356.out)) | (dsimp only; exact Nat.ne_of_lt (Nat.lt_of_lt_of_le (by have := World.block_lt_of_cell? _ _ hw354_0; first | rwa [add_block] at this | exact this) GW356.out))) _).trans (((cell_far (p := ⟨gb356, _, none⟩) (by first | exact Nat.ne_of_lt (Nat.lt_of_lt_of_le (by have := World.block_lt_of_cell? _ _ hw354_0; first | rwa [add_block] at this | exact this) GW356.out) | (rw [add_block]; exact Nat.ne_of_lt (Nat.lt_of_lt_of_le (by have := World.block_lt_of_cell? _ _ hw354_0; first | rwa [add_block] at this | exact this) GW356.out)) | (show (Addr.add _ _).block ≠ _; rw [add_block]; exact Nat.ne_of_lt (Nat.lt_of_lt_of_le (by have := World.block_lt_of_cell? _ _ hw354_0; first | rwa [add_block] at this | exact this) GW356.out)) | (dsimp only; exact Nat.ne_of_lt (Nat.lt_of_lt_of_le (by have := World.block_lt_of_cell? _ _ hw354_0; first | rwa [add_block] at this | exact this) GW356.out))) _).trans (((cell_far (p := ⟨gb356, _, none⟩) (by first | exact Nat.ne_of_lt (Nat.lt_of_lt_of_le (by have := World.block_lt_of_cell? _ _ hw354_0; first | rwa [add_block] at this | exact this) GW356.out) | (rw [add_block]; exact Nat.ne_of_lt (Nat.lt_of_lt_of_le (by have := World.block_lt_of_cell? _ _ hw354_0; first | rwa [add_block] at this | exact this) GW356.out)) | (show (Addr.add _ _).block ≠ _; rw [add_block]; exact Nat.ne_of_lt (Nat.lt_of_lt_of_le (by have := World.block_lt_of_cell? _ _ hw354_0; first | rwa [add_block] at this | exact this) GW356.out)) | (dsimp only; exact Nat.ne_of_lt (Nat.lt_of_lt_of_le (by have := World.block_lt_of_cell? _ _ hw354_0; first | rwa [add_block] at this | exact this) GW356.out))) _).trans (hHeld.2.2.2.2.2.1)))))), ((cell_far (p := ⟨gb356, _, none⟩) (by first | exact Nat.ne_of_lt (Nat.lt_of_lt_of_le (by have := World.block_lt_of_cell? _ _ hw354_1; first | rwa [add_block] at this | exact this) GW356.out) | (rw [add_block]; exact Nat.ne_of_lt (Nat.lt_of_lt_of_le (by have := World.block_lt_of_cell? _ _ hw354_1; first | rwa [add_block] at this | exact this) GW356.out)) | (show (Addr.add _ _).block ≠ _; rw [add_block]; exact Nat.ne_of_lt (Nat.lt_of_lt_of_le (by have := World.block_lt_of_cell? _ _ hw354_1; first | rwa [add_block] at this | exact this) GW356.out)) | (dsimp only; exact Nat.ne_of_lt (Nat.lt_of_lt_of_le (by have := World.block_lt_of_cell? _ _ hw354_1; first | rwa [add_block] at this | exact this) GW356.out))) _).trans (((cell_far (p := ⟨gb356, _, none⟩) (by first | exact Nat.ne_of_lt (Nat.lt_of_lt_of_le (by have := World.block_lt_of_cell? _ _ hw354_1; first | rwa [add_block] at this | exact this) GW356.out) | (rw [add_block]; exact Nat.ne_of_lt (Nat.lt_of_lt_of_le (by have := World.block_lt_of_cell? _ _ hw354_1; first | rwa [add_block] at this | exact this) GW356.out)) | (show (Addr.add _ _).block ≠ _; rw [add_block]; exact Nat.ne_of_lt (Nat.lt_of_lt_of_le (by have := World.block_lt_of_cell? _ _ hw354_1; first | rwa [add_block] at this | exact this) GW356.out)) | (dsimp only; exact Nat.ne_of_lt (Nat.lt_of_lt_of_le (by have := World.block_lt_of_cell? _ _ hw354_1; first | rwa [add_block] at this | exact this) GW356.out))) _).trans (((cell_far (p := ⟨gb356, _, none⟩) (by first | exact Nat.ne_of_lt (Nat.lt_of_lt_of_le (by have := World.block_lt_of_cell? _ _ hw354_1; first | rwa [add_block] at this | exact this) GW356.out) | (rw [add_block]; exact Nat.ne_of_lt (Nat.lt_of_lt_of_le (by have := World.block_lt_of_cell? _ _ hw354_1; first | rwa [add_block] at this | exact this) GW356.out)) | (show (Addr.add _ _).block ≠ _; rw [add_block]; exact Nat.ne_of_lt (Nat.lt_of_lt_of_le (by have := World.block_lt_of_cell? _ _ hw354_1; first | rwa [add_block] at this | exact this) GW356.out)) | (dsimp only; exact Nat.ne_of_lt (Nat.lt_of_lt_of_le (by have := World.block_lt_of_cell? _ _ hw354_1; first | rwa [add_block] at this | exact this) GW356.out))) _).trans (hHeld.2.2.2.2.2.2.1)))))), ((cell_far (p := ⟨gb356, _, none⟩) (by first | exact Nat.ne_of_lt (Nat.lt_of_lt_of_le (by have := World.block_lt_of_cell? _ _ hw354_2; first | rwa [add_block] at this | exact this) GW356.out) | (rw [add_block]; exact Nat.ne_of_lt (Nat.lt_of_lt_of_le (by have := World.block_lt_of_cell? _ _ hw354_2; first | rwa [add_block] at this | exact this) GW356.out)) | (show (Addr.add _ _).block ≠ _; rw [add_block]; exact Nat.ne_of_lt (Nat.lt_of_lt_of_le (by have := World.block_lt_of_cell? _ _ hw354_2; first | rwa [add_block] at this | exact this) GW356.out)) | (dsimp only; exact Nat.ne_of_lt (Nat.lt_of_lt_of_le (by have := World.block_lt_of_cell? _ _ hw354_2; first | rwa [add_block] at this | exact this) GW356.out))) _).trans (((cell_far (p := ⟨gb356, _, none⟩) (by first | exact Nat.ne_of_lt (Nat.lt_of_lt_of_le (by have := World.block_lt_of_cell? _ _ hw354_2; first | rwa [add_block] at this | exact this) GW356.out) | (rw [add_block]; exact Nat.ne_of_lt (Nat.lt_of_lt_of_le (by have := World.block_lt_of_cell? _ _ hw354_2; first | rwa [add_block] at this | exact this) GW356.out)) | (show (Addr.add _ _).block ≠ _; rw [add_block]; exact Nat.ne_of_lt (Nat.lt_of_lt_of_le (by have := World.block_lt_of_cell? _ _ hw354_2; first | rwa [add_block] at this | exact this) GW356.out)) | (dsimp only; exact Nat.ne_of_lt (Nat.lt_of_lt_of_le (by have := World.block_lt_of_cell? _ _ hw354_2; first | rwa [add_block] at this | exact this) GW356.out))) _).trans (((cell_far (p := ⟨gb356, _, none⟩) (by first | exact Nat.ne_of_lt (Nat.lt_of_lt_of_le (by have := World.block_lt_of_cell? _ _ hw354_2; first | rwa [add_block] at this | exact this) GW356.out) | (rw [add_block]; exact Nat.ne_of_lt (Nat.lt_of_lt_of_le (by have := World.block_lt_of_cell? _ _ hw354_2; first | rwa [add_block] at this | exact this) GW356.out)) | (show (Addr.add _ _).block ≠ _; rw [add_block]; exact Nat.ne_of_lt (Nat.lt_of_lt_of_le (by have := World.block_lt_of_cell? _ _ hw354_2; first | rwa [add_block] at this | exact this) GW356.out)) | (dsimp only; exact Nat.ne_of_lt (Nat.lt_of_lt_of_le (by have := World.block_lt_of_cell? _ _ hw354_2; first | rwa [add_block] at this | exact this) GW356.out))) _).trans (hHeld.2.2.2.2.2.2.2))))))⟩ (fun hHeld => ?_)
          clear hK K
          refine done_ (done_of HT_.out (by kernel_rfl)) ?_
          have hnb28 := NB355_351.out
          have hnc28 := NB351_355.out
          have hnb29 := NB355_352.out
          have hnc29 := NB352_355.out
          have hnb30 := NB355_356.out
          have hnc30 := NB356_355.out
          obtain ⟨hcz31_0, hcz31_1, hcz31_2, hfz31_0, hfz31_1, hfz31_2⟩ := z3 BK355
          have hnb32 := NB356_351.out
          have hnc32 := NB351_356.out
          have hnb33 := NB356_352.out
          have hnc33 := NB352_356.out
          obtain ⟨hcz34_0, hcz34_1, hcz34_2, hfz34_0, hfz34_1, hfz34_2⟩ := z3 BK356
          try go_wp2_with (first | (go_at_call 32; (with_reducible refine (r10_Same.calls k1 _ _ ((rd_T59 l0_0 x5_1).f2) _ _ ((rd_T59 l1_0 x5_1).f2) true _ ?side1 ?side2 ?side3 ?side4 A14.out).mono ?_); (case side1 => exact Kd.C_below HR353_2.out bl); (case side2 => exact HC353_2.out); (case side3 => exact Kd.C_below HR354_2.out bl); (case side4 => exact HC354_2.out); rintro e w' ⟨rfl, ⟨nd, rfl⟩⟩))
          go_roundg k1
          case measure => have := HK1.out; omega
          case rel => exact ⟨(wrap64 (x5_1 + 1)), rs_, H', ⟨by have := HK1.out; omega⟩, ⟨by (with_reducible repeat (first | refine blk_drewN ?_ _ | refine blk_drew ?_ | refine blk_alloc ?_ _)); refine blk_far ?_ NB351_356.out _; (with_reducible repeat (first | refine blk_drewN ?_ _ | refine blk_drew ?_ | refine blk_alloc ?_ _)); refine blk_far ?_ NB351_356.out _; (with_reducible repeat (first | refine blk_drewN ?_ _ | refine blk_drew ?_ | refine blk_alloc ?_ _)); refine blk_far ?_ NB351_356.out _; (with_reducible repeat (first | refine blk_drewN ?_ _ | refine blk_drew ?_ | refine blk_alloc ?_ _)); refine blk_far ?_ NB351_355.out _; (with_reducible repeat (first | refine blk_drewN ?_ _ | refine blk_drew ?_ | refine blk_alloc ?_ _)); refine blk_far ?_ NB351_355.out _; (with_reducible repeat (first | refine blk_drewN ?_ _ | refine blk_drew ?_ | refine blk_alloc ?_ _)); refine blk_far ?_ NB351_355.out _; exact uB <| BK351.out⟩, ⟨by (with_reducible repeat (first | refine blk_drewN ?_ _ | refine blk_drew ?_ | refine blk_alloc ?_ _)); refine blk_far ?_ NB352_356.out _; (with_reducible repeat (first | refine blk_drewN ?_ _ | refine blk_drew ?_ | refine blk_alloc ?_ _)); refine blk_far ?_ NB352_356.out _; (with_reducible repeat (first | refine blk_drewN ?_ _ | refine blk_drew ?_ | refine blk_alloc ?_ _)); refine blk_far ?_ NB352_356.out _; (with_reducible repeat (first | refine blk_drewN ?_ _ | refine blk_drew ?_ | refine blk_alloc ?_ _)); refine blk_far ?_ NB352_355.out _; (with_reducible repeat (first | refine blk_drewN ?_ _ | refine blk_drew ?_ | refine blk_alloc ?_ _)); refine blk_far ?_ NB352_355.out _; (with_reducible repeat (first | refine blk_drewN ?_ _ | refine blk_drew ?_ | refine blk_alloc ?_ _)); refine blk_far ?_ NB352_355.out _; exact uB <| BK352.out⟩, ⟨bl⟩⟩
         ·
          replace c15 := Bool.eq_false_iff.mpr c15
          subst c15
          rw [if_neg (show ¬ (false = true) by decide)] at H
          obtain rfl := Option.some.inj H
          have hnb35 := NB351_352.out
          have hnc35 := NB352_351.out
          obtain ⟨hcz36_0, hfz36_0⟩ := z1 BK351
          try go_wp2
          replace BK351 := Aside0.mk (blk_drew BK351.out)
          replace BK352 := Aside0.mk (blk_drew BK352.out)
          replace HB := Aside0.mk (below_drew1 HB.out)
          have p353 : 0 ≤ (x5_1 : Int) := od
          have q353 : x5_1 < (l0_0.length : Int) := od
          obtain ⟨ad353, A353_2, c353_2, e353, hx353_0, hx353_1, hx353_2, hl353_2, hi353_2⟩ := at_T59 HR0_0.out x5_1 p353 q353
          have hw353_2 := hx353_2
          have hw353_1 := hx353_1
          have hw353_0 := hx353_0
          cases e353
          replace hx353_0 := kc HB hx353_0
          replace hx353_1 := kc HB hx353_1
          replace hx353_2 := kc HB hx353_2
          have HR353_2 := Aside0.mk hi353_2
          have HC353_2 := Aside0.mk hl353_2
          clear hi353_2 hl353_2
          replace p353 := eq_true p353
          replace q353 := eq_true q353
          have p354 : 0 ≤ (x5_1 : Int) := od
          have q354 : x5_1 < (l1_0.length : Int) := od
          obtain ⟨ad354, A354_2, c354_2, e354, hx354_0, hx354_1, hx354_2, hl354_2, hi354_2⟩ := at_T59 HR1_0.out x5_1 p354 q354
          have hw354_2 := hx354_2
          have hw354_1 := hx354_1
          have hw354_0 := hx354_0
          cases e354
          replace hx354_0 := kc HB hx354_0
          replace hx354_1 := kc HB hx354_1
          replace hx354_2 := kc HB hx354_2
          have HR354_2 := Aside0.mk hi354_2
          have HC354_2 := Aside0.mk hl354_2
          clear hi354_2 hl354_2
          replace p354 := eq_true p354
          replace q354 := eq_true q354
          refine start_ (n := 14) (S := fun w' => w'.cell? ⟨gb351, 0, none⟩ = some (.slice (some ad353) l0_0.length c0_0) ∧ w'.cell? ⟨gb352, 0, none⟩ = some (.slice (some ad354) l1_0.length c1_0) ∧ w'.cell? (ad353.add ((x5_1).toNat * 3)) = some (.int .i64 ((rd_T59 l0_0 x5_1).f0)) ∧ w'.cell? ⟨(ad353.add ((x5_1).toNat * 3)).block, (ad353.add ((x5_1).toNat * 3)).off + 1, none⟩ = some (.string ((rd_T59 l0_0 x5_1).f1)) ∧ w'.cell? ⟨(ad353.add ((x5_1).toNat * 3)).block, (ad353.add ((x5_1).toNat * 3)).off + 2, none⟩ = some (.slice A353_2 ((rd_T59 l0_0 x5_1).f2).length c353_2) ∧ w'.cell? (ad354.add ((x5_1).toNat * 3)) = some (.int .i64 ((rd_T59 l1_0 x5_1).f0)) ∧ w'.cell? ⟨(ad354.add ((x5_1).toNat * 3)).block, (ad354.add ((x5_1).toNat * 3)).off + 1, none⟩ = some (.string ((rd_T59 l1_0 x5_1).f1)) ∧ w'.cell? ⟨(ad354.add ((x5_1).toNat * 3)).block, (ad354.add ((x5_1).toNat * 3)).off + 2, none⟩ = some (.slice A354_2 ((rd_T59 l1_0 x5_1).f2).length c354_2)) (ds := []) _ (by kernel_rfl) rfl rfl ⟨(blk_cell BK351.out 0).trans rfl, (blk_cell BK352.out 0).trans rfl, (kc HB hw353_0), (kc HB hw353_1), (kc HB hw353_2), (kc HB hw354_0), (kc HB hw354_1), (kc HB hw354_2)⟩ (fun hHeld => ?_); refine with_tabW r11_Same.tab6 r11_Same.bits6 (fun HT_ HW_ => ?_)
          generalize wr.drew = w37 at BK351 BK352 HB HR353_2 HR354_2 hx353_0 hx353_1 hx353_2 hx354_0 hx354_1 hx354_2 hHeld ⊢
          refine pure_ (i := 0) (N := some 22) (v := ?_) (a' := ?_) #[true, false, false, false, false, false, false, false, false, false, false, false, false, false] rfl rfl (any_of HT_.out (by kernel_rfl)) (fun _ _ _ h => h) (Or.inl ⟨by rfl, ?_⟩) ?_ ?_
          rotate_left
          ·
           intro w'
           go_simp
           with_reducible rfl
          rotate_left
          ·
           simp only [Act.put, List.setIfInBounds_toArray, List.set_cons_zero, List.set_cons_succ, i64_w, i32_w]
           rfl
          refine pure_ (i := 2) (N := some 24) (v := ?_) (a' := ?_) #[true, false, true, false, false, false, false, false, false, false, false, false, false, false] rfl rfl (any_of HT_.out (by kernel_rfl)) (fun _ _ _ h => h) (Or.inl ⟨by rfl, ?_⟩) ?_ ?_
          rotate_left
          ·
           intro w'
           go_simp
           with_reducible rfl
          rotate_left
          ·
           simp only [Act.put, List.setIfInBounds_toArray, List.set_cons_zero, List.set_cons_succ, i64_w, i32_w]
           rfl
          refine pure_ (i := 5) (N := some 27) (v := ?_) (a' := ?_) #[true, false, true, false, false, true, false, false, false, false, false, false, false, false] rfl rfl (any_of HT_.out (by kernel_rfl)) (fun _ _ _ h => h) (Or.inl ⟨by rfl, ?_⟩) ?_ ?_
          rotate_left
          ·
           intro w'
           go_simp
           with_reducible rfl
          rotate_left
          ·
           simp only [Act.put, List.setIfInBounds_toArray, List.set_cons_zero, List.set_cons_succ, i64_w, i32_w]
           rfl
          refine pure_ (i := 7) (N := some 29) (v := ?_) (a' := ?_) #[true, false, true, false, false, true, false, true, false, false, false, false, false, false] rfl rfl (any_of HT_.out (by kernel_rfl)) (fun _ _ _ h => h) (Or.inl ⟨by rfl, ?_⟩) ?_ ?_
          rotate_left
          ·
           intro w'
           go_simp
           with_reducible rfl
          rotate_left
          ·
           simp only [Act.put, List.setIfInBounds_toArray, List.set_cons_zero, List.set_cons_succ, i64_w, i32_w]
           rfl
          refine take_ (i := 1) (N := some 23) (v := ?_) (a' := ?_) #[true, true, true, false, false, true, false, true, false, false, false, false, false, false] rfl rfl (take_ofW HT_.out HW_.out (by kernel_rfl)) (fun _ _ _ h => h) (Or.inl ⟨by rfl, ?_⟩) hHeld ?_ ?_
          rotate_left
          ·
           rintro w' ⟨s0, s1, s2, s3, s4, s5, s6, s7⟩
           go_simp
           with_reducible rfl
          rotate_left
          ·
           simp only [Act.put, List.setIfInBounds_toArray, List.set_cons_zero, List.set_cons_succ, i64_w, i32_w]
           rfl
          refine pure_ (i := 3) (N := some 25) (v := ?_) (a' := ?_) #[true, true, true, true, false, true, false, true, false, false, false, false, false, false] rfl rfl (any_of HT_.out (by kernel_rfl)) (fun _ _ _ h => h) (Or.inl ⟨by rfl, ?_⟩) ?_ ?_
          rotate_left
          ·
           intro w'
           go_simp
           with_reducible rfl
          rotate_left
          ·
           simp only [Act.put, List.setIfInBounds_toArray, List.set_cons_zero, List.set_cons_succ, i64_w, i32_w]
           rfl
          refine take_ (i := 4) (N := some 26) (v := ?_) (a' := ?_) #[true, true, true, true, true, true, false, true, false, false, false, false, false, false] rfl rfl (take_ofW HT_.out HW_.out (by kernel_rfl)) (fun _ _ _ h => h) (Or.inl ⟨by rfl, ?_⟩) hHeld ?_ ?_
          rotate_left
          ·
           rintro w' ⟨s0, s1, s2, s3, s4, s5, s6, s7⟩
           go_simp
           with_reducible rfl
          rotate_left
          ·
           simp only [Act.put, List.setIfInBounds_toArray, List.set_cons_zero, List.set_cons_succ, i64_w, i32_w]
           rfl
          refine take_ (i := 6) (N := some 28) (v := ?_) (a' := ?_) #[true, true, true, true, true, true, true, true, false, false, false, false, false, false] rfl rfl (take_ofW HT_.out HW_.out (by kernel_rfl)) (fun _ _ _ h => h) (Or.inl ⟨by rfl, ?_⟩) hHeld ?_ ?_
          rotate_left
          ·
           rintro w' ⟨s0, s1, s2, s3, s4, s5, s6, s7⟩
           go_simp
           with_reducible rfl
          rotate_left
          ·
           simp only [Act.put, List.setIfInBounds_toArray, List.set_cons_zero, List.set_cons_succ, i64_w, i32_w]
           rfl
          refine pure_ (i := 8) (N := some 30) (v := ?_) (a' := ?_) #[true, true, true, true, true, true, true, true, true, false, false, false, false, false] rfl rfl (any_of HT_.out (by kernel_rfl)) (fun _ _ _ h => h) (Or.inl ⟨by rfl, ?_⟩) ?_ ?_
          rotate_left
          ·
           intro w'
           go_simp
           with_reducible rfl
          rotate_left
          ·
           simp only [Act.put, List.setIfInBounds_toArray, List.set_cons_zero, List.set_cons_succ, i64_w, i32_w]
           rfl
          refine take_ (i := 9) (N := some 31) (v := ?_) (a' := ?_) #[true, true, true, true, true, true, true, true, true, true, false, false, false, false] rfl rfl (take_ofW HT_.out HW_.out (by kernel_rfl)) (fun _ _ _ h => h) (Or.inl ⟨by rfl, ?_⟩) hHeld ?_ ?_
          rotate_left
          ·
           rintro w' ⟨s0, s1, s2, s3, s4, s5, s6, s7⟩
           go_simp
           with_reducible rfl
          rotate_left
          ·
           simp only [Act.put, List.setIfInBounds_toArray, List.set_cons_zero, List.set_cons_succ, i64_w, i32_w]
           rfl
          refine join_ (σ := Nat × Nat) 2 #[true, true, true, true, true, true, true, true, true, true, true, true, false, false] (fun s_ => [(6, .pointer (some ⟨s_.1, 0, none⟩)), (7, .pointer (some ⟨s_.2, 0, none⟩))]) (fun s_ w' => (w'.cell? ⟨gb351, 0, none⟩ = some (.slice (some ad353) l0_0.length c0_0) ∧ w'.cell? ⟨gb352, 0, none⟩ = some (.slice (some ad354) l1_0.length c1_0) ∧ w'.cell? (ad353.add ((x5_1).toNat * 3)) = some (.int .i64 ((rd_T59 l0_0 x5_1).f0)) ∧ w'.cell? ⟨(ad353.add ((x5_1).toNat * 3)).block, (ad353.add ((x5_1).toNat * 3)).off + 1, none⟩ = some (.string ((rd_T59 l0_0 x5_1).f1)) ∧ w'.cell? ⟨(ad353.add ((x5_1).toNat * 3)).block, (ad353.add ((x5_1).toNat * 3)).off + 2, none⟩ = some (.slice A353_2 ((rd_T59 l0_0 x5_1).f2).length c353_2) ∧ w'.cell? (ad354.add ((x5_1).toNat * 3)) = some (.int .i64 ((rd_T59 l1_0 x5_1).f0)) ∧ w'.cell? ⟨(ad354.add ((x5_1).toNat * 3)).block, (ad354.add ((x5_1).toNat * 3)).off + 1, none⟩ = some (.string ((rd_T59 l1_0 x5_1).f1)) ∧ w'.cell? ⟨(ad354.add ((x5_1).toNat * 3)).block, (ad354.add ((x5_1).toNat * 3)).off + 2, none⟩ = some (.slice A354_2 ((rd_T59 l1_0 x5_1).f2).length c354_2)) ∧ (w'.heap[gb351]? = some (.cells #[.slice (some ad353) l0_0.length c0_0] 24 (0, 0))) ∧ (w'.heap[gb352]? = some (.cells #[.slice (some ad354) l1_0.length c1_0] 24 (0, 0))) ∧ (w'.heap[s_.1]? = some (.cells #[.int .i64 0, .string (⟨#[]⟩ : ByteArray), .slice none 0 0] 59 (0, 0))) ∧ (w'.heap[s_.2]? = some (.cells #[.int .i64 0, .string (⟨#[]⟩ : ByteArray), .slice none 0 0] 59 (0, 0))) ∧ (w.heap.size ≤ s_.1) ∧ (w.heap.size ≤ s_.1) ∧ (gb351 ≠ s_.1) ∧ (s_.1 ≠ gb351) ∧ (gb352 ≠ s_.1) ∧ (s_.1 ≠ gb352) ∧ (s_.2 ≠ s_.1) ∧ (s_.1 ≠ s_.2) ∧ (w.heap.size ≤ s_.2) ∧ (w.heap.size ≤ s_.2) ∧ (gb351 ≠ s_.2) ∧ (s_.2 ≠ gb351) ∧ (gb352 ≠ s_.2) ∧ (s_.2 ≠ gb352) ∧ (Below w.heap.size w w')) ?_ ?_
          rotate_left
          ·
           intro hCont
           refine two_ (i := 10) (j := 11) (Ni := some 6) (Nj := some 7) #[true, true, true, true, true, true, true, true, true, true, true, false, false, false] #[true, true, true, true, true, true, true, true, true, true, false, true, false, false] rfl rfl rfl rfl (two_of HT_.out (by kernel_rfl)) (by decide) (by decide) (fun K hK => ?_) (fun K hK => ?_)
           ·
            skip
            refine box_step ?hg (N := 6) ?hd (cs := #[.int .i64 0, .string (⟨#[]⟩ : ByteArray), .slice none 0 0]) (t := 59) ?hr ?_; (case hd => rfl); (case hg => rfl); (case hr => first | (go_simp; done) | (go_simp; rfl))
            intro gb355 hg w38 hbox hb
            have BK355 := Aside0.mk (hbox)
            have GW355 := gw hg bl
            have GE355 := gw hg bl
            replace HB := Aside0.mk (below_step bl hb)
            have NB351_355 := Aside0.mk ((by rw [hg]; exact Nat.ne_of_lt (blk_lt (g := gb351) (o := .cells #[.slice (some ad353) l0_0.length c0_0] 24 (0, 0)) (uB BK351.out)) : gb351 ≠ gb355))
            have NB355_351 := Aside0.mk ((by rw [hg]; exact Nat.ne_of_gt (blk_lt (g := gb351) (o := .cells #[.slice (some ad353) l0_0.length c0_0] 24 (0, 0)) (uB BK351.out)) : gb355 ≠ gb351))
            replace BK351 := cB BK351 hb
            have NB352_355 := Aside0.mk ((by rw [hg]; exact Nat.ne_of_lt (blk_lt (g := gb352) (o := .cells #[.slice (some ad354) l1_0.length c1_0] 24 (0, 0)) (uB BK352.out)) : gb352 ≠ gb355))
            have NB355_352 := Aside0.mk ((by rw [hg]; exact Nat.ne_of_gt (blk_lt (g := gb352) (o := .cells #[.slice (some ad354) l1_0.length c1_0] 24 (0, 0)) (uB BK352.out)) : gb355 ≠ gb352))
            replace BK352 := cB BK352 hb
            clear hb hbox hg
            refine hK.out _ _ ⟨(blk_cell BK351.out 0).trans rfl, (blk_cell BK352.out 0).trans rfl, (kc HB hw353_0), (kc HB hw353_1), (kc HB hw353_2), (kc HB hw354_0), (kc HB hw354_1), (kc HB hw354_2)⟩ (fun hHeld => ?_)
            clear hK K
            refine norm_ (a' := ?_) ?_ ?_
            rotate_left
            ·
             show Act.put _ (some 6) _ = _
             simp only [Act.put, List.setIfInBounds_toArray, List.set_cons_zero, List.set_cons_succ, i64_w, i32_w]
             rfl
            refine o1 11 (some 7) rfl rfl (fun K hK => ?_)
            refine box_step ?hg (N := 7) ?hd (cs := #[.int .i64 0, .string (⟨#[]⟩ : ByteArray), .slice none 0 0]) (t := 59) ?hr ?_; (case hd => rfl); (case hg => rfl); (case hr => first | (go_simp; done) | (go_simp; rfl))
            intro gb356 hg w39 hbox hb
            have BK356 := Aside0.mk (hbox)
            have GW356 := gw hg bl
            have GE356 := gw hg bl
            replace HB := Aside0.mk (below_step bl hb)
            have NB351_356 := Aside0.mk ((by rw [hg]; exact Nat.ne_of_lt (blk_lt (g := gb351) (o := .cells #[.slice (some ad353) l0_0.length c0_0] 24 (0, 0)) (uB BK351.out)) : gb351 ≠ gb356))
            have NB356_351 := Aside0.mk ((by rw [hg]; exact Nat.ne_of_gt (blk_lt (g := gb351) (o := .cells #[.slice (some ad353) l0_0.length c0_0] 24 (0, 0)) (uB BK351.out)) : gb356 ≠ gb351))
            replace BK351 := cB BK351 hb
            have NB352_356 := Aside0.mk ((by rw [hg]; exact Nat.ne_of_lt (blk_lt (g := gb352) (o := .cells #[.slice (some ad354) l1_0.length c1_0] 24 (0, 0)) (uB BK352.out)) : gb352 ≠ gb356))
            have NB356_352 := Aside0.mk ((by rw [hg]; exact Nat.ne_of_gt (blk_lt (g := gb352) (o := .cells #[.slice (some ad354) l1_0.length c1_0] 24 (0, 0)) (uB BK352.out)) : gb356 ≠ gb352))
            replace BK352 := cB BK352 hb
            have NB355_356 := Aside0.mk ((by rw [hg]; exact Nat.ne_of_lt (blk_lt (g := gb355) (o := .cells #[.int .i64 0, .string (⟨#[]⟩ : ByteArray), .slice none 0 0] 59 (0, 0)) (uB BK355.out)) : gb355 ≠ gb356))
            have NB356_355 := Aside0.mk ((by rw [hg]; exact Nat.ne_of_gt (blk_lt (g := gb355) (o := .cells #[.int .i64 0, .string (⟨#[]⟩ : ByteArray), .slice none 0 0] 59 (0, 0)) (uB BK355.out)) : gb356 ≠ gb355))
            replace BK355 := cB BK355 hb
            clear hb hbox hg
            refine hK.out _ _ ⟨(blk_cell BK351.out 0).trans rfl, (blk_cell BK352.out 0).trans rfl, (kc HB hw353_0), (kc HB hw353_1), (kc HB hw353_2), (kc HB hw354_0), (kc HB hw354_1), (kc HB hw354_2)⟩ (fun hHeld => ?_)
            clear hK K
            refine norm_ (a' := ?_) ?_ ?_
            rotate_left
            ·
             show Act.put _ (some 7) _ = _
             simp only [Act.put, List.setIfInBounds_toArray, List.set_cons_zero, List.set_cons_succ, i64_w, i32_w]
             rfl
            exact norm_ (by simp only [putAll, Act.put, List.setIfInBounds_toArray, List.set_cons_zero, List.set_cons_succ]) (hCont (gb355, gb356) _ ⟨hHeld, (uB BK351.out), (uB BK352.out), (uB BK355.out), (uB BK356.out), GW355.out, GE355.out, NB351_355.out, NB355_351.out, NB352_355.out, NB355_352.out, NB356_355.out, NB355_356.out, GW356.out, GE356.out, NB351_356.out, NB356_351.out, NB352_356.out, NB356_352.out, bl⟩)
           ·
            skip
            refine box_step ?hg (N := 7) ?hd (cs := #[.int .i64 0, .string (⟨#[]⟩ : ByteArray), .slice none 0 0]) (t := 59) ?hr ?_; (case hd => rfl); (case hg => rfl); (case hr => first | (go_simp; done) | (go_simp; rfl))
            intro gb356 hg w38 hbox hb
            have BK356 := Aside0.mk (hbox)
            have GW356 := gw hg bl
            have GE356 := gw hg bl
            replace HB := Aside0.mk (below_step bl hb)
            have NB351_356 := Aside0.mk ((by rw [hg]; exact Nat.ne_of_lt (blk_lt (g := gb351) (o := .cells #[.slice (some ad353) l0_0.length c0_0] 24 (0, 0)) (uB BK351.out)) : gb351 ≠ gb356))
            have NB356_351 := Aside0.mk ((by rw [hg]; exact Nat.ne_of_gt (blk_lt (g := gb351) (o := .cells #[.slice (some ad353) l0_0.length c0_0] 24 (0, 0)) (uB BK351.out)) : gb356 ≠ gb351))
            replace BK351 := cB BK351 hb
            have NB352_356 := Aside0.mk ((by rw [hg]; exact Nat.ne_of_lt (blk_lt (g := gb352) (o := .cells #[.slice (some ad354) l1_0.length c1_0] 24 (0, 0)) (uB BK352.out)) : gb352 ≠ gb356))
            have NB356_352 := Aside0.mk ((by rw [hg]; exact Nat.ne_of_gt (blk_lt (g := gb352) (o := .cells #[.slice (some ad354) l1_0.length c1_0] 24 (0, 0)) (uB BK352.out)) : gb356 ≠ gb352))
            replace BK352 := cB BK352 hb
            clear hb hbox hg
            refine hK.out _ _ ⟨(blk_cell BK351.out 0).trans rfl, (blk_cell BK352.out 0).trans rfl, (kc HB hw353_0), (kc HB hw353_1), (kc HB hw353_2), (kc HB hw354_0), (kc HB hw354_1), (kc HB hw354_2)⟩ (fun hHeld => ?_)
            clear hK K
            refine norm_ (a' := ?_) ?_ ?_
            rotate_left
            ·
             show Act.put _ (some 7) _ = _
             simp only [Act.put, List.setIfInBounds_toArray, List.set_cons_zero, List.set_cons_succ, i64_w, i32_w]
             rfl
            refine o1 10 (some 6) rfl rfl (fun K hK => ?_)
            refine box_step ?hg (N := 6) ?hd (cs := #[.int .i64 0, .string (⟨#[]⟩ : ByteArray), .slice none 0 0]) (t := 59) ?hr ?_; (case hd => rfl); (case hg => rfl); (case hr => first | (go_simp; done) | (go_simp; rfl))
            intro gb355 hg w39 hbox hb
            have BK355 := Aside0.mk (hbox)
            have GW355 := gw hg bl
            have GE355 := gw hg bl
            replace HB := Aside0.mk (below_step bl hb)
            have NB351_355 := Aside0.mk ((by rw [hg]; exact Nat.ne_of_lt (blk_lt (g := gb351) (o := .cells #[.slice (some ad353) l0_0.length c0_0] 24 (0, 0)) (uB BK351.out)) : gb351 ≠ gb355))
            have NB355_351 := Aside0.mk ((by rw [hg]; exact Nat.ne_of_gt (blk_lt (g := gb351) (o := .cells #[.slice (some ad353) l0_0.length c0_0] 24 (0, 0)) (uB BK351.out)) : gb355 ≠ gb351))
            replace BK351 := cB BK351 hb
            have NB352_355 := Aside0.mk ((by rw [hg]; exact Nat.ne_of_lt (blk_lt (g := gb352) (o := .cells #[.slice (some ad354) l1_0.length c1_0] 24 (0, 0)) (uB BK352.out)) : gb352 ≠ gb355))
            have NB355_352 := Aside0.mk ((by rw [hg]; exact Nat.ne_of_gt (blk_lt (g := gb352) (o := .cells #[.slice (some ad354) l1_0.length c1_0] 24 (0, 0)) (uB BK352.out)) : gb355 ≠ gb352))
            replace BK352 := cB BK352 hb
            have NB356_355 := Aside0.mk ((by rw [hg]; exact Nat.ne_of_lt (blk_lt (g := gb356) (o := .cells #[.int .i64 0, .string (⟨#[]⟩ : ByteArray), .slice none 0 0] 59 (0, 0)) (uB BK356.out)) : gb356 ≠ gb355))
            have NB355_356 := Aside0.mk ((by rw [hg]; exact Nat.ne_of_gt (blk_lt (g := gb356) (o := .cells #[.int .i64 0, .string (⟨#[]⟩ : ByteArray), .slice none 0 0] 59 (0, 0)) (uB BK356.out)) : gb355 ≠ gb356))
            replace BK356 := cB BK356 hb
            clear hb hbox hg
            refine hK.out _ _ ⟨(blk_cell BK351.out 0).trans rfl, (blk_cell BK352.out 0).trans rfl, (kc HB hw353_0), (kc HB hw353_1), (kc HB hw353_2), (kc HB hw354_0), (kc HB hw354_1), (kc HB hw354_2)⟩ (fun hHeld => ?_)
            clear hK K
            refine norm_ (a' := ?_) ?_ ?_
            rotate_left
            ·
             show Act.put _ (some 6) _ = _
             simp only [Act.put, List.setIfInBounds_toArray, List.set_cons_zero, List.set_cons_succ, i64_w, i32_w]
             rfl
            exact norm_ (by simp only [putAll, Act.put, List.setIfInBounds_toArray, List.set_cons_zero, List.set_cons_succ]) (hCont (gb355, gb356) _ ⟨hHeld, (uB BK351.out), (uB BK352.out), (uB BK355.out), (uB BK356.out), GW355.out, GE355.out, NB351_355.out, NB355_351.out, NB352_355.out, NB355_352.out, NB356_355.out, NB355_356.out, GW356.out, GE356.out, NB351_356.out, NB356_351.out, NB352_356.out, NB356_352.out, bl⟩)
          rintro ⟨gb355, gb356⟩ w40 ⟨hS_, h0_, h1_, h2_, h3_, h4_, h5_, h6_, h7_, h8_, h9_, h10_, h11_, h12_, h13_, h14_, h15_, h16_, h17_, h18_⟩
          have n0_ : Aside0 (w40.heap[gb351]? = some (.cells #[.slice (some ad353) l0_0.length c0_0] 24 (0, 0))) := ⟨h0_⟩
          have n1_ : Aside0 (w40.heap[gb352]? = some (.cells #[.slice (some ad354) l1_0.length c1_0] 24 (0, 0))) := ⟨h1_⟩
          have n2_ : Aside0 (w40.heap[gb355]? = some (.cells #[.int .i64 0, .string (⟨#[]⟩ : ByteArray), .slice none 0 0] 59 (0, 0))) := ⟨h2_⟩
          have n3_ : Aside0 (w40.heap[gb356]? = some (.cells #[.int .i64 0, .string (⟨#[]⟩ : ByteArray), .slice none 0 0] 59 (0, 0))) := ⟨h3_⟩
          have n4_ : Aside0 (w.heap.size ≤ gb355) := ⟨h4_⟩
          have n5_ : Aside0 (w.heap.size ≤ gb355) := ⟨h5_⟩
          have n6_ : Aside0 (gb351 ≠ gb355) := ⟨h6_⟩
          have n7_ : Aside0 (gb355 ≠ gb351) := ⟨h7_⟩
          have n8_ : Aside0 (gb352 ≠ gb355) := ⟨h8_⟩
          have n9_ : Aside0 (gb355 ≠ gb352) := ⟨h9_⟩
          have n10_ : Aside0 (gb356 ≠ gb355) := ⟨h10_⟩
          have n11_ : Aside0 (gb355 ≠ gb356) := ⟨h11_⟩
          have n12_ : Aside0 (w.heap.size ≤ gb356) := ⟨h12_⟩
          have n13_ : Aside0 (w.heap.size ≤ gb356) := ⟨h13_⟩
          have n14_ : Aside0 (gb351 ≠ gb356) := ⟨h14_⟩
          have n15_ : Aside0 (gb356 ≠ gb351) := ⟨h15_⟩
          have n16_ : Aside0 (gb352 ≠ gb356) := ⟨h16_⟩
          have n17_ : Aside0 (gb356 ≠ gb352) := ⟨h17_⟩
          have n18_ : Aside0 (Below w.heap.size w w40) := ⟨h18_⟩
          clear BK351
          clear BK352
          clear HB
          clear h0_ h1_ h2_ h3_ h4_ h5_ h6_ h7_ h8_ h9_ h10_ h11_ h12_ h13_ h14_ h15_ h16_ h17_ h18_
          have BK351 := n0_
          have BK352 := n1_
          have BK355 := n2_
          have BK356 := n3_
          have GW355 := n4_
          have GE355 := n5_
          have NB351_355 := n6_
          have NB355_351 := n7_
          have NB352_355 := n8_
          have NB355_352 := n9_
          have NB356_355 := n10_
          have NB355_356 := n11_
          have GW356 := n12_
          have GE356 := n13_
          have NB351_356 := n14_
          have NB356_351 := n15_
          have NB352_356 := n16_
          have NB356_352 := n17_
          have HB := n18_
          clear n0_ n1_ n2_ n3_ n4_ n5_ n6_ n7_ n8_ n9_ n10_ n11_ n12_ n13_ n14_ n15_ n16_ n17_ n18_
          have hHeld : w40.cell? ⟨gb351, 0, none⟩ = some (.slice (some ad353) l0_0.length c0_0) ∧ w40.cell? ⟨gb352, 0, none⟩ = some (.slice (some ad354) l1_0.length c1_0) ∧ w40.cell? (ad353.add ((x5_1).toNat * 3)) = some (.int .i64 ((rd_T59 l0_0 x5_1).f0)) ∧ w40.cell? ⟨(ad353.add ((x5_1).toNat * 3)).block, (ad353.add ((x5_1).toNat * 3)).off + 1, none⟩ = some (.string ((rd_T59 l0_0 x5_1).f1)) ∧ w40.cell? ⟨(ad353.add ((x5_1).toNat * 3)).block, (ad353.add ((x5_1).toNat * 3)).off + 2, none⟩ = some (.slice A353_2 ((rd_T59 l0_0 x5_1).f2).length c353_2) ∧ w40.cell? (ad354.add ((x5_1).toNat * 3)) = some (.int .i64 ((rd_T59 l1_0 x5_1).f0)) ∧ w40.cell? ⟨(ad354.add ((x5_1).toNat * 3)).block, (ad354.add ((x5_1).toNat * 3)).off + 1, none⟩ = some (.string ((rd_T59 l1_0 x5_1).f1)) ∧ w40.cell? ⟨(ad354.add ((x5_1).toNat * 3)).block, (ad354.add ((x5_1).toNat * 3)).off + 2, none⟩ = some (.slice A354_2 ((rd_T59 l1_0 x5_1).f2).length c354_2) := hS_
          refine norm_ (a' := ?_) ?_ ?_
          rotate_left
          ·
           simp only [putAll, Act.put, List.setIfInBounds_toArray, List.set_cons_zero, List.set_cons_succ]
           rfl
          refine o1 12 none rfl rfl (fun K hK => ?_)
          have hs41 : w40.cell? ⟨gb355, 0, none⟩ = some (.int .i64 0) := (blk_cell BK355.out 0).trans rfl
          have hfs41 := blk_frozen BK355.out 0
          have hns41_0 := NB351_355.out
          have hns41_1 := NB352_355.out
          have hns41_3 := NB356_355.out
          have hms41_0 := NB355_351.out
          have hms41_1 := NB355_352.out
          have hms41_3 := NB355_356.out
          have hs42 : w40.cell? ⟨gb355, 1, none⟩ = some (.string (⟨#[]⟩ : ByteArray)) := (blk_cell BK355.out 1).trans rfl
          have hfs42 := blk_frozen BK355.out 1
          have hns42_0 := NB351_355.out
          have hns42_1 := NB352_355.out
          have hns42_3 := NB356_355.out
          have hms42_0 := NB355_351.out
          have hms42_1 := NB355_352.out
          have hms42_3 := NB355_356.out
          have hs43 : w40.cell? ⟨gb355, 2, none⟩ = some (.slice none 0 0) := (blk_cell BK355.out 2).trans rfl
          have hfs43 := blk_frozen BK355.out 2
          have hns43_0 := NB351_355.out
          have hns43_1 := NB352_355.out
          have hns43_3 := NB356_355.out
          have hms43_0 := NB355_351.out
          have hms43_1 := NB355_352.out
          have hms43_3 := NB355_356.out
          refine skip_ (w1 := ?_) (by rfl) rfl ?_ ?_
          rotate_left
          ·
           go_simp
           rfl
          refine hK.out _ _ ⟨((cell_far (p := ⟨gb355, _, none⟩) NB351_355.out _).trans (((cell_far (p := ⟨gb355, _, none⟩) NB351_355.out _).trans (((cell_far (p := ⟨gb355, _, none⟩) NB351_355.out _).trans (hHeld.1)))))), ((cell_far (p := ⟨gb355, _, none⟩) NB352_355.out _).trans (((cell_far (p := ⟨gb355, _, none⟩) NB352_355.out _).trans (((cell_far (p := ⟨gb355, _, none⟩) NB352_355.out _).trans (hHeld.2.1)))))), ((cell_far (p := ⟨gb355, _, none⟩) (by first | exact Nat.ne_of_lt (Nat.lt_of_lt_of_le (by have := World.block_lt_of_cell? _ _ hw353_0; first | rwa [add_block] at this | exact this) GW355.out) | (rw [add_block]; exact Nat.ne_of_lt (Nat.lt_of_lt_of_le (by have := World.block_lt_of_cell? _ _ hw353_0; first | rwa [add_block] at this | exact this) GW355.out)) | (show (Addr.add _ _).block ≠ _; rw [add_block]; exact Nat.ne_of_lt (Nat.lt_of_lt_of_le (by have := World.block_lt_of_cell? _ _ hw353_0; first | rwa [add_block] at this | exact this) GW355.out)) | (dsimp only; exact Nat.ne_of_lt (Nat.lt_of_lt_of_le (by have := World.block_lt_of_cell? _ _ hw353_0; first | rwa [add_block] at this | exact this) GW355.out))) _).trans (((cell_far (p := ⟨gb355, _, none⟩) (by first | exact Nat.ne_of_lt (Nat.lt_of_lt_of_le (by have := World.block_lt_of_cell? _ _ hw353_0; first | rwa [add_block] at this | exact this) GW355.out) | (rw [add_block]; exact Nat.ne_of_lt (Nat.lt_of_lt_of_le (by have := World.block_lt_of_cell? _ _ hw353_0; first | rwa [add_block] at this | exact this) GW355.out)) | (show (Addr.add _ _).block ≠ _; rw [add_block]; exact Nat.ne_of_lt (Nat.lt_of_lt_of_le (by have := World.block_lt_of_cell? _ _ hw353_0; first | rwa [add_block] at this | exact this) GW355.out)) | (dsimp only; exact Nat.ne_of_lt (Nat.lt_of_lt_of_le (by have := World.block_lt_of_cell? _ _ hw353_0; first | rwa [add_block] at this | exact this) GW355.out))) _).trans (((cell_far (p := ⟨gb355, _, none⟩) (by first | exact Nat.ne_of_lt (Nat.lt_of_lt_of_le (by have := World.block_lt_of_cell? _ _ hw353_0; first | rwa [add_block] at this | exact this) GW355.out) | (rw [add_block]; exact Nat.ne_of_lt (Nat.lt_of_lt_of_le (by have := World.block_lt_of_cell? _ _ hw353_0; first | rwa [add_block] at this | exact this) GW355.out)) | (show (Addr.add _ _).block ≠ _; rw [add_block]; exact Nat.ne_of_lt (Nat.lt_of_lt_of_le (by have := World.block_lt_of_cell? _ _ hw353_0; first | rwa [add_block] at this | exact this) GW355.out)) | (dsimp only; exact Nat.ne_of_lt (Nat.lt_of_lt_of_le (by have := World.block_lt_of_cell? _ _ hw353_0; first | rwa [add_block] at this | exact this) GW355.out))) _).trans (hHeld.2.2.1)))))), ((cell_far (p := ⟨gb355, _, none⟩) (by first | exact Nat.ne_of_lt (Nat.lt_of_lt_of_le (by have := World.block_lt_of_cell? _ _ hw353_1; first | rwa [add_block] at this | exact this) GW355.out) | (rw [add_block]; exact Nat.ne_of_lt (Nat.lt_of_lt_of_le (by have := World.block_lt_of_cell? _ _ hw353_1; first | rwa [add_block] at this | exact this) GW355.out)) | (show (Addr.add _ _).block ≠ _; rw [add_block]; exact Nat.ne_of_lt (Nat.lt_of_lt_of_le (by have := World.block_lt_of_cell? _ _ hw353_1; first | rwa [add_block] at this | exact this) GW355.out)) | (dsimp only; exact Nat.ne_of_lt (Nat.lt_of_lt_of_le (by have := World.block_lt_of_cell? _ _ hw353_1; first | rwa [add_block] at this | exact this) GW355.out))) _).trans (((cell_far (p := ⟨gb355, _, none⟩) (by first | exact Nat.ne_of_lt (Nat.lt_of_lt_of_le (by have := World.block_lt_of_cell? _ _ hw353_1; first | rwa [add_block] at this | exact this) GW355.out) | (rw [add_block]; exact Nat.ne_of_lt (Nat.lt_of_lt_of_le (by have := World.block_lt_of_cell? _ _ hw353_1; first | rwa [add_block] at this | exact this) GW355.out)) | (show (Addr.add _ _).block ≠ _; rw [add_block]; exact Nat.ne_of_lt (Nat.lt_of_lt_of_le (by have := World.block_lt_of_cell? _ _ hw353_1; first | rwa [add_block] at this | exact this) GW355.out)) | (dsimp only; exact Nat.ne_of_lt (Nat.lt_of_lt_of_le (by have := World.block_lt_of_cell? _ _ hw353_1; first | rwa [add_block] at this | exact this) GW355.out))) _).trans (((cell_far (p := ⟨gb355, _, none⟩) (by first | exact Nat.ne_of_lt (Nat.lt_of_lt_of_le (by have := World.block_lt_of_cell? _ _ hw353_1; first | rwa [add_block] at this | exact this) GW355.out) | (rw [add_block]; exact Nat.ne_of_lt (Nat.lt_of_lt_of_le (by have := World.block_lt_of_cell? _ _ hw353_1; first | rwa [add_block] at this | exact this) GW355.out)) | (show (Addr.add _ _).block ≠ _; rw [add_block]; exact Nat.ne_of_lt (Nat.lt_of_lt_of_le (by have := World.block_lt_of_cell? _ _ hw353_1; first | rwa [add_block] at this | exact this) GW355.out)) | (dsimp only; exact Nat.ne_of_lt (Nat.lt_of_lt_of_le (by have := World.block_lt_of_cell? _ _ hw353_1; first | rwa [add_block] at this | exact this) GW355.out))) _).trans (hHeld.2.2.2.1)))))), ((cell_far (p := ⟨gb355, _, none⟩) (by first | exact Nat.ne_of_lt (Nat.lt_of_lt_of_le (by have := World.block_lt_of_cell? _ _ hw353_2; first | rwa [add_block] at this | exact this) GW355.out) | (rw [add_block]; exact Nat.ne_of_lt (Nat.lt_of_lt_of_le (by have := World.block_lt_of_cell? _ _ hw353_2; first | rwa [add_block] at this | exact this) GW355.out)) | (show (Addr.add _ _).block ≠ _; rw [add_block]; exact Nat.ne_of_lt (Nat.lt_of_lt_of_le (by have := World.block_lt_of_cell? _ _ hw353_2; first | rwa [add_block] at this | exact this) GW355.out)) | (dsimp only; exact Nat.ne_of_lt (Nat.lt_of_lt_of_le (by have := World.block_lt_of_cell? _ _ hw353_2; first | rwa [add_block] at this | exact this) GW355.out))) _).trans (((cell_far (p := ⟨gb355, _, none⟩) (by first | exact Nat.ne_of_lt (Nat.lt_of_lt_of_le (by have := World.block_lt_of_cell? _ _ hw353_2; first | rwa [add_block] at this | exact this) GW355.out) | (rw [add_block]; exact Nat.ne_of_lt (Nat.lt_of_lt_of_le (by have := World.block_lt_of_cell? _ _ hw353_2; first | rwa [add_block] at this | exact this) GW355.out)) | (show (Addr.add _ _).block ≠ _; rw [add_block]; exact Nat.ne_of_lt (Nat.lt_of_lt_of_le (by have := World.block_lt_of_cell? _ _ hw353_2; first | rwa [add_block] at this | exact this) GW355.out)) | (dsimp only; exact Nat.ne_of_lt (Nat.lt_of_lt_of_le (by have := World.block_lt_of_cell? _ _ hw353_2; first | rwa [add_block] at this | exact this) GW355.out))) _).trans (((cell_far (p := ⟨gb355, _, none⟩) (by first | exact Nat.ne_of_lt (Nat.lt_of_lt_of_le (by have := World.block_lt_of_cell? _ _ hw353_2; first | rwa [add_block] at this | exact this) GW355.out) | (rw [add_block]; exact Nat.ne_of_lt (Nat.lt_of_lt_of_le (by have := World.block_lt_of_cell? _ _ hw353_2; first | rwa [add_block] at this | exact this) GW355.out)) | (show (Addr.add _ _).block ≠ _; rw [add_block]; exact Nat.ne_of_lt (Nat.lt_of_lt_of_le (by have := World.block_lt_of_cell? _ _ hw353_2; first | rwa [add_block] at this | exact this) GW355.out)) | (dsimp only; exact Nat.ne_of_lt (Nat.lt_of_lt_of_le (by have := World.block_lt_of_cell? _ _ hw353_2; first | rwa [add_block] at this | exact this) GW355.out))) _).trans (hHeld.2.2.2.2.1)))))), ((cell_far (p := ⟨gb355, _, none⟩) (by first | exact Nat.ne_of_lt (Nat.lt_of_lt_of_le (by have := World.block_lt_of_cell? _ _ hw354_0; first | rwa [add_block] at this | exact this) GW355.out) | (rw [add_block]; exact Nat.ne_of_lt (Nat.lt_of_lt_of_le (by have := World.block_lt_of_cell? _ _ hw354_0; first | rwa [add_block] at this | exact this) GW355.out)) | (show (Addr.add _ _).block ≠ _; rw [add_block]; exact Nat.ne_of_lt (Nat.lt_of_lt_of_le (by have := World.block_lt_of_cell? _ _ hw354_0; first | rwa [add_block] at this | exact this) GW355.out)) | (dsimp only; exact Nat.ne_of_lt (Nat.lt_of_lt_of_le (by have := World.block_lt_of_cell? _ _ hw354_0; first | rwa [add_block] at this | exact this) GW355.out))) _).trans (((cell_far (p := ⟨gb355, _, none⟩) (by first | exact Nat.ne_of_lt (Nat.lt_of_lt_of_le (by have := World.block_lt_of_cell? _ _ hw354_0; first | rwa [add_block] at this | exact this) GW355.out) | (rw [add_block]; exact Nat.ne_of_lt (Nat.lt_of_lt_of_le (by have := World.block_lt_of_cell? _ _ hw354_0; first | rwa [add_block] at this | exact this) GW355.out)) | (show (Addr.add _ _).block ≠ _; rw [add_block]; exact Nat.ne_of_lt (Nat.lt_of_lt_of_le (by have := World.block_lt_of_cell? _ _ hw354_0; first | rwa [add_block] at this | exact this) GW355.out)) | (dsimp only; exact Nat.ne_of_lt (Nat.lt_of_lt_of_le (by have := World.block_lt_of_cell? _ _ hw354_0; first | rwa [add_block] at this | exact this) GW355.out))) _).trans (((cell_far (p := ⟨gb355, _, none⟩) (by first | exact Nat.ne_of_lt (Nat.lt_of_lt_of_le (by have := World.block_lt_of_cell? _ _ hw354_0; first | rwa [add_block] at this | exact this) GW355.out) | (rw [add_block]; exact Nat.ne_of_lt (Nat.lt_of_lt_of_le (by have := World.block_lt_of_cell? _ _ hw354_0; first | rwa [add_block] at this | exact this) GW355.out)) | (show (Addr.add _ _).block ≠ _; rw [add_block]; exact Nat.ne_of_lt (Nat.lt_of_lt_of_le (by have := World.block_lt_of_cell? _ _ hw354_0; first | rwa [add_block] at this | exact this) GW355.out)) | (dsimp only; exact Nat.ne_of_lt (Nat.lt_of_lt_of_le (by have := World.block_lt_of_cell? _ _ hw354_0; first | rwa [add_block] at this | exact this) GW355.out))) _).trans (hHeld.2.2.2.2.2.1)))))), ((cell_far (p := ⟨gb355, _, none⟩) (by first | exact Nat.ne_of_lt (Nat.lt_of_lt_of_le (by have := World.block_lt_of_cell? _ _ hw354_1; first | rwa [add_block] at this | exact this) GW355.out) | (rw [add_block]; exact Nat.ne_of_lt (Nat.lt_of_lt_of_le (by have := World.block_lt_of_cell? _ _ hw354_1; first | rwa [add_block] at this | exact this) GW355.out)) | (show (Addr.add _ _).block ≠ _; rw [add_block]; exact Nat.ne_of_lt (Nat.lt_of_lt_of_le (by have := World.block_lt_of_cell? _ _ hw354_1; first | rwa [add_block] at this | exact this) GW355.out)) | (dsimp only; exact Nat.ne_of_lt (Nat.lt_of_lt_of_le (by have := World.block_lt_of_cell? _ _ hw354_1; first | rwa [add_block] at this | exact this) GW355.out))) _).trans (((cell_far (p := ⟨gb355, _, none⟩) (by first | exact Nat.ne_of_lt (Nat.lt_of_lt_of_le (by have := World.block_lt_of_cell? _ _ hw354_1; first | rwa [add_block] at this | exact this) GW355.out) | (rw [add_block]; exact Nat.ne_of_lt (Nat.lt_of_lt_of_le (by have := World.block_lt_of_cell? _ _ hw354_1; first | rwa [add_block] at this | exact this) GW355.out)) | (show (Addr.add _ _).block ≠ _; rw [add_block]; exact Nat.ne_of_lt (Nat.lt_of_lt_of_le (by have := World.block_lt_of_cell? _ _ hw354_1; first | rwa [add_block] at this | exact this) GW355.out)) | (dsimp only; exact Nat.ne_of_lt (Nat.lt_of_lt_of_le (by have := World.block_lt_of_cell? _ _ hw354_1; first | rwa [add_block] at this | exact this) GW355.out))) _).trans (((cell_far (p := ⟨gb355, _, none⟩) (by first | exact Nat.ne_of_lt (Nat.lt_of_lt_of_le (by have := World.block_lt_of_cell? _ _ hw354_1; first | rwa [add_block] at this | exact this) GW355.out) | (rw [add_block]; exact Nat.ne_of_lt (Nat.lt_of_lt_of_le (by have := World.block_lt_of_cell? _ _ hw354_1; first | rwa [add_block] at this | exact this) GW355.out)) | (show (Addr.add _ _).block ≠ _; rw [add_block]; exact Nat.ne_of_lt (Nat.lt_of_lt_of_le (by have := World.block_lt_of_cell? _ _ hw354_1; first | rwa [add_block] at this | exact this) GW355.out)) | (dsimp only; exact Nat.ne_of_lt (Nat.lt_of_lt_of_le (by have := World.block_lt_of_cell? _ _ hw354_1; first | rwa [add_block] at this | exact this) GW355.out))) _).trans (hHeld.2.2.2.2.2.2.1)))))), ((cell_far (p := ⟨gb355, _, none⟩) (by first | exact Nat.ne_of_lt (Nat.lt_of_lt_of_le (by have := World.block_lt_of_cell? _ _ hw354_2; first | rwa [add_block] at this | exact this) GW355.out) | (rw [add_block]; exact Nat.ne_of_lt (Nat.lt_of_lt_of_le (by have := World.block_lt_of_cell? _ _ hw354_2; first | rwa [add_block] at this | exact this) GW355.out)) | (show (Addr.add _ _).block ≠ _; rw [add_block]; exact Nat.ne_of_lt (Nat.lt_of_lt_of_le (by have := World.block_lt_of_cell? _ _ hw354_2; first | rwa [add_block] at this | exact this) GW355.out)) | (dsimp only; exact Nat.ne_of_lt (Nat.lt_of_lt_of_le (by have := World.block_lt_of_cell? _ _ hw354_2; first | rwa [add_block] at this | exact this) GW355.out))) _).trans (((cell_far (p := ⟨gb355, _, none⟩) (by first | exact Nat.ne_of_lt (Nat.lt_of_lt_of_le (by have := World.block_lt_of_cell? _ _ hw354_2; first | rwa [add_block] at this | exact this) GW355.out) | (rw [add_block]; exact Nat.ne_of_lt (Nat.lt_of_lt_of_le (by have := World.block_lt_of_cell? _ _ hw354_2; first | rwa [add_block] at this | exact this) GW355.out)) | (show (Addr.add _ _).block ≠ _; rw [add_block]; exact Nat.ne_of_lt (Nat.lt_of_lt_of_le (by have := World.block_lt_of_cell? _ _ hw354_2; first | rwa [add_block] at this | exact this) GW355.out)) | (dsimp only; exact Nat.ne_of_lt (Nat.lt_of_lt_of_le (by have := World.block_lt_of_cell? _ _ hw354_2; first | rwa [add_block] at this | exact this) GW355.out))) _).trans (((cell_far (p := ⟨gb355, _, none⟩) (by first | exact Nat.ne_of_lt (Nat.lt_of_lt_of_le (by have := World.block_lt_of_cell? _ _ hw354_2; first | rwa [add_block] at this | exact this) GW355.out) | (rw [add_block]; exact Nat.ne_of_lt (Nat.lt_of_lt_of_le (by have := World.block_lt_of_cell? _ _ hw354_2; first | rwa [add_block] at this | exact this) GW355.out)) | (show (Addr.add _ _).block ≠ _; rw [add_block]; exact Nat.ne_of_lt (Nat.lt_of_lt_of_le (by have := World.block_lt_of_cell? _ _ hw354_2; first | rwa [add_block] at this | exact this) GW355.out)) | (dsimp only; exact Nat.ne_of_lt (Nat.lt_of_lt_of_le (by have := World.block_lt_of_cell? _ _ hw354_2; first | rwa [add_block] at this | exact this) GW355.out))) _).trans (hHeld.2.2.2.2.2.2.2))))))⟩ (fun hHeld => ?_)
          clear hK K
          refine o1 13 none rfl rfl (fun K hK => ?_)
          have hs44 : w40.cell? ⟨gb356, 0, none⟩ = some (.int .i64 0) := (blk_cell BK356.out 0).trans rfl
          have hfs44 := blk_frozen BK356.out 0
          have hns44_0 := NB351_356.out
          have hns44_1 := NB352_356.out
          have hns44_2 := NB355_356.out
          have hms44_0 := NB356_351.out
          have hms44_1 := NB356_352.out
          have hms44_2 := NB356_355.out
          have hs45 : w40.cell? ⟨gb356, 1, none⟩ = some (.string (⟨#[]⟩ : ByteArray)) := (blk_cell BK356.out 1).trans rfl
          have hfs45 := blk_frozen BK356.out 1
          have hns45_0 := NB351_356.out
          have hns45_1 := NB352_356.out
          have hns45_2 := NB355_356.out
          have hms45_0 := NB356_351.out
          have hms45_1 := NB356_352.out
          have hms45_2 := NB356_355.out
          have hs46 : w40.cell? ⟨gb356, 2, none⟩ = some (.slice none 0 0) := (blk_cell BK356.out 2).trans rfl
          have hfs46 := blk_frozen BK356.out 2
          have hns46_0 := NB351_356.out
          have hns46_1 := NB352_356.out
          have hns46_2 := NB355_356.out
          have hms46_0 := NB356_351.out
          have hms46_1 := NB356_352.out
          have hms46_2 := NB356_355.out
          refine skip_ (w1 := ?_) (by rfl) rfl ?_ ?_
          rotate_left
          ·
           go_simp
           rfl
          refine hK.out _ _ ⟨((cell_far (p := ⟨gb356, _, none⟩) NB351_356.out _).trans (((cell_far (p := ⟨gb356, _, none⟩) NB351_356.out _).trans (((cell_far (p := ⟨gb356, _, none⟩) NB351_356.out _).trans (hHeld.1)))))), ((cell_far (p := ⟨gb356, _, none⟩) NB352_356.out _).trans (((cell_far (p := ⟨gb356, _, none⟩) NB352_356.out _).trans (((cell_far (p := ⟨gb356, _, none⟩) NB352_356.out _).trans (hHeld.2.1)))))), ((cell_far (p := ⟨gb356, _, none⟩) (by first | exact Nat.ne_of_lt (Nat.lt_of_lt_of_le (by have := World.block_lt_of_cell? _ _ hw353_0; first | rwa [add_block] at this | exact this) GW356.out) | (rw [add_block]; exact Nat.ne_of_lt (Nat.lt_of_lt_of_le (by have := World.block_lt_of_cell? _ _ hw353_0; first | rwa [add_block] at this | exact this) GW356.out)) | (show (Addr.add _ _).block ≠ _; rw [add_block]; exact Nat.ne_of_lt (Nat.lt_of_lt_of_le (by have := World.block_lt_of_cell? _ _ hw353_0; first | rwa [add_block] at this | exact this) GW356.out)) | (dsimp only; exact Nat.ne_of_lt (Nat.lt_of_lt_of_le (by have := World.block_lt_of_cell? _ _ hw353_0; first | rwa [add_block] at this | exact this) GW356.out))) _).trans (((cell_far (p := ⟨gb356, _, none⟩) (by first | exact Nat.ne_of_lt (Nat.lt_of_lt_of_le (by have := World.block_lt_of_cell? _ _ hw353_0; first | rwa [add_block] at this | exact this) GW356.out) | (rw [add_block]; exact Nat.ne_of_lt (Nat.lt_of_lt_of_le (by have := World.block_lt_of_cell? _ _ hw353_0; first | rwa [add_block] at this | exact this) GW356.out)) | (show (Addr.add _ _).block ≠ _; rw [add_block]; exact Nat.ne_of_lt (Nat.lt_of_lt_of_le (by have := World.block_lt_of_cell? _ _ hw353_0; first | rwa [add_block] at this | exact this) GW356.out)) | (dsimp only; exact Nat.ne_of_lt (Nat.lt_of_lt_of_le (by have := World.block_lt_of_cell? _ _ hw353_0; first | rwa [add_block] at this | exact this) GW356.out))) _).trans (((cell_far (p := ⟨gb356, _, none⟩) (by first | exact Nat.ne_of_lt (Nat.lt_of_lt_of_le (by have := World.block_lt_of_cell? _ _ hw353_0; first | rwa [add_block] at this | exact this) GW356.out) | (rw [add_block]; exact Nat.ne_of_lt (Nat.lt_of_lt_of_le (by have := World.block_lt_of_cell? _ _ hw353_0; first | rwa [add_block] at this | exact this) GW356.out)) | (show (Addr.add _ _).block ≠ _; rw [add_block]; exact Nat.ne_of_lt (Nat.lt_of_lt_of_le (by have := World.block_lt_of_cell? _ _ hw353_0; first | rwa [add_block] at this | exact this) GW356.out)) | (dsimp only; exact Nat.ne_of_lt (Nat.lt_of_lt_of_le (by have := World.block_lt_of_cell? _ _ hw353_0; first | rwa [add_block] at this | exact this) GW356.out))) _).trans (hHeld.2.2.1)))))), ((cell_far (p := ⟨gb356, _, none⟩) (by first | exact Nat.ne_of_lt (Nat.lt_of_lt_of_le (by have := World.block_lt_of_cell? _ _ hw353_1; first | rwa [add_block] at this | exact this) GW356.out) | (rw [add_block]; exact Nat.ne_of_lt (Nat.lt_of_lt_of_le (by have := World.block_lt_of_cell? _ _ hw353_1; first | rwa [add_block] at this | exact this) GW356.out)) | (show (Addr.add _ _).block ≠ _; rw [add_block]; exact Nat.ne_of_lt (Nat.lt_of_lt_of_le (by have := World.block_lt_of_cell? _ _ hw353_1; first | rwa [add_block] at this | exact this) GW356.out)) | (dsimp only; exact Nat.ne_of_lt (Nat.lt_of_lt_of_le (by have := World.block_lt_of_cell? _ _ hw353_1; first | rwa [add_block] at this | exact this) GW356.out))) _).trans (((cell_far (p := ⟨gb356, _, none⟩) (by first | exact Nat.ne_of_lt (Nat.lt_of_lt_of_le (by have := World.block_lt_of_cell? _ _ hw353_1; first | rwa [add_block] at this | exact this) GW356.out) | (rw [add_block]; exact Nat.ne_of_lt (Nat.lt_of_lt_of_le (by have := World.block_lt_of_cell? _ _ hw353_1; first | rwa [add_block] at this | exact this) GW356.out)) | (show (Addr.add _ _).block ≠ _; rw [add_block]; exact Nat.ne_of_lt (Nat.lt_of_lt_of_le (by have := World.block_lt_of_cell? _ _ hw353_1; first | rwa [add_block] at this | exact this) GW356.out)) | (dsimp only; exact Nat.ne_of_lt (Nat.lt_of_lt_of_le (by have := World.block_lt_of_cell? _ _ hw353_1; first | rwa [add_block] at this | exact this) GW356.out))) _).trans (((cell_far (p := ⟨gb356, _, none⟩) (by first | exact Nat.ne_of_lt (Nat.lt_of_lt_of_le (by have := World.block_lt_of_cell? _ _ hw353_1; first | rwa [add_block] at this | exact this) GW356.out) | (rw [add_block]; exact Nat.ne_of_lt (Nat.lt_of_lt_of_le (by have := World.block_lt_of_cell? _ _ hw353_1; first | rwa [add_block] at this | exact this) GW356.out)) | (show (Addr.add _ _).block ≠ _; rw [add_block]; exact Nat.ne_of_lt (Nat.lt_of_lt_of_le (by have := World.block_lt_of_cell? _ _ hw353_1; first | rwa [add_block] at this | exact this) GW356.out)) | (dsimp only; exact Nat.ne_of_lt (Nat.lt_of_lt_of_le (by have := World.block_lt_of_cell? _ _ hw353_1; first | rwa [add_block] at this | exact this) GW356.out))) _).trans (hHeld.2.2.2.1)))))), ((cell_far (p := ⟨gb356, _, none⟩) (by first | exact Nat.ne_of_lt (Nat.lt_of_lt_of_le (by have := World.block_lt_of_cell? _ _ hw353_2; first | rwa [add_block] at this | exact this) GW356.out) | (rw [add_block]; exact Nat.ne_of_lt (Nat.lt_of_lt_of_le (by have := World.block_lt_of_cell? _ _ hw353_2; first | rwa [add_block] at this | exact this) GW356.out)) | (show (Addr.add _ _).block ≠ _; rw [add_block]; exact Nat.ne_of_lt (Nat.lt_of_lt_of_le (by have := World.block_lt_of_cell? _ _ hw353_2; first | rwa [add_block] at this | exact this) GW356.out)) | (dsimp only; exact Nat.ne_of_lt (Nat.lt_of_lt_of_le (by have := World.block_lt_of_cell? _ _ hw353_2; first | rwa [add_block] at this | exact this) GW356.out))) _).trans (((cell_far (p := ⟨gb356, _, none⟩) (by first | exact Nat.ne_of_lt (Nat.lt_of_lt_of_le (by have := World.block_lt_of_cell? _ _ hw353_2; first | rwa [add_block] at this | exact this) GW356.out) | (rw [add_block]; exact Nat.ne_of_lt (Nat.lt_of_lt_of_le (by have := World.block_lt_of_cell? _ _ hw353_2; first | rwa [add_block] at this | exact this) GW356.out)) | (show (Addr.add _ _).block ≠ _; rw [add_block]; exact Nat.ne_of_lt (Nat.lt_of_lt_of_le (by have := World.block_lt_of_cell? _ _ hw353_2; first | rwa [add_block] at this | exact this) GW356.out)) | (dsimp only; exact Nat.ne_of_lt (Nat.lt_of_lt_of_le (by have := World.block_lt_of_cell? _ _ hw353_2; first | rwa [add_block] at this | exact this) GW356.out))) _).trans (((cell_far (p := ⟨gb356, _, none⟩) (by first | exact Nat.ne_of_lt (Nat.lt_of_lt_of_le (by have := World.block_lt_of_cell? _ _ hw353_2; first | rwa [add_block] at this | exact this) GW356.out) | (rw [add_block]; exact Nat.ne_of_lt (Nat.lt_of_lt_of_le (by have := World.block_lt_of_cell? _ _ hw353_2; first | rwa [add_block] at this | exact this) GW356.out)) | (show (Addr.add _ _).block ≠ _; rw [add_block]; exact Nat.ne_of_lt (Nat.lt_of_lt_of_le (by have := World.block_lt_of_cell? _ _ hw353_2; first | rwa [add_block] at this | exact this) GW356.out)) | (dsimp only; exact Nat.ne_of_lt (Nat.lt_of_lt_of_le (by have := World.block_lt_of_cell? _ _ hw353_2; first | rwa [add_block] at this | exact this) GW356.out))) _).trans (hHeld.2.2.2.2.1)))))), ((cell_far (p := ⟨gb356, _, none⟩) (by first | exact Nat.ne_of_lt (Nat.lt_of_lt_of_le (by have := World.block_lt_of_cell? _ _ hw354_0; first | rwa [add_block] at this | exact this) GW356.out) | (rw [add_block]; exact Nat.ne_of_lt (Nat.lt_of_lt_of_le (by have := World.block_lt_of_cell? _ _ hw354_0; first | rwa [add_block] at this | exact this) GW356.out)) | (show (Addr.add _ _).block ≠ _; rw [add_block]; exact Nat.ne_of_lt (Nat.lt_of_lt_of_le (by have := World.block_lt_of_cell? _ _ hw354_0; first | rwa [add_block] at this | exact this) GW356.out)) | (dsimp only; exact Nat.ne_of_lt (Nat.lt_of_lt_of_le (by have := World.block_lt_of_cell? _ _ hw354_0; first | rwa [add_block] at this | exact this) GW356.out))) _).trans (((cell_far (p := ⟨gb356, _, none⟩) (by first | exact Nat.ne_of_lt (Nat.lt_of_lt_of_le (by have := World.block_lt_of_cell? _ _ hw354_0; first | rwa [add_block] at this | exact this) GW356.out) | (rw [add_block]; exact Nat.ne_of_lt (Nat.lt_of_lt_of_le (by have := World.block_lt_of_cell? _ _ hw354_0; first | rwa [add_block] at this | exact this) GW356.out)) | (show (Addr.add _ _).block ≠ _; rw [add_block]; exact Nat.ne_of_lt (Nat.lt_of_lt_of_le (by have := World.block_lt_of_cell? _ _ hw354_0; first | rwa [add_block] at this | exact this) GW356.out)) | (dsimp only; exact Nat.ne_of_lt (Nat.lt_of_lt_of_le (by have := World.block_lt_of_cell? _ _ hw354_0; first | rwa [add_block] at this | exact this) GW356.out))) _).trans (((cell_far (p := ⟨gb356, _, none⟩) (by first | exact Nat.ne_of_lt (Nat.lt_of_lt_of_le (by have := World.block_lt_of_cell? _ _ hw354_0; first | rwa [add_block] at this | exact this) GW356.out) | (rw [add_block]; exact Nat.ne_of_lt (Nat.lt_of_lt_of_le (by have := World.block_lt_of_cell? _ _ hw354_0; first | rwa [add_block] at this | exact this) GW356.out)) | (show (Addr.add _ _).block ≠ _; rw [add_block]; exact Nat.ne_of_lt (Nat.lt_of_lt_of_le (by have := World.block_lt_of_cell? _ _ hw354_0; first | rwa [add_block] at this | exact this) GW356.out)) | (dsimp only; exact Nat.ne_of_lt (Nat.lt_of_lt_of_le (by have := World.block_lt_of_cell? _ _ hw354_0; first | rwa [add_block] at this | exact this) GW356.out))) _).trans (hHeld.2.2.2.2.2.1)))))), ((cell_far (p := ⟨gb356, _, none⟩) (by first | exact Nat.ne_of_lt (Nat.lt_of_lt_of_le (by have := World.block_lt_of_cell? _ _ hw354_1; first | rwa [add_block] at this | exact this) GW356.out) | (rw [add_block]; exact Nat.ne_of_lt (Nat.lt_of_lt_of_le (by have := World.block_lt_of_cell? _ _ hw354_1; first | rwa [add_block] at this | exact this) GW356.out)) | (show (Addr.add _ _).block ≠ _; rw [add_block]; exact Nat.ne_of_lt (Nat.lt_of_lt_of_le (by have := World.block_lt_of_cell? _ _ hw354_1; first | rwa [add_block] at this | exact this) GW356.out)) | (dsimp only; exact Nat.ne_of_lt (Nat.lt_of_lt_of_le (by have := World.block_lt_of_cell? _ _ hw354_1; first | rwa [add_block] at this | exact this) GW356.out))) _).trans (((cell_far (p := ⟨gb356, _, none⟩) (by first | exact Nat.ne_of_lt (Nat.lt_of_lt_of_le (by have := World.block_lt_of_cell? _ _ hw354_1; first | rwa [add_block] at this | exact this) GW356.out) | (rw [add_block]; exact Nat.ne_of_lt (Nat.lt_of_lt_of_le (by have := World.block_lt_of_cell? _ _ hw354_1; first | rwa [add_block] at this | exact this) GW356.out)) | (show (Addr.add _ _).block ≠ _; rw [add_block]; exact Nat.ne_of_lt (Nat.lt_of_lt_of_le (by have := World.block_lt_of_cell? _ _ hw354_1; first | rwa [add_block] at this | exact this) GW356.out)) | (dsimp only; exact Nat.ne_of_lt (Nat.lt_of_lt_of_le (by have := World.block_lt_of_cell? _ _ hw354_1; first | rwa [add_block] at this | exact this) GW356.out))) _).trans (((cell_far (p := ⟨gb356, _, none⟩) (by first | exact Nat.ne_of_lt (Nat.lt_of_lt_of_le (by have := World.block_lt_of_cell? _ _ hw354_1; first | rwa [add_block] at this | exact this) GW356.out) | (rw [add_block]; exact Nat.ne_of_lt (Nat.lt_of_lt_of_le (by have := World.block_lt_of_cell? _ _ hw354_1; first | rwa [add_block] at this | exact this) GW356.out)) | (show (Addr.add _ _).block ≠ _; rw [add_block]; exact Nat.ne_of_lt (Nat.lt_of_lt_of_le (by have := World.block_lt_of_cell? _ _ hw354_1; first | rwa [add_block] at this | exact this) GW356.out)) | (dsimp only; exact Nat.ne_of_lt (Nat.lt_of_lt_of_le (by have := World.block_lt_of_cell? _ _ hw354_1; first | rwa [add_block] at this | exact this) GW356.out))) _).trans (hHeld.2.2.2.2.2.2.1)))))), ((cell_far (p := ⟨gb356, _, none⟩) (by first | exact Nat.ne_of_lt (Nat.lt_of_lt_of_le (by have := World.block_lt_of_cell? _ _ hw354_2; first | rwa [add_block] at this | exact this) GW356.out) | (rw [add_block]; exact Nat.ne_of_lt (Nat.lt_of_lt_of_le (by have := World.block_lt_of_cell? _ _ hw354_2; first | rwa [add_block] at this | exact this) GW356.out)) | (show (Addr.add _ _).block ≠ _; rw [add_block]; exact Nat.ne_of_lt (Nat.lt_of_lt_of_le (by have := World.block_lt_of_cell? _ _ hw354_2; first | rwa [add_block] at this | exact this) GW356.out)) | (dsimp only; exact Nat.ne_of_lt (Nat.lt_of_lt_of_le (by have := World.block_lt_of_cell? _ _ hw354_2; first | rwa [add_block] at this | exact this) GW356.out))) _).trans (((cell_far (p := ⟨gb356, _, none⟩) (by first | exact Nat.ne_of_lt (Nat.lt_of_lt_of_le (by have := World.block_lt_of_cell? _ _ hw354_2; first | rwa [add_block] at this | exact this) GW356.out) | (rw [add_block]; exact Nat.ne_of_lt (Nat.lt_of_lt_of_le (by have := World.block_lt_of_cell? _ _ hw354_2; first | rwa [add_block] at this | exact this) GW356.out)) | (show (Addr.add _ _).block ≠ _; rw [add_block]; exact Nat.ne_of_lt (Nat.lt_of_lt_of_le (by have := World.block_lt_of_cell? _ _ hw354_2; first | rwa [add_block] at this | exact this) GW356.out)) | (dsimp only; exact Nat.ne_of_lt (Nat.lt_of_lt_of_le (by have := World.block_lt_of_cell? _ _ hw354_2; first | rwa [add_block] at this | exact this) GW356.out))) _).trans (((cell_far (p := ⟨gb356, _, none⟩) (by first | exact Nat.ne_of_lt (Nat.lt_of_lt_of_le (by have := World.block_lt_of_cell? _ _ hw354_2; first | rwa [add_block] at this | exact this) GW356.out) | (rw [add_block]; exact Nat.ne_of_lt (Nat.lt_of_lt_of_le (by have := World.block_lt_of_cell? _ _ hw354_2; first | rwa [add_block] at this | exact this) GW356.out)) | (show (Addr.add _ _).block ≠ _; rw [add_block]; exact Nat.ne_of_lt (Nat.lt_of_lt_of_le (by have := World.block_lt_of_cell? _ _ hw354_2; first | rwa [add_block] at this | exact this) GW356.out)) | (dsimp only; exact Nat.ne_of_lt (Nat.lt_of_lt_of_le (by have := World.block_lt_of_cell? _ _ hw354_2; first | rwa [add_block] at this | exact this) GW356.out))) _).trans (hHeld.2.2.2.2.2.2.2))))))⟩ (fun hHeld => ?_)
          clear hK K
          refine done_ (done_of HT_.out (by kernel_rfl)) ?_
          have hnb47 := NB355_351.out
          have hnc47 := NB351_355.out
          have hnb48 := NB355_352.out
          have hnc48 := NB352_355.out
          have hnb49 := NB355_356.out
          have hnc49 := NB356_355.out
          obtain ⟨hcz50_0, hcz50_1, hcz50_2, hfz50_0, hfz50_1, hfz50_2⟩ := z3 BK355
          have hnb51 := NB356_351.out
          have hnc51 := NB351_356.out
          have hnb52 := NB356_352.out
          have hnc52 := NB352_356.out
          obtain ⟨hcz53_0, hcz53_1, hcz53_2, hfz53_0, hfz53_1, hfz53_2⟩ := z3 BK356
          try go_wp2_with (first | (go_at_call 32; (with_reducible refine (r10_Same.calls k1 _ _ ((rd_T59 l0_0 x5_1).f2) _ _ ((rd_T59 l1_0 x5_1).f2) false _ ?side1 ?side2 ?side3 ?side4 A14.out).mono ?_); (case side1 => exact Kd.C_below HR353_2.out bl); (case side2 => exact HC353_2.out); (case side3 => exact Kd.C_below HR354_2.out bl); (case side4 => exact HC354_2.out); rintro e w' ⟨rfl, ⟨nd, rfl⟩⟩))
          go_ret
          exact ⟨re_, bl⟩
        ·
         rw [if_neg c13] at H
         have c13b0 : (((rd_T59 l0_0 x5_1).f1).toList == ((rd_T59 l1_0 x5_1).f1).toList) = false := beq_eq_false_iff_ne.mpr c13
         have c13b1 : (((rd_T59 l0_0 x5_1).f1).toList != ((rd_T59 l1_0 x5_1).f1).toList) = true := bne_iff_ne.mpr c13
         obtain rfl := Option.some.inj H
         have hnb54 := NB351_352.out
         have hnc54 := NB352_351.out
         obtain ⟨hcz55_0, hfz55_0⟩ := z1 BK351
         try go_wp2
         replace BK351 := Aside0.mk (blk_drew BK351.out)
         replace BK352 := Aside0.mk (blk_drew BK352.out)
         replace HB := Aside0.mk (below_drew1 HB.out)
         have p353 : 0 ≤ (x5_1 : Int) := od
         have q353 : x5_1 < (l0_0.length : Int) := od
         obtain ⟨ad353, A353_2, c353_2, e353, hx353_0, hx353_1, hx353_2, hl353_2, hi353_2⟩ := at_T59 HR0_0.out x5_1 p353 q353
         have hw353_2 := hx353_2
         have hw353_1 := hx353_1
         have hw353_0 := hx353_0
         cases e353
         replace hx353_0 := kc HB hx353_0
         replace hx353_1 := kc HB hx353_1
         replace hx353_2 := kc HB hx353_2
         have HR353_2 := Aside0.mk hi353_2
         have HC353_2 := Aside0.mk hl353_2
         clear hi353_2 hl353_2
         replace p353 := eq_true p353
         replace q353 := eq_true q353
         have p354 : 0 ≤ (x5_1 : Int) := od
         have q354 : x5_1 < (l1_0.length : Int) := od
         obtain ⟨ad354, A354_2, c354_2, e354, hx354_0, hx354_1, hx354_2, hl354_2, hi354_2⟩ := at_T59 HR1_0.out x5_1 p354 q354
         have hw354_2 := hx354_2
         have hw354_1 := hx354_1
         have hw354_0 := hx354_0
         cases e354
         replace hx354_0 := kc HB hx354_0
         replace hx354_1 := kc HB hx354_1
         replace hx354_2 := kc HB hx354_2
         have HR354_2 := Aside0.mk hi354_2
         have HC354_2 := Aside0.mk hl354_2
         clear hi354_2 hl354_2
         replace p354 := eq_true p354
         replace q354 := eq_true q354
         refine start_ (n := 14) (S := fun w' => w'.cell? ⟨gb351, 0, none⟩ = some (.slice (some ad353) l0_0.length c0_0) ∧ w'.cell? ⟨gb352, 0, none⟩ = some (.slice (some ad354) l1_0.length c1_0) ∧ w'.cell? (ad353.add ((x5_1).toNat * 3)) = some (.int .i64 ((rd_T59 l0_0 x5_1).f0)) ∧ w'.cell? ⟨(ad353.add ((x5_1).toNat * 3)).block, (ad353.add ((x5_1).toNat * 3)).off + 1, none⟩ = some (.string ((rd_T59 l0_0 x5_1).f1)) ∧ w'.cell? ⟨(ad353.add ((x5_1).toNat * 3)).block, (ad353.add ((x5_1).toNat * 3)).off + 2, none⟩ = some (.slice A353_2 ((rd_T59 l0_0 x5_1).f2).length c353_2) ∧ w'.cell? (ad354.add ((x5_1).toNat * 3)) = some (.int .i64 ((rd_T59 l1_0 x5_1).f0)) ∧ w'.cell? ⟨(ad354.add ((x5_1).toNat * 3)).block, (ad354.add ((x5_1).toNat * 3)).off + 1, none⟩ = some (.string ((rd_T59 l1_0 x5_1).f1)) ∧ w'.cell? ⟨(ad354.add ((x5_1).toNat * 3)).block, (ad354.add ((x5_1).toNat * 3)).off + 2, none⟩ = some (.slice A354_2 ((rd_T59 l1_0 x5_1).f2).length c354_2)) (ds := []) _ (by kernel_rfl) rfl rfl ⟨(blk_cell BK351.out 0).trans rfl, (blk_cell BK352.out 0).trans rfl, (kc HB hw353_0), (kc HB hw353_1), (kc HB hw353_2), (kc HB hw354_0), (kc HB hw354_1), (kc HB hw354_2)⟩ (fun hHeld => ?_); refine with_tabW r11_Same.tab6 r11_Same.bits6 (fun HT_ HW_ => ?_)
         generalize wr.drew = w56 at BK351 BK352 HB HR353_2 HR354_2 hx353_0 hx353_1 hx353_2 hx354_0 hx354_1 hx354_2 hHeld ⊢
         refine pure_ (i := 0) (N := some 22) (v := ?_) (a' := ?_) #[true, false, false, false, false, false, false, false, false, false, false, false, false, false] rfl rfl (any_of HT_.out (by kernel_rfl)) (fun _ _ _ h => h) (Or.inl ⟨by rfl, ?_⟩) ?_ ?_
         rotate_left
         ·
          intro w'
          go_simp
          with_reducible rfl
         rotate_left
         ·
          simp only [Act.put, List.setIfInBounds_toArray, List.set_cons_zero, List.set_cons_succ, i64_w, i32_w]
          rfl
         refine pure_ (i := 2) (N := some 24) (v := ?_) (a' := ?_) #[true, false, true, false, false, false, false, false, false, false, false, false, false, false] rfl rfl (any_of HT_.out (by kernel_rfl)) (fun _ _ _ h => h) (Or.inl ⟨by rfl, ?_⟩) ?_ ?_
         rotate_left
         ·
          intro w'
          go_simp
          with_reducible rfl
         rotate_left
         ·
          simp only [Act.put, List.setIfInBounds_toArray, List.set_cons_zero, List.set_cons_succ, i64_w, i32_w]
          rfl
         refine pure_ (i := 5) (N := some 27) (v := ?_) (a' := ?_) #[true, false, true, false, false, true, false, false, false, false, false, false, false, false] rfl rfl (any_of HT_.out (by kernel_rfl)) (fun _ _ _ h => h) (Or.inl ⟨by rfl, ?_⟩) ?_ ?_
         rotate_left
         ·
          intro w'
          go_simp
          with_reducible rfl
         rotate_left
         ·
          simp only [Act.put, List.setIfInBounds_toArray, List.set_cons_zero, List.set_cons_succ, i64_w, i32_w]
          rfl
         refine pure_ (i := 7) (N := some 29) (v := ?_) (a' := ?_) #[true, false, true, false, false, true, false, true, false, false, false, false, false, false] rfl rfl (any_of HT_.out (by kernel_rfl)) (fun _ _ _ h => h) (Or.inl ⟨by rfl, ?_⟩) ?_ ?_
         rotate_left
         ·
          intro w'
          go_simp
          with_reducible rfl
         rotate_left
         ·
          simp only [Act.put, List.setIfInBounds_toArray, List.set_cons_zero, List.set_cons_succ, i64_w, i32_w]
          rfl
         refine take_ (i := 1) (N := some 23) (v := ?_) (a' := ?_) #[true, true, true, false, false, true, false, true, false, false, false, false, false, false] rfl rfl (take_ofW HT_.out HW_.out (by kernel_rfl)) (fun _ _ _ h => h) (Or.inl ⟨by rfl, ?_⟩) hHeld ?_ ?_
         rotate_left
         ·
          rintro w' ⟨s0, s1, s2, s3, s4, s5, s6, s7⟩
          go_simp
          with_reducible rfl
         rotate_left
         ·
          simp only [Act.put, List.setIfInBounds_toArray, List.set_cons_zero, List.set_cons_succ, i64_w, i32_w]
          rfl
         refine pure_ (i := 3) (N := some 25) (v := ?_) (a' := ?_) #[true, true, true, true, false, true, false, true, false, false, false, false, false, false] rfl rfl (any_of HT_.out (by kernel_rfl)) (fun _ _ _ h => h) (Or.inl ⟨by rfl, ?_⟩) ?_ ?_
         rotate_left
         ·
          intro w'
          go_simp
          with_reducible rfl
         rotate_left
         ·
          simp only [Act.put, List.setIfInBounds_toArray, List.set_cons_zero, List.set_cons_succ, i64_w, i32_w]
          rfl
         refine take_ (i := 4) (N := some 26) (v := ?_) (a' := ?_) #[true, true, true, true, true, true, false, true, false, false, false, false, false, false] rfl rfl (take_ofW HT_.out HW_.out (by kernel_rfl)) (fun _ _ _ h => h) (Or.inl ⟨by rfl, ?_⟩) hHeld ?_ ?_
         rotate_left
         ·
          rintro w' ⟨s0, s1, s2, s3, s4, s5, s6, s7⟩
          go_simp
          with_reducible rfl
         rotate_left
         ·
          simp only [Act.put, List.setIfInBounds_toArray, List.set_cons_zero, List.set_cons_succ, i64_w, i32_w]
          rfl
         refine take_ (i := 6) (N := some 28) (v := ?_) (a' := ?_) #[true, true, true, true, true, true, true, true, false, false, false, false, false, false] rfl rfl (take_ofW HT_.out HW_.out (by kernel_rfl)) (fun _ _ _ h => h) (Or.inl ⟨by rfl, ?_⟩) hHeld ?_ ?_
         rotate_left
         ·
          rintro w' ⟨s0, s1, s2, s3, s4, s5, s6, s7⟩
          go_simp
          with_reducible rfl
         rotate_left
         ·
          simp only [Act.put, List.setIfInBounds_toArray, List.set_cons_zero, List.set_cons_succ, i64_w, i32_w]
          rfl
         refine pure_ (i := 8) (N := some 30) (v := ?_) (a' := ?_) #[true, true, true, true, true, true, true, true, true, false, false, false, false, false] rfl rfl (any_of HT_.out (by kernel_rfl)) (fun _ _ _ h => h) (Or.inl ⟨by rfl, ?_⟩) ?_ ?_
         rotate_left
         ·
          intro w'
          go_simp
          with_reducible rfl
         rotate_left
         ·
          simp only [Act.put, List.setIfInBounds_toArray, List.set_cons_zero, List.set_cons_succ, i64_w, i32_w]
          rfl
         refine take_ (i := 9) (N := some 31) (v := ?_) (a' := ?_) #[true, true, true, true, true, true, true, true, true, true, false, false, false, false] rfl rfl (take_ofW HT_.out HW_.out (by kernel_rfl)) (fun _ _ _ h => h) (Or.inl ⟨by rfl, ?_⟩) hHeld ?_ ?_
         rotate_left
         ·
          rintro w' ⟨s0, s1, s2, s3, s4, s5, s6, s7⟩
          go_simp
          with_reducible rfl
         rotate_left
         ·
          simp only [Act.put, List.setIfInBounds_toArray, List.set_cons_zero, List.set_cons_succ, i64_w, i32_w]
          rfl
         refine join_ (σ := Nat × Nat) 2 #[true, true, true, true, true, true, true, true, true, true, true, true, false, false] (fun s_ => [(6, .pointer (some ⟨s_.1, 0, none⟩)), (7, .pointer (some ⟨s_.2, 0, none⟩))]) (fun s_ w' => (w'.cell? ⟨gb351, 0, none⟩ = some (.slice (some ad353) l0_0.length c0_0) ∧ w'.cell? ⟨gb352, 0, none⟩ = some (.slice (some ad354) l1_0.length c1_0) ∧ w'.cell? (ad353.add ((x5_1).toNat * 3)) = some (.int .i64 ((rd_T59 l0_0 x5_1).f0)) ∧ w'.cell? ⟨(ad353.add ((x5_1).toNat * 3)).block, (ad353.add ((x5_1).toNat * 3)).off + 1, none⟩ = some (.string ((rd_T59 l0_0 x5_1).f1)) ∧ w'.cell? ⟨(ad353.add ((x5_1).toNat * 3)).block, (ad353.add ((x5_1).toNat * 3)).off + 2, none⟩ = some (.slice A353_2 ((rd_T59 l0_0 x5_1).f2).length c353_2) ∧ w'.cell? (ad354.add ((x5_1).toNat * 3)) = some (.int .i64 ((rd_T59 l1_0 x5_1).f0)) ∧ w'.cell? ⟨(ad354.add ((x5_1).toNat * 3)).block, (ad354.add ((x5_1).toNat * 3)).off + 1, none⟩ = some (.string ((rd_T59 l1_0 x5_1).f1)) ∧ w'.cell? ⟨(ad354.add ((x5_1).toNat * 3)).block, (ad354.add ((x5_1).toNat * 3)).off + 2, none⟩ = some (.slice A354_2 ((rd_T59 l1_0 x5_1).f2).length c354_2)) ∧ (w'.heap[gb351]? = some (.cells #[.slice (some ad353) l0_0.length c0_0] 24 (0, 0))) ∧ (w'.heap[gb352]? = some (.cells #[.slice (some ad354) l1_0.length c1_0] 24 (0, 0))) ∧ (w'.heap[s_.1]? = some (.cells #[.int .i64 0, .string (⟨#[]⟩ : ByteArray), .slice none 0 0] 59 (0, 0))) ∧ (w'.heap[s_.2]? = some (.cells #[.int .i64 0, .string (⟨#[]⟩ : ByteArray), .slice none 0 0] 59 (0, 0))) ∧ (w.heap.size ≤ s_.1) ∧ (w.heap.size ≤ s_.1) ∧ (gb351 ≠ s_.1) ∧ (s_.1 ≠ gb351) ∧ (gb352 ≠ s_.1) ∧ (s_.1 ≠ gb352) ∧ (s_.2 ≠ s_.1) ∧ (s_.1 ≠ s_.2) ∧ (w.heap.size ≤ s_.2) ∧ (w.heap.size ≤ s_.2) ∧ (gb351 ≠ s_.2) ∧ (s_.2 ≠ gb351) ∧ (gb352 ≠ s_.2) ∧ (s_.2 ≠ gb352) ∧ (Below w.heap.size w w')) ?_ ?_
         rotate_left
         ·
          intro hCont
          refine two_ (i := 10) (j := 11) (Ni := some 6) (Nj := some 7) #[true, true, true, true, true, true, true, true, true, true, true, false, false, false] #[true, true, true, true, true, true, true, true, true, true, false, true, false, false] rfl rfl rfl rfl (two_of HT_.out (by kernel_rfl)) (by decide) (by decide) (fun K hK => ?_) (fun K hK => ?_)
          ·
           skip
           refine box_step ?hg (N := 6) ?hd (cs := #[.int .i64 0, .string (⟨#[]⟩ : ByteArray), .slice none 0 0]) (t := 59) ?hr ?_; (case hd => rfl); (case hg => rfl); (case hr => first | (go_simp; done) | (go_simp; rfl))
           intro gb355 hg w57 hbox hb
           have BK355 := Aside0.mk (hbox)
           have GW355 := gw hg bl
           have GE355 := gw hg bl
           replace HB := Aside0.mk (below_step bl hb)
           have NB351_355 := Aside0.mk ((by rw [hg]; exact Nat.ne_of_lt (blk_lt (g := gb351) (o := .cells #[.slice (some ad353) l0_0.length c0_0] 24 (0, 0)) (uB BK351.out)) : gb351 ≠ gb355))
           have NB355_351 := Aside0.mk ((by rw [hg]; exact Nat.ne_of_gt (blk_lt (g := gb351) (o := .cells #[.slice (some ad353) l0_0.length c0_0] 24 (0, 0)) (uB BK351.out)) : gb355 ≠ gb351))
           replace BK351 := cB BK351 hb
           have NB352_355 := Aside0.mk ((by rw [hg]; exact Nat.ne_of_lt (blk_lt (g := gb352) (o := .cells #[.slice (some ad354) l1_0.length c1_0] 24 (0, 0)) (uB BK352.out)) : gb352 ≠ gb355))
           have NB355_352 := Aside0.mk ((by rw [hg]; exact Nat.ne_of_gt (blk_lt (g := gb352) (o := .cells #[.slice (some ad354) l1_0.length c1_0] 24 (0, 0)) (uB BK352.out)) : gb355 ≠ gb352))
           replace BK352 := cB BK352 hb
           clear hb hbox hg
           refine hK.out _ _ ⟨(blk_cell BK351.out 0).trans rfl, (blk_cell BK352.out 0).trans rfl, (kc HB hw353_0), (kc HB hw353_1), (kc HB hw353_2), (kc HB hw354_0), (kc HB hw354_1), (kc HB hw354_2)⟩ (fun hHeld => ?_)
           clear hK K
           refine norm_ (a' := ?_) ?_ ?_
           rotate_left
           ·
            show Act.put _ (some 6) _ = _
            simp only [Act.put, List.setIfInBounds_toArray, List.set_cons_zero, List.set_cons_succ, i64_w, i32_w]
            rfl
           refine o1 11 (some 7) rfl rfl (fun K hK => ?_)
           refine box_step ?hg (N := 7) ?hd (cs := #[.int .i64 0, .string (⟨#[]⟩ : ByteArray), .slice none 0 0]) (t := 59) ?hr ?_; (case hd => rfl); (case hg => rfl); (case hr => first | (go_simp; done) | (go_simp; rfl))
           intro gb356 hg w58 hbox hb
           have BK356 := Aside0.mk (hbox)
           have GW356 := gw hg bl
           have GE356 := gw hg bl
           replace HB := Aside0.mk (below_step bl hb)
           have NB351_356 := Aside0.mk ((by rw [hg]; exact Nat.ne_of_lt (blk_lt (g := gb351) (o := .cells #[.slice (some ad353) l0_0.length c0_0] 24 (0, 0)) (uB BK351.out)) : gb351 ≠ gb356))
           have NB356_351 := Aside0.mk ((by rw [hg]; exact Nat.ne_of_gt (blk_lt (g := gb351) (o := .cells #[.slice (some ad353) l0_0.length c0_0] 24 (0, 0)) (uB BK351.out)) : gb356 ≠ gb351))
           replace BK351 := cB BK351 hb
           have NB352_356 := Aside0.mk ((by rw [hg]; exact Nat.ne_of_lt (blk_lt (g := gb352) (o := .cells #[.slice (some ad354) l1_0.length c1_0] 24 (0, 0)) (uB BK352.out)) : gb352 ≠ gb356))
           have NB356_352 := Aside0.mk ((by rw [hg]; exact Nat.ne_of_gt (blk_lt (g := gb352) (o := .cells #[.slice (some ad354) l1_0.length c1_0] 24 (0, 0)) (uB BK352.out)) : gb356 ≠ gb352))
           replace BK352 := cB BK352 hb
           have NB355_356 := Aside0.mk ((by rw [hg]; exact Nat.ne_of_lt (blk_lt (g := gb355) (o := .cells #[.int .i64 0, .string (⟨#[]⟩ : ByteArray), .slice none 0 0] 59 (0, 0)) (uB BK355.out)) : gb355 ≠ gb356))
           have NB356_355 := Aside0.mk ((by rw [hg]; exact Nat.ne_of_gt (blk_lt (g := gb355) (o := .cells #[.int .i64 0, .string (⟨#[]⟩ : ByteArray), .slice none 0 0] 59 (0, 0)) (uB BK355.out)) : gb356 ≠ gb355))
           replace BK355 := cB BK355 hb
           clear hb hbox hg
           refine hK.out _ _ ⟨(blk_cell BK351.out 0).trans rfl, (blk_cell BK352.out 0).trans rfl, (kc HB hw353_0), (kc HB hw353_1), (kc HB hw353_2), (kc HB hw354_0), (kc HB hw354_1), (kc HB hw354_2)⟩ (fun hHeld => ?_)
           clear hK K
           refine norm_ (a' := ?_) ?_ ?_
           rotate_left
           ·
            show Act.put _ (some 7) _ = _
            simp only [Act.put, List.setIfInBounds_toArray, List.set_cons_zero, List.set_cons_succ, i64_w, i32_w]
            rfl
           exact norm_ (by simp only [putAll, Act.put, List.setIfInBounds_toArray, List.set_cons_zero, List.set_cons_succ]) (hCont (gb355, gb356) _ ⟨hHeld, (uB BK351.out), (uB BK352.out), (uB BK355.out), (uB BK356.out), GW355.out, GE355.out, NB351_355.out, NB355_351.out, NB352_355.out, NB355_352.out, NB356_355.out, NB355_356.out, GW356.out, GE356.out, NB351_356.out, NB356_351.out, NB352_356.out, NB356_352.out, bl⟩)
          ·
           skip
           refine box_step ?hg (N := 7) ?hd (cs := #[.int .i64 0, .string (⟨#[]⟩ : ByteArray), .slice none 0 0]) (t := 59) ?hr ?_; (case hd => rfl); (case hg => rfl); (case hr => first | (go_simp; done) | (go_simp; rfl))
           intro gb356 hg w57 hbox hb
           have BK356 := Aside0.mk (hbox)
           have GW356 := gw hg bl
           have GE356 := gw hg bl
           replace HB := Aside0.mk (below_step bl hb)
           have NB351_356 := Aside0.mk ((by rw [hg]; exact Nat.ne_of_lt (blk_lt (g := gb351) (o := .cells #[.slice (some ad353) l0_0.length c0_0] 24 (0, 0)) (uB BK351.out)) : gb351 ≠ gb356))
           have NB356_351 := Aside0.mk ((by rw [hg]; exact Nat.ne_of_gt (blk_lt (g := gb351) (o := .cells #[.slice (some ad353) l0_0.length c0_0] 24 (0, 0)) (uB BK351.out)) : gb356 ≠ gb351))
           replace BK351 := cB BK351 hb
           have NB352_356 := Aside0.mk ((by rw [hg]; exact Nat.ne_of_lt (blk_lt (g := gb352) (o := .cells #[.slice (some ad354) l1_0.length c1_0] 24 (0, 0)) (uB BK352.out)) : gb352 ≠ gb356))
           have NB356_352 := Aside0.mk ((by rw [hg]; exact Nat.ne_of_gt (blk_lt (g := gb352) (o := .cells #[.slice (some ad354) l1_0.length c1_0] 24 (0, 0)) (uB BK352.out)) : gb356 ≠ gb352))
           replace BK352 := cB BK352 hb
           clear hb hbox hg
           refine hK.out _ _ ⟨(blk_cell BK351.out 0).trans rfl, (blk_cell BK352.out 0).trans rfl, (kc HB hw353_0), (kc HB hw353_1), (kc HB hw353_2), (kc HB hw354_0), (kc HB hw354_1), (kc HB hw354_2)⟩ (fun hHeld => ?_)
           clear hK K
           refine norm_ (a' := ?_) ?_ ?_
           rotate_left
           ·
            show Act.put _ (some 7) _ = _
            simp only [Act.put, List.setIfInBounds_toArray, List.set_cons_zero, List.set_cons_succ, i64_w, i32_w]
            rfl
           refine o1 10 (some 6) rfl rfl (fun K hK => ?_)
           refine box_step ?hg (N := 6) ?hd (cs := #[.int .i64 0, .string (⟨#[]⟩ : ByteArray), .slice none 0 0]) (t := 59) ?hr ?_; (case hd => rfl); (case hg => rfl); (case hr => first | (go_simp; done) | (go_simp; rfl))
           intro gb355 hg w58 hbox hb
           have BK355 := Aside0.mk (hbox)
           have GW355 := gw hg bl
           have GE355 := gw hg bl
           replace HB := Aside0.mk (below_step bl hb)
           have NB351_355 := Aside0.mk ((by rw [hg]; exact Nat.ne_of_lt (blk_lt (g := gb351) (o := .cells #[.slice (some ad353) l0_0.length c0_0] 24 (0, 0)) (uB BK351.out)) : gb351 ≠ gb355))
           have NB355_351 := Aside0.mk ((by rw [hg]; exact Nat.ne_of_gt (blk_lt (g := gb351) (o := .cells #[.slice (some ad353) l0_0.length c0_0] 24 (0, 0)) (uB BK351.out)) : gb355 ≠ gb351))
           replace BK351 := cB BK351 hb
           have NB352_355 := Aside0.mk ((by rw [hg]; exact Nat.ne_of_lt (blk_lt (g := gb352) (o := .cells #[.slice (some ad354) l1_0.length c1_0] 24 (0, 0)) (uB BK352.out)) : gb352 ≠ gb355))
           have NB355_352 := Aside0.mk ((by rw [hg]; exact Nat.ne_of_gt (blk_lt (g := gb352) (o := .cells #[.slice (some ad354) l1_0.length c1_0] 24 (0, 0)) (uB BK352.out)) : gb355 ≠ gb352))
           replace BK352 := cB BK352 hb
           have NB356_355 := Aside0.mk ((by rw [hg]; exact Nat.ne_of_lt (blk_lt (g := gb356) (o := .cells #[.int .i64 0, .string (⟨#[]⟩ : ByteArray), .slice none 0 0] 59 (0, 0)) (uB BK356.out)) : gb356 ≠ gb355))
           have NB355_356 := Aside0.mk ((by rw [hg]; exact Nat.ne_of_gt (blk_lt (g := gb356) (o := .cells #[.int .i64 0, .string (⟨#[]⟩ : ByteArray), .slice none 0 0] 59 (0, 0)) (uB BK356.out)) : gb355 ≠ gb356))
           replace BK356 := cB BK356 hb
           clear hb hbox hg
           refine hK.out _ _ ⟨(blk_cell BK351.out 0).trans rfl, (blk_cell BK352.out 0).trans rfl, (kc HB hw353_0), (kc HB hw353_1), (kc HB hw353_2), (kc HB hw354_0), (kc HB hw354_1), (kc HB hw354_2)⟩ (fun hHeld => ?_)
           clear hK K
           refine norm_ (a' := ?_) ?_ ?_
           rotate_left
           ·
            show Act.put _ (some 6) _ = _
            simp only [Act.put, List.setIfInBounds_toArray, List.set_cons_zero, List.set_cons_succ, i64_w, i32_w]
            rfl
           exact norm_ (by simp only [putAll, Act.put, List.setIfInBounds_toArray, List.set_cons_zero, List.set_cons_succ]) (hCont (gb355, gb356) _ ⟨hHeld, (uB BK351.out), (uB BK352.out), (uB BK355.out), (uB BK356.out), GW355.out, GE355.out, NB351_355.out, NB355_351.out, NB352_355.out, NB355_352.out, NB356_355.out, NB355_356.out, GW356.out, GE356.out, NB351_356.out, NB356_351.out, NB352_356.out, NB356_352.out, bl⟩)
         rintro ⟨gb355, gb356⟩ w59 ⟨hS_, h0_, h1_, h2_, h3_, h4_, h5_, h6_, h7_, h8_, h9_, h10_, h11_, h12_, h13_, h14_, h15_, h16_, h17_, h18_⟩
         have n0_ : Aside0 (w59.heap[gb351]? = some (.cells #[.slice (some ad353) l0_0.length c0_0] 24 (0, 0))) := ⟨h0_⟩
         have n1_ : Aside0 (w59.heap[gb352]? = some (.cells #[.slice (some ad354) l1_0.length c1_0] 24 (0, 0))) := ⟨h1_⟩
         have n2_ : Aside0 (w59.heap[gb355]? = some (.cells #[.int .i64 0, .string (⟨#[]⟩ : ByteArray), .slice none 0 0] 59 (0, 0))) := ⟨h2_⟩
         have n3_ : Aside0 (w59.heap[gb356]? = some (.cells #[.int .i64 0, .string (⟨#[]⟩ : ByteArray), .slice none 0 0] 59 (0, 0))) := ⟨h3_⟩
         have n4_ : Aside0 (w.heap.size ≤ gb355) := ⟨h4_⟩
         have n5_ : Aside0 (w.heap.size ≤ gb355) := ⟨h5_⟩
         have n6_ : Aside0 (gb351 ≠ gb355) := ⟨h6_⟩
         have n7_ : Aside0 (gb355 ≠ gb351) := ⟨h7_⟩
         have n8_ : Aside0 (gb352 ≠ gb355) := ⟨h8_⟩
         have n9_ : Aside0 (gb355 ≠ gb352) := ⟨h9_⟩
         have n10_ : Aside0 (gb356 ≠ gb355) := ⟨h10_⟩
         have n11_ : Aside0 (gb355 ≠ gb356) := ⟨h11_⟩
         have n12_ : Aside0 (w.heap.size ≤ gb356) := ⟨h12_⟩
         have n13_ : Aside0 (w.heap.size ≤ gb356) := ⟨h13_⟩
         have n14_ : Aside0 (gb351 ≠ gb356) := ⟨h14_⟩
         have n15_ : Aside0 (gb356 ≠ gb351) := ⟨h15_⟩
         have n16_ : Aside0 (gb352 ≠ gb356) := ⟨h16_⟩
         have n17_ : Aside0 (gb356 ≠ gb352) := ⟨h17_⟩
         have n18_ : Aside0 (Below w.heap.size w w59) := ⟨h18_⟩
         clear BK351
         clear BK352
         clear HB
         clear h0_ h1_ h2_ h3_ h4_ h5_ h6_ h7_ h8_ h9_ h10_ h11_ h12_ h13_ h14_ h15_ h16_ h17_ h18_
         have BK351 := n0_
         have BK352 := n1_
         have BK355 := n2_
         have BK356 := n3_
         have GW355 := n4_
         have GE355 := n5_
         have NB351_355 := n6_
         have NB355_351 := n7_
         have NB352_355 := n8_
         have NB355_352 := n9_
         have NB356_355 := n10_
         have NB355_356 := n11_
         have GW356 := n12_
         have GE356 := n13_
         have NB351_356 := n14_
         have NB356_351 := n15_
         have NB352_356 := n16_
         have NB356_352 := n17_
         have HB := n18_
         clear n0_ n1_ n2_ n3_ n4_ n5_ n6_ n7_ n8_ n9_ n10_ n11_ n12_ n13_ n14_ n15_ n16_ n17_ n18_
         have hHeld : w59.cell? ⟨gb351, 0, none⟩ = some (.slice (some ad353) l0_0.length c0_0) ∧ w59.cell? ⟨gb352, 0, none⟩ = some (.slice (some ad354) l1_0.length c1_0) ∧ w59.cell? (ad353.add ((x5_1).toNat * 3)) = some (.int .i64 ((rd_T59 l0_0 x5_1).f0)) ∧ w59.cell? ⟨(ad353.add ((x5_1).toNat * 3)).block, (ad353.add ((x5_1).toNat * 3)).off + 1, none⟩ = some (.string ((rd_T59 l0_0 x5_1).f1)) ∧ w59.cell? ⟨(ad353.add ((x5_1).toNat * 3)).block, (ad353.add ((x5_1).toNat * 3)).off + 2, none⟩ = some (.slice A353_2 ((rd_T59 l0_0 x5_1).f2).length c353_2) ∧ w59.cell? (ad354.add ((x5_1).toNat * 3)) = some (.int .i64 ((rd_T59 l1_0 x5_1).f0)) ∧ w59.cell? ⟨(ad354.add ((x5_1).toNat * 3)).block, (ad354.add ((x5_1).toNat * 3)).off + 1, none⟩ = some (.string ((rd_T59 l1_0 x5_1).f1)) ∧ w59.cell? ⟨(ad354.add ((x5_1).toNat * 3)).block, (ad354.add ((x5_1).toNat * 3)).off + 2, none⟩ = some (.slice A354_2 ((rd_T59 l1_0 x5_1).f2).length c354_2) := hS_
         refine norm_ (a' := ?_) ?_ ?_
         rotate_left
         ·
          simp only [putAll, Act.put, List.setIfInBounds_toArray, List.set_cons_zero, List.set_cons_succ]
          rfl
         refine o1 12 none rfl rfl (fun K hK => ?_)
         have hs60 : w59.cell? ⟨gb355, 0, none⟩ = some (.int .i64 0) := (blk_cell BK355.out 0).trans rfl
         have hfs60 := blk_frozen BK355.out 0
         have hns60_0 := NB351_355.out
         have hns60_1 := NB352_355.out
         have hns60_3 := NB356_355.out
         have hms60_0 := NB355_351.out
         have hms60_1 := NB355_352.out
         have hms60_3 := NB355_356.out
         have hs61 : w59.cell? ⟨gb355, 1, none⟩ = some (.string (⟨#[]⟩ : ByteArray)) := (blk_cell BK355.out 1).trans rfl
         have hfs61 := blk_frozen BK355.out 1
         have hns61_0 := NB351_355.out
         have hns61_1 := NB352_355.out
         have hns61_3 := NB356_355.out
         have hms61_0 := NB355_351.out
         have hms61_1 := NB355_352.out
         have hms61_3 := NB355_356.out
         have hs62 : w59.cell? ⟨gb355, 2, none⟩ = some (.slice none 0 0) := (blk_cell BK355.out 2).trans rfl
         have hfs62 := blk_frozen BK355.out 2
         have hns62_0 := NB351_355.out
         have hns62_1 := NB352_355.out
         have hns62_3 := NB356_355.out
         have hms62_0 := NB355_351.out
         have hms62_1 := NB355_352.out
         have hms62_3 := NB355_356.out
         refine skip_ (w1 := ?_) (by rfl) rfl ?_ ?_
         rotate_left
         ·
          go_simp
          rfl
         refine hK.out _ _ ⟨((cell_far (p := ⟨gb355, _, none⟩) NB351_355.out _).trans (((cell_far (p := ⟨gb355, _, none⟩) NB351_355.out _).trans (((cell_far (p := ⟨gb355, _, none⟩) NB351_355.out _).trans (hHeld.1)))))), ((cell_far (p := ⟨gb355, _, none⟩) NB352_355.out _).trans (((cell_far (p := ⟨gb355, _, none⟩) NB352_355.out _).trans (((cell_far (p := ⟨gb355, _, none⟩) NB352_355.out _).trans (hHeld.2.1)))))), ((cell_far (p := ⟨gb355, _, none⟩) (by first | exact Nat.ne_of_lt (Nat.lt_of_lt_of_le (by have := World.block_lt_of_cell? _ _ hw353_0; first | rwa [add_block] at this | exact this) GW355.out) | (rw [add_block]; exact Nat.ne_of_lt (Nat.lt_of_lt_of_le (by have := World.block_lt_of_cell? _ _ hw353_0; first | rwa [add_block] at this | exact this) GW355.out)) | (show (Addr.add _ _).block ≠ _; rw [add_block]; exact Nat.ne_of_lt (Nat.lt_of_lt_of_le (by have := World.block_lt_of_cell? _ _ hw353_0; first | rwa [add_block] at this | exact this) GW355.out)) | (dsimp only; exact Nat.ne_of_lt (Nat.lt_of_lt_of_le (by have := World.block_lt_of_cell? _ _ hw353_0; first | rwa [add_block] at this | exact this) GW355.out))) _).trans (((cell_far (p := ⟨gb355, _, none⟩) (by first | exact Nat.ne_of_lt (Nat.lt_of_lt_of_le (by have := World.block_lt_of_cell? _ _ hw353_0; first | rwa [add_block] at this | exact this) GW355.out) | (rw [add_block]; exact Nat.ne_of_lt (Nat.lt_of_lt_of_le (by have := World.block_lt_of_cell? _ _ hw353_0; first | rwa [add_block] at this | exact this) GW355.out)) | (show (Addr.add _ _).block ≠ _; rw [add_block]; exact Nat.ne_of_lt (Nat.lt_of_lt_of_le (by have := World.block_lt_of_cell? _ _ hw353_0; first | rwa [add_block] at this | exact this) GW355.out)) | (dsimp only; exact Nat.ne_of_lt (Nat.lt_of_lt_of_le (by have := World.block_lt_of_cell? _ _ hw353_0; first | rwa [add_block] at this | exact this) GW355.out))) _).trans (((cell_far (p := ⟨gb355, _, none⟩) (by first | exact Nat.ne_of_lt (Nat.lt_of_lt_of_le (by have := World.block_lt_of_cell? _ _ hw353_0; first | rwa [add_block] at this | exact this) GW355.out) | (rw [add_block]; exact Nat.ne_of_lt (Nat.lt_of_lt_of_le (by have := World.block_lt_of_cell? _ _ hw353_0; first | rwa [add_block] at this | exact this) GW355.out)) | (show (Addr.add _ _).block ≠ _; rw [add_block]; exact Nat.ne_of_lt (Nat.lt_of_lt_of_le (by have := World.block_lt_of_cell? _ _ hw353_0; first | rwa [add_block] at this | exact this) GW355.out)) | (dsimp only; exact Nat.ne_of_lt (Nat.lt_of_lt_of_le (by have := World.block_lt_of_cell? _ _ hw353_0; first | rwa [add_block] at this | exact this) GW355.out))) _).trans (hHeld.2.2.1)))))), ((cell_far (p := ⟨gb355, _, none⟩) (by first | exact Nat.ne_of_lt (Nat.lt_of_lt_of_le (by have := World.block_lt_of_cell? _ _ hw353_1; first | rwa [add_block] at this | exact this) GW355.out) | (rw [add_block]; exact Nat.ne_of_lt (Nat.lt_of_lt_of_le (by have := World.block_lt_of_cell? _ _ hw353_1; first | rwa [add_block] at this | exact this) GW355.out)) | (show (Addr.add _ _).block ≠ _; rw [add_block]; exact Nat.ne_of_lt (Nat.lt_of_lt_of_le (by have := World.block_lt_of_cell? _ _ hw353_1; first | rwa [add_block] at this | exact this) GW355.out)) | (dsimp only; exact Nat.ne_of_lt (Nat.lt_of_lt_of_le (by have := World.block_lt_of_cell? _ _ hw353_1; first | rwa [add_block] at this | exact this) GW355.out))) _).trans (((cell_far (p := ⟨gb355, _, none⟩) (by first | exact Nat.ne_of_lt (Nat.lt_of_lt_of_le (by have := World.block_lt_of_cell? _ _ hw353_1; first | rwa [add_block] at this | exact this) GW355.out) | (rw [add_block]; exact Nat.ne_of_lt (Nat.lt_of_lt_of_le (by have := World.block_lt_of_cell? _ _ hw353_1; first | rwa [add_block] at this | exact this) GW355.out)) | (show (Addr.add _ _).block ≠ _; rw [add_block]; exact Nat.ne_of_lt (Nat.lt_of_lt_of_le (by have := World.block_lt_of_cell? _ _ hw353_1; first | rwa [add_block] at this | exact this) GW355.out)) | (dsimp only; exact Nat.ne_of_lt (Nat.lt_of_lt_of_le (by have := World.block_lt_of_cell? _ _ hw353_1; first | rwa [add_block] at this | exact this) GW355.out))) _).trans (((cell_far (p := ⟨gb355, _, none⟩) (by first | exact Nat.ne_of_lt (Nat.lt_of_lt_of_le (by have := World.block_lt_of_cell? _ _ hw353_1; first | rwa [add_block] at this | exact this) GW355.out) | (rw [add_block]; exact Nat.ne_of_lt (Nat.lt_of_lt_of_le (by have := World.block_lt_of_cell? _ _ hw353_1; first | rwa [add_block] at this | exact this) GW355.out)) | (show (Addr.add _ _).block ≠ _; rw [add_block]; exact Nat.ne_of_lt (Nat.lt_of_lt_of_le (by have := World.block_lt_of_cell? _ _ hw353_1; first | rwa [add_block] at this | exact this) GW355.out)) | (dsimp only; exact Nat.ne_of_lt (Nat.lt_of_lt_of_le (by have := World.block_lt_of_cell? _ _ hw353_1; first | rwa [add_block] at this | exact this) GW355.out))) _).trans (hHeld.2.2.2.1)))))), ((cell_far (p := ⟨gb355, _, none⟩) (by first | exact Nat.ne_of_lt (Nat.lt_of_lt_of_le (by have := World.block_lt_of_cell? _ _ hw353_2; first | rwa [add_block] at this | exact this) GW355.out) | (rw [add_block]; exact Nat.ne_of_lt (Nat.lt_of_lt_of_le (by have := World.block_lt_of_cell? _ _ hw353_2; first | rwa [add_block] at this | exact this) GW355.out)) | (show (Addr.add _ _).block ≠ _; rw [add_block]; exact Nat.ne_of_lt (Nat.lt_of_lt_of_le (by have := World.block_lt_of_cell? _ _ hw353_2; first | rwa [add_block] at this | exact this) GW355.out)) | (dsimp only; exact Nat.ne_of_lt (Nat.lt_of_lt_of_le (by have := World.block_lt_of_cell? _ _ hw353_2; first | rwa [add_block] at this | exact this) GW355.out))) _).trans (((cell_far (p := ⟨gb355, _, none⟩) (by first | exact Nat.ne_of_lt (Nat.lt_of_lt_of_le (by have := World.block_lt_of_cell? _ _ hw353_2; first | rwa [add_block] at this | exact this) GW355.out) | (rw [add_block]; exact Nat.ne_of_lt (Nat.lt_of_lt_of_le (by have := World.block_lt_of_cell? _ _ hw353_2; first | rwa [add_block] at this | exact this) GW355.out)) | (show (Addr.add _ _).block ≠ _; rw [add_block]; exact Nat.ne_of_lt (Nat.lt_of_lt_of_le (by have := World.block_lt_of_cell? _ _ hw353_2; first | rwa [add_block] at this | exact this) GW355.out)) | (dsimp only; exact Nat.ne_of_lt (Nat.lt_of_lt_of_le (by have := World.block_lt_of_cell? _ _ hw353_2; first | rwa [add_block] at this | exact this) GW355.out))) _).trans (((cell_far (p := ⟨gb355, _, none⟩) (by first | exact Nat.ne_of_lt (Nat.lt_of_lt_of_le (by have := World.block_lt_of_cell? _ _ hw353_2; first | rwa [add_block] at this | exact this) GW355.out) | (rw [add_block]; exact Nat.ne_of_lt (Nat.lt_of_lt_of_le (by have := World.block_lt_of_cell? _ _ hw353_2; first | rwa [add_block] at this | exact this) GW355.out)) | (show (Addr.add _ _).block ≠ _; rw [add_block]; exact Nat.ne_of_lt (Nat.lt_of_lt_of_le (by have := World.block_lt_of_cell? _ _ hw353_2; first | rwa [add_block] at this | exact this) GW355.out)) | (dsimp only; exact Nat.ne_of_lt (Nat.lt_of_lt_of_le (by have := World.block_lt_of_cell? _ _ hw353_2; first | rwa [add_block] at this | exact this) GW355.out))) _).trans (hHeld.2.2.2.2.1)))))), ((cell_far (p := ⟨gb355, _, none⟩) (by first | exact Nat.ne_of_lt (Nat.lt_of_lt_of_le (by have := World.block_lt_of_cell? _ _ hw354_0; first | rwa [add_block] at this | exact this) GW355.out) | (rw [add_block]; exact Nat.ne_of_lt (Nat.lt_of_lt_of_le (by have := World.block_lt_of_cell? _ _ hw354_0; first | rwa [add_block] at this | exact this) GW355.out)) | (show (Addr.add _ _).block ≠ _; rw [add_block]; exact Nat.ne_of_lt (Nat.lt_of_lt_of_le (by have := World.block_lt_of_cell? _ _ hw354_0; first | rwa [add_block] at this | exact this) GW355.out)) | (dsimp only; exact Nat.ne_of_lt (Nat.lt_of_lt_of_le (by have := World.block_lt_of_cell? _ _ hw354_0; first | rwa [add_block] at this | exact this) GW355.out))) _).trans (((cell_far (p := ⟨gb355, _, none⟩) (by first | exact Nat.ne_of_lt (Nat.lt_of_lt_of_le (by have := World.block_lt_of_cell? _ _ hw354_0; first | rwa [add_block] at this | exact this) GW355.out) | (rw [add_block]; exact Nat.ne_of_lt (Nat.lt_of_lt_of_le (by have := World.block_lt_of_cell? _ _ hw354_0; first | rwa [add_block] at this | exact this) GW355.out)) | (show (Addr.add _ _).block ≠ _; rw [add_block]; exact Nat.ne_of_lt (Nat.lt_of_lt_of_le (by have := World.block_lt_of_cell? _ _ hw354_0; first | rwa [add_block] at this | exact this) GW355.out)) | (dsimp only; exact Nat.ne_of_lt (Nat.lt_of_lt_of_le (by have := World.block_lt_of_cell? _ _ hw354_0; first | rwa [add_block] at this | exact this) GW355.out))) _).trans (((cell_far (p := ⟨gb355, _, none⟩) (by first | exact Nat.ne_of_lt (Nat.lt_of_lt_of_le (by have := World.block_lt_of_cell? _ _ hw354_0; first | rwa [add_block] at this | exact this) GW355.out) | (rw [add_block]; exact Nat.ne_of_lt (Nat.lt_of_lt_of_le (by have := World.block_lt_of_cell? _ _ hw354_0; first | rwa [add_block] at this | exact this) GW355.out)) | (show (Addr.add _ _).block ≠ _; rw [add_block]; exact Nat.ne_of_lt (Nat.lt_of_lt_of_le (by have := World.block_lt_of_cell? _ _ hw354_0; first | rwa [add_block] at this | exact this) GW355.out)) | (dsimp only; exact Nat.ne_of_lt (Nat.lt_of_lt_of_le (by have := World.block_lt_of_cell? _ _ hw354_0; first | rwa [add_block] at this | exact this) GW355.out))) _).trans (hHeld.2.2.2.2.2.1)))))), ((cell_far (p := ⟨gb355, _, none⟩) (by first | exact Nat.ne_of_lt (Nat.lt_of_lt_of_le (by have := World.block_lt_of_cell? _ _ hw354_1; first | rwa [add_block] at this | exact this) GW355.out) | (rw [add_block]; exact Nat.ne_of_lt (Nat.lt_of_lt_of_le (by have := World.block_lt_of_cell? _ _ hw354_1; first | rwa [add_block] at this | exact this) GW355.out)) | (show (Addr.add _ _).block ≠ _; rw [add_block]; exact Nat.ne_of_lt (Nat.lt_of_lt_of_le (by have := World.block_lt_of_cell? _ _ hw354_1; first | rwa [add_block] at this | exact this) GW355.out)) | (dsimp only; exact Nat.ne_of_lt (Nat.lt_of_lt_of_le (by have := World.block_lt_of_cell? _ _ hw354_1; first | rwa [add_block] at this | exact this) GW355.out))) _).trans (((cell_far (p := ⟨gb355, _, none⟩) (by first | exact Nat.ne_of_lt (Nat.lt_of_lt_of_le (by have := World.block_lt_of_cell? _ _ hw354_1; first | rwa [add_block] at this | exact this) GW355.out) | (rw [add_block]; exact Nat.ne_of_lt (Nat.lt_of_lt_of_le (by have := World.block_lt_of_cell? _ _ hw354_1; first | rwa [add_block] at this | exact this) GW355.out)) | (show (Addr.add _ _).block ≠ _; rw [add_block]; exact Nat.ne_of_lt (Nat.lt_of_lt_of_le (by have := World.block_lt_of_cell? _ _ hw354_1; first | rwa [add_block] at this | exact this) GW355.out)) | (dsimp only; exact Nat.ne_of_lt (Nat.lt_of_lt_of_le (by have := World.block_lt_of_cell? _ _ hw354_1; first | rwa [add_block] at this | exact this) GW355.out))) _).trans (((cell_far (p := ⟨gb355, _, none⟩) (by first | exact Nat.ne_of_lt (Nat.lt_of_lt_of_le (by have := World.block_lt_of_cell? _ _ hw354_1; first | rwa [add_block] at this | exact this) GW355.out) | (rw [add_block]; exact Nat.ne_of_lt (Nat.lt_of_lt_of_le (by have := World.block_lt_of_cell? _ _ hw354_1; first | rwa [add_block] at this | exact this) GW355.out)) | (show (Addr.add _ _).block ≠ _; rw [add_block]; exact Nat.ne_of_lt (Nat.lt_of_lt_of_le (by have := World.block_lt_of_cell? _ _ hw354_1; first | rwa [add_block] at this | exact this) GW355.out)) | (dsimp only; exact Nat.ne_of_lt (Nat.lt_of_lt_of_le (by have := World.block_lt_of_cell? _ _ hw354_1; first | rwa [add_block] at this | exact this) GW355.out))) _).trans (hHeld.2.2.2.2.2.2.1)))))), ((cell_far (p := ⟨gb355, _, none⟩) (by first | exact Nat.ne_of_lt (Nat.lt_of_lt_of_le (by have := World.block_lt_of_cell? _ _ hw354_2; first | rwa [add_block] at this | exact this) GW355.out) | (rw [add_block]; exact Nat.ne_of_lt (Nat.lt_of_lt_of_le (by have := World.block_lt_of_cell? _ _ hw354_2; first | rwa [add_block] at this | exact this) GW355.out)) | (show (Addr.add _ _).block ≠ _; rw [add_block]; exact Nat.ne_of_lt (Nat.lt_of_lt_of_le (by have := World.block_lt_of_cell? _ _ hw354_2; first | rwa [add_block] at this | exact this) GW355.out)) | (dsimp only; exact Nat.ne_of_lt (Nat.lt_of_lt_of_le (by have := World.block_lt_of_cell? _ _ hw354_2; first | rwa [add_block] at this | exact this) GW355.out))) _).trans (((cell_far (p := ⟨gb355, _, none⟩) (by first | exact Nat.ne_of_lt (Nat.lt_of_lt_of_le (by have := World.block_lt_of_cell? _ _ hw354_2; first | rwa [add_block] at this | exact this) GW355.out) | (rw [add_block]; exact Nat.ne_of_lt (Nat.lt_of_lt_of_le (by have := World.block_lt_of_cell? _ _ hw354_2; first | rwa [add_block] at this | exact this) GW355.out)) | (show (Addr.add _ _).block ≠ _; rw [add_block]; exact Nat.ne_of_lt (Nat.lt_of_lt_of_le (by have := World.block_lt_of_cell? _ _ hw354_2; first | rwa [add_block] at this | exact this) GW355.out)) | (dsimp only; exact Nat.ne_of_lt (Nat.lt_of_lt_of_le (by have := World.block_lt_of_cell? _ _ hw354_2; first | rwa [add_block] at this | exact this) GW355.out))) _).trans (((cell_far (p := ⟨gb355, _, none⟩) (by first | exact Nat.ne_of_lt (Nat.lt_of_lt_of_le (by have := World.block_lt_of_cell? _ _ hw354_2; first | rwa [add_block] at this | exact this) GW355.out) | (rw [add_block]; exact Nat.ne_of_lt (Nat.lt_of_lt_of_le (by have := World.block_lt_of_cell? _ _ hw354_2; first | rwa [add_block] at this | exact this) GW355.out)) | (show (Addr.add _ _).block ≠ _; rw [add_block]; exact Nat.ne_of_lt (Nat.lt_of_lt_of_le (by have := World.block_lt_of_cell? _ _ hw354_2; first | rwa [add_block] at this | exact this) GW355.out)) | (dsimp only; exact Nat.ne_of_lt (Nat.lt_of_lt_of_le (by have := World.block_lt_of_cell? _ _ hw354_2; first | rwa [add_block] at this | exact this) GW355.out))) _).trans (hHeld.2.2.2.2.2.2.2))))))⟩ (fun hHeld => ?_)
         clear hK K
         refine o1 13 none rfl rfl (fun K hK => ?_)
         have hs63 : w59.cell? ⟨gb356, 0, none⟩ = some (.int .i64 0) := (blk_cell BK356.out 0).trans rfl
         have hfs63 := blk_frozen BK356.out 0
         have hns63_0 := NB351_356.out
         have hns63_1 := NB352_356.out
         have hns63_2 := NB355_356.out
         have hms63_0 := NB356_351.out
         have hms63_1 := NB356_352.out
         have hms63_2 := NB356_355.out
         have hs64 : w59.cell? ⟨gb356, 1, none⟩ = some (.string (⟨#[]⟩ : ByteArray)) := (blk_cell BK356.out 1).trans rfl
         have hfs64 := blk_frozen BK356.out 1
         have hns64_0 := NB351_356.out
         have hns64_1 := NB352_356.out
         have hns64_2 := NB355_356.out
         have hms64_0 := NB356_351.out
         have hms64_1 := NB356_352.out
         have hms64_2 := NB356_355.out
         have hs65 : w59.cell? ⟨gb356, 2, none⟩ = some (.slice none 0 0) := (blk_cell BK356.out 2).trans rfl
         have hfs65 := blk_frozen BK356.out 2
         have hns65_0 := NB351_356.out
         have hns65_1 := NB352_356.out
         have hns65_2 := NB355_356.out
         have hms65_0 := NB356_351.out
         have hms65_1 := NB356_352.out
         have hms65_2 := NB356_355.out
         refine skip_ (w1 := ?_) (by rfl) rfl ?_ ?_
         rotate_left
         ·
          go_simp
          rfl
         refine hK.out _ _ ⟨((cell_far (p := ⟨gb356, _, none⟩) NB351_356.out _).trans (((cell_far (p := ⟨gb356, _, none⟩) NB351_356.out _).trans (((cell_far (p := ⟨gb356, _, none⟩) NB351_356.out _).trans (hHeld.1)))))), ((cell_far (p := ⟨gb356, _, none⟩) NB352_356.out _).trans (((cell_far (p := ⟨gb356, _, none⟩) NB352_356.out _).trans (((cell_far (p := ⟨gb356, _, none⟩) NB352_356.out _).trans (hHeld.2.1)))))), ((cell_far (p := ⟨gb356, _, none⟩) (by first | exact Nat.ne_of_lt (Nat.lt_of_lt_of_le (by have := World.block_lt_of_cell? _ _ hw353_0; first | rwa [add_block] at this | exact this) GW356.out) | (rw [add_block]; exact Nat.ne_of_lt (Nat.lt_of_lt_of_le (by have := World.block_lt_of_cell? _ _ hw353_0; first | rwa [add_block] at this | exact this) GW356.out)) | (show (Addr.add _ _).block ≠ _; rw [add_block]; exact Nat.ne_of_lt (Nat.lt_of_lt_of_le (by have := World.block_lt_of_cell? _ _ hw353_0; first | rwa [add_block] at this | exact this) GW356.out)) | (dsimp only; exact Nat.ne_of_lt (Nat.lt_of_lt_of_le (by have := World.block_lt_of_cell? _ _ hw353_0; first | rwa [add_block] at this | exact this) GW356.out))) _).trans (((cell_far (p := ⟨gb356, _, none⟩) (by first | exact Nat.ne_of_lt (Nat.lt_of_lt_of_le (by have := World.block_lt_of_cell? _ _ hw353_0; first | rwa [add_block] at this | exact this) GW356.out) | (rw [add_block]; exact Nat.ne_of_lt (Nat.lt_of_lt_of_le (by have := World.block_lt_of_cell? _ _ hw353_0; first | rwa [add_block] at this | exact this) GW356.out)) | (show (Addr.add _ _).block ≠ _; rw [add_block]; exact Nat.ne_of_lt (Nat.lt_of_lt_of_le (by have := World.block_lt_of_cell? _ _ hw353_0; first | rwa [add_block] at this | exact this) GW356.out)) | (dsimp only; exact Nat.ne_of_lt (Nat.lt_of_lt_of_le (by have := World.block_lt_of_cell? _ _ hw353_0; first | rwa [add_block] at this | exact this) GW356.out))) _).trans (((cell_far (p := ⟨gb356, _, none⟩) (by first | exact Nat.ne_of_lt (Nat.lt_of_lt_of_le (by have := World.block_lt_of_cell? _ _ hw353_0; first | rwa [add_block] at this | exact this) GW356.out) | (rw [add_block]; exact Nat.ne_of_lt (Nat.lt_of_lt_of_le (by have := World.block_lt_of_cell? _ _ hw353_0; first | rwa [add_block] at this | exact this) GW356.out)) | (show (Addr.add _ _).block ≠ _; rw [add_block]; exact Nat.ne_of_lt (Nat.lt_of_lt_of_le (by have := World.block_lt_of_cell? _ _ hw353_0; first | rwa [add_block] at this | exact this) GW356.out)) | (dsimp only; exact Nat.ne_of_lt (Nat.lt_of_lt_of_le (by have := World.block_lt_of_cell? _ _ hw353_0; first | rwa [add_block] at this | exact this) GW356.out))) _).trans (hHeld.2.2.1)))))), ((cell_far (p := ⟨gb356, _, none⟩) (by first | exact Nat.ne_of_lt (Nat.lt_of_lt_of_le (by have := World.block_lt_of_cell? _ _ hw353_1; first | rwa [add_block] at this | exact this) GW356.out) | (rw [add_block]; exact Nat.ne_of_lt (Nat.lt_of_lt_of_le (by have := World.block_lt_of_cell? _ _ hw353_1; first | rwa [add_block] at this | exact this) GW356.out)) | (show (Addr.add _ _).block ≠ _; rw [add_block]; exact Nat.ne_of_lt (Nat.lt_of_lt_of_le (by have := World.block_lt_of_cell? _ _ hw353_1; first | rwa [add_block] at this | exact this) GW356.out)) | (dsimp only; exact Nat.ne_of_lt (Nat.lt_of_lt_of_le (by have := World.block_lt_of_cell? _ _ hw353_1; first | rwa [add_block] at this | exact this) GW356.out))) _).trans (((cell_far (p := ⟨gb356, _, none⟩) (by first | exact Nat.ne_of_lt (Nat.lt_of_lt_of_le (by have := World.block_lt_of_cell? _ _ hw353_1; first | rwa [add_block] at this | exact this) GW356.out) | (rw [add_block]; exact Nat.ne_of_lt (Nat.lt_of_lt_of_le (by have := World.block_lt_of_cell? _ _ hw353_1; first | rwa [add_block] at this | exact this) GW356.out)) | (show (Addr.add _ _).block ≠ _; rw [add_block]; exact Nat.ne_of_lt (Nat.lt_of_lt_of_le (by have := World.block_lt_of_cell? _ _ hw353_1; first | rwa [add_block] at this | exact this) GW356.out)) | (dsimp only; exact Nat.ne_of_lt (Nat.lt_of_lt_of_le (by have := World.block_lt_of_cell? _ _ hw353_1; first | rwa [add_block] at this | exact this) GW356.out))) _).trans (((cell_far (p := ⟨gb356, _, none⟩) (by first | exact Nat.ne_of_lt (Nat.lt_of_lt_of_le (by have := World.block_lt_of_cell? _ _ hw353_1; first | rwa [add_block] at this | exact this) GW356.out) | (rw [add_block]; exact Nat.ne_of_lt (Nat.lt_of_lt_of_le (by have := World.block_lt_of_cell? _ _ hw353_1; first | rwa [add_block] at this | exact this) GW356.out)) | (show (Addr.add _ _).block ≠ _; rw [add_block]; exact Nat.ne_of_lt (Nat.lt_of_lt_of_le (by have := World.block_lt_of_cell? _ _ hw353_1; first | rwa [add_block] at this | exact this) GW356.out)) | (dsimp only; exact Nat.ne_of_lt (Nat.lt_of_lt_of_le (by have := World.block_lt_of_cell? _ _ hw353_1; first | rwa [add_block] at this | exact this) GW356.out))) _).trans (hHeld.2.2.2.1)))))), ((cell_far (p := ⟨gb356, _, none⟩) (by first | exact Nat.ne_of_lt (Nat.lt_of_lt_of_le (by have := World.block_lt_of_cell? _ _ hw353_2; first | rwa [add_block] at this | exact this) GW356.out) | (rw [add_block]; exact Nat.ne_of_lt (Nat.lt_of_lt_of_le (by have := World.block_lt_of_cell? _ _ hw353_2; first | rwa [add_block] at this | exact this) GW356.out)) | (show (Addr.add _ _).block ≠ _; rw [add_block]; exact Nat.ne_of_lt (Nat.lt_of_lt_of_le (by have := World.block_lt_of_cell? _ _ hw353_2; first | rwa [add_block] at this | exact this) GW356.out)) | (dsimp only; exact Nat.ne_of_lt (Nat.lt_of_lt_of_le (by have := World.block_lt_of_cell? _ _ hw353_2; first | rwa [add_block] at this | exact this) GW356.out))) _).trans (((cell_far (p := ⟨gb356, _, none⟩) (by first | exact Nat.ne_of_lt (Nat.lt_of_lt_of_le (by have := World.block_lt_of_cell? _ _ hw353_2; first | rwa [add_block] at this | exact this) GW356.out) | (rw [add_block]; exact Nat.ne_of_lt (Nat.lt_of_lt_of_le (by have := World.block_lt_of_cell? _ _ hw353_2; first | rwa [add_block] at this | exact this) GW356.out)) | (show (Addr.add _ _).block ≠ _; rw [add_block]; exact Nat.ne_of_lt (Nat.lt_of_lt_of_le (by have := World.block_lt_of_cell? _ _ hw353_2; first | rwa [add_block] at this | exact this) GW356.out)) | (dsimp only; exact Nat.ne_of_lt (Nat.lt_of_lt_of_le (by have := World.block_lt_of_cell? _ _ hw353_2; first | rwa [add_block] at this | exact this) GW356.out))) _).trans (((cell_far (p := ⟨gb356, _, none⟩) (by first | exact Nat.ne_of_lt (Nat.lt_of_lt_of_le (by have := World.block_lt_of_cell? _ _ hw353_2; first | rwa [add_block] at this | exact this) GW356.out) | (rw [add_block]; exact Nat.ne_of_lt (Nat.lt_of_lt_of_le (by have := World.block_lt_of_cell? _ _ hw353_2; first | rwa [add_block] at this | exact this) GW356.out)) | (show (Addr.add _ _).block ≠ _; rw [add_block]; exact Nat.ne_of_lt (Nat.lt_of_lt_of_le (by have := World.block_lt_of_cell? _ _ hw353_2; first | rwa [add_block] at this | exact this) GW356.out)) | (dsimp only; exact Nat.ne_of_lt (Nat.lt_of_lt_of_le (by have := World.block_lt_of_cell? _ _ hw353_2; first | rwa [add_block] at this | exact this) GW356.out))) _).trans (hHeld.2.2.2.2.1)))))), ((cell_far (p := ⟨gb356, _, none⟩) (by first | exact Nat.ne_of_lt (Nat.lt_of_lt_of_le (by have := World.block_lt_of_cell? _ _ hw354_0; first | rwa [add_block] at this | exact this) GW356.out) | (rw [add_block]; exact Nat.ne_of_lt (Nat.lt_of_lt_of_le (by have := World.block_lt_of_cell? _ _ hw354_0; first | rwa [add_block] at this | exact this) GW356.out)) | (show (Addr.add _ _).block ≠ _; rw [add_block]; exact Nat.ne_of_lt (Nat.lt_of_lt_of_le (by have := World.block_lt_of_cell? _ _ hw354_0; first | rwa [add_block] at this | exact this) GW356.out)) | (dsimp only; exact Nat.ne_of_lt (Nat.lt_of_lt_of_le (by have := World.block_lt_of_cell? _ _ hw354_0; first | rwa [add_block] at this | exact this) GW356.out))) _).trans (((cell_far (p := ⟨gb356, _, none⟩) (by first | exact Nat.ne_of_lt (Nat.lt_of_lt_of_le (by have := World.block_lt_of_cell? _ _ hw354_0; first | rwa [add_block] at this | exact this) GW356.out) | (rw [add_block]; exact Nat.ne_of_lt (Nat.lt_of_lt_of_le (by have := World.block_lt_of_cell? _ _ hw354_0; first | rwa [add_block] at this | exact this) GW356.out)) | (show (Addr.add _ _).block ≠ _; rw [add_block]; exact Nat.ne_of_lt (Nat.lt_of_lt_of_le (by have := World.block_lt_of_cell? _ _ hw354_0; first | rwa [add_block] at this | exact this) GW356.out)) | (dsimp only; exact Nat.ne_of_lt (Nat.lt_of_lt_of_le (by have := World.block_lt_of_cell? _ _ hw354_0; first | rwa [add_block] at this | exact this) GW356.out))) _).trans (((cell_far (p := ⟨gb356, _, none⟩) (by first | exact Nat.ne_of_lt (Nat.lt_of_lt_of_le (by have := World.block_lt_of_cell? _ _ hw354_0; first | rwa [add_block] at this | exact this) GW356.out) | (rw [add_block]; exact Nat.ne_of_lt (Nat.lt_of_lt_of_le (by have := World.block_lt_of_cell? _ _ hw354_0; first | rwa [add_block] at this | exact this) GW356.out)) | (show (Addr.add _ _).block ≠ _; rw [add_block]; exact Nat.ne_of_lt (Nat.lt_of_lt_of_le (by have := World.block_lt_of_cell? _ _ hw354_0; first | rwa [add_block] at this | exact this) GW356.out)) | (dsimp only; exact Nat.ne_of_lt (Nat.lt_of_lt_of_le (by have := World.block_lt_of_cell? _ _ hw354_0; first | rwa [add_block] at this | exact this) GW356.out))) _).trans (hHeld.2.2.2.2.2.1)))))), ((cell_far (p := ⟨gb356, _, none⟩) (by first | exact Nat.ne_of_lt (Nat.lt_of_lt_of_le (by have := World.block_lt_of_cell? _ _ hw354_1; first | rwa [add_block] at this | exact this) GW356.out) | (rw [add_block]; exact Nat.ne_of_lt (Nat.lt_of_lt_of_le (by have := World.block_lt_of_cell? _ _ hw354_1; first | rwa [add_block] at this | exact this) GW356.out)) | (show (Addr.add _ _).block ≠ _; rw [add_block]; exact Nat.ne_of_lt (Nat.lt_of_lt_of_le (by have := World.block_lt_of_cell? _ _ hw354_1; first | rwa [add_block] at this | exact this) GW356.out)) | (dsimp only; exact Nat.ne_of_lt (Nat.lt_of_lt_of_le (by have := World.block_lt_of_cell? _ _ hw354_1; first | rwa [add_block] at this | exact this) GW356.out))) _).trans (((cell_far (p := ⟨gb356, _, none⟩) (by first | exact Nat.ne_of_lt (Nat.lt_of_lt_of_le (by have := World.block_lt_of_cell? _ _ hw354_1; first | rwa [add_block] at this | exact this) GW356.out) | (rw [add_block]; exact Nat.ne_of_lt (Nat.lt_of_lt_of_le (by have := World.block_lt_of_cell? _ _ hw354_1; first | rwa [add_block] at this | exact this) GW356.out)) | (show (Addr.add _ _).block ≠ _; rw [add_block]; exact Nat.ne_of_lt (Nat.lt_of_lt_of_le (by have := World.block_lt_of_cell? _ _ hw354_1; first | rwa [add_block] at this | exact this) GW356.out)) | (dsimp only; exact Nat.ne_of_lt (Nat.lt_of_lt_of_le (by have := World.block_lt_of_cell? _ _ hw354_1; first | rwa [add_block] at this | exact this) GW356.out))) _).trans (((cell_far (p := ⟨gb356, _, none⟩) (by first | exact Nat.ne_of_lt (Nat.lt_of_lt_of_le (by have := World.block_lt_of_cell? _ _ hw354_1; first | rwa [add_block] at this | exact this) GW356.out) | (rw [add_block]; exact Nat.ne_of_lt (Nat.lt_of_lt_of_le (by have := World.block_lt_of_cell? _ _ hw354_1; first | rwa [add_block] at this | exact this) GW356.out)) | (show (Addr.add _ _).block ≠ _; rw [add_block]; exact Nat.ne_of_lt (Nat.lt_of_lt_of_le (by have := World.block_lt_of_cell? _ _ hw354_1; first | rwa [add_block] at this | exact this) GW356.out)) | (dsimp only; exact Nat.ne_of_lt (Nat.lt_of_lt_of_le (by have := World.block_lt_of_cell? _ _ hw354_1; first | rwa [add_block] at this | exact this) GW356.out))) _).trans (hHeld.2.2.2.2.2.2.1)))))), ((cell_far (p := ⟨gb356, _, none⟩) (by first | exact Nat.ne_of_lt (Nat.lt_of_lt_of_le (by have := World.block_lt_of_cell? _ _ hw354_2; first | rwa [add_block] at this | exact this) GW356.out) | (rw [add_block]; exact Nat.ne_of_lt (Nat.lt_of_lt_of_le (by have := World.block_lt_of_cell? _ _ hw354_2; first | rwa [add_block] at this | exact this) GW356.out)) | (show (Addr.add _ _).block ≠ _; rw [add_block]; exact Nat.ne_of_lt (Nat.lt_of_lt_of_le (by have := World.block_lt_of_cell? _ _ hw354_2; first | rwa [add_block] at this | exact this) GW356.out)) | (dsimp only; exact Nat.ne_of_lt (Nat.lt_of_lt_of_le (by have := World.block_lt_of_cell? _ _ hw354_2; first | rwa [add_block] at this | exact this) GW356.out))) _).trans (((cell_far (p := ⟨gb356, _, none⟩) (by first | exact Nat.ne_of_lt (Nat.lt_of_lt_of_le (by have := World.block_lt_of_cell? _ _ hw354_2; first | rwa [add_block] at this | exact this) GW356.out) | (rw [add_block]; exact Nat.ne_of_lt (Nat.lt_of_lt_of_le (by have := World.block_lt_of_cell? _ _ hw354_2; first | rwa [add_block] at this | exact this) GW356.out)) | (show (Addr.add _ _).block ≠ _; rw [add_block]; exact Nat.ne_of_lt (Nat.lt_of_lt_of_le (by have := World.block_lt_of_cell? _ _ hw354_2; first | rwa [add_block] at this | exact this) GW356.out)) | (dsimp only; exact Nat.ne_of_lt (Nat.lt_of_lt_of_le (by have := World.block_lt_of_cell? _ _ hw354_2; first | rwa [add_block] at this | exact this) GW356.out))) _).trans (((cell_far (p := ⟨gb356, _, none⟩) (by first | exact Nat.ne_of_lt (Nat.lt_of_lt_of_le (by have := World.block_lt_of_cell? _ _ hw354_2; first | rwa [add_block] at this | exact this) GW356.out) | (rw [add_block]; exact Nat.ne_of_lt (Nat.lt_of_lt_of_le (by have := World.block_lt_of_cell? _ _ hw354_2; first | rwa [add_block] at this | exact this) GW356.out)) | (show (Addr.add _ _).block ≠ _; rw [add_block]; exact Nat.ne_of_lt (Nat.lt_of_lt_of_le (by have := World.block_lt_of_cell? _ _ hw354_2; first | rwa [add_block] at this | exact this) GW356.out)) | (dsimp only; exact Nat.ne_of_lt (Nat.lt_of_lt_of_le (by have := World.block_lt_of_cell? _ _ hw354_2; first | rwa [add_block] at this | exact this) GW356.out))) _).trans (hHeld.2.2.2.2.2.2.2))))))⟩ (fun hHeld => ?_)
         clear hK K
         refine done_ (done_of HT_.out (by kernel_rfl)) ?_
         have hnb66 := NB355_351.out
         have hnc66 := NB351_355.out
         have hnb67 := NB355_352.out
         have hnc67 := NB352_355.out
         have hnb68 := NB355_356.out
         have hnc68 := NB356_355.out
         obtain ⟨hcz69_0, hcz69_1, hcz69_2, hfz69_0, hfz69_1, hfz69_2⟩ := z3 BK355
         have hnb70 := NB356_351.out
         have hnc70 := NB351_356.out
         have hnb71 := NB356_352.out
         have hnc71 := NB352_356.out
         obtain ⟨hcz72_0, hcz72_1, hcz72_2, hfz72_0, hfz72_1, hfz72_2⟩ := z3 BK356
         try go_wp2
         go_ret
         exact ⟨re_, bl⟩
       ·
        rw [if_neg c12] at H
        have c12b0 : (((rd_T59 l0_0 x5_1).f0) == ((rd_T59 l1_0 x5_1).f0)) = false := beq_eq_false_iff_ne.mpr c12
        have c12b1 : (((rd_T59 l0_0 x5_1).f0) != ((rd_T59 l1_0 x5_1).f0)) = true := bne_iff_ne.mpr c12
        obtain rfl := Option.some.inj H
        have hnb73 := NB351_352.out
        have hnc73 := NB352_351.out
        obtain ⟨hcz74_0, hfz74_0⟩ := z1 BK351
        try go_wp2
        replace BK351 := Aside0.mk (blk_drew BK351.out)
        replace BK352 := Aside0.mk (blk_drew BK352.out)
        replace HB := Aside0.mk (below_drew1 HB.out)
        have p353 : 0 ≤ (x5_1 : Int) := od
        have q353 : x5_1 < (l0_0.length : Int) := od
        obtain ⟨ad353, A353_2, c353_2, e353, hx353_0, hx353_1, hx353_2, hl353_2, hi353_2⟩ := at_T59 HR0_0.out x5_1 p353 q353
        have hw353_2 := hx353_2
        have hw353_1 := hx353_1
        have hw353_0 := hx353_0
        cases e353
        replace hx353_0 := kc HB hx353_0
        replace hx353_1 := kc HB hx353_1
        replace hx353_2 := kc HB hx353_2
        have HR353_2 := Aside0.mk hi353_2
        have HC353_2 := Aside0.mk hl353_2
        clear hi353_2 hl353_2
        replace p353 := eq_true p353
        replace q353 := eq_true q353
        have p354 : 0 ≤ (x5_1 : Int) := od
        have q354 : x5_1 < (l1_0.length : Int) := od
        obtain ⟨ad354, A354_2, c354_2, e354, hx354_0, hx354_1, hx354_2, hl354_2, hi354_2⟩ := at_T59 HR1_0.out x5_1 p354 q354
        have hw354_2 := hx354_2
        have hw354_1 := hx354_1
        have hw354_0 := hx354_0
        cases e354
        replace hx354_0 := kc HB hx354_0
        replace hx354_1 := kc HB hx354_1
        replace hx354_2 := kc HB hx354_2
        have HR354_2 := Aside0.mk hi354_2
        have HC354_2 := Aside0.mk hl354_2
        clear hi354_2 hl354_2
        replace p354 := eq_true p354
        replace q354 := eq_true q354
        refine start_ (n := 14) (S := fun w' => w'.cell? ⟨gb351, 0, none⟩ = some (.slice (some ad353) l0_0.length c0_0) ∧ w'.cell? ⟨gb352, 0, none⟩ = some (.slice (some ad354) l1_0.length c1_0) ∧ w'.cell? (ad353.add ((x5_1).toNat * 3)) = some (.int .i64 ((rd_T59 l0_0 x5_1).f0)) ∧ w'.cell? ⟨(ad353.add ((x5_1).toNat * 3)).block, (ad353.add ((x5_1).toNat * 3)).off + 1, none⟩ = some (.string ((rd_T59 l0_0 x5_1).f1)) ∧ w'.cell? ⟨(ad353.add ((x5_1).toNat * 3)).block, (ad353.add ((x5_1).toNat * 3)).off + 2, none⟩ = some (.slice A353_2 ((rd_T59 l0_0 x5_1).f2).length c353_2) ∧ w'.cell? (ad354.add ((x5_1).toNat * 3)) = some (.int .i64 ((rd_T59 l1_0 x5_1).f0)) ∧ w'.cell? ⟨(ad354.add ((x5_1).toNat * 3)).block, (ad354.add ((x5_1).toNat * 3)).off + 1, none⟩ = some (.string ((rd_T59 l1_0 x5_1).f1)) ∧ w'.cell? ⟨(ad354.add ((x5_1).toNat * 3)).block, (ad354.add ((x5_1).toNat * 3)).off + 2, none⟩ = some (.slice A354_2 ((rd_T59 l1_0 x5_1).f2).length c354_2)) (ds := []) _ (by kernel_rfl) rfl rfl ⟨(blk_cell BK351.out 0).trans rfl, (blk_cell BK352.out 0).trans rfl, (kc HB hw353_0), (kc HB hw353_1), (kc HB hw353_2), (kc HB hw354_0), (kc HB hw354_1), (kc HB hw354_2)⟩ (fun hHeld => ?_); refine with_tabW r11_Same.tab6 r11_Same.bits6 (fun HT_ HW_ => ?_)
        generalize wr.drew = w75 at BK351 BK352 HB HR353_2 HR354_2 hx353_0 hx353_1 hx353_2 hx354_0 hx354_1 hx354_2 hHeld ⊢
        refine pure_ (i := 0) (N := some 22) (v := ?_) (a' := ?_) #[true, false, false, false, false, false, false, false, false, false, false, false, false, false] rfl rfl (any_of HT_.out (by kernel_rfl)) (fun _ _ _ h => h) (Or.inl ⟨by rfl, ?_⟩) ?_ ?_
        rotate_left
        ·
         intro w'
         go_simp
         with_reducible rfl
        rotate_left
        ·
         simp only [Act.put, List.setIfInBounds_toArray, List.set_cons_zero, List.set_cons_succ, i64_w, i32_w]
         rfl
        refine pure_ (i := 2) (N := some 24) (v := ?_) (a' := ?_) #[true, false, true, false, false, false, false, false, false, false, false, false, false, false] rfl rfl (any_of HT_.out (by kernel_rfl)) (fun _ _ _ h => h) (Or.inl ⟨by rfl, ?_⟩) ?_ ?_
        rotate_left
        ·
         intro w'
         go_simp
         with_reducible rfl
        rotate_left
        ·
         simp only [Act.put, List.setIfInBounds_toArray, List.set_cons_zero, List.set_cons_succ, i64_w, i32_w]
         rfl
        refine pure_ (i := 5) (N := some 27) (v := ?_) (a' := ?_) #[true, false, true, false, false, true, false, false, false, false, false, false, false, false] rfl rfl (any_of HT_.out (by kernel_rfl)) (fun _ _ _ h => h) (Or.inl ⟨by rfl, ?_⟩) ?_ ?_
        rotate_left
        ·
         intro w'
         go_simp
         with_reducible rfl
        rotate_left
        ·
         simp only [Act.put, List.setIfInBounds_toArray, List.set_cons_zero, List.set_cons_succ, i64_w, i32_w]
         rfl
        refine pure_ (i := 7) (N := some 29) (v := ?_) (a' := ?_) #[true, false, true, false, false, true, false, true, false, false, false, false, false, false] rfl rfl (any_of HT_.out (by kernel_rfl)) (fun _ _ _ h => h) (Or.inl ⟨by rfl, ?_⟩) ?_ ?_
        rotate_left
        ·
         intro w'
         go_simp
         with_reducible rfl
        rotate_left
        ·
         simp only [Act.put, List.setIfInBounds_toArray, List.set_cons_zero, List.set_cons_succ, i64_w, i32_w]
         rfl
        refine take_ (i := 1) (N := some 23) (v := ?_) (a' := ?_) #[true, true, true, false, false, true, false, true, false, false, false, false, false, false] rfl rfl (take_ofW HT_.out HW_.out (by kernel_rfl)) (fun _ _ _ h => h) (Or.inl ⟨by rfl, ?_⟩) hHeld ?_ ?_
        rotate_left
        ·
         rintro w' ⟨s0, s1, s2, s3, s4, s5, s6, s7⟩
         go_simp
         with_reducible rfl
        rotate_left
        ·
         simp only [Act.put, List.setIfInBounds_toArray, List.set_cons_zero, List.set_cons_succ, i64_w, i32_w]
         rfl
        refine pure_ (i := 3) (N := some 25) (v := ?_) (a' := ?_) #[true, true, true, true, false, true, false, true, false, false, false, false, false, false] rfl rfl (any_of HT_.out (by kernel_rfl)) (fun _ _ _ h => h) (Or.inl ⟨by rfl, ?_⟩) ?_ ?_
        rotate_left
        ·
         intro w'
         go_simp
         with_reducible rfl
        rotate_left
        ·
         simp only [Act.put, List.setIfInBounds_toArray, List.set_cons_zero, List.set_cons_succ, i64_w, i32_w]
         rfl
        refine take_ (i := 4) (N := some 26) (v := ?_) (a' := ?_) #[true, true, true, true, true, true, false, true, false, false, false, false, false, false] rfl rfl (take_ofW HT_.out HW_.out (by kernel_rfl)) (fun _ _ _ h => h) (Or.inl ⟨by rfl, ?_⟩) hHeld ?_ ?_
        rotate_left
        ·
         rintro w' ⟨s0, s1, s2, s3, s4, s5, s6, s7⟩
         go_simp
         with_reducible rfl
        rotate_left
        ·
         simp only [Act.put, List.setIfInBounds_toArray, List.set_cons_zero, List.set_cons_succ, i64_w, i32_w]
         rfl
        refine take_ (i := 6) (N := some 28) (v := ?_) (a' := ?_) #[true, true, true, true, true, true, true, true, false, false, false, false, false, false] rfl rfl (take_ofW HT_.out HW_.out (by kernel_rfl)) (fun _ _ _ h => h) (Or.inl ⟨by rfl, ?_⟩) hHeld ?_ ?_
        rotate_left
        ·
         rintro w' ⟨s0, s1, s2, s3, s4, s5, s6, s7⟩
         go_simp
         with_reducible rfl
        rotate_left
        ·
         simp only [Act.put, List.setIfInBounds_toArray, List.set_cons_zero, List.set_cons_succ, i64_w, i32_w]
         rfl
        refine pure_ (i := 8) (N := some 30) (v := ?_) (a' := ?_) #[true, true, true, true, true, true, true, true, true, false, false, false, false, false] rfl rfl (any_of HT_.out (by kernel_rfl)) (fun _ _ _ h => h) (Or.inl ⟨by rfl, ?_⟩) ?_ ?_
        rotate_left
        ·
         intro w'
         go_simp
         with_reducible rfl
        rotate_left
        ·
         simp only [Act.put, List.setIfInBounds_toArray, List.set_cons_zero, List.set_cons_succ, i64_w, i32_w]
         rfl
        refine take_ (i := 9) (N := some 31) (v := ?_) (a' := ?_) #[true, true, true, true, true, true, true, true, true, true, false, false, false, false] rfl rfl (take_ofW HT_.out HW_.out (by kernel_rfl)) (fun _ _ _ h => h) (Or.inl ⟨by rfl, ?_⟩) hHeld ?_ ?_
        rotate_left
        ·
         rintro w' ⟨s0, s1, s2, s3, s4, s5, s6, s7⟩
         go_simp
         with_reducible rfl
        rotate_left
        ·
         simp only [Act.put, List.setIfInBounds_toArray, List.set_cons_zero, List.set_cons_succ, i64_w, i32_w]
         rfl
        refine join_ (σ := Nat × Nat) 2 #[true, true, true, true, true, true, true, true, true, true, true, true, false, false] (fun s_ => [(6, .pointer (some ⟨s_.1, 0, none⟩)), (7, .pointer (some ⟨s_.2, 0, none⟩))]) (fun s_ w' => (w'.cell? ⟨gb351, 0, none⟩ = some (.slice (some ad353) l0_0.length c0_0) ∧ w'.cell? ⟨gb352, 0, none⟩ = some (.slice (some ad354) l1_0.length c1_0) ∧ w'.cell? (ad353.add ((x5_1).toNat * 3)) = some (.int .i64 ((rd_T59 l0_0 x5_1).f0)) ∧ w'.cell? ⟨(ad353.add ((x5_1).toNat * 3)).block, (ad353.add ((x5_1).toNat * 3)).off + 1, none⟩ = some (.string ((rd_T59 l0_0 x5_1).f1)) ∧ w'.cell? ⟨(ad353.add ((x5_1).toNat * 3)).block, (ad353.add ((x5_1).toNat * 3)).off + 2, none⟩ = some (.slice A353_2 ((rd_T59 l0_0 x5_1).f2).length c353_2) ∧ w'.cell? (ad354.add ((x5_1).toNat * 3)) = some (.int .i64 ((rd_T59 l1_0 x5_1).f0)) ∧ w'.cell? ⟨(ad354.add ((x5_1).toNat * 3)).block, (ad354.add ((x5_1).toNat * 3)).off + 1, none⟩ = some (.string ((rd_T59 l1_0 x5_1).f1)) ∧ w'.cell? ⟨(ad354.add ((x5_1).toNat * 3)).block, (ad354.add ((x5_1).toNat * 3)).off + 2, none⟩ = some (.slice A354_2 ((rd_T59 l1_0 x5_1).f2).length c354_2)) ∧ (w'.heap[gb351]? = some (.cells #[.slice (some ad353) l0_0.length c0_0] 24 (0, 0))) ∧ (w'.heap[gb352]? = some (.cells #[.slice (some ad354) l1_0.length c1_0] 24 (0, 0))) ∧ (w'.heap[s_.1]? = some (.cells #[.int .i64 0, .string (⟨#[]⟩ : ByteArray), .slice none 0 0] 59 (0, 0))) ∧ (w'.heap[s_.2]? = some (.cells #[.int .i64 0, .string (⟨#[]⟩ : ByteArray), .slice none 0 0] 59 (0, 0))) ∧ (w.heap.size ≤ s_.1) ∧ (w.heap.size ≤ s_.1) ∧ (gb351 ≠ s_.1) ∧ (s_.1 ≠ gb351) ∧ (gb352 ≠ s_.1) ∧ (s_.1 ≠ gb352) ∧ (s_.2 ≠ s_.1) ∧ (s_.1 ≠ s_.2) ∧ (w.heap.size ≤ s_.2) ∧ (w.heap.size ≤ s_.2) ∧ (gb351 ≠ s_.2) ∧ (s_.2 ≠ gb351) ∧ (gb352 ≠ s_.2) ∧ (s_.2 ≠ gb352) ∧ (Below w.heap.size w w')) ?_ ?_
        rotate_left
        ·
         intro hCont
         refine two_ (i := 10) (j := 11) (Ni := some 6) (Nj := some 7) #[true, true, true, true, true, true, true, true, true, true, true, false, false, false] #[true, true, true, true, true, true, true, true, true, true, false, true, false, false] rfl rfl rfl rfl (two_of HT_.out (by kernel_rfl)) (by decide) (by decide) (fun K hK => ?_) (fun K hK => ?_)
         ·
          skip
          refine box_step ?hg (N := 6) ?hd (cs := #[.int .i64 0, .string (⟨#[]⟩ : ByteArray), .slice none 0 0]) (t := 59) ?hr ?_; (case hd => rfl); (case hg => rfl); (case hr => first | (go_simp; done) | (go_simp; rfl))
          intro gb355 hg w76 hbox hb
          have BK355 := Aside0.mk (hbox)
          have GW355 := gw hg bl
          have GE355 := gw hg bl
          replace HB := Aside0.mk (below_step bl hb)
          have NB351_355 := Aside0.mk ((by rw [hg]; exact Nat.ne_of_lt (blk_lt (g := gb351) (o := .cells #[.slice (some ad353) l0_0.length c0_0] 24 (0, 0)) (uB BK351.out)) : gb351 ≠ gb355))
          have NB355_351 := Aside0.mk ((by rw [hg]; exact Nat.ne_of_gt (blk_lt (g := gb351) (o := .cells #[.slice (some ad353) l0_0.length c0_0] 24 (0, 0)) (uB BK351.out)) : gb355 ≠ gb351))
          replace BK351 := cB BK351 hb
          have NB352_355 := Aside0.mk ((by rw [hg]; exact Nat.ne_of_lt (blk_lt (g := gb352) (o := .cells #[.slice (some ad354) l1_0.length c1_0] 24 (0, 0)) (uB BK352.out)) : gb352 ≠ gb355))
          have NB355_352 := Aside0.mk ((by rw [hg]; exact Nat.ne_of_gt (blk_lt (g := gb352) (o := .cells #[.slice (some ad354) l1_0.length c1_0] 24 (0, 0)) (uB BK352.out)) : gb355 ≠ gb352))
          replace BK352 := cB BK352 hb
          clear hb hbox hg
          refine hK.out _ _ ⟨(blk_cell BK351.out 0).trans rfl, (blk_cell BK352.out 0).trans rfl, (kc HB hw353_0), (kc HB hw353_1), (kc HB hw353_2), (kc HB hw354_0), (kc HB hw354_1), (kc HB hw354_2)⟩ (fun hHeld => ?_)
          clear hK K
          refine norm_ (a' := ?_) ?_ ?_
          rotate_left
          ·
           show Act.put _ (some 6) _ = _
           simp only [Act.put, List.setIfInBounds_toArray, List.set_cons_zero, List.set_cons_succ, i64_w, i32_w]
           rfl
          refine o1 11 (some 7) rfl rfl (fun K hK => ?_)
          refine box_step ?hg (N := 7) ?hd (cs := #[.int .i64 0, .string (⟨#[]⟩ : ByteArray), .slice none 0 0]) (t := 59) ?hr ?_; (case hd => rfl); (case hg => rfl); (case hr => first | (go_simp; done) | (go_simp; rfl))
          intro gb356 hg w77 hbox hb
          have BK356 := Aside0.mk (hbox)
          have GW356 := gw hg bl
          have GE356 := gw hg bl
          replace HB := Aside0.mk (below_step bl hb)
          have NB351_356 := Aside0.mk ((by rw [hg]; exact Nat.ne_of_lt (blk_lt (g := gb351) (o := .cells #[.slice (some ad353) l0_0.length c0_0] 24 (0, 0)) (uB BK351.out)) : gb351 ≠ gb356))
          have NB356_351 := Aside0.mk ((by rw [hg]; exact Nat.ne_of_gt (blk_lt (g := gb351) (o := .cells #[.slice (some ad353) l0_0.length c0_0] 24 (0, 0)) (uB BK351.out)) : gb356 ≠ gb351))
          replace BK351 := cB BK351 hb
          have NB352_356 := Aside0.mk ((by rw [hg]; exact Nat.ne_of_lt (blk_lt (g := gb352) (o := .cells #[.slice (some ad354) l1_0.length c1_0] 24 (0, 0)) (uB BK352.out)) : gb352 ≠ gb356))
          have NB356_352 := Aside0.mk ((by rw [hg]; exact Nat.ne_of_gt (blk_lt (g := gb352) (o := .cells #[.slice (some ad354) l1_0.length c1_0] 24 (0, 0)) (uB BK352.out)) : gb356 ≠ gb352))
          replace BK352 := cB BK352 hb
          have NB355_356 := Aside0.mk ((by rw [hg]; exact Nat.ne_of_lt (blk_lt (g := gb355) (o := .cells #[.int .i64 0, .string (⟨#[]⟩ : ByteArray), .slice none 0 0] 59 (0, 0)) (uB BK355.out)) : gb355 ≠ gb356))
          have NB356_355 := Aside0.mk ((by rw [hg]; exact Nat.ne_of_gt (blk_lt (g := gb355) (o := .cells #[.int .i64 0, .string (⟨#[]⟩ : ByteArray), .slice none 0 0] 59 (0, 0)) (uB BK355.out)) : gb356 ≠ gb355))
          replace BK355 := cB BK355 hb
          clear hb hbox hg
          refine hK.out _ _ ⟨(blk_cell BK351.out 0).trans rfl, (blk_cell BK352.out 0).trans rfl, (kc HB hw353_0), (kc HB hw353_1), (kc HB hw353_2), (kc HB hw354_0), (kc HB hw354_1), (kc HB hw354_2)⟩ (fun hHeld => ?_)
          clear hK K
          refine norm_ (a' := ?_) ?_ ?_
          rotate_left
          ·
           show Act.put _ (some 7) _ = _
           simp only [Act.put, List.setIfInBounds_toArray, List.set_cons_zero, List.set_cons_succ, i64_w, i32_w]
           rfl
          exact norm_ (by simp only [putAll, Act.put, List.setIfInBounds_toArray, List.set_cons_zero, List.set_cons_succ]) (hCont (gb355, gb356) _ ⟨hHeld, (uB BK351.out), (uB BK352.out), (uB BK355.out), (uB BK356.out), GW355.out, GE355.out, NB351_355.out, NB355_351.out, NB352_355.out, NB355_352.out, NB356_355.out, NB355_356.out, GW356.out, GE356.out, NB351_356.out, NB356_351.out, NB352_356.out, NB356_352.out, bl⟩)
         ·
          skip
          refine box_step ?hg (N := 7) ?hd (cs := #[.int .i64 0, .string (⟨#[]⟩ : ByteArray), .slice none 0 0]) (t := 59) ?hr ?_; (case hd => rfl); (case hg => rfl); (case hr => first | (go_simp; done) | (go_simp; rfl))
          intro gb356 hg w76 hbox hb
          have BK356 := Aside0.mk (hbox)
          have GW356 := gw hg bl
          have GE356 := gw hg bl
          replace HB := Aside0.mk (below_step bl hb)
          have NB351_356 := Aside0.mk ((by rw [hg]; exact Nat.ne_of_lt (blk_lt (g := gb351) (o := .cells #[.slice (some ad353) l0_0.length c0_0] 24 (0, 0)) (uB BK351.out)) : gb351 ≠ gb356))
          have NB356_351 := Aside0.mk ((by rw [hg]; exact Nat.ne_of_gt (blk_lt (g := gb351) (o := .cells #[.slice (some ad353) l0_0.length c0_0] 24 (0, 0)) (uB BK351.out)) : gb356 ≠ gb351))
          replace BK351 := cB BK351 hb
          have NB352_356 := Aside0.mk ((by rw [hg]; exact Nat.ne_of_lt (blk_lt (g := gb352) (o := .cells #[.slice (some ad354) l1_0.length c1_0] 24 (0, 0)) (uB BK352.out)) : gb352 ≠ gb356))
          have NB356_352 := Aside0.mk ((by rw [hg]; exact Nat.ne_of_gt (blk_lt (g := gb352) (o := .cells #[.slice (some ad354) l1_0.length c1_0] 24 (0, 0)) (uB BK352.out)) : gb356 ≠ gb352))
          replace BK352 := cB BK352 hb
          clear hb hbox hg
          refine hK.out _ _ ⟨(blk_cell BK351.out 0).trans rfl, (blk_cell BK352.out 0).trans rfl, (kc HB hw353_0), (kc HB hw353_1), (kc HB hw353_2), (kc HB hw354_0), (kc HB hw354_1), (kc HB hw354_2)⟩ (fun hHeld => ?_)
          clear hK K
          refine norm_ (a' := ?_) ?_ ?_
          rotate_left
          ·
           show Act.put _ (some 7) _ = _
           simp only [Act.put, List.setIfInBounds_toArray, List.set_cons_zero, List.set_cons_succ, i64_w, i32_w]
           rfl
          refine o1 10 (some 6) rfl rfl (fun K hK => ?_)
          refine box_step ?hg (N := 6) ?hd (cs := #[.int .i64 0, .string (⟨#[]⟩ : ByteArray), .slice none 0 0]) (t := 59) ?hr ?_; (case hd => rfl); (case hg => rfl); (case hr => first | (go_simp; done) | (go_simp; rfl))
          intro gb355 hg w77 hbox hb
          have BK355 := Aside0.mk (hbox)
          have GW355 := gw hg bl
          have GE355 := gw hg bl
          replace HB := Aside0.mk (below_step bl hb)
          have NB351_355 := Aside0.mk ((by rw [hg]; exact Nat.ne_of_lt (blk_lt (g := gb351) (o := .cells #[.slice (some ad353) l0_0.length c0_0] 24 (0, 0)) (uB BK351.out)) : gb351 ≠ gb355))
          have NB355_351 := Aside0.mk ((by rw [hg]; exact Nat.ne_of_gt (blk_lt (g := gb351) (o := .cells #[.slice (some ad353) l0_0.length c0_0] 24 (0, 0)) (uB BK351.out)) : gb355 ≠ gb351))
          replace BK351 := cB BK351 hb
          have NB352_355 := Aside0.mk ((by rw [hg]; exact Nat.ne_of_lt (blk_lt (g := gb352) (o := .cells #[.slice (some ad354) l1_0.length c1_0] 24 (0, 0)) (uB BK352.out)) : gb352 ≠ gb355))
          have NB355_352 := Aside0.mk ((by rw [hg]; exact Nat.ne_of_gt (blk_lt (g := gb352) (o := .cells #[.slice (some ad354) l1_0.length c1_0] 24 (0, 0)) (uB BK352.out)) : gb355 ≠ gb352))
          replace BK352 := cB BK352 hb
          have NB356_355 := Aside0.mk ((by rw [hg]; exact Nat.ne_of_lt (blk_lt (g := gb356) (o := .cells #[.int .i64 0, .string (⟨#[]⟩ : ByteArray), .slice none 0 0] 59 (0, 0)) (uB BK356.out)) : gb356 ≠ gb355))
          have NB355_356 := Aside0.mk ((by rw [hg]; exact Nat.ne_of_gt (blk_lt (g := gb356) (o := .cells #[.int .i64 0, .string (⟨#[]⟩ : ByteArray), .slice none 0 0] 59 (0, 0)) (uB BK356.out)) : gb355 ≠ gb356))
          replace BK356 := cB BK356 hb
          clear hb hbox hg
          refine hK.out _ _ ⟨(blk_cell BK351.out 0).trans rfl, (blk_cell BK352.out 0).trans rfl, (kc HB hw353_0), (kc HB hw353_1), (kc HB hw353_2), (kc HB hw354_0), (kc HB hw354_1), (kc HB hw354_2)⟩ (fun hHeld => ?_)
          clear hK K
          refine norm_ (a' := ?_) ?_ ?_
          rotate_left
          ·
           show Act.put _ (some 6) _ = _
           simp only [Act.put, List.setIfInBounds_toArray, List.set_cons_zero, List.set_cons_succ, i64_w, i32_w]
           rfl
          exact norm_ (by simp only [putAll, Act.put, List.setIfInBounds_toArray, List.set_cons_zero, List.set_cons_succ]) (hCont (gb355, gb356) _ ⟨hHeld, (uB BK351.out), (uB BK352.out), (uB BK355.out), (uB BK356.out), GW355.out, GE355.out, NB351_355.out, NB355_351.out, NB352_355.out, NB355_352.out, NB356_355.out, NB355_356.out, GW356.out, GE356.out, NB351_356.out, NB356_351.out, NB352_356.out, NB356_352.out, bl⟩)
        rintro ⟨gb355, gb356⟩ w78 ⟨hS_, h0_, h1_, h2_, h3_, h4_, h5_, h6_, h7_, h8_, h9_, h10_, h11_, h12_, h13_, h14_, h15_, h16_, h17_, h18_⟩
        have n0_ : Aside0 (w78.heap[gb351]? = some (.cells #[.slice (some ad353) l0_0.length c0_0] 24 (0, 0))) := ⟨h0_⟩
        have n1_ : Aside0 (w78.heap[gb352]? = some (.cells #[.slice (some ad354) l1_0.length c1_0] 24 (0, 0))) := ⟨h1_⟩
        have n2_ : Aside0 (w78.heap[gb355]? = some (.cells #[.int .i64 0, .string (⟨#[]⟩ : ByteArray), .slice none 0 0] 59 (0, 0))) := ⟨h2_⟩
        have n3_ : Aside0 (w78.heap[gb356]? = some (.cells #[.int .i64 0, .string (⟨#[]⟩ : ByteArray), .slice none 0 0] 59 (0, 0))) := ⟨h3_⟩
        have n4_ : Aside0 (w.heap.size ≤ gb355) := ⟨h4_⟩
        have n5_ : Aside0 (w.heap.size ≤ gb355) := ⟨h5_⟩
        have n6_ : Aside0 (gb351 ≠ gb355) := ⟨h6_⟩
        have n7_ : Aside0 (gb355 ≠ gb351) := ⟨h7_⟩
        have n8_ : Aside0 (gb352 ≠ gb355) := ⟨h8_⟩
        have n9_ : Aside0 (gb355 ≠ gb352) := ⟨h9_⟩
        have n10_ : Aside0 (gb356 ≠ gb355) := ⟨h10_⟩
        have n11_ : Aside0 (gb355 ≠ gb356) := ⟨h11_⟩
        have n12_ : Aside0 (w.heap.size ≤ gb356) := ⟨h12_⟩
        have n13_ : Aside0 (w.heap.size ≤ gb356) := ⟨h13_⟩
        have n14_ : Aside0 (gb351 ≠ gb356) := ⟨h14_⟩
        have n15_ : Aside0 (gb356 ≠ gb351) := ⟨h15_⟩
        have n16_ : Aside0 (gb352 ≠ gb356) := ⟨h16_⟩
        have n17_ : Aside0 (gb356 ≠ gb352) := ⟨h17_⟩
        have n18_ : Aside0 (Below w.heap.size w w78) := ⟨h18_⟩
        clear BK351
        clear BK352
        clear HB
        clear h0_ h1_ h2_ h3_ h4_ h5_ h6_ h7_ h8_ h9_ h10_ h11_ h12_ h13_ h14_ h15_ h16_ h17_ h18_
        have BK351 := n0_
        have BK352 := n1_
        have BK355 := n2_
        have BK356 := n3_
        have GW355 := n4_
        have GE355 := n5_
        have NB351_355 := n6_
        have NB355_351 := n7_
        have NB352_355 := n8_
        have NB355_352 := n9_
        have NB356_355 := n10_
        have NB355_356 := n11_
        have GW356 := n12_
        have GE356 := n13_
        have NB351_356 := n14_
        have NB356_351 := n15_
        have NB352_356 := n16_
        have NB356_352 := n17_
        have HB := n18_
        clear n0_ n1_ n2_ n3_ n4_ n5_ n6_ n7_ n8_ n9_ n10_ n11_ n12_ n13_ n14_ n15_ n16_ n17_ n18_
        have hHeld : w78.cell? ⟨gb351, 0, none⟩ = some (.slice (some ad353) l0_0.length c0_0) ∧ w78.cell? ⟨gb352, 0, none⟩ = some (.slice (some ad354) l1_0.length c1_0) ∧ w78.cell? (ad353.add ((x5_1).toNat * 3)) = some (.int .i64 ((rd_T59 l0_0 x5_1).f0)) ∧ w78.cell? ⟨(ad353.add ((x5_1).toNat * 3)).block, (ad353.add ((x5_1).toNat * 3)).off + 1, none⟩ = some (.string ((rd_T59 l0_0 x5_1).f1)) ∧ w78.cell? ⟨(ad353.add ((x5_1).toNat * 3)).block, (ad353.add ((x5_1).toNat * 3)).off + 2, none⟩ = some (.slice A353_2 ((rd_T59 l0_0 x5_1).f2).length c353_2) ∧ w78.cell? (ad354.add ((x5_1).toNat * 3)) = some (.int .i64 ((rd_T59 l1_0 x5_1).f0)) ∧ w78.cell? ⟨(ad354.add ((x5_1).toNat * 3)).block, (ad354.add ((x5_1).toNat * 3)).off + 1, none⟩ = some (.string ((rd_T59 l1_0 x5_1).f1)) ∧ w78.cell? ⟨(ad354.add ((x5_1).toNat * 3)).block, (ad354.add ((x5_1).toNat * 3)).off + 2, none⟩ = some (.slice A354_2 ((rd_T59 l1_0 x5_1).f2).length c354_2) := hS_
        refine norm_ (a' := ?_) ?_ ?_
        rotate_left
        ·
         simp only [putAll, Act.put, List.setIfInBounds_toArray, List.set_cons_zero, List.set_cons_succ]
         rfl
        refine o1 12 none rfl rfl (fun K hK => ?_)
        have hs79 : w78.cell? ⟨gb355, 0, none⟩ = some (.int .i64 0) := (blk_cell BK355.out 0).trans rfl
        have hfs79 := blk_frozen BK355.out 0
        have hns79_0 := NB351_355.out
        have hns79_1 := NB352_355.out
        have hns79_3 := NB356_355.out
        have hms79_0 := NB355_351.out
        have hms79_1 := NB355_352.out
        have hms79_3 := NB355_356.out
        have hs80 : w78.cell? ⟨gb355, 1, none⟩ = some (.string (⟨#[]⟩ : ByteArray)) := (blk_cell BK355.out 1).trans rfl
        have hfs80 := blk_frozen BK355.out 1
        have hns80_0 := NB351_355.out
        have hns80_1 := NB352_355.out
        have hns80_3 := NB356_355.out
        have hms80_0 := NB355_351.out
        have hms80_1 := NB355_352.out
        have hms80_3 := NB355_356.out
        have hs81 : w78.cell? ⟨gb355, 2, none⟩ = some (.slice none 0 0) := (blk_cell BK355.out 2).trans rfl
        have hfs81 := blk_frozen BK355.out 2
        have hns81_0 := NB351_355.out
        have hns81_1 := NB352_355.out
        have hns81_3 := NB356_355.out
        have hms81_0 := NB355_351.out
        have hms81_1 := NB355_352.out
        have hms81_3 := NB355_356.out
        refine skip_ (w1 := ?_) (by rfl) rfl ?_ ?_
        rotate_left
        ·
         go_simp
         rfl
        refine hK.out _ _ ⟨((cell_far (p := ⟨gb355, _, none⟩) NB351_355.out _).trans (((cell_far (p := ⟨gb355, _, none⟩) NB351_355.out _).trans (((cell_far (p := ⟨gb355, _, none⟩) NB351_355.out _).trans (hHeld.1)))))), ((cell_far (p := ⟨gb355, _, none⟩) NB352_355.out _).trans (((cell_far (p := ⟨gb355, _, none⟩) NB352_355.out _).trans (((cell_far (p := ⟨gb355, _, none⟩) NB352_355.out _).trans (hHeld.2.1)))))), ((cell_far (p := ⟨gb355, _, none⟩) (by first | exact Nat.ne_of_lt (Nat.lt_of_lt_of_le (by have := World.block_lt_of_cell? _ _ hw353_0; first | rwa [add_block] at this | exact this) GW355.out) | (rw [add_block]; exact Nat.ne_of_lt (Nat.lt_of_lt_of_le (by have := World.block_lt_of_cell? _ _ hw353_0; first | rwa [add_block] at this | exact this) GW355.out)) | (show (Addr.add _ _).block ≠ _; rw [add_block]; exact Nat.ne_of_lt (Nat.lt_of_lt_of_le (by have := World.block_lt_of_cell? _ _ hw353_0; first | rwa [add_block] at this | exact this) GW355.out)) | (dsimp only; exact Nat.ne_of_lt (Nat.lt_of_lt_of_le (by have := World.block_lt_of_cell? _ _ hw353_0; first | rwa [add_block] at this | exact this) GW355.out))) _).trans (((cell_far (p := ⟨gb355, _, none⟩) (by first | exact Nat.ne_of_lt (Nat.lt_of_lt_of_le (by have := World.block_lt_of_cell? _ _ hw353_0; first | rwa [add_block] at this | exact this) GW355.out) | (rw [add_block]; exact Nat.ne_of_lt (Nat.lt_of_lt_of_le (by have := World.block_lt_of_cell? _ _ hw353_0; first | rwa [add_block] at this | exact this) GW355.out)) | (show (Addr.add _ _).block ≠ _; rw [add_block]; exact Nat.ne_of_lt (Nat.lt_of_lt_of_le (by have := World.block_lt_of_cell? _ _ hw353_0; first | rwa [add_block] at this | exact this) GW355.out)) | (dsimp only; exact Nat.ne_of_lt (Nat.lt_of_lt_of_le (by have := World.block_lt_of_cell? _ _ hw353_0; first | rwa [add_block] at this | exact this) GW355.out))) _).trans (((cell_far (p := ⟨gb355, _, none⟩) (by first | exact Nat.ne_of_lt (Nat.lt_of_lt_of_le (by have := World.block_lt_of_cell? _ _ hw353_0; first | rwa [add_block] at this | exact this) GW355.out) | (rw [add_block]; exact Nat.ne_of_lt (Nat.lt_of_lt_of_le (by have := World.block_lt_of_cell? _ _ hw353_0; first | rwa [add_block] at this | exact this) GW355.out)) | (show (Addr.add _ _).block ≠ _; rw [add_block]; exact Nat.ne_of_lt (Nat.lt_of_lt_of_le (by have := World.block_lt_of_cell? _ _ hw353_0; first | rwa [add_block] at this | exact this) GW355.out)) | (dsimp only; exact Nat.ne_of_lt (Nat.lt_of_lt_of_le (by have := World.block_lt_of_cell? _ _ hw353_0; first | rwa [add_block] at this | exact this) GW355.out))) _).trans (hHeld.2.2.1)))))), ((cell_far (p := ⟨gb355, _, none⟩) (by first | exact Nat.ne_of_lt (Nat.lt_of_lt_of_le (by have := World.block_lt_of_cell? _ _ hw353_1; first | rwa [add_block] at this | exact this) GW355.out) | (rw [add_block]; exact Nat.ne_of_lt (Nat.lt_of_lt_of_le (by have := World.block_lt_of_cell? _ _ hw353_1; first | rwa [add_block] at this | exact this) GW355.out)) | (show (Addr.add _ _).block ≠ _; rw [add_block]; exact Nat.ne_of_lt (Nat.lt_of_lt_of_le (by have := World.block_lt_of_cell? _ _ hw353_1; first | rwa [add_block] at this | exact this) GW355.out)) | (dsimp only; exact Nat.ne_of_lt (Nat.lt_of_lt_of_le (by have := World.block_lt_of_cell? _ _ hw353_1; first | rwa [add_block] at this | exact this) GW355.out))) _).trans (((cell_far (p := ⟨gb355, _, none⟩) (by first | exact Nat.ne_of_lt (Nat.lt_of_lt_of_le (by have := World.block_lt_of_cell? _ _ hw353_1; first | rwa [add_block] at this | exact this) GW355.out) | (rw [add_block]; exact Nat.ne_of_lt (Nat.lt_of_lt_of_le (by have := World.block_lt_of_cell? _ _ hw353_1; first | rwa [add_block] at this | exact this) GW355.out)) | (show (Addr.add _ _).block ≠ _; rw [add_block]; exact Nat.ne_of_lt (Nat.lt_of_lt_of_le (by have := World.block_lt_of_cell? _ _ hw353_1; first | rwa [add_block] at this | exact this) GW355.out)) | (dsimp only; exact Nat.ne_of_lt (Nat.lt_of_lt_of_le (by have := World.block_lt_of_cell? _ _ hw353_1; first | rwa [add_block] at this | exact this) GW355.out))) _).trans (((cell_far (p := ⟨gb355, _, none⟩) (by first | exact Nat.ne_of_lt (Nat.lt_of_lt_of_le (by have := World.block_lt_of_cell? _ _ hw353_1; first | rwa [add_block] at this | exact this) GW355.out) | (rw [add_block]; exact Nat.ne_of_lt (Nat.lt_of_lt_of_le (by have := World.block_lt_of_cell? _ _ hw353_1; first | rwa [add_block] at this | exact this) GW355.out)) | (show (Addr.add _ _).block ≠ _; rw [add_block]; exact Nat.ne_of_lt (Nat.lt_of_lt_of_le (by have := World.block_lt_of_cell? _ _ hw353_1; first | rwa [add_block] at this | exact this) GW355.out)) | (dsimp only; exact Nat.ne_of_lt (Nat.lt_of_lt_of_le (by have := World.block_lt_of_cell? _ _ hw353_1; first | rwa [add_block] at this | exact this) GW355.out))) _).trans (hHeld.2.2.2.1)))))), ((cell_far (p := ⟨gb355, _, none⟩) (by first | exact Nat.ne_of_lt (Nat.lt_of_lt_of_le (by have := World.block_lt_of_cell? _ _ hw353_2; first | rwa [add_block] at this | exact this) GW355.out) | (rw [add_block]; exact Nat.ne_of_lt (Nat.lt_of_lt_of_le (by have := World.block_lt_of_cell? _ _ hw353_2; first | rwa [add_block] at this | exact this) GW355.out)) | (show (Addr.add _ _).block ≠ _; rw [add_block]; exact Nat.ne_of_lt (Nat.lt_of_lt_of_le (by have := World.block_lt_of_cell? _ _ hw353_2; first | rwa [add_block] at this | exact this) GW355.out)) | (dsimp only; exact Nat.ne_of_lt (Nat.lt_of_lt_of_le (by have := World.block_lt_of_cell? _ _ hw353_2; first | rwa [add_block] at this | exact this) GW355.out))) _).trans (((cell_far (p := ⟨gb355, _, none⟩) (by first | exact Nat.ne_of_lt (Nat.lt_of_lt_of_le (by have := World.block_lt_of_cell? _ _ hw353_2; first | rwa [add_block] at this | exact this) GW355.out) | (rw [add_block]; exact Nat.ne_of_lt (Nat.lt_of_lt_of_le (by have := World.block_lt_of_cell? _ _ hw353_2; first | rwa [add_block] at this | exact this) GW355.out)) | (show (Addr.add _ _).block ≠ _; rw [add_block]; exact Nat.ne_of_lt (Nat.lt_of_lt_of_le (by have := World.block_lt_of_cell? _ _ hw353_2; first | rwa [add_block] at this | exact this) GW355.out)) | (dsimp only; exact Nat.ne_of_lt (Nat.lt_of_lt_of_le (by have := World.block_lt_of_cell? _ _ hw353_2; first | rwa [add_block] at this | exact this) GW355.out))) _).trans (((cell_far (p := ⟨gb355, _, none⟩) (by first | exact Nat.ne_of_lt (Nat.lt_of_lt_of_le (by have := World.block_lt_of_cell? _ _ hw353_2; first | rwa [add_block] at this | exact this) GW355.out) | (rw [add_block]; exact Nat.ne_of_lt (Nat.lt_of_lt_of_le (by have := World.block_lt_of_cell? _ _ hw353_2; first | rwa [add_block] at this | exact this) GW355.out)) | (show (Addr.add _ _).block ≠ _; rw [add_block]; exact Nat.ne_of_lt (Nat.lt_of_lt_of_le (by have := World.block_lt_of_cell? _ _ hw353_2; first | rwa [add_block] at this | exact this) GW355.out)) | (dsimp only; exact Nat.ne_of_lt (Nat.lt_of_lt_of_le (by have := World.block_lt_of_cell? _ _ hw353_2; first | rwa [add_block] at this | exact this) GW355.out))) _).trans (hHeld.2.2.2.2.1)))))), ((cell_far (p := ⟨gb355, _, none⟩) (by first | exact Nat.ne_of_lt (Nat.lt_of_lt_of_le (by have := World.block_lt_of_cell? _ _ hw354_0; first | rwa [add_block] at this | exact this) GW355.out) | (rw [add_block]; exact Nat.ne_of_lt (Nat.lt_of_lt_of_le (by have := World.block_lt_of_cell? _ _ hw354_0; first | rwa [add_block] at this | exact this) GW355.out)) | (show (Addr.add _ _).block ≠ _; rw [add_block]; exact Nat.ne_of_lt (Nat.lt_of_lt_of_le (by have := World.block_lt_of_cell? _ _ hw354_0; first | rwa [add_block] at this | exact this) GW355.out)) | (dsimp only; exact Nat.ne_of_lt (Nat.lt_of_lt_of_le (by have := World.block_lt_of_cell? _ _ hw354_0; first | rwa [add_block] at this | exact this) GW355.out))) _).trans (((cell_far (p := ⟨gb355, _, none⟩) (by first | exact Nat.ne_of_lt (Nat.lt_of_lt_of_le (by have := World.block_lt_of_cell? _ _ hw354_0; first | rwa [add_block] at this | exact this) GW355.out) | (rw [add_block]; exact Nat.ne_of_lt (Nat.lt_of_lt_of_le (by have := World.block_lt_of_cell? _ _ hw354_0; first | rwa [add_block] at this | exact this) GW355.out)) | (show (Addr.add _ _).block ≠ _; rw [add_block]; exact Nat.ne_of_lt (Nat.lt_of_lt_of_le (by have := World.block_lt_of_cell? _ _ hw354_0; first | rwa [add_block] at this | exact this) GW355.out)) | (dsimp only; exact Nat.ne_of_lt (Nat.lt_of_lt_of_le (by have := World.block_lt_of_cell? _ _ hw354_0; first | rwa [add_block] at this | exact this) GW355.out))) _).trans (((cell_far (p := ⟨gb355, _, none⟩) (by first | exact Nat.ne_of_lt (Nat.lt_of_lt_of_le (by have := World.block_lt_of_cell? _ _ hw354_0; first | rwa [add_block] at this | exact this) GW355.out) | (rw [add_block]; exact Nat.ne_of_lt (Nat.lt_of_lt_of_le (by have := World.block_lt_of_cell? _ _ hw354_0; first | rwa [add_block] at this | exact this) GW355.out)) | (show (Addr.add _ _).block ≠ _; rw [add_block]; exact Nat.ne_of_lt (Nat.lt_of_lt_of_le (by have := World.block_lt_of_cell? _ _ hw354_0; first | rwa [add_block] at this | exact this) GW355.out)) | (dsimp only; exact Nat.ne_of_lt (Nat.lt_of_lt_of_le (by have := World.block_lt_of_cell? _ _ hw354_0; first | rwa [add_block] at this | exact this) GW355.out))) _).trans (hHeld.2.2.2.2.2.1)))))), ((cell_far (p := ⟨gb355, _, none⟩) (by first | exact Nat.ne_of_lt (Nat.lt_of_lt_of_le (by have := World.block_lt_of_cell? _ _ hw354_1; first | rwa [add_block] at this | exact this) GW355.out) | (rw [add_block]; exact Nat.ne_of_lt (Nat.lt_of_lt_of_le (by have := World.block_lt_of_cell? _ _ hw354_1; first | rwa [add_block] at this | exact this) GW355.out)) | (show (Addr.add _ _).block ≠ _; rw [add_block]; exact Nat.ne_of_lt (Nat.lt_of_lt_of_le (by have := World.block_lt_of_cell? _ _ hw354_1; first | rwa [add_block] at this | exact this) GW355.out)) | (dsimp only; exact Nat.ne_of_lt (Nat.lt_of_lt_of_le (by have := World.block_lt_of_cell? _ _ hw354_1; first | rwa [add_block] at this | exact this) GW355.out))) _).trans (((cell_far (p := ⟨gb355, _, none⟩) (by first | exact Nat.ne_of_lt (Nat.lt_of_lt_of_le (by have := World.block_lt_of_cell? _ _ hw354_1; first | rwa [add_block] at this | exact this) GW355.out) | (rw [add_block]; exact Nat.ne_of_lt (Nat.lt_of_lt_of_le (by have := World.block_lt_of_cell? _ _ hw354_1; first | rwa [add_block] at this | exact this) GW355.out)) | (show (Addr.add _ _).block ≠ _; rw [add_block]; exact Nat.ne_of_lt (Nat.lt_of_lt_of_le (by have := World.block_lt_of_cell? _ _ hw354_1; first | rwa [add_block] at this | exact this) GW355.out)) | (dsimp only; exact Nat.ne_of_lt (Nat.lt_of_lt_of_le (by have := World.block_lt_of_cell? _ _ hw354_1; first | rwa [add_block] at this | exact this) GW355.out))) _).trans (((cell_far (p := ⟨gb355, _, none⟩) (by first | exact Nat.ne_of_lt (Nat.lt_of_lt_of_le (by have := World.block_lt_of_cell? _ _ hw354_1; first | rwa [add_block] at this | exact this) GW355.out) | (rw [add_block]; exact Nat.ne_of_lt (Nat.lt_of_lt_of_le (by have := World.block_lt_of_cell? _ _ hw354_1; first | rwa [add_block] at this | exact this) GW355.out)) | (show (Addr.add _ _).block ≠ _; rw [add_block]; exact Nat.ne_of_lt (Nat.lt_of_lt_of_le (by have := World.block_lt_of_cell? _ _ hw354_1; first | rwa [add_block] at this | exact this) GW355.out)) | (dsimp only; exact Nat.ne_of_lt (Nat.lt_of_lt_of_le (by have := World.block_lt_of_cell? _ _ hw354_1; first | rwa [add_block] at this | exact this) GW355.out))) _).trans (hHeld.2.2.2.2.2.2.1)))))), ((cell_far (p := ⟨gb355, _, none⟩) (by first | exact Nat.ne_of_lt (Nat.lt_of_lt_of_le (by have := World.block_lt_of_cell? _ _ hw354_2; first | rwa [add_block] at this | exact this) GW355.out) | (rw [add_block]; exact Nat.ne_of_lt (Nat.lt_of_lt_of_le (by have := World.block_lt_of_cell? _ _ hw354_2; first | rwa [add_block] at this | exact this) GW355.out)) | (show (Addr.add _ _).block ≠ _; rw [add_block]; exact Nat.ne_of_lt (Nat.lt_of_lt_of_le (by have := World.block_lt_of_cell? _ _ hw354_2; first | rwa [add_block] at this | exact this) GW355.out)) | (dsimp only; exact Nat.ne_of_lt (Nat.lt_of_lt_of_le (by have := World.block_lt_of_cell? _ _ hw354_2; first | rwa [add_block] at this | exact this) GW355.out))) _).trans (((cell_far (p := ⟨gb355, _, none⟩) (by first | exact Nat.ne_of_lt (Nat.lt_of_lt_of_le (by have := World.block_lt_of_cell? _ _ hw354_2; first | rwa [add_block] at this | exact this) GW355.out) | (rw [add_block]; exact Nat.ne_of_lt (Nat.lt_of_lt_of_le (by have := World.block_lt_of_cell? _ _ hw354_2; first | rwa [add_block] at this | exact this) GW355.out)) | (show (Addr.add _ _).block ≠ _; rw [add_block]; exact Nat.ne_of_lt (Nat.lt_of_lt_of_le (by have := World.block_lt_of_cell? _ _ hw354_2; first | rwa [add_block] at this | exact this) GW355.out)) | (dsimp only; exact Nat.ne_of_lt (Nat.lt_of_lt_of_le (by have := World.block_lt_of_cell? _ _ hw354_2; first | rwa [add_block] at this | exact this) GW355.out))) _).trans (((cell_far (p := ⟨gb355, _, none⟩) (by first | exact Nat.ne_of_lt (Nat.lt_of_lt_of_le (by have := World.block_lt_of_cell? _ _ hw354_2; first | rwa [add_block] at this | exact this) GW355.out) | (rw [add_block]; exact Nat.ne_of_lt (Nat.lt_of_lt_of_le (by have := World.block_lt_of_cell? _ _ hw354_2; first | rwa [add_block] at this | exact this) GW355.out)) | (show (Addr.add _ _).block ≠ _; rw [add_block]; exact Nat.ne_of_lt (Nat.lt_of_lt_of_le (by have := World.block_lt_of_cell? _ _ hw354_2; first | rwa [add_block] at this | exact this) GW355.out)) | (dsimp only; exact Nat.ne_of_lt (Nat.lt_of_lt_of_le (by have := World.block_lt_of_cell? _ _ hw354_2; first | rwa [add_block] at this | exact this) GW355.out))) _).trans (hHeld.2.2.2.2.2.2.2))))))⟩ (fun hHeld => ?_)
        clear hK K
        refine o1 13 none rfl rfl (fun K hK => ?_)
        have hs82 : w78.cell? ⟨gb356, 0, none⟩ = some (.int .i64 0) := (blk_cell BK356.out 0).trans rfl
        have hfs82 := blk_frozen BK356.out 0
        have hns82_0 := NB351_356.out
        have hns82_1 := NB352_356.out
        have hns82_2 := NB355_356.out
        have hms82_0 := NB356_351.out
        have hms82_1 := NB356_352.out
        have hms82_2 := NB356_355.out
        have hs83 : w78.cell? ⟨gb356, 1, none⟩ = some (.string (⟨#[]⟩ : ByteArray)) := (blk_cell BK356.out 1).trans rfl
        have hfs83 := blk_frozen BK356.out 1
        have hns83_0 := NB351_356.out
        have hns83_1 := NB352_356.out
        have hns83_2 := NB355_356.out
        have hms83_0 := NB356_351.out
        have hms83_1 := NB356_352.out
        have hms83_2 := NB356_355.out
        have hs84 : w78.cell? ⟨gb356, 2, none⟩ = some (.slice none 0 0) := (blk_cell BK356.out 2).trans rfl
        have hfs84 := blk_frozen BK356.out 2
        have hns84_0 := NB351_356.out
        have hns84_1 := NB352_356.out
        have hns84_2 := NB355_356.out
        have hms84_0 := NB356_351.out
        have hms84_1 := NB356_352.out
        have hms84_2 := NB356_355.out
        refine skip_ (w1 := ?_) (by rfl) rfl ?_ ?_
        rotate_left
        ·
         go_simp
         rfl
        refine hK.out _ _ ⟨((cell_far (p := ⟨gb356, _, none⟩) NB351_356.out _).trans (((cell_far (p := ⟨gb356, _, none⟩) NB351_356.out _).trans (((cell_far (p := ⟨gb356, _, none⟩) NB351_356.out _).trans (hHeld.1)))))), ((cell_far (p := ⟨gb356, _, none⟩) NB352_356.out _).trans (((cell_far (p := ⟨gb356, _, none⟩) NB352_356.out _).trans (((cell_far (p := ⟨gb356, _, none⟩) NB352_356.out _).trans (hHeld.2.1)))))), ((cell_far (p := ⟨gb356, _, none⟩) (by first | exact Nat.ne_of_lt (Nat.lt_of_lt_of_le (by have := World.block_lt_of_cell? _ _ hw353_0; first | rwa [add_block] at this | exact this) GW356.out) | (rw [add_block]; exact Nat.ne_of_lt (Nat.lt_of_lt_of_le (by have := World.block_lt_of_cell? _ _ hw353_0; first | rwa [add_block] at this | exact this) GW356.out)) | (show (Addr.add _ _).block ≠ _; rw [add_block]; exact Nat.ne_of_lt (Nat.lt_of_lt_of_le (by have := World.block_lt_of_cell? _ _ hw353_0; first | rwa [add_block] at this | exact this) GW356.out)) | (dsimp only; exact Nat.ne_of_lt (Nat.lt_of_lt_of_le (by have := World.block_lt_of_cell? _ _ hw353_0; first | rwa [add_block] at this | exact this) GW356.out))) _).trans (((cell_far (p := ⟨gb356, _, none⟩) (by first | exact Nat.ne_of_lt (Nat.lt_of_lt_of_le (by have := World.block_lt_of_cell? _ _ hw353_0; first | rwa [add_block] at this | exact this) GW356.out) | (rw [add_block]; exact Nat.ne_of_lt (Nat.lt_of_lt_of_le (by have := World.block_lt_of_cell? _ _ hw353_0; first | rwa [add_block] at this | exact this) GW356.out)) | (show (Addr.add _ _).block ≠ _; rw [add_block]; exact Nat.ne_of_lt (Nat.lt_of_lt_of_le (by have := World.block_lt_of_cell? _ _ hw353_0; first | rwa [add_block] at this | exact this) GW356.out)) | (dsimp only; exact Nat.ne_of_lt (Nat.lt_of_lt_of_le (by have := World.block_lt_of_cell? _ _ hw353_0; first | rwa [add_block] at this | exact this) GW356.out))) _).trans (((cell_far (p := ⟨gb356, _, none⟩) (by first | exact Nat.ne_of_lt (Nat.lt_of_lt_of_le (by have := World.block_lt_of_cell? _ _ hw353_0; first | rwa [add_block] at this | exact this) GW356.out) | (rw [add_block]; exact Nat.ne_of_lt (Nat.lt_of_lt_of_le (by have := World.block_lt_of_cell? _ _ hw353_0; first | rwa [add_block] at this | exact this) GW356.out)) | (show (Addr.add _ _).block ≠ _; rw [add_block]; exact Nat.ne_of_lt (Nat.lt_of_lt_of_le (by have := World.block_lt_of_cell? _ _ hw353_0; first | rwa [add_block] at this | exact this) GW356.out)) | (dsimp only; exact Nat.ne_of_lt (Nat.lt_of_lt_of_le (by have := World.block_lt_of_cell? _ _ hw353_0; first | rwa [add_block] at this | exact this) GW356.out))) _).trans (hHeld.2.2.1)))))), ((cell_far (p := ⟨gb356, _, none⟩) (by first | exact Nat.ne_of_lt (Nat.lt_of_lt_of_le (by have := World.block_lt_of_cell? _ _ hw353_1; first | rwa [add_block] at this | exact this) GW356.out) | (rw [add_block]; exact Nat.ne_of_lt (Nat.lt_of_lt_of_le (by have := World.block_lt_of_cell? _ _ hw353_1; first | rwa [add_block] at this | exact this) GW356.out)) | (show (Addr.add _ _).block ≠ _; rw [add_block]; exact Nat.ne_of_lt (Nat.lt_of_lt_of_le (by have := World.block_lt_of_cell? _ _ hw353_1; first | rwa [add_block] at this | exact this) GW356.out)) | (dsimp only; exact Nat.ne_of_lt (Nat.lt_of_lt_of_le (by have := World.block_lt_of_cell? _ _ hw353_1; first | rwa [add_block] at this | exact this) GW356.out))) _).trans (((cell_far (p := ⟨gb356, _, none⟩) (by first | exact Nat.ne_of_lt (Nat.lt_of_lt_of_le (by have := World.block_lt_of_cell? _ _ hw353_1; first | rwa [add_block] at this | exact this) GW356.out) | (rw [add_block]; exact Nat.ne_of_lt (Nat.lt_of_lt_of_le (by have := World.block_lt_of_cell? _ _ hw353_1; first | rwa [add_block] at this | exact this) GW356.out)) | (show (Addr.add _ _).block ≠ _; rw [add_block]; exact Nat.ne_of_lt (Nat.lt_of_lt_of_le (by have := World.block_lt_of_cell? _ _ hw353_1; first | rwa [add_block] at this | exact this) GW356.out)) | (dsimp only; exact Nat.ne_of_lt (Nat.lt_of_lt_of_le (by have := World.block_lt_of_cell? _ _ hw353_1; first | rwa [add_block] at this | exact this) GW356.out))) _).trans (((cell_far (p := ⟨gb356, _, none⟩) (by first | exact Nat.ne_of_lt (Nat.lt_of_lt_of_le (by have := World.block_lt_of_cell? _ _ hw353_1; first | rwa [add_block] at this | exact this) GW356.out) | (rw [add_block]; exact Nat.ne_of_lt (Nat.lt_of_lt_of_le (by have := World.block_lt_of_cell? _ _ hw353_1; first | rwa [add_block] at this | exact this) GW356.out)) | (show (Addr.add _ _).block ≠ _; rw [add_block]; exact Nat.ne_of_lt (Nat.lt_of_lt_of_le (by have := World.block_lt_of_cell? _ _ hw353_1; first | rwa [add_block] at this | exact this) GW356.out)) | (dsimp only; exact Nat.ne_of_lt (Nat.lt_of_lt_of_le (by have := World.block_lt_of_cell? _ _ hw353_1; first | rwa [add_block] at this | exact this) GW356.out))) _).trans (hHeld.2.2.2.1)))))), ((cell_far (p := ⟨gb356, _, none⟩) (by first | exact Nat.ne_of_lt (Nat.lt_of_lt_of_le (by have := World.block_lt_of_cell? _ _ hw353_2; first | rwa [add_block] at this | exact this) GW356.out) | (rw [add_block]; exact Nat.ne_of_lt (Nat.lt_of_lt_of_le (by have := World.block_lt_of_cell? _ _ hw353_2; first | rwa [add_block] at this | exact this) GW356.out)) | (show (Addr.add _ _).block ≠ _; rw [add_block]; exact Nat.ne_of_lt (Nat.lt_of_lt_of_le (by have := World.block_lt_of_cell? _ _ hw353_2; first | rwa [add_block] at this | exact this) GW356.out)) | (dsimp only; exact Nat.ne_of_lt (Nat.lt_of_lt_of_le (by have := World.block_lt_of_cell? _ _ hw353_2; first | rwa [add_block] at this | exact this) GW356.out))) _).trans (((cell_far (p := ⟨gb356, _, none⟩) (by first | exact Nat.ne_of_lt (Nat.lt_of_lt_of_le (by have := World.block_lt_of_cell? _ _ hw353_2; first | rwa [add_block] at this | exact this) GW356.out) | (rw [add_block]; exact Nat.ne_of_lt (Nat.lt_of_lt_of_le (by have := World.block_lt_of_cell? _ _ hw353_2; first | rwa [add_block] at this | exact this) GW356.out)) | (show (Addr.add _ _).block ≠ _; rw [add_block]; exact Nat.ne_of_lt (Nat.lt_of_lt_of_le (by have := World.block_lt_of_cell? _ _ hw353_2; first | rwa [add_block] at this | exact this) GW356.out)) | (dsimp only; exact Nat.ne_of_lt (Nat.lt_of_lt_of_le (by have := World.block_lt_of_cell? _ _ hw353_2; first | rwa [add_block] at this | exact this) GW356.out))) _).trans (((cell_far (p := ⟨gb356, _, none⟩) (by first | exact Nat.ne_of_lt (Nat.lt_of_lt_of_le (by have := World.block_lt_of_cell? _ _ hw353_2; first | rwa [add_block] at this | exact this) GW356.out) | (rw [add_block]; exact Nat.ne_of_lt (Nat.lt_of_lt_of_le (by have := World.block_lt_of_cell? _ _ hw353_2; first | rwa [add_block] at this | exact this) GW356.out)) | (show (Addr.add _ _).block ≠ _; rw [add_block]; exact Nat.ne_of_lt (Nat.lt_of_lt_of_le (by have := World.block_lt_of_cell? _ _ hw353_2; first | rwa [add_block] at this | exact this) GW356.out)) | (dsimp only; exact Nat.ne_of_lt (Nat.lt_of_lt_of_le (by have := World.block_lt_of_cell? _ _ hw353_2; first | rwa [add_block] at this | exact this) GW356.out))) _).trans (hHeld.2.2.2.2.1)))))), ((cell_far (p := ⟨gb356, _, none⟩) (by first | exact Nat.ne_of_lt (Nat.lt_of_lt_of_le (by have := World.block_lt_of_cell? _ _ hw354_0; first | rwa [add_block] at this | exact this) GW356.out) | (rw [add_block]; exact Nat.ne_of_lt (Nat.lt_of_lt_of_le (by have := World.block_lt_of_cell? _ _ hw354_0; first | rwa [add_block] at this | exact this) GW356.out)) | (show (Addr.add _ _).block ≠ _; rw [add_block]; exact Nat.ne_of_lt (Nat.lt_of_lt_of_le (by have := World.block_lt_of_cell? _ _ hw354_0; first | rwa [add_block] at this | exact this) GW356.out)) | (dsimp only; exact Nat.ne_of_lt (Nat.lt_of_lt_of_le (by have := World.block_lt_of_cell? _ _ hw354_0; first | rwa [add_block] at this | exact this) GW356.out))) _).trans (((cell_far (p := ⟨gb356, _, none⟩) (by first | exact Nat.ne_of_lt (Nat.lt_of_lt_of_le (by have := World.block_lt_of_cell? _ _ hw354_0; first | rwa [add_block] at this | exact this) GW356.out) | (rw [add_block]; exact Nat.ne_of_lt (Nat.lt_of_lt_of_le (by have := World.block_lt_of_cell? _ _ hw354_0; first | rwa [add_block] at this | exact this) GW356.out)) | (show (Addr.add _ _).block ≠ _; rw [add_block]; exact Nat.ne_of_lt (Nat.lt_of_lt_of_le (by have := World.block_lt_of_cell? _ _ hw354_0; first | rwa [add_block] at this | exact this) GW356.out)) | (dsimp only; exact Nat.ne_of_lt (Nat.lt_of_lt_of_le (by have := World.block_lt_of_cell? _ _ hw354_0; first | rwa [add_block] at this | exact this) GW356.out))) _).trans (((cell_far (p := ⟨gb356, _, none⟩) (by first | exact Nat.ne_of_lt (Nat.lt_of_lt_of_le (by have := World.block_lt_of_cell? _ _ hw354_0; first | rwa [add_block] at this | exact this) GW356.out) | (rw [add_block]; exact Nat.ne_of_lt (Nat.lt_of_lt_of_le (by have := World.block_lt_of_cell? _ _ hw354_0; first | rwa [add_block] at this | exact this) GW356.out)) | (show (Addr.add _ _).block ≠ _; rw [add_block]; exact Nat.ne_of_lt (Nat.lt_of_lt_of_le (by have := World.block_lt_of_cell? _ _ hw354_0; first | rwa [add_block] at this | exact this) GW356.out)) | (dsimp only; exact Nat.ne_of_lt (Nat.lt_of_lt_of_le (by have := World.block_lt_of_cell? _ _ hw354_0; first | rwa [add_block] at this | exact this) GW356.out))) _).trans (hHeld.2.2.2.2.2.1)))))), ((cell_far (p := ⟨gb356, _, none⟩) (by first | exact Nat.ne_of_lt (Nat.lt_of_lt_of_le (by have := World.block_lt_of_cell? _ _ hw354_1; first | rwa [add_block] at this | exact this) GW356.out) | (rw [add_block]; exact Nat.ne_of_lt (Nat.lt_of_lt_of_le (by have := World.block_lt_of_cell? _ _ hw354_1; first | rwa [add_block] at this | exact this) GW356.out)) | (show (Addr.add _ _).block ≠ _; rw [add_block]; exact Nat.ne_of_lt (Nat.lt_of_lt_of_le (by have := World.block_lt_of_cell? _ _ hw354_1; first | rwa [add_block] at this | exact this) GW356.out)) | (dsimp only; exact Nat.ne_of_lt (Nat.lt_of_lt_of_le (by have := World.block_lt_of_cell? _ _ hw354_1; first | rwa [add_block] at this | exact this) GW356.out))) _).trans (((cell_far (p := ⟨gb356, _, none⟩) (by first | exact Nat.ne_of_lt (Nat.lt_of_lt_of_le (by have := World.block_lt_of_cell? _ _ hw354_1; first | rwa [add_block] at this | exact this) GW356.out) | (rw [add_block]; exact Nat.ne_of_lt (Nat.lt_of_lt_of_le (by have := World.block_lt_of_cell? _ _ hw354_1; first | rwa [add_block] at this | exact this) GW356.out)) | (show (Addr.add _ _).block ≠ _; rw [add_block]; exact Nat.ne_of_lt (Nat.lt_of_lt_of_le (by have := World.block_lt_of_cell? _ _ hw354_1; first | rwa [add_block] at this | exact this) GW356.out)) | (dsimp only; exact Nat.ne_of_lt (Nat.lt_of_lt_of_le (by have := World.block_lt_of_cell? _ _ hw354_1; first | rwa [add_block] at this | exact this) GW356.out))) _).trans (((cell_far (p := ⟨gb356, _, none⟩) (by first | exact Nat.ne_of_lt (Nat.lt_of_lt_of_le (by have := World.block_lt_of_cell? _ _ hw354_1; first | rwa [add_block] at this | exact this) GW356.out) | (rw [add_block]; exact Nat.ne_of_lt (Nat.lt_of_lt_of_le (by have := World.block_lt_of_cell? _ _ hw354_1; first | rwa [add_block] at this | exact this) GW356.out)) | (show (Addr.add _ _).block ≠ _; rw [add_block]; exact Nat.ne_of_lt (Nat.lt_of_lt_of_le (by have := World.block_lt_of_cell? _ _ hw354_1; first | rwa [add_block] at this | exact this) GW356.out)) | (dsimp only; exact Nat.ne_of_lt (Nat.lt_of_lt_of_le (by have := World.block_lt_of_cell? _ _ hw354_1; first | rwa [add_block] at this | exact this) GW356.out))) _).trans (hHeld.2.2.2.2.2.2.1)))))), ((cell_far (p := ⟨gb356, _, none⟩) (by first | exact Nat.ne_of_lt (Nat.lt_of_lt_of_le (by have := World.block_lt_of_cell? _ _ hw354_2; first | rwa [add_block] at this | exact this) GW356.out) | (rw [add_block]; exact Nat.ne_of_lt (Nat.lt_of_lt_of_le (by have := World.block_lt_of_cell? _ _ hw354_2; first | rwa [add_block] at this | exact this) GW356.out)) | (show (Addr.add _ _).block ≠ _; rw [add_block]; exact Nat.ne_of_lt (Nat.lt_of_lt_of_le (by have := World.block_lt_of_cell? _ _ hw354_2; first | rwa [add_block] at this | exact this) GW356.out)) | (dsimp only; exact Nat.ne_of_lt (Nat.lt_of_lt_of_le (by have := World.block_lt_of_cell? _ _ hw354_2; first | rwa [add_block] at this | exact this) GW356.out))) _).trans (((cell_far (p := ⟨gb356, _, none⟩) (by first | exact Nat.ne_of_lt (Nat.lt_of_lt_of_le (by have := World.block_lt_of_cell? _ _ hw354_2; first | rwa [add_block] at this | exact this) GW356.out) | (rw [add_block]; exact Nat.ne_of_lt (Nat.lt_of_lt_of_le (by have := World.block_lt_of_cell? _ _ hw354_2; first | rwa [add_block] at this | exact this) GW356.out)) | (show (Addr.add _ _).block ≠ _; rw [add_block]; exact Nat.ne_of_lt (Nat.lt_of_lt_of_le (by have := World.block_lt_of_cell? _ _ hw354_2; first | rwa [add_block] at this | exact this) GW356.out)) | (dsimp only; exact Nat.ne_of_lt (Nat.lt_of_lt_of_le (by have := World.block_lt_of_cell? _ _ hw354_2; first | rwa [add_block] at this | exact this) GW356.out))) _).trans (((cell_far (p := ⟨gb356, _, none⟩) (by first | exact Nat.ne_of_lt (Nat.lt_of_lt_of_le (by have := World.block_lt_of_cell? _ _ hw354_2; first | rwa [add_block] at this | exact this) GW356.out) | (rw [add_block]; exact Nat.ne_of_lt (Nat.lt_of_lt_of_le (by have := World.block_lt_of_cell? _ _ hw354_2; first | rwa [add_block] at this | exact this) GW356.out)) | (show (Addr.add _ _).block ≠ _; rw [add_block]; exact Nat.ne_of_lt (Nat.lt_of_lt_of_le (by have := World.block_lt_of_cell? _ _ hw354_2; first | rwa [add_block] at this | exact this) GW356.out)) | (dsimp only; exact Nat.ne_of_lt (Nat.lt_of_lt_of_le (by have := World.block_lt_of_cell? _ _ hw354_2; first | rwa [add_block] at this | exact this) GW356.out))) _).trans (hHeld.2.2.2.2.2.2.2))))))⟩ (fun hHeld => ?_)
        clear hK K
        refine done_ (done_of HT_.out (by kernel_rfl)) ?_
        have hnb85 := NB355_351.out
        have hnc85 := NB351_355.out
        have hnb86 := NB355_352.out
        have hnc86 := NB352_355.out
        have hnb87 := NB355_356.out
        have hnc87 := NB356_355.out
        obtain ⟨hcz88_0, hcz88_1, hcz88_2, hfz88_0, hfz88_1, hfz88_2⟩ := z3 BK355
        have hnb89 := NB356_351.out
        have hnc89 := NB351_356.out
        have hnb90 := NB356_352.out
        have hnc90 := NB352_356.out
        obtain ⟨hcz91_0, hcz91_1, hcz91_2, hfz91_0, hfz91_1, hfz91_2⟩ := z3 BK356
        try go_wp2
        go_ret
        exact ⟨re_, bl⟩
      ·
       rw [if_neg c11] at H
       exact absurd H (by simp)
     ·
      rw [if_neg c10] at H
      exact absurd H (by simp)
    ·
     rw [if_neg c9] at H
     have c9b0 : decide (x5_1 < (l0_0.length : Int)) = false := decide_eq_false c9
     clear c9
     obtain rfl := Option.some.inj H
     have hnb92 := NB351_352.out
     have hnc92 := NB352_351.out
     obtain ⟨hcz93_0, hfz93_0⟩ := z1 BK351
     go_wp2
     go_ret
     exact ⟨re_, bl⟩
 ·
  rw [if_neg c3] at H
  have c3b0 : ((l0_0.length : Int) == (l1_0.length : Int)) = false := beq_eq_false_iff_ne.mpr c3
  have c3b1 : ((l0_0.length : Int) != (l1_0.length : Int)) = true := bne_iff_ne.mpr c3
  have c3b2 : (l0_0.length == l1_0.length) = false := by first | simpa using c3 | (simp at c3 ⊢; omega)
  obtain rfl := Option.some.inj H
  go_enter Try.func13, Try.ntmps13
  go_wp2_with (first | ((with_reducible refine gate_dst (N := 2) rfl ?_); refine bx (N := 2) #[.slice A0_0 l0_0.length c0_0] 24 ?_; intro gb351 hg w94 hbox hb; have BK351 := Aside0.mk (hbox); have GW351 := gw hg (uW HB.out); have GE351 := GW351; replace HB := cW HB hb; clear hb hbox hg) | ((with_reducible refine gate_dst (N := 3) rfl ?_); refine bx (N := 3) #[.slice A1_0 l1_0.length c1_0] 24 ?_; intro gb352 hg w95 hbox hb; have BK352 := Aside0.mk (hbox); have GW352 := gw hg bl; have GE352 := GW352; replace HB := Aside0.mk (below_step bl hb); have NB351_352 := Aside0.mk ((by rw [hg]; exact Nat.ne_of_lt (blk_lt (g := gb351) (o := .cells #[.slice A0_0 l0_0.length c0_0] 24 (0, 0)) (uB BK351.out)) : gb351 ≠ gb352)); have NB352_351 := Aside0.mk ((by rw [hg]; exact Nat.ne_of_gt (blk_lt (g := gb351) (o := .cells #[.slice A0_0 l0_0.length c0_0] 24 (0, 0)) (uB BK351.out)) : gb352 ≠ gb351)); replace BK351 := cB BK351 hb; clear hb hbox hg; have hnb96 := NB351_352.out; have hnc96 := NB352_351.out; obtain ⟨hcz97_0, hfz97_0⟩ := z1 BK351; obtain ⟨hcz98_0, hfz98_0⟩ := z1 BK352))
  go_ret
  exact ⟨re_, bl⟩
end Go.Proofs.Ytofaindjbhmopaa.X
