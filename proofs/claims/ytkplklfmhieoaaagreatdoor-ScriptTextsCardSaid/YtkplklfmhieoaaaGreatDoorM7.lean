/- Printed by a program of this session's own: what functions of the program compute, and that the machine computes it. No condition of its own. -/
import Derived.Test.YtkplklfmhieoaaaGreatDoorM3
import Derived.Test.YtkplklfmhieoaaaGreatDoorM6
namespace Go.Proofs.YtkplklfmhieoaaaGreatDoor.X
open Go.RowKit Go.Proofs.YtkplklfmhieoaaaGreatDoorW.PrintWords Go.Proofs.YtkplklfmhieoaaaGreatDoorW.PrintLast Go.Proofs.YtkplklfmhieoaaaGreatDoorW.PrintMore
attribute [local go_sem] max2_int min2_int max_two min_two max_three min_three max_four min_four
set_option linter.unusedVariables false
set_option linter.unusedSimpArgs false
set_option maxHeartbeats 8000000
set_option maxRecDepth 100000
def r26_Text.l0 : Nat → List (S37) → ByteArray → Int → Option (ByteArray × Int)
 | 0, _, _, _ => none
 | k + 1, x0, x4, x5 => if x5 < (x0.length : Int) then (if 0 ≤ x5 then ((r26_may.f ((rd_T37 x0 x5).f0) ((rd_T37 x0 x5).f1) ((rd_T37 x0 x5).f2)).bind fun t244 => (if t244 = true then ((r26_names.f).bind fun t245 => (if 0 ≤ ((rd_T37 x0 x5).f0) then (if ((rd_T37 x0 x5).f0) < (t245.length : Int) then (if x4.size + (rdOf ByteArray.empty t245 ((rd_T37 x0 x5).f0)).size ≤ 9223372036854775807 then (if (x4 ++ (rdOf ByteArray.empty t245 ((rd_T37 x0 x5).f0))).size + 1 ≤ 9223372036854775807 then ((r01_Number.f k ((rd_T37 x0 x5).f1)).bind fun t251 => (if ((x4 ++ (rdOf ByteArray.empty t245 ((rd_T37 x0 x5).f0))) ++ (⟨#[32]⟩ : ByteArray)).size + t251.size ≤ 9223372036854775807 then (if ((rd_T37 x0 x5).f0) = 1 then (if (((x4 ++ (rdOf ByteArray.empty t245 ((rd_T37 x0 x5).f0))) ++ (⟨#[32]⟩ : ByteArray)) ++ t251).size + 1 ≤ 9223372036854775807 then ((r26_data.f k ((rd_T37 x0 x5).f2)).bind fun t254 => (if ((((x4 ++ (rdOf ByteArray.empty t245 ((rd_T37 x0 x5).f0))) ++ (⟨#[32]⟩ : ByteArray)) ++ t251) ++ (⟨#[32]⟩ : ByteArray)).size + t254.size ≤ 9223372036854775807 then (if (((((x4 ++ (rdOf ByteArray.empty t245 ((rd_T37 x0 x5).f0))) ++ (⟨#[32]⟩ : ByteArray)) ++ t251) ++ (⟨#[32]⟩ : ByteArray)) ++ t254).size + 1 ≤ 9223372036854775807 then (r26_Text.l0 k x0 ((((((x4 ++ (rdOf ByteArray.empty t245 ((rd_T37 x0 x5).f0))) ++ (⟨#[32]⟩ : ByteArray)) ++ t251) ++ (⟨#[32]⟩ : ByteArray)) ++ t254) ++ (⟨#[10]⟩ : ByteArray)) (wrap64 (x5 + 1))) else (none)) else (none))) else (none)) else (if (((x4 ++ (rdOf ByteArray.empty t245 ((rd_T37 x0 x5).f0))) ++ (⟨#[32]⟩ : ByteArray)) ++ t251).size + 1 ≤ 9223372036854775807 then (r26_Text.l0 k x0 ((((x4 ++ (rdOf ByteArray.empty t245 ((rd_T37 x0 x5).f0))) ++ (⟨#[32]⟩ : ByteArray)) ++ t251) ++ (⟨#[10]⟩ : ByteArray)) (wrap64 (x5 + 1))) else (none))) else (none))) else (none)) else (none)) else (none)) else (none))) else (some ((⟨#[]⟩ : ByteArray), 1)))) else (none)) else (some (x4, 0))
def r26_Text.f (k : Nat) (l0 : List (S37)) : Option (ByteArray × Int) := if (l0.length : Int) > 2000 then (some ((⟨#[]⟩ : ByteArray), 4)) else (r26_Text.l0 k l0 (⟨#[]⟩ : ByteArray) 0)
theorem r26_Text.mono_l : ∀ k, (∀ y0 y1 y2, LeC (r26_Text.l0 k y0 y1 y2) (r26_Text.l0 (k + 1) y0 y1 y2))
 | 0 => fun _ _ _ => ⟨fun r h => by simp [r26_Text.l0] at h⟩
 | k + 1 => by have ih0 := r26_Text.mono_l k; exact fun _ _ _ => by unfold r26_Text.l0; exact lm
theorem r26_Text.mono : ∀ a0 k, LeO (r26_Text.f k a0) (r26_Text.f (k + 1) a0) := by
 intro a0 k
 have ih0 := r26_Text.mono_l k
 unfold r26_Text.f
 exact lo
instance r26_Text.mI {a0 k} : LeC (r26_Text.f k a0) (r26_Text.f (k + 1) a0) := ⟨r26_Text.mono _ _⟩
def r26_Text.T9 : Bool × List (List Nat × List Nat) := (true, [([], []), ([], []), ([], []), ([], []), ([2, 3], [2, 3]), ([4], [4]), ([5], [5]), ([1, 6], [1, 6]), ([7], [7]), ([0, 8], [0, 8]), ([9], [9]), ([], []), ([], []), ([11, 12], [11, 12]), ([13], [13]), ([14], [14]), ([15, 1], [15]), ([10, 16], [10, 16]), ([17, 16, 0, 1, 2, 3, 4, 5, 6, 7, 8, 9, 10, 11, 12, 13, 14, 15, 16, 17], [0, 17])])
def r26_Text.B9 : List Nat := [0, 0, 0, 0, 12, 28, 60, 126, 254, 511, 1023, 0, 0, 6144, 14336, 30720, 63490, 131071, 262143]
theorem r26_Text.tab9 : rtab .any (opsOf Tryz.f8 9) = r26_Text.T9 := by kernel_rfl
theorem r26_Text.bits9 : waitsOk r26_Text.T9.2 r26_Text.B9 = true := by kernel_rfl
theorem r26_Text.grow {P : Program} {md : Region.Mode} {ops : Array Oper} {Q : Exit → Act → World → Prop} {S S' : World → Prop} (hSS : ∀ w, S' w → S w) : ∀ (fuel : Nat) (l : Array Bool) (a : Act) (w : World), S' w → wpAnyLast P md ops Q S' [] fuel l a w → wpAnyLast P md ops Q S [] fuel l a w
 | 0, _, _, _, _, h => h
 | n + 1, _, _, _, hS, h => ⟨h.1, fun i hi => wpOp_mono (fun a' w' h3 => ⟨fun _ _ => hSS _ (h3.1 (by simp) hS), r26_Text.grow hSS n _ a' w' (h3.1 (by simp) hS) h3.2⟩) (h.2 i hi)⟩
theorem r26_Text.calls (k : Nat) (A0 : Option Addr) (c0 : Nat) (l0 : List (S37)) (r1 : ByteArray) (r2 : Int) (w : World) (hr0 : Kd.C k37 w A0 l0.length l0) (hc0 : l0.length ≤ c0) (h : r26_Text.f k l0 = some (r1, r2)) :
 Calls Tryz.prog 8 #[.slice A0 l0.length c0] w fun e w' => e = .returned (.tuple #[.string r1, .int .i64 r2]) ∧ Below w.heap.size w w' := by
 have hu37 := Tryz.underlying37
 have HR0 := Aside0.mk hr0
 have HC0 := Aside0.mk hc0
 clear hr0 hc0
 have HB := Aside0.mk (Below.refl w.heap.size w)
 have H : (if (l0.length : Int) > 2000 then (some ((⟨#[]⟩ : ByteArray), 4)) else (r26_Text.l0 k l0 (⟨#[]⟩ : ByteArray) 0)) = some (r1, r2) := h
 clear h
 by_cases c2 : (l0.length : Int) > 2000
 ·
  rw [if_pos c2] at H
  have c2b0 : decide (2000 < (l0.length : Int)) = true := decide_eq_true c2
  have c2b1 : decide (2000 < l0.length) = true := decide_eq_true (by omega)
  clear c2
  simp only [Option.some.injEq, Prod.mk.injEq] at H
  obtain ⟨rfl, rfl⟩ := H
  go_enter Tryz.func8, Tryz.ntmps8
  go_wp2
  go_ret2
  exact ⟨re_, uW HB.out⟩
 ·
  rw [if_neg c2] at H
  have c2b0 : decide (2000 < (l0.length : Int)) = false := decide_eq_false c2
  have c2b1 : decide (2000 < l0.length) = false := decide_eq_false (by omega)
  clear c2
  have H' := Aside0.mk H
  clear H
  go_enter Tryz.func8, Tryz.ntmps8
  go_wp2
  go_loopg [4, 5] k (fun kq v4 v5 w' => ∃ (x4_1 : ByteArray) (x5_1 : Int), v4 = .string x4_1 ∧ v5 = .int .i64 x5_1 ∧ Aside0 (r26_Text.l0 kq l0 x4_1 x5_1 = some (r1, r2)) ∧ Aside0 (kq ≤ k) ∧ Aside0 (Below w.heap.size w w'))
  case atStart => exact ⟨((⟨#[]⟩ : ByteArray)), (0), rs_, rs_, H', ⟨Nat.le_refl _⟩, ⟨uW HB.out⟩⟩
  case round =>
   clear H'
   try clear c2
   try clear c2b0
   try clear c2b1
   try clear p2
   obtain ⟨x4_1, x5_1, rfl, rfl, HA, HK1, HB⟩ := hrel
   cases gk with
   | zero => exact absurd HA.out (by simp [r26_Text.l0])
   | succ k1 =>
    have H := HA.out
    clear HA
    simp only [r26_Text.l0] at H
    by_cases c3 : x5_1 < (l0.length : Int)
    ·
     rw [if_pos c3] at H
     have c3b0 : decide (x5_1 < (l0.length : Int)) = true := decide_eq_true c3
     clear c3
     obtain ⟨c4b0, H⟩ := gdd H
     obtain ⟨t244, A5, H⟩ := bs H
     try dsimp only at H
     by_cases c6 : t244 = true
     ·
      subst c6
      rw [if_pos rfl] at H
      obtain ⟨t245, A7, H⟩ := bs H
      try dsimp only at H
      obtain ⟨c8b0, H⟩ := gdd H
      obtain ⟨c9b0, H⟩ := gdd H
      obtain ⟨c10, H⟩ := gd H
      have c10b0 := eq_true c10
      have c10b1 : decide (x4_1.size + (rdOf ByteArray.empty t245 ((rd_T37 l0 x5_1).f0)).size ≤ 9223372036854775807) = true := decide_eq_true c10
      try have c10b2 : (9223372036854775807 < x4_1.size + (rdOf ByteArray.empty t245 ((rd_T37 l0 x5_1).f0)).size) = False := eq_false (Nat.not_lt.2 c10)
      obtain ⟨c11, H⟩ := gd H
      have c11b0 := eq_true c11
      have c11b1 : decide ((x4_1 ++ (rdOf ByteArray.empty t245 ((rd_T37 l0 x5_1).f0))).size + 1 ≤ 9223372036854775807) = true := decide_eq_true c11
      try have c11b2 : (9223372036854775807 < (x4_1 ++ (rdOf ByteArray.empty t245 ((rd_T37 l0 x5_1).f0))).size + 1) = False := eq_false (Nat.not_lt.2 c11)
      try have c11b8 := c11b2
      try simp only [ByteArray.size_append] at c11b8
      obtain ⟨t251, A12, H⟩ := bs H
      try dsimp only at H
      obtain ⟨c13, H⟩ := gd H
      have c13b0 := eq_true c13
      have c13b1 : decide (((x4_1 ++ (rdOf ByteArray.empty t245 ((rd_T37 l0 x5_1).f0))) ++ (⟨#[32]⟩ : ByteArray)).size + t251.size ≤ 9223372036854775807) = true := decide_eq_true c13
      try have c13b2 : (9223372036854775807 < ((x4_1 ++ (rdOf ByteArray.empty t245 ((rd_T37 l0 x5_1).f0))) ++ (⟨#[32]⟩ : ByteArray)).size + t251.size) = False := eq_false (Nat.not_lt.2 c13)
      try have c13b8 := c13b2
      try simp only [ByteArray.size_append] at c13b8
      try have c13b9 := c13b2
      try simp only [ByteArray.size_append, show (⟨#[32]⟩ : ByteArray).size = 1 from rfl] at c13b9
      by_cases c14 : ((rd_T37 l0 x5_1).f0) = 1
      ·
       rw [if_pos c14] at H
       have c14b0 : (((rd_T37 l0 x5_1).f0) == 1) = true := beq_iff_eq.mpr c14
       have c14b1 : (((rd_T37 l0 x5_1).f0) != 1) = false := bne_eq_false_iff_eq.mpr c14
       clear c14
       obtain ⟨c15, H⟩ := gd H
       have c15b0 := eq_true c15
       have c15b1 : decide ((((x4_1 ++ (rdOf ByteArray.empty t245 ((rd_T37 l0 x5_1).f0))) ++ (⟨#[32]⟩ : ByteArray)) ++ t251).size + 1 ≤ 9223372036854775807) = true := decide_eq_true c15
       try have c15b2 : (9223372036854775807 < (((x4_1 ++ (rdOf ByteArray.empty t245 ((rd_T37 l0 x5_1).f0))) ++ (⟨#[32]⟩ : ByteArray)) ++ t251).size + 1) = False := eq_false (Nat.not_lt.2 c15)
       try have c15b8 := c15b2
       try simp only [ByteArray.size_append] at c15b8
       try have c15b9 := c15b2
       try simp only [ByteArray.size_append, show (⟨#[32]⟩ : ByteArray).size = 1 from rfl] at c15b9
       obtain ⟨t254, A16, H⟩ := bs H
       try dsimp only at H
       obtain ⟨c17, H⟩ := gd H
       have c17b0 := eq_true c17
       have c17b1 : decide (((((x4_1 ++ (rdOf ByteArray.empty t245 ((rd_T37 l0 x5_1).f0))) ++ (⟨#[32]⟩ : ByteArray)) ++ t251) ++ (⟨#[32]⟩ : ByteArray)).size + t254.size ≤ 9223372036854775807) = true := decide_eq_true c17
       try have c17b2 : (9223372036854775807 < ((((x4_1 ++ (rdOf ByteArray.empty t245 ((rd_T37 l0 x5_1).f0))) ++ (⟨#[32]⟩ : ByteArray)) ++ t251) ++ (⟨#[32]⟩ : ByteArray)).size + t254.size) = False := eq_false (Nat.not_lt.2 c17)
       try have c17b8 := c17b2
       try simp only [ByteArray.size_append] at c17b8
       try have c17b9 := c17b2
       try simp only [ByteArray.size_append, show (⟨#[32]⟩ : ByteArray).size = 1 from rfl] at c17b9
       obtain ⟨c18, H⟩ := gd H
       have c18b0 := eq_true c18
       have c18b1 : decide ((((((x4_1 ++ (rdOf ByteArray.empty t245 ((rd_T37 l0 x5_1).f0))) ++ (⟨#[32]⟩ : ByteArray)) ++ t251) ++ (⟨#[32]⟩ : ByteArray)) ++ t254).size + 1 ≤ 9223372036854775807) = true := decide_eq_true c18
       try have c18b2 : (9223372036854775807 < (((((x4_1 ++ (rdOf ByteArray.empty t245 ((rd_T37 l0 x5_1).f0))) ++ (⟨#[32]⟩ : ByteArray)) ++ t251) ++ (⟨#[32]⟩ : ByteArray)) ++ t254).size + 1) = False := eq_false (Nat.not_lt.2 c18)
       try have c18b8 := c18b2
       try simp only [ByteArray.size_append] at c18b8
       try have c18b9 := c18b2
       try simp only [ByteArray.size_append, show (⟨#[32]⟩ : ByteArray).size = 1 from rfl] at c18b9
       have H' := Aside0.mk H
       clear H
       have p243 : 0 ≤ (x5_1 : Int) := od
       have q243 : x5_1 < (l0.length : Int) := od
       obtain ⟨ad243, A243_2, c243_2, e243, hx243_0, hx243_1, hx243_2, hl243_2, hi243_2⟩ := at_T37 HR0.out x5_1 p243 q243
       cases e243
       replace hx243_0 := kc HB hx243_0
       replace hx243_1 := kc HB hx243_1
       replace hx243_2 := kc HB hx243_2
       have HR243_2 := Aside0.mk hi243_2
       have HC243_2 := Aside0.mk hl243_2
       clear hi243_2 hl243_2
       replace p243 := eq_true p243
       replace q243 := eq_true q243
       try go_wp2_with (first | (refine gL (some 19) rfl Tryz.func23 #[.agg #[.int .i64 ((rd_T37 l0 x5_1).f0), .int .i64 ((rd_T37 l0 x5_1).f1), .slice A243_2 ((rd_T37 l0 x5_1).f2).length c243_2]] ?_; (with_reducible refine (r26_may.calls ((rd_T37 l0 x5_1).f0) ((rd_T37 l0 x5_1).f1) _ _ ((rd_T37 l0 x5_1).f2) true _ ?side1 ?side2 A5.out).mono ?_); (case side1 => exact uC <| (Kd.C_below HR243_2.out HB.out)); (case side2 => exact HC243_2.out); rintro e w19 ⟨rfl, hb⟩; refine ⟨_, rfl, ?_⟩; replace HB := cW HB hb; (try clear hb)))
       replace HB := Aside0.mk (below_drew1 HB.out)
       have p248 : 0 ≤ (x5_1 : Int) := od
       have q248 : x5_1 < (l0.length : Int) := od
       obtain ⟨ad248, A248_2, c248_2, e248, hx248_0, hx248_1, hx248_2, hl248_2, hi248_2⟩ := at_T37 HR0.out x5_1 p248 q248
       have hw248_2 := hx248_2
       have hw248_1 := hx248_1
       have hw248_0 := hx248_0
       obtain rfl : ad243 = ad248 := (by injection e248)
       replace hx248_0 := kc HB hx248_0
       replace hx248_1 := kc HB hx248_1
       replace hx248_2 := kc HB hx248_2
       have HR248_2 := Aside0.mk hi248_2
       have HC248_2 := Aside0.mk hl248_2
       clear hi248_2 hl248_2
       replace p248 := eq_true p248
       replace q248 := eq_true q248
       have p250 : 0 ≤ (x5_1 : Int) := od
       have q250 : x5_1 < (l0.length : Int) := od
       obtain ⟨ad250, A250_2, c250_2, e250, hx250_0, hx250_1, hx250_2, hl250_2, hi250_2⟩ := at_T37 HR0.out x5_1 p250 q250
       have hw250_2 := hx250_2
       have hw250_1 := hx250_1
       have hw250_0 := hx250_0
       obtain rfl : ad243 = ad250 := (by injection e250)
       replace hx250_0 := kc HB hx250_0
       replace hx250_1 := kc HB hx250_1
       replace hx250_2 := kc HB hx250_2
       have HR250_2 := Aside0.mk hi250_2
       have HC250_2 := Aside0.mk hl250_2
       clear hi250_2 hl250_2
       replace p250 := eq_true p250
       replace q250 := eq_true q250
       have ea_ := Option.some.inj (hx248_2.symm.trans hx250_2)
       injection ea_ with ea_ en_ ec_
       subst ea_
       subst ec_
       clear en_
       refine start_ (n := 19) (S := fun w' => w'.cell? (ad243.add ((x5_1).toNat * 3)) = some (.int .i64 ((rd_T37 l0 x5_1).f0)) ∧ w'.cell? ⟨(ad243.add ((x5_1).toNat * 3)).block, (ad243.add ((x5_1).toNat * 3)).off + 1, none⟩ = some (.int .i64 ((rd_T37 l0 x5_1).f1)) ∧ w'.cell? ⟨(ad243.add ((x5_1).toNat * 3)).block, (ad243.add ((x5_1).toNat * 3)).off + 2, none⟩ = some (.slice A248_2 ((rd_T37 l0 x5_1).f2).length c248_2) ∧ w'.cell? (ad243.add ((x5_1).toNat * 3)) = some (.int .i64 ((rd_T37 l0 x5_1).f0)) ∧ w'.cell? ⟨(ad243.add ((x5_1).toNat * 3)).block, (ad243.add ((x5_1).toNat * 3)).off + 1, none⟩ = some (.int .i64 ((rd_T37 l0 x5_1).f1)) ∧ w'.cell? ⟨(ad243.add ((x5_1).toNat * 3)).block, (ad243.add ((x5_1).toNat * 3)).off + 2, none⟩ = some (.slice A248_2 ((rd_T37 l0 x5_1).f2).length c248_2)) (ds := []) _ (by kernel_rfl) rfl rfl ⟨(kc HB hw248_0), (kc HB hw248_1), (kc HB hw248_2), (kc HB hw250_0), (kc HB hw250_1), (kc HB hw250_2)⟩ (fun hHeld => ?_); refine with_tabW r26_Text.tab9 r26_Text.bits9 (fun HT_ HW_ => ?_)
       generalize w19.drew = w20 at HB HR248_2 HR250_2 hx248_0 hx248_1 hx248_2 hx250_0 hx250_1 hx250_2 hHeld ⊢
       refine p1 0 (some 21) ?_
       refine p1 2 (some 23) ?_
       refine p1 3 (some 24) ?_
       refine p1 4 (some 25) ?_
       refine p1 5 (some 26) ?_
       refine p1 11 (some 32) ?_
       refine p1 12 (some 33) ?_
       refine p1 13 (some 34) ?_
       refine p1 14 (some 35) ?_
       refine t1 6 (some 27) rfl rfl hHeld (Or.inl ⟨by rfl, by rintro w' ⟨s0, s1, s2, s3, s4, s5⟩; go_simp; with_reducible rfl⟩) ?_
       refine t1 15 (some 36) rfl rfl hHeld (Or.inl ⟨by rfl, by rintro w' ⟨s0, s1, s2, s3, s4, s5⟩; go_simp; with_reducible rfl⟩) ?_
       refine o1 1 (some 22) rfl rfl (fun K hK => ?_)
       refine gS Tryz.func24 #[] ?_
       with_reducible refine (r26_names.calls  t245 _ A7.out).mono ?_
       rintro e w21 ⟨v246, rfl, ho0, hb⟩
       refine ⟨_, rfl, ?_⟩
       have HO247 := Aside0.mk (Kd.R_lower ho0 (below_size (uW HB.out)))
       replace HB := cW HB hb
       (try clear hb)
       (try clear ho0)
       obtain ⟨Ao22, co22, eo22⟩ := Kd.R_slice HO247.out
       (first | subst eo22 | (injection eo22 with f1_ f2_ f3_; have f4_ := f1_.symm; have f5_ := f3_.symm; clear f1_ f2_ f3_; subst f4_; subst f5_))
       have p249 : 0 ≤ (((rd_T37 l0 x5_1).f0) : Int) := od
       have q249 : ((rd_T37 l0 x5_1).f0) < (t245.length : Int) := od
       obtain ⟨ad249, e249, hx249_0⟩ := Kd.at_string (Kd.R_reads' HO247.out).2.2 ((rd_T37 l0 x5_1).f0) p249 q249
       cases e249
       replace p249 := eq_true p249
       replace q249 := eq_true q249
       refine hK.out _ _ ⟨(kc HB hw248_0), (kc HB hw248_1), (kc HB hw248_2), (kc HB hw250_0), (kc HB hw250_1), (kc HB hw250_2)⟩ (fun hHeld => ?_)
       have hGrown_ : (fun w' : World => w'.cell? (ad243.add ((x5_1).toNat * 3)) = some (.int .i64 ((rd_T37 l0 x5_1).f0)) ∧ w'.cell? ⟨(ad243.add ((x5_1).toNat * 3)).block, (ad243.add ((x5_1).toNat * 3)).off + 1, none⟩ = some (.int .i64 ((rd_T37 l0 x5_1).f1)) ∧ w'.cell? ⟨(ad243.add ((x5_1).toNat * 3)).block, (ad243.add ((x5_1).toNat * 3)).off + 2, none⟩ = some (.slice A248_2 ((rd_T37 l0 x5_1).f2).length c248_2) ∧ w'.cell? (ad243.add ((x5_1).toNat * 3)) = some (.int .i64 ((rd_T37 l0 x5_1).f0)) ∧ w'.cell? ⟨(ad243.add ((x5_1).toNat * 3)).block, (ad243.add ((x5_1).toNat * 3)).off + 1, none⟩ = some (.int .i64 ((rd_T37 l0 x5_1).f1)) ∧ w'.cell? ⟨(ad243.add ((x5_1).toNat * 3)).block, (ad243.add ((x5_1).toNat * 3)).off + 2, none⟩ = some (.slice A248_2 ((rd_T37 l0 x5_1).f2).length c248_2) ∧ w'.cell? (ad249.add (((rd_T37 l0 x5_1).f0)).toNat) = some (.string (rdOf ByteArray.empty t245 ((rd_T37 l0 x5_1).f0)))) _ := ⟨(kc HB hw248_0), (kc HB hw248_1), (kc HB hw248_2), (kc HB hw250_0), (kc HB hw250_1), (kc HB hw250_2), hx249_0⟩
       refine r26_Text.grow (S' := fun w' => w'.cell? (ad243.add ((x5_1).toNat * 3)) = some (.int .i64 ((rd_T37 l0 x5_1).f0)) ∧ w'.cell? ⟨(ad243.add ((x5_1).toNat * 3)).block, (ad243.add ((x5_1).toNat * 3)).off + 1, none⟩ = some (.int .i64 ((rd_T37 l0 x5_1).f1)) ∧ w'.cell? ⟨(ad243.add ((x5_1).toNat * 3)).block, (ad243.add ((x5_1).toNat * 3)).off + 2, none⟩ = some (.slice A248_2 ((rd_T37 l0 x5_1).f2).length c248_2) ∧ w'.cell? (ad243.add ((x5_1).toNat * 3)) = some (.int .i64 ((rd_T37 l0 x5_1).f0)) ∧ w'.cell? ⟨(ad243.add ((x5_1).toNat * 3)).block, (ad243.add ((x5_1).toNat * 3)).off + 1, none⟩ = some (.int .i64 ((rd_T37 l0 x5_1).f1)) ∧ w'.cell? ⟨(ad243.add ((x5_1).toNat * 3)).block, (ad243.add ((x5_1).toNat * 3)).off + 2, none⟩ = some (.slice A248_2 ((rd_T37 l0 x5_1).f2).length c248_2) ∧ w'.cell? (ad249.add (((rd_T37 l0 x5_1).f0)).toNat) = some (.string (rdOf ByteArray.empty t245 ((rd_T37 l0 x5_1).f0)))) (fun w' h_ => ⟨h_.1, h_.2.1, h_.2.2.1, h_.2.2.2.1, h_.2.2.2.2.1, h_.2.2.2.2.2.1⟩) _ _ _ _ hGrown_ ?_
       clear hHeld
       have hHeld := hGrown_
       clear hGrown_
       clear hK K
       refine norm_ (a' := ?_) ?_ ?_
       rotate_left
       ·
        show Act.put _ (some 22) _ = _
        simp only [Act.put, List.setIfInBounds_toArray, List.set_cons_zero, List.set_cons_succ, i64_w, i32_w]
        rfl
       refine p1 7 (some 28) ?_
       refine t1 8 (some 29) rfl rfl hHeld (Or.inl ⟨by rfl, by rintro w' ⟨s0, s1, s2, s3, s4, s5, s6⟩; go_simp; with_reducible rfl⟩) ?_
       refine p1 9 (some 30) ?_
       refine p1 10 (some 31) ?_
       refine o1 16 (some 37) rfl rfl (fun K hK => ?_)
       refine gS Tryz.func25 #[.int .i64 ((rd_T37 l0 x5_1).f1)] ?_
       with_reducible refine (r01_Number.calls k1 ((rd_T37 l0 x5_1).f1) t251 _ A12.out).mono ?_
       rintro e w23 ⟨rfl, hb⟩
       have HS6_ := (hb.cell (World.block_lt_of_cell? _ _ (hHeld.2.2.2.2.2.2))).trans (hHeld.2.2.2.2.2.2)
       refine ⟨_, rfl, ?_⟩
       replace HO247 := cR HO247 hb
       replace HB := cW HB hb
       (try clear hb)
       refine hK.out _ _ ⟨(kc HB hw248_0), (kc HB hw248_1), (kc HB hw248_2), (kc HB hw250_0), (kc HB hw250_1), (kc HB hw250_2), HS6_⟩ (fun hHeld => ?_)
       clear hK K
       refine norm_ (a' := ?_) ?_ ?_
       rotate_left
       ·
        show Act.put _ (some 37) _ = _
        simp only [Act.put, List.setIfInBounds_toArray, List.set_cons_zero, List.set_cons_succ, i64_w, i32_w]
        rfl
       refine p1 17 (some 38) ?_
       refine p1 18 (some 4) ?_
       refine done_ (done_of HT_.out (by kernel_rfl)) ?_
       have p252 : 0 ≤ (x5_1 : Int) := od
       have q252 : x5_1 < (l0.length : Int) := od
       obtain ⟨ad252, A252_2, c252_2, e252, hx252_0, hx252_1, hx252_2, hl252_2, hi252_2⟩ := at_T37 HR0.out x5_1 p252 q252
       obtain rfl : ad243 = ad252 := (by injection e252)
       replace hx252_0 := kc HB hx252_0
       replace hx252_1 := kc HB hx252_1
       replace hx252_2 := kc HB hx252_2
       have ea_ := Option.some.inj (hx252_2.symm.trans (kc HB hw248_2))
       injection ea_ with ea_ en_ ec_
       subst ea_
       subst ec_
       clear en_
       have HR252_2 := Aside0.mk hi252_2
       have HC252_2 := Aside0.mk hl252_2
       clear hi252_2 hl252_2
       replace p252 := eq_true p252
       replace q252 := eq_true q252
       have p253 : 0 ≤ (x5_1 : Int) := od
       have q253 : x5_1 < (l0.length : Int) := od
       obtain ⟨ad253, A253_2, c253_2, e253, hx253_0, hx253_1, hx253_2, hl253_2, hi253_2⟩ := at_T37 HR0.out x5_1 p253 q253
       obtain rfl : ad243 = ad253 := (by injection e253)
       replace hx253_0 := kc HB hx253_0
       replace hx253_1 := kc HB hx253_1
       replace hx253_2 := kc HB hx253_2
       have HR253_2 := Aside0.mk hi253_2
       have HC253_2 := Aside0.mk hl253_2
       clear hi253_2 hl253_2
       replace p253 := eq_true p253
       replace q253 := eq_true q253
       have ea_ := Option.some.inj (hx252_2.symm.trans hx253_2)
       injection ea_ with ea_ en_ ec_
       subst ea_
       subst ec_
       clear en_
       try go_wp2_with (first | (refine gL (some 52) rfl Tryz.func26 #[.slice A252_2 ((rd_T37 l0 x5_1).f2).length c252_2] ?_; (with_reducible refine (r26_data.calls k1 _ _ ((rd_T37 l0 x5_1).f2) t254 _ ?side1 ?side2 A16.out).mono ?_); (case side1 => exact uC <| (Kd.C_below HR253_2.out HB.out)); (case side2 => exact HC253_2.out); rintro e w' ⟨rfl, ⟨nd, rfl⟩⟩; refine ⟨_, rfl, ?_⟩))
       go_roundg k1
       case measure => have := HK1.out; omega
       case rel => exact ⟨((((((x4_1 ++ (rdOf ByteArray.empty t245 ((rd_T37 l0 x5_1).f0))) ++ (⟨#[32]⟩ : ByteArray)) ++ t251) ++ (⟨#[32]⟩ : ByteArray)) ++ t254) ++ (⟨#[10]⟩ : ByteArray)), (wrap64 (x5_1 + 1)), rs_, rs_, H', ⟨by have := HK1.out; omega⟩, ⟨uW HB.out⟩⟩
      ·
       rw [if_neg c14] at H
       have c14b0 : (((rd_T37 l0 x5_1).f0) == 1) = false := beq_eq_false_iff_ne.mpr c14
       have c14b1 : (((rd_T37 l0 x5_1).f0) != 1) = true := bne_iff_ne.mpr c14
       obtain ⟨c24, H⟩ := gd H
       have c24b0 := eq_true c24
       have c24b1 : decide ((((x4_1 ++ (rdOf ByteArray.empty t245 ((rd_T37 l0 x5_1).f0))) ++ (⟨#[32]⟩ : ByteArray)) ++ t251).size + 1 ≤ 9223372036854775807) = true := decide_eq_true c24
       try have c24b2 : (9223372036854775807 < (((x4_1 ++ (rdOf ByteArray.empty t245 ((rd_T37 l0 x5_1).f0))) ++ (⟨#[32]⟩ : ByteArray)) ++ t251).size + 1) = False := eq_false (Nat.not_lt.2 c24)
       try have c24b8 := c24b2
       try simp only [ByteArray.size_append] at c24b8
       try have c24b9 := c24b2
       try simp only [ByteArray.size_append, show (⟨#[32]⟩ : ByteArray).size = 1 from rfl] at c24b9
       have H' := Aside0.mk H
       clear H
       have p243 : 0 ≤ (x5_1 : Int) := od
       have q243 : x5_1 < (l0.length : Int) := od
       obtain ⟨ad243, A243_2, c243_2, e243, hx243_0, hx243_1, hx243_2, hl243_2, hi243_2⟩ := at_T37 HR0.out x5_1 p243 q243
       cases e243
       replace hx243_0 := kc HB hx243_0
       replace hx243_1 := kc HB hx243_1
       replace hx243_2 := kc HB hx243_2
       have HR243_2 := Aside0.mk hi243_2
       have HC243_2 := Aside0.mk hl243_2
       clear hi243_2 hl243_2
       replace p243 := eq_true p243
       replace q243 := eq_true q243
       try go_wp2_with (first | (refine gL (some 19) rfl Tryz.func23 #[.agg #[.int .i64 ((rd_T37 l0 x5_1).f0), .int .i64 ((rd_T37 l0 x5_1).f1), .slice A243_2 ((rd_T37 l0 x5_1).f2).length c243_2]] ?_; (with_reducible refine (r26_may.calls ((rd_T37 l0 x5_1).f0) ((rd_T37 l0 x5_1).f1) _ _ ((rd_T37 l0 x5_1).f2) true _ ?side1 ?side2 A5.out).mono ?_); (case side1 => exact uC <| (Kd.C_below HR243_2.out HB.out)); (case side2 => exact HC243_2.out); rintro e w25 ⟨rfl, hb⟩; refine ⟨_, rfl, ?_⟩; replace HB := cW HB hb; (try clear hb)))
       replace HB := Aside0.mk (below_drew1 HB.out)
       have p248 : 0 ≤ (x5_1 : Int) := od
       have q248 : x5_1 < (l0.length : Int) := od
       obtain ⟨ad248, A248_2, c248_2, e248, hx248_0, hx248_1, hx248_2, hl248_2, hi248_2⟩ := at_T37 HR0.out x5_1 p248 q248
       have hw248_2 := hx248_2
       have hw248_1 := hx248_1
       have hw248_0 := hx248_0
       obtain rfl : ad243 = ad248 := (by injection e248)
       replace hx248_0 := kc HB hx248_0
       replace hx248_1 := kc HB hx248_1
       replace hx248_2 := kc HB hx248_2
       have HR248_2 := Aside0.mk hi248_2
       have HC248_2 := Aside0.mk hl248_2
       clear hi248_2 hl248_2
       replace p248 := eq_true p248
       replace q248 := eq_true q248
       have p250 : 0 ≤ (x5_1 : Int) := od
       have q250 : x5_1 < (l0.length : Int) := od
       obtain ⟨ad250, A250_2, c250_2, e250, hx250_0, hx250_1, hx250_2, hl250_2, hi250_2⟩ := at_T37 HR0.out x5_1 p250 q250
       have hw250_2 := hx250_2
       have hw250_1 := hx250_1
       have hw250_0 := hx250_0
       obtain rfl : ad243 = ad250 := (by injection e250)
       replace hx250_0 := kc HB hx250_0
       replace hx250_1 := kc HB hx250_1
       replace hx250_2 := kc HB hx250_2
       have HR250_2 := Aside0.mk hi250_2
       have HC250_2 := Aside0.mk hl250_2
       clear hi250_2 hl250_2
       replace p250 := eq_true p250
       replace q250 := eq_true q250
       have ea_ := Option.some.inj (hx248_2.symm.trans hx250_2)
       injection ea_ with ea_ en_ ec_
       subst ea_
       subst ec_
       clear en_
       refine start_ (n := 19) (S := fun w' => w'.cell? (ad243.add ((x5_1).toNat * 3)) = some (.int .i64 ((rd_T37 l0 x5_1).f0)) ∧ w'.cell? ⟨(ad243.add ((x5_1).toNat * 3)).block, (ad243.add ((x5_1).toNat * 3)).off + 1, none⟩ = some (.int .i64 ((rd_T37 l0 x5_1).f1)) ∧ w'.cell? ⟨(ad243.add ((x5_1).toNat * 3)).block, (ad243.add ((x5_1).toNat * 3)).off + 2, none⟩ = some (.slice A248_2 ((rd_T37 l0 x5_1).f2).length c248_2) ∧ w'.cell? (ad243.add ((x5_1).toNat * 3)) = some (.int .i64 ((rd_T37 l0 x5_1).f0)) ∧ w'.cell? ⟨(ad243.add ((x5_1).toNat * 3)).block, (ad243.add ((x5_1).toNat * 3)).off + 1, none⟩ = some (.int .i64 ((rd_T37 l0 x5_1).f1)) ∧ w'.cell? ⟨(ad243.add ((x5_1).toNat * 3)).block, (ad243.add ((x5_1).toNat * 3)).off + 2, none⟩ = some (.slice A248_2 ((rd_T37 l0 x5_1).f2).length c248_2)) (ds := []) _ (by kernel_rfl) rfl rfl ⟨(kc HB hw248_0), (kc HB hw248_1), (kc HB hw248_2), (kc HB hw250_0), (kc HB hw250_1), (kc HB hw250_2)⟩ (fun hHeld => ?_); refine with_tabW r26_Text.tab9 r26_Text.bits9 (fun HT_ HW_ => ?_)
       generalize w25.drew = w26 at HB HR248_2 HR250_2 hx248_0 hx248_1 hx248_2 hx250_0 hx250_1 hx250_2 hHeld ⊢
       refine p1 0 (some 21) ?_
       refine p1 2 (some 23) ?_
       refine p1 3 (some 24) ?_
       refine p1 4 (some 25) ?_
       refine p1 5 (some 26) ?_
       refine p1 11 (some 32) ?_
       refine p1 12 (some 33) ?_
       refine p1 13 (some 34) ?_
       refine p1 14 (some 35) ?_
       refine t1 6 (some 27) rfl rfl hHeld (Or.inl ⟨by rfl, by rintro w' ⟨s0, s1, s2, s3, s4, s5⟩; go_simp; with_reducible rfl⟩) ?_
       refine t1 15 (some 36) rfl rfl hHeld (Or.inl ⟨by rfl, by rintro w' ⟨s0, s1, s2, s3, s4, s5⟩; go_simp; with_reducible rfl⟩) ?_
       refine o1 1 (some 22) rfl rfl (fun K hK => ?_)
       refine gS Tryz.func24 #[] ?_
       with_reducible refine (r26_names.calls  t245 _ A7.out).mono ?_
       rintro e w27 ⟨v246, rfl, ho0, hb⟩
       refine ⟨_, rfl, ?_⟩
       have HO247 := Aside0.mk (Kd.R_lower ho0 (below_size (uW HB.out)))
       replace HB := cW HB hb
       (try clear hb)
       (try clear ho0)
       obtain ⟨Ao28, co28, eo28⟩ := Kd.R_slice HO247.out
       (first | subst eo28 | (injection eo28 with f1_ f2_ f3_; have f4_ := f1_.symm; have f5_ := f3_.symm; clear f1_ f2_ f3_; subst f4_; subst f5_))
       have p249 : 0 ≤ (((rd_T37 l0 x5_1).f0) : Int) := od
       have q249 : ((rd_T37 l0 x5_1).f0) < (t245.length : Int) := od
       obtain ⟨ad249, e249, hx249_0⟩ := Kd.at_string (Kd.R_reads' HO247.out).2.2 ((rd_T37 l0 x5_1).f0) p249 q249
       cases e249
       replace p249 := eq_true p249
       replace q249 := eq_true q249
       refine hK.out _ _ ⟨(kc HB hw248_0), (kc HB hw248_1), (kc HB hw248_2), (kc HB hw250_0), (kc HB hw250_1), (kc HB hw250_2)⟩ (fun hHeld => ?_)
       have hGrown_ : (fun w' : World => w'.cell? (ad243.add ((x5_1).toNat * 3)) = some (.int .i64 ((rd_T37 l0 x5_1).f0)) ∧ w'.cell? ⟨(ad243.add ((x5_1).toNat * 3)).block, (ad243.add ((x5_1).toNat * 3)).off + 1, none⟩ = some (.int .i64 ((rd_T37 l0 x5_1).f1)) ∧ w'.cell? ⟨(ad243.add ((x5_1).toNat * 3)).block, (ad243.add ((x5_1).toNat * 3)).off + 2, none⟩ = some (.slice A248_2 ((rd_T37 l0 x5_1).f2).length c248_2) ∧ w'.cell? (ad243.add ((x5_1).toNat * 3)) = some (.int .i64 ((rd_T37 l0 x5_1).f0)) ∧ w'.cell? ⟨(ad243.add ((x5_1).toNat * 3)).block, (ad243.add ((x5_1).toNat * 3)).off + 1, none⟩ = some (.int .i64 ((rd_T37 l0 x5_1).f1)) ∧ w'.cell? ⟨(ad243.add ((x5_1).toNat * 3)).block, (ad243.add ((x5_1).toNat * 3)).off + 2, none⟩ = some (.slice A248_2 ((rd_T37 l0 x5_1).f2).length c248_2) ∧ w'.cell? (ad249.add (((rd_T37 l0 x5_1).f0)).toNat) = some (.string (rdOf ByteArray.empty t245 ((rd_T37 l0 x5_1).f0)))) _ := ⟨(kc HB hw248_0), (kc HB hw248_1), (kc HB hw248_2), (kc HB hw250_0), (kc HB hw250_1), (kc HB hw250_2), hx249_0⟩
       refine r26_Text.grow (S' := fun w' => w'.cell? (ad243.add ((x5_1).toNat * 3)) = some (.int .i64 ((rd_T37 l0 x5_1).f0)) ∧ w'.cell? ⟨(ad243.add ((x5_1).toNat * 3)).block, (ad243.add ((x5_1).toNat * 3)).off + 1, none⟩ = some (.int .i64 ((rd_T37 l0 x5_1).f1)) ∧ w'.cell? ⟨(ad243.add ((x5_1).toNat * 3)).block, (ad243.add ((x5_1).toNat * 3)).off + 2, none⟩ = some (.slice A248_2 ((rd_T37 l0 x5_1).f2).length c248_2) ∧ w'.cell? (ad243.add ((x5_1).toNat * 3)) = some (.int .i64 ((rd_T37 l0 x5_1).f0)) ∧ w'.cell? ⟨(ad243.add ((x5_1).toNat * 3)).block, (ad243.add ((x5_1).toNat * 3)).off + 1, none⟩ = some (.int .i64 ((rd_T37 l0 x5_1).f1)) ∧ w'.cell? ⟨(ad243.add ((x5_1).toNat * 3)).block, (ad243.add ((x5_1).toNat * 3)).off + 2, none⟩ = some (.slice A248_2 ((rd_T37 l0 x5_1).f2).length c248_2) ∧ w'.cell? (ad249.add (((rd_T37 l0 x5_1).f0)).toNat) = some (.string (rdOf ByteArray.empty t245 ((rd_T37 l0 x5_1).f0)))) (fun w' h_ => ⟨h_.1, h_.2.1, h_.2.2.1, h_.2.2.2.1, h_.2.2.2.2.1, h_.2.2.2.2.2.1⟩) _ _ _ _ hGrown_ ?_
       clear hHeld
       have hHeld := hGrown_
       clear hGrown_
       clear hK K
       refine norm_ (a' := ?_) ?_ ?_
       rotate_left
       ·
        show Act.put _ (some 22) _ = _
        simp only [Act.put, List.setIfInBounds_toArray, List.set_cons_zero, List.set_cons_succ, i64_w, i32_w]
        rfl
       refine p1 7 (some 28) ?_
       refine t1 8 (some 29) rfl rfl hHeld (Or.inl ⟨by rfl, by rintro w' ⟨s0, s1, s2, s3, s4, s5, s6⟩; go_simp; with_reducible rfl⟩) ?_
       refine p1 9 (some 30) ?_
       refine p1 10 (some 31) ?_
       refine o1 16 (some 37) rfl rfl (fun K hK => ?_)
       refine gS Tryz.func25 #[.int .i64 ((rd_T37 l0 x5_1).f1)] ?_
       with_reducible refine (r01_Number.calls k1 ((rd_T37 l0 x5_1).f1) t251 _ A12.out).mono ?_
       rintro e w29 ⟨rfl, hb⟩
       have HS6_ := (hb.cell (World.block_lt_of_cell? _ _ (hHeld.2.2.2.2.2.2))).trans (hHeld.2.2.2.2.2.2)
       refine ⟨_, rfl, ?_⟩
       replace HO247 := cR HO247 hb
       replace HB := cW HB hb
       (try clear hb)
       refine hK.out _ _ ⟨(kc HB hw248_0), (kc HB hw248_1), (kc HB hw248_2), (kc HB hw250_0), (kc HB hw250_1), (kc HB hw250_2), HS6_⟩ (fun hHeld => ?_)
       clear hK K
       refine norm_ (a' := ?_) ?_ ?_
       rotate_left
       ·
        show Act.put _ (some 37) _ = _
        simp only [Act.put, List.setIfInBounds_toArray, List.set_cons_zero, List.set_cons_succ, i64_w, i32_w]
        rfl
       refine p1 17 (some 38) ?_
       refine p1 18 (some 4) ?_
       refine done_ (done_of HT_.out (by kernel_rfl)) ?_
       have p252 : 0 ≤ (x5_1 : Int) := od
       have q252 : x5_1 < (l0.length : Int) := od
       obtain ⟨ad252, A252_2, c252_2, e252, hx252_0, hx252_1, hx252_2, hl252_2, hi252_2⟩ := at_T37 HR0.out x5_1 p252 q252
       obtain rfl : ad243 = ad252 := (by injection e252)
       replace hx252_0 := kc HB hx252_0
       replace hx252_1 := kc HB hx252_1
       replace hx252_2 := kc HB hx252_2
       have ea_ := Option.some.inj (hx252_2.symm.trans (kc HB hw248_2))
       injection ea_ with ea_ en_ ec_
       subst ea_
       subst ec_
       clear en_
       have HR252_2 := Aside0.mk hi252_2
       have HC252_2 := Aside0.mk hl252_2
       clear hi252_2 hl252_2
       replace p252 := eq_true p252
       replace q252 := eq_true q252
       try go_wp2
       go_roundg k1
       case measure => have := HK1.out; omega
       case rel => exact ⟨((((x4_1 ++ (rdOf ByteArray.empty t245 ((rd_T37 l0 x5_1).f0))) ++ (⟨#[32]⟩ : ByteArray)) ++ t251) ++ (⟨#[10]⟩ : ByteArray)), (wrap64 (x5_1 + 1)), rs_, rs_, H', ⟨by have := HK1.out; omega⟩, ⟨uW HB.out⟩⟩
     ·
      replace c6 := Bool.eq_false_iff.mpr c6
      subst c6
      rw [if_neg (show ¬ (false = true) by decide)] at H
      simp only [Option.some.injEq, Prod.mk.injEq] at H
      obtain ⟨rfl, rfl⟩ := H
      have p243 : 0 ≤ (x5_1 : Int) := od
      have q243 : x5_1 < (l0.length : Int) := od
      obtain ⟨ad243, A243_2, c243_2, e243, hx243_0, hx243_1, hx243_2, hl243_2, hi243_2⟩ := at_T37 HR0.out x5_1 p243 q243
      cases e243
      replace hx243_0 := kc HB hx243_0
      replace hx243_1 := kc HB hx243_1
      replace hx243_2 := kc HB hx243_2
      have HR243_2 := Aside0.mk hi243_2
      have HC243_2 := Aside0.mk hl243_2
      clear hi243_2 hl243_2
      replace p243 := eq_true p243
      replace q243 := eq_true q243
      go_wp2_with (first | (refine gL (some 19) rfl Tryz.func23 #[.agg #[.int .i64 ((rd_T37 l0 x5_1).f0), .int .i64 ((rd_T37 l0 x5_1).f1), .slice A243_2 ((rd_T37 l0 x5_1).f2).length c243_2]] ?_; (with_reducible refine (r26_may.calls ((rd_T37 l0 x5_1).f0) ((rd_T37 l0 x5_1).f1) _ _ ((rd_T37 l0 x5_1).f2) false _ ?side1 ?side2 A5.out).mono ?_); (case side1 => exact uC <| (Kd.C_below HR243_2.out HB.out)); (case side2 => exact HC243_2.out); rintro e w30 ⟨rfl, hb⟩; refine ⟨_, rfl, ?_⟩; replace HB := cW HB hb; (try clear hb)))
      go_ret2
      exact ⟨re_, uW HB.out⟩
    ·
     rw [if_neg c3] at H
     have c3b0 : decide (x5_1 < (l0.length : Int)) = false := decide_eq_false c3
     clear c3
     simp only [Option.some.injEq, Prod.mk.injEq] at H
     obtain ⟨rfl, rfl⟩ := H
     go_wp2
     go_ret2
     exact ⟨re_, uW HB.out⟩
end Go.Proofs.YtkplklfmhieoaaaGreatDoor.X
