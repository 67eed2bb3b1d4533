/- Printed by a program of this session's own: what functions of the program compute, and that the machine computes it. No condition of its own. -/
import Derived.Test.YteckidchnicjeaaGreatDoorM3
import Derived.Test.YteckidchnicjeaaGreatDoorM8
import Derived.Test.YteckidchnicjeaaGreatDoorM9
import Derived.Test.YteckidchnicjeaaGreatDoorM10
import Derived.Test.YteckidchnicjeaaGreatDoorM7
namespace Go.Proofs.YteckidchnicjeaaGreatDoor.X
open Go.RowKit Go.Proofs.YteckidchnicjeaaGreatDoorW.PrintWords Go.Proofs.YteckidchnicjeaaGreatDoorW.PrintLast Go.Proofs.YteckidchnicjeaaGreatDoorW.PrintMore
attribute [local go_sem] max2_int min2_int max_two min_two max_three min_three max_four min_four
set_option linter.unusedVariables false
set_option linter.unusedSimpArgs false
set_option maxHeartbeats 8000000
set_option maxRecDepth 100000
def r01_Parse.j0 : Nat → ByteArray → Bool → Option (Int × Bool × Int)
 | 0, _, _ => none
 | k + 1, x0, x4 => if x4 = true then (if 0 ≤ (wrap64 ((x0.size : Int) - 1)) then (if (wrap64 ((x0.size : Int) - 1)) ≤ (x0.size : Int) then ((r01_Read.f k (x0.extract 0 ((wrap64 ((x0.size : Int) - 1)) : Int).toNat)).bind fun bt539 => (if bt539.2 = 0 then (some (bt539.1, x4, 0)) else (some (0, false, bt539.2)))) else (none)) else (none)) else ((r01_Read.f k x0).bind fun bt541 => (if bt541.2 = 0 then (some (bt541.1, x4, 0)) else (some (0, false, bt541.2))))
def r01_Parse.f (k : Nat) (a0 : ByteArray) : Option (Int × Bool × Int) := if (a0.size : Int) > 0 then (if 0 ≤ (wrap64 ((a0.size : Int) - 1)) then (if (wrap64 ((a0.size : Int) - 1)) < (a0.size : Int) then (r01_Parse.j0 k a0 ((bt a0 (wrap64 ((a0.size : Int) - 1))) == 33)) else (none)) else (none)) else (r01_Parse.j0 k a0 false)
theorem r01_Parse.mono_l : ∀ k, (∀ y0 y1, LeC (r01_Parse.j0 k y0 y1) (r01_Parse.j0 (k + 1) y0 y1))
 | 0 => fun _ _ => ⟨fun r h => by simp [r01_Parse.j0] at h⟩
 | k + 1 => by have ih0 := r01_Parse.mono_l k; exact fun _ _ => by unfold r01_Parse.j0; exact lm
theorem r01_Parse.mono : ∀ a0 k, LeO (r01_Parse.f k a0) (r01_Parse.f (k + 1) a0) := by
 intro a0 k
 have ih0 := r01_Parse.mono_l k
 unfold r01_Parse.f
 exact lo
instance r01_Parse.mI {a0 k} : LeC (r01_Parse.f k a0) (r01_Parse.f (k + 1) a0) := ⟨r01_Parse.mono _ _⟩
theorem r01_Parse.calls (k : Nat) (a0 : ByteArray) (r1 : Int) (r2 : Bool) (r3 : Int) (w : World) (h : r01_Parse.f k a0 = some (r1, r2, r3)) :
 Calls Tryz.prog 89 #[.string a0] w fun e w' => e = .returned (.tuple #[.agg #[.int .i64 r1, .bool r2], .int .i64 r3]) ∧ Below w.heap.size w w' := by
 have hu58 := Tryz.underlying58
 have HB := Aside0.mk (Below.refl w.heap.size w)
 have H : (if (a0.size : Int) > 0 then (if 0 ≤ (wrap64 ((a0.size : Int) - 1)) then (if (wrap64 ((a0.size : Int) - 1)) < (a0.size : Int) then (r01_Parse.j0 k a0 ((bt a0 (wrap64 ((a0.size : Int) - 1))) == 33)) else (none)) else (none)) else (r01_Parse.j0 k a0 false)) = some (r1, r2, r3) := h
 clear h
 have HC2 := Aside0.mk H
 clear H
 go_enter Tryz.func89, Tryz.ntmps89
 go_upto_region 1 with (first | ((with_reducible refine gate_dst (N := 2) rfl ?_); (try (refine gate_guard (by rfl) ?_; dsimp only)); refine bx (N := 2) #[.int .i64 0, .bool false] 58 ?_; intro gb538 hg w3 hbox hb; have BK538 := Aside0.mk (hbox); have GW538 := gw hg (uW HB.out); have GE538 := GW538; replace HB := cW HB hb; clear hb hbox hg))
 (try simp only [Act.put, List.setIfInBounds_toArray, List.set_cons_zero, List.set_cons_succ])
 go_cut [4] (fun v4 wc => ∃ (kq : Nat) (x4_1 : Bool), v4 = .bool x4_1 ∧ Aside0 (r01_Parse.j0 kq a0 x4_1 = some (r1, r2, r3)) ∧ Aside0 (kq ≤ k) ∧ Aside0 (wc.heap[gb538]? = some (.cells #[.int .i64 0, .bool false] 58 (0, 0))) ∧ Aside0 (Below w.heap.size w wc))
 case first =>
  have H := HC2.out
  clear HC2
  by_cases c4 : (a0.size : Int) > 0
  ·
   rw [if_pos c4] at H
   have c4b0 : decide (0 < (a0.size : Int)) = true := decide_eq_true c4
   have c4b1 : decide (0 < a0.size) = true := decide_eq_true (by omega)
   clear c4
   (first | rw [c4b0] | (simp only [i64_w, i32_w]; rw [c4b0]) | skip)
   obtain ⟨ji5, hji5⟩ : ∃ j_ : Int, (wrap64 ((a0.size : Int) - 1)) = j_ := ⟨_, rfl⟩
   (first | rw [hji5] at H | simp only [hji5] at H)
   have hji5w : (IntKind.i64.wrap ((a0.size : Int) - 1)) = ji5 := (i64_w _).trans hji5
   obtain ⟨c6b0, H⟩ := gdd H
   obtain ⟨c7b0, H⟩ := gdd H
   have H' := Aside0.mk H
   clear H
   have p8 : 0 ≤ ((ji5) : Int) := od
   have q8 : (ji5) < (a0.size : Int) := od
   have hx8 := bt_at a0 (ji5)
   replace p8 := eq_true p8
   replace q8 := eq_true q8
   go_wp2
   go_meet
   case rel => exact ⟨_, (((bt a0 (ji5)) == 33)), (by first | rfl | (simp; done) | (simp only [← hji5] <;> (first | rfl | simp)) | (simp [*]; done)), H', ⟨by first | omega | exact Nat.le_refl _⟩, ⟨uB BK538.out⟩, ⟨bl⟩⟩
  ·
   rw [if_neg c4] at H
   have c4b0 : decide (0 < (a0.size : Int)) = false := decide_eq_false c4
   have c4b1 : decide (0 < a0.size) = false := decide_eq_false (by omega)
   clear c4
   (first | rw [c4b0] | (simp only [i64_w, i32_w]; rw [c4b0]) | skip)
   have H' := Aside0.mk H
   clear H
   go_wp2
   go_meet
   case rel => exact ⟨_, (false), rs_, H', ⟨by first | omega | exact Nat.le_refl _⟩, ⟨uB BK538.out⟩, ⟨bl⟩⟩
 case rest =>
  clear HC2
  try clear p2
  try clear c4
  try clear c4b0
  try clear c4b1
  try clear c6
  try clear c6b0
  try clear p6
  try clear c7
  try clear c7b0
  try clear c8
  try clear p8
  try clear q8
  try clear hx8
  try clear p8
  try clear q8
  obtain ⟨kq, x4_1, rfl, HA, HJ1, BK538, HB⟩ := hcut
  cases kq with
  | zero => exact absurd HA.out (by simp [r01_Parse.j0])
  | succ kj1 =>
   have H := HA.out
   clear HA
   simp only [r01_Parse.j0] at H
   by_cases c9 : x4_1 = true
   ·
    subst c9
    rw [if_pos rfl] at H
    obtain ⟨ji10, hji10⟩ : ∃ j_ : Int, (wrap64 ((a0.size : Int) - 1)) = j_ := ⟨_, rfl⟩
    (first | rw [hji10] at H | simp only [hji10] at H)
    have hji10w : (IntKind.i64.wrap ((a0.size : Int) - 1)) = ji10 := (i64_w _).trans hji10
    obtain ⟨c11, H⟩ := gd H
    have c11b0 := eq_true c11
    have c11b1 : decide (0 ≤ (ji10)) = true := decide_eq_true c11
    clear c11
    obtain ⟨c12, H⟩ := gd H
    have c12b0 := eq_true c12
    have c12b1 : decide ((ji10) ≤ (a0.size : Int)) = true := decide_eq_true c12
    clear c12
    obtain ⟨⟨t539, t540⟩, A13, H⟩ := bs H
    try dsimp only at H
    by_cases c14 : t540 = 0
    ·
     rw [if_pos c14] at H
     have c14b0 : (t540 == 0) = true := beq_iff_eq.mpr c14
     have c14b1 : (t540 != 0) = false := bne_eq_false_iff_eq.mpr c14
     clear c14
     simp only [Option.some.injEq, Prod.mk.injEq] at H
     obtain ⟨rfl, rfl, rfl⟩ := H
     go_wp2_with (first | (refine gL (some 26) rfl Tryz.func56 #[.string (a0.extract 0 ((ji10) : Int).toNat)] ?_ (hargs := by (try simp only [List.map_toArray, List.map_cons, List.map_nil]); first | done | (simp only [hji10]; rfl) | rfl); (with_reducible refine (r01_Read.calls kj1 (a0.extract 0 ((ji10) : Int).toNat) t539 t540 _ A13.out).mono ?_); rintro e w' ⟨rfl, ⟨nd, rfl⟩⟩; refine ⟨_, rfl, ?_⟩; (try (rw [drewN_self wc]; generalize hq_ : World.drewN wc _ = wc; have n0_ : Aside0 (wc.heap[gb538]? = some (.cells #[.int .i64 0, .bool false] 58 (0, 0))) := ⟨by rw [← hq_]; exact (uB BK538.out)⟩; have n1_ : Aside0 (Below w.heap.size w wc) := ⟨by rw [← hq_]; exact bl⟩; clear BK538 HB hq_; have BK538 := n0_; have HB := n1_; clear n0_ n1_)); obtain ⟨hcz15_0, hcz15_1, hfz15_0, hfz15_1⟩ := z2 BK538))
     refine bodyPost_ret (results_ct rfl _ _ gb538 58 #[.int .i64 t539, .bool true] (0, 0) _ rfl (fB BK538.out) Tryz.underlying58 rfl (by kernel_rfl)) rfl ?_
     exact ⟨by first | rfl | (simp [errW_none, errW_some] <;> rfl) | (simp only [← hji10]; first | rfl | (simp [errW_none, errW_some] <;> rfl)) | (simp [*, errW_none, errW_some] <;> rfl), bl⟩
    ·
     rw [if_neg c14] at H
     have c14b0 : (t540 == 0) = false := beq_eq_false_iff_ne.mpr c14
     have c14b1 : (t540 != 0) = true := bne_iff_ne.mpr c14
     simp only [Option.some.injEq, Prod.mk.injEq] at H
     obtain ⟨rfl, rfl, rfl⟩ := H
     go_wp2_with (first | (refine gL (some 26) rfl Tryz.func56 #[.string (a0.extract 0 ((ji10) : Int).toNat)] ?_ (hargs := by (try simp only [List.map_toArray, List.map_cons, List.map_nil]); first | done | (simp only [hji10]; rfl) | rfl); (with_reducible refine (r01_Read.calls kj1 (a0.extract 0 ((ji10) : Int).toNat) t539 t540 _ A13.out).mono ?_); rintro e w' ⟨rfl, ⟨nd, rfl⟩⟩; refine ⟨_, rfl, ?_⟩; (try (rw [drewN_self wc]; generalize hq_ : World.drewN wc _ = wc; have n0_ : Aside0 (wc.heap[gb538]? = some (.cells #[.int .i64 0, .bool false] 58 (0, 0))) := ⟨by rw [← hq_]; exact (uB BK538.out)⟩; have n1_ : Aside0 (Below w.heap.size w wc) := ⟨by rw [← hq_]; exact bl⟩; clear BK538 HB hq_; have BK538 := n0_; have HB := n1_; clear n0_ n1_)); obtain ⟨hcz16_0, hcz16_1, hfz16_0, hfz16_1⟩ := z2 BK538))
     refine bodyPost_ret (results_ct rfl _ _ gb538 58 #[.int .i64 0, .bool false] (0, 0) _ rfl (fB BK538.out) Tryz.underlying58 rfl (by kernel_rfl)) rfl ?_
     exact ⟨by first | rfl | (simp [errW_none, errW_some] <;> rfl) | (simp only [← hji10]; first | rfl | (simp [errW_none, errW_some] <;> rfl)) | (simp [*, errW_none, errW_some] <;> rfl), bl⟩
   ·
    replace c9 := Bool.eq_false_iff.mpr c9
    subst c9
    rw [if_neg (show ¬ (false = true) by decide)] at H
    obtain ⟨⟨t541, t542⟩, A17, H⟩ := bs H
    try dsimp only at H
    by_cases c18 : t542 = 0
    ·
     rw [if_pos c18] at H
     have c18b0 : (t542 == 0) = true := beq_iff_eq.mpr c18
     have c18b1 : (t542 != 0) = false := bne_eq_false_iff_eq.mpr c18
     clear c18
     simp only [Option.some.injEq, Prod.mk.injEq] at H
     obtain ⟨rfl, rfl, rfl⟩ := H
     go_wp2_with (first | (refine gL (some 26) rfl Tryz.func56 #[.string a0] ?_; (with_reducible refine (r01_Read.calls kj1 a0 t541 t542 _ A17.out).mono ?_); rintro e w' ⟨rfl, ⟨nd, rfl⟩⟩; refine ⟨_, rfl, ?_⟩; (try (rw [drewN_self wc]; generalize hq_ : World.drewN wc _ = wc; have n0_ : Aside0 (wc.heap[gb538]? = some (.cells #[.int .i64 0, .bool false] 58 (0, 0))) := ⟨by rw [← hq_]; exact (uB BK538.out)⟩; have n1_ : Aside0 (Below w.heap.size w wc) := ⟨by rw [← hq_]; exact bl⟩; clear BK538 HB hq_; have BK538 := n0_; have HB := n1_; clear n0_ n1_)); obtain ⟨hcz19_0, hcz19_1, hfz19_0, hfz19_1⟩ := z2 BK538))
     refine bodyPost_ret (results_ct rfl _ _ gb538 58 #[.int .i64 t541, .bool false] (0, 0) _ rfl (fB BK538.out) Tryz.underlying58 rfl (by kernel_rfl)) rfl ?_
     exact ⟨re_, bl⟩
    ·
     rw [if_neg c18] at H
     have c18b0 : (t542 == 0) = false := beq_eq_false_iff_ne.mpr c18
     have c18b1 : (t542 != 0) = true := bne_iff_ne.mpr c18
     simp only [Option.some.injEq, Prod.mk.injEq] at H
     obtain ⟨rfl, rfl, rfl⟩ := H
     go_wp2_with (first | (refine gL (some 26) rfl Tryz.func56 #[.string a0] ?_; (with_reducible refine (r01_Read.calls kj1 a0 t541 t542 _ A17.out).mono ?_); rintro e w' ⟨rfl, ⟨nd, rfl⟩⟩; refine ⟨_, rfl, ?_⟩; (try (rw [drewN_self wc]; generalize hq_ : World.drewN wc _ = wc; have n0_ : Aside0 (wc.heap[gb538]? = some (.cells #[.int .i64 0, .bool false] 58 (0, 0))) := ⟨by rw [← hq_]; exact (uB BK538.out)⟩; have n1_ : Aside0 (Below w.heap.size w wc) := ⟨by rw [← hq_]; exact bl⟩; clear BK538 HB hq_; have BK538 := n0_; have HB := n1_; clear n0_ n1_)); obtain ⟨hcz20_0, hcz20_1, hfz20_0, hfz20_1⟩ := z2 BK538))
     refine bodyPost_ret (results_ct rfl _ _ gb538 58 #[.int .i64 0, .bool false] (0, 0) _ rfl (fB BK538.out) Tryz.underlying58 rfl (by kernel_rfl)) rfl ?_
     exact ⟨re_, bl⟩
def r08_one.f (k : Nat) (a0 : ByteArray) : Option (Int × ByteArray × Int × Bool × Int) := (r02_Split.f k a0 124).bind fun t544 => (if (t544.length : Int) = 3 then (if 0 < (t544.length : Int) then ((r01_Read.f k (rdOf ByteArray.empty t544 0)).bind fun bt548 => (if bt548.2 = 0 then (if 1 < (t544.length : Int) then ((r08_group.f k (rdOf ByteArray.empty t544 1)).bind fun t551 => (if t551 = 0 then (if 2 < (t544.length : Int) then ((r01_Parse.f k (rdOf ByteArray.empty t544 2)).bind fun bt553 => (if bt553.2.2 = 0 then (some (bt548.1, rdOf ByteArray.empty t544 1, bt553.1, bt553.2.1, 0)) else (some (0, (⟨#[]⟩ : ByteArray), 0, false, bt553.2.2)))) else (none)) else (some (0, (⟨#[]⟩ : ByteArray), 0, false, t551)))) else (none)) else (some (0, (⟨#[]⟩ : ByteArray), 0, false, bt548.2)))) else (none)) else (some (0, (⟨#[]⟩ : ByteArray), 0, false, 2)))
theorem r08_one.mono : ∀ a0 k, LeO (r08_one.f k a0) (r08_one.f (k + 1) a0) := by
 intro a0 k
 unfold r08_one.f
 exact lo
instance r08_one.mI {a0 k} : LeC (r08_one.f k a0) (r08_one.f (k + 1) a0) := ⟨r08_one.mono _ _⟩
def r08_one.T13 : Bool × List (List Nat × List Nat) := (true, [([], []), ([], []), ([1], [1]), ([2], [2]), ([], []), ([0, 3, 4], [0, 3, 4]), ([5, 0, 1, 2, 3, 4, 5], [5]), ([6, 0, 1, 2, 3, 4, 5, 6], [])])
def r08_one.B13 : List Nat := [0, 0, 2, 6, 0, 31, 63, 127]
theorem r08_one.tab13 : rtab .any (opsOf Tryz.f71 13) = r08_one.T13 := by kernel_rfl
theorem r08_one.bits13 : waitsOk r08_one.T13.2 r08_one.B13 = true := by kernel_rfl
theorem r08_one.calls (k : Nat) (a0 : ByteArray) (r1 : Int) (r2 : ByteArray) (r3 : Int) (r4 : Bool) (r5 : Int) (w : World) (h : r08_one.f k a0 = some (r1, r2, r3, r4, r5)) :
 Calls Tryz.prog 71 #[.string a0] w fun e w' => e = .returned (.tuple #[.agg #[.int .i64 r1, .string r2, .int .i64 r3, .bool r4], .int .i64 r5]) ∧ Below w.heap.size w w' := by
 have hu60 := Tryz.underlying60
 have hu58 := Tryz.underlying58
 have HB := Aside0.mk (Below.refl w.heap.size w)
 have H : ((r02_Split.f k a0 124).bind fun t544 => (if (t544.length : Int) = 3 then (if 0 < (t544.length : Int) then ((r01_Read.f k (rdOf ByteArray.empty t544 0)).bind fun bt548 => (if bt548.2 = 0 then (if 1 < (t544.length : Int) then ((r08_group.f k (rdOf ByteArray.empty t544 1)).bind fun t551 => (if t551 = 0 then (if 2 < (t544.length : Int) then ((r01_Parse.f k (rdOf ByteArray.empty t544 2)).bind fun bt553 => (if bt553.2.2 = 0 then (some (bt548.1, rdOf ByteArray.empty t544 1, bt553.1, bt553.2.1, 0)) else (some (0, (⟨#[]⟩ : ByteArray), 0, false, bt553.2.2)))) else (none)) else (some (0, (⟨#[]⟩ : ByteArray), 0, false, t551)))) else (none)) else (some (0, (⟨#[]⟩ : ByteArray), 0, false, bt548.2)))) else (none)) else (some (0, (⟨#[]⟩ : ByteArray), 0, false, 2)))) = some (r1, r2, r3, r4, r5) := h
 clear h
 obtain ⟨t544, A2, H⟩ := bs H
 try dsimp only at H
 by_cases c3 : (t544.length : Int) = 3
 ·
  rw [if_pos c3] at H
  have c3b0 : ((t544.length : Int) == 3) = true := beq_iff_eq.mpr c3
  have c3b1 : ((t544.length : Int) != 3) = false := bne_eq_false_iff_eq.mpr c3
  clear c3
  obtain ⟨c4, H⟩ := gd H
  have c4b0 : decide (0 < (t544.length : Int)) = true := decide_eq_true c4
  have c4b1 : decide (0 < t544.length) = true := decide_eq_true (by omega)
  clear c4
  obtain ⟨⟨t548, t549⟩, A5, H⟩ := bs H
  try dsimp only at H
  by_cases c6 : t549 = 0
  ·
   rw [if_pos c6] at H
   have c6b0 : (t549 == 0) = true := beq_iff_eq.mpr c6
   have c6b1 : (t549 != 0) = false := bne_eq_false_iff_eq.mpr c6
   clear c6
   obtain ⟨c7, H⟩ := gd H
   have c7b0 : decide (1 < (t544.length : Int)) = true := decide_eq_true c7
   have c7b1 : decide (1 < t544.length) = true := decide_eq_true (by omega)
   clear c7
   obtain ⟨t551, A8, H⟩ := bs H
   try dsimp only at H
   by_cases c9 : t551 = 0
   ·
    rw [if_pos c9] at H
    have c9b0 : (t551 == 0) = true := beq_iff_eq.mpr c9
    have c9b1 : (t551 != 0) = false := bne_eq_false_iff_eq.mpr c9
    clear c9
    obtain ⟨c10, H⟩ := gd H
    have c10b0 : decide (2 < (t544.length : Int)) = true := decide_eq_true c10
    have c10b1 : decide (2 < t544.length) = true := decide_eq_true (by omega)
    clear c10
    obtain ⟨⟨t553, t554, t555⟩, A11, H⟩ := bs H
    try dsimp only at H
    by_cases c12 : t555 = 0
    ·
     rw [if_pos c12] at H
     have c12b0 : (t555 == 0) = true := beq_iff_eq.mpr c12
     have c12b1 : (t555 != 0) = false := bne_eq_false_iff_eq.mpr c12
     clear c12
     simp only [Option.some.injEq, Prod.mk.injEq] at H
     obtain ⟨rfl, rfl, rfl, rfl, rfl⟩ := H
     go_enter Tryz.func71, Tryz.ntmps71
     try go_wp2_with (first | ((with_reducible refine gate_dst (N := 2) rfl ?_); refine bx (N := 2) #[.int .i64 0, .string (⟨#[]⟩ : ByteArray), .int .i64 0, .bool false] 60 ?_; intro gb543 hg w13 hbox hb; have BK543 := Aside0.mk (hbox); have GW543 := gw hg (uW HB.out); have GE543 := GW543; replace HB := cW HB hb; clear hb hbox hg) | (refine gL (some 9) rfl Tryz.func47 #[.string a0, .int .u8 124] ?_; (with_reducible refine (r02_Split.calls k a0 124 t544 _ A2.out).mono ?_); rintro e w14 ⟨v545, rfl, ho0, hb⟩; refine ⟨_, rfl, ?_⟩; have HO546 := Aside0.mk (Kd.R_lower ho0 (below_size bl)); replace BK543 := cB BK543 hb; replace HB := Aside0.mk (below_step bl hb); (try clear hb); (try clear ho0); obtain ⟨Ao15, co15, eo15⟩ := Kd.R_slice HO546.out; subst eo15; have p547 : 0 ≤ (0 : Int) := (by omega); have q547 : 0 < (t544.length : Int) := od; obtain ⟨ad547, e547, hx547_0⟩ := Kd.at_string (Kd.R_reads' HO546.out).2.2 0 p547 q547; cases e547; have qi547 : (0 < t544.length) = True := eq_true (by omega); (try rw [show ((0 : Int)).toNat = 0 from rfl] at hx547_0); (try rw [Addr.add_zero'] at hx547_0); replace p547 := eq_true p547; replace q547 := eq_true q547) | (refine gL (some 18) rfl Tryz.func56 #[.string (rdOf ByteArray.empty t544 0)] ?_; (with_reducible refine (r01_Read.calls k (rdOf ByteArray.empty t544 0) t548 t549 _ A5.out).mono ?_); rintro e w' ⟨rfl, ⟨nd, rfl⟩⟩; refine ⟨_, rfl, ?_⟩; (try (rw [drewN_self w14]; generalize hq_ : World.drewN w14 _ = w14; have n0_ : Aside0 (Kd.R Kd.string 9 w14 w.heap.size (fun _ => True) (.slice (some ad547) t544.length co15) t544) := ⟨by rw [← hq_]; exact (uR HO546.out)⟩; have n1_ : Aside0 (w14.heap[gb543]? = some (.cells #[.int .i64 0, .string (⟨#[]⟩ : ByteArray), .int .i64 0, .bool false] 60 (0, 0))) := ⟨by rw [← hq_]; exact (uB BK543.out)⟩; have n2_ : Aside0 (Below w.heap.size w w14) := ⟨by rw [← hq_]; exact bl⟩; clear HO546 BK543 HB hq_; have HO546 := n0_; have BK543 := n1_; have HB := n2_; clear n0_ n1_ n2_)); have p550 : 0 ≤ (1 : Int) := (by omega); have q550 : 1 < (t544.length : Int) := od; obtain ⟨ad550, e550, hx550_0⟩ := Kd.at_string (Kd.R_reads' HO546.out).2.2 1 p550 q550; obtain rfl : ad547 = ad550 := (by injection e550); (try simp only [show (1 : Int).toNat = 1 from rfl, Nat.reduceMul, Nat.reduceEqDiff, Go.Addr.add, ↓reduceIte] at hx550_0); have qi550 : (1 < t544.length) = True := eq_true (by omega); (try rw [show ((1 : Int)).toNat = 1 from rfl] at hx550_0); replace p550 := eq_true p550; replace q550 := eq_true q550) | (refine gL (some 28) rfl Tryz.func59 #[.string (rdOf ByteArray.empty t544 1)] ?_; (with_reducible refine (r08_group.calls k (rdOf ByteArray.empty t544 1) t551 _ A8.out).mono ?_); rintro e w16 ⟨rfl, hb⟩; refine ⟨_, rfl, ?_⟩; replace HO546 := cR HO546 hb; replace BK543 := cB BK543 hb; replace HB := Aside0.mk (below_step bl hb); (try clear hb); have p552 : 0 ≤ (2 : Int) := (by omega); have q552 : 2 < (t544.length : Int) := od; obtain ⟨ad552, e552, hx552_0⟩ := Kd.at_string (Kd.R_reads' HO546.out).2.2 2 p552 q552; obtain rfl : ad547 = ad552 := (by injection e552); (try simp only [show (2 : Int).toNat = 2 from rfl, Nat.reduceMul, Nat.reduceEqDiff, Go.Addr.add, ↓reduceIte] at hx552_0); have qi552 : (2 < t544.length) = True := eq_true (by omega); (try rw [show ((2 : Int)).toNat = 2 from rfl] at hx552_0); replace p552 := eq_true p552; replace q552 := eq_true q552) | (refine gL (some 37) rfl Tryz.func89 #[.string (rdOf ByteArray.empty t544 2)] ?_; (with_reducible refine (r01_Parse.calls k (rdOf ByteArray.empty t544 2) t553 t554 t555 _ A11.out).mono ?_); rintro e w17 ⟨rfl, hb⟩; refine ⟨_, rfl, ?_⟩; replace HO546 := cR HO546 hb; replace BK543 := cB BK543 hb; replace HB := Aside0.mk (below_step bl hb); (try clear hb)) | ((with_reducible refine gate_dst (N := 7) rfl ?_); refine bx (N := 7) #[.int .i64 0, .bool false] 58 ?_; intro gb556 hg w18 hbox hb; replace HO546 := cR HO546 hb; have BK556 := Aside0.mk (hbox); have GW556 := gw hg bl; have GE556 := GW556; replace HB := Aside0.mk (below_step bl hb); have NB543_556 := Aside0.mk ((by rw [hg]; exact Nat.ne_of_lt (blk_lt (g := gb543) (o := .cells #[.int .i64 0, .string (⟨#[]⟩ : ByteArray), .int .i64 0, .bool false] 60 (0, 0)) (uB BK543.out)) : gb543 ≠ gb556)); have NB556_543 := Aside0.mk ((by rw [hg]; exact Nat.ne_of_gt (blk_lt (g := gb543) (o := .cells #[.int .i64 0, .string (⟨#[]⟩ : ByteArray), .int .i64 0, .bool false] 60 (0, 0)) (uB BK543.out)) : gb556 ≠ gb543)); replace BK543 := cB BK543 hb; clear hb hbox hg; have hnb19 := NB556_543.out; have hnc19 := NB543_556.out; obtain ⟨hcz20_0, hcz20_1, hfz20_0, hfz20_1⟩ := z2 BK556))
     have n0_ : Aside0 (Kd.R Kd.string 9 ((w18.setCell ⟨gb556, 0, none⟩ (.int .i64 t553)).setCell ⟨gb556, 1, none⟩ (.bool t554)) w.heap.size (fun _ => True) (.slice (some ad547) t544.length co15) t544) := ⟨by exact uR <| Kd.R_mono (Kd.R_far (p := ⟨gb556, 1, none⟩) (Kd.R_far (p := ⟨gb556, 0, none⟩) (Kd.R_types HO546.out BK556.out (by decide)) (fun _ hk => hk.2) (.int .i64 t553)) (fun _ hk => hk.2) (.bool t554)) (fun _ hk => trivial)⟩
     have n1_ : Aside0 (((w18.setCell ⟨gb556, 0, none⟩ (.int .i64 t553)).setCell ⟨gb556, 1, none⟩ (.bool t554)).heap[gb543]? = some (.cells #[.int .i64 0, .string (⟨#[]⟩ : ByteArray), .int .i64 0, .bool false] 60 (0, 0))) := ⟨by (with_reducible repeat (first | refine blk_drewN ?_ _ | refine blk_drew ?_ | refine blk_alloc ?_ _)); refine blk_far ?_ NB543_556.out _; (with_reducible repeat (first | refine blk_drewN ?_ _ | refine blk_drew ?_ | refine blk_alloc ?_ _)); refine blk_far ?_ NB543_556.out _; exact uB <| BK543.out⟩
     have n2_ : Aside0 (((w18.setCell ⟨gb556, 0, none⟩ (.int .i64 t553)).setCell ⟨gb556, 1, none⟩ (.bool t554)).heap[gb556]? = some (.cells #[.int .i64 t553, .bool t554] 58 (0, 0))) := ⟨by (with_reducible repeat (first | refine blk_drewN ?_ _ | refine blk_drew ?_ | refine blk_alloc ?_ _)); refine blk_put (cs := #[.int .i64 t553, .bool false]) ?_ 1 _ rfl; (with_reducible repeat (first | refine blk_drewN ?_ _ | refine blk_drew ?_ | refine blk_alloc ?_ _)); refine blk_put (cs := #[.int .i64 0, .bool false]) ?_ 0 _ rfl; exact uB <| BK556.out⟩
     have n3_ : Aside0 (Below w.heap.size w ((w18.setCell ⟨gb556, 0, none⟩ (.int .i64 t553)).setCell ⟨gb556, 1, none⟩ (.bool t554))) := ⟨bl⟩
     (try clear HO546)
     (try clear BK543)
     (try clear BK556)
     (try clear HB)
     generalize ((w18.setCell ⟨gb556, 0, none⟩ (.int .i64 t553)).setCell ⟨gb556, 1, none⟩ (.bool t554)) = w21 at n0_ n1_ n2_ n3_ ⊢
     have HO546 := n0_
     have BK543 := n1_
     have BK556 := n2_
     have HB := n3_
     clear n0_ n1_ n2_ n3_
     replace HO546 := Aside0.mk (Kd.R_drew HO546.out)
     replace BK543 := Aside0.mk (blk_drew BK543.out)
     replace BK556 := Aside0.mk (blk_drew BK556.out)
     replace HB := Aside0.mk (below_drew1 HB.out)
     have p557 : 0 ≤ (1 : Int) := (by omega)
     have q557 : 1 < (t544.length : Int) := od
     obtain ⟨ad557, e557, hx557_0⟩ := Kd.at_string (Kd.R_reads' HO546.out).2.2 1 p557 q557
     obtain rfl : ad547 = ad557 := (by injection e557)
     (try simp only [show (1 : Int).toNat = 1 from rfl, Nat.reduceMul, Nat.reduceEqDiff, Go.Addr.add, ↓reduceIte] at hx557_0)
     have qi557 : (1 < t544.length) = True := eq_true (by omega)
     (try rw [show ((1 : Int)).toNat = 1 from rfl] at hx557_0)
     replace p557 := eq_true p557
     replace q557 := eq_true q557
     refine start_ (n := 8) (S := fun w' => w'.cell? ⟨gb556, 0, none⟩ = some (.int .i64 t553) ∧ w'.cell? ⟨gb556, 1, none⟩ = some (.bool t554) ∧ w'.cell? ⟨ad547.block, ad547.off + 1, none⟩ = some (.string (rdOf ByteArray.empty t544 1))) (ds := []) _ (by kernel_rfl) rfl rfl ⟨(blk_cell BK556.out 0).trans rfl, (blk_cell BK556.out 1).trans rfl, hx557_0⟩ (fun hHeld => ?_); refine with_tabW r08_one.tab13 r08_one.bits13 (fun HT_ HW_ => ?_)
     generalize w21.drew = w22 at HO546 BK543 BK556 HB hx557_0 hHeld ⊢
     refine p1 0 (some 44) ?_
     refine p1 1 (some 45) ?_
     refine p1 2 (some 46) ?_
     refine t1 3 (some 47) rfl rfl hHeld (Or.inl ⟨by rfl, by rintro w' ⟨s0, s1, s2⟩; go_simp; with_reducible rfl⟩) ?_
     refine t1 4 (some 48) rfl rfl hHeld (Or.inl ⟨by rfl, by rintro w' ⟨s0, s1, s2⟩; go_simp; with_reducible rfl⟩) ?_
     refine p1 5 (some 49) ?_
     refine o1 6 none rfl rfl (fun K hK => ?_)
     have hs23 : w22.cell? ⟨gb543, 0, none⟩ = some (.int .i64 0) := (blk_cell BK543.out 0).trans rfl
     have hfs23 := blk_frozen BK543.out 0
     have hns23_1 := NB556_543.out
     have hms23_1 := NB543_556.out
     have hs24 : w22.cell? ⟨gb543, 1, none⟩ = some (.string (⟨#[]⟩ : ByteArray)) := (blk_cell BK543.out 1).trans rfl
     have hfs24 := blk_frozen BK543.out 1
     have hns24_1 := NB556_543.out
     have hms24_1 := NB543_556.out
     have hs25 : w22.cell? ⟨gb543, 2, none⟩ = some (.int .i64 0) := (blk_cell BK543.out 2).trans rfl
     have hfs25 := blk_frozen BK543.out 2
     have hns25_1 := NB556_543.out
     have hms25_1 := NB543_556.out
     have hs26 : w22.cell? ⟨gb543, 3, none⟩ = some (.bool false) := (blk_cell BK543.out 3).trans rfl
     have hfs26 := blk_frozen BK543.out 3
     have hns26_1 := NB556_543.out
     have hms26_1 := NB543_556.out
     refine skip_ (w1 := ?_) (by rfl) rfl ?_ ?_
     rotate_left
     ·
      go_simp
      rfl
     refine hK.out _ _ ⟨(ct NB556_543.out ((ct NB556_543.out ((ct NB556_543.out ((ct NB556_543.out (hHeld.1)))))))), (ct NB556_543.out ((ct NB556_543.out ((ct NB556_543.out ((ct NB556_543.out (hHeld.2.1)))))))), ((cell_far (p := ⟨gb543, _, none⟩) (nn (Kd.own_blk (Kd.R_ne HO546.out BK543.out (by decide)))) _).trans (((cell_far (p := ⟨gb543, _, none⟩) (nn (Kd.own_blk (Kd.R_ne HO546.out BK543.out (by decide)))) _).trans (((cell_far (p := ⟨gb543, _, none⟩) (nn (Kd.own_blk (Kd.R_ne HO546.out BK543.out (by decide)))) _).trans (((cell_far (p := ⟨gb543, _, none⟩) (nn (Kd.own_blk (Kd.R_ne HO546.out BK543.out (by decide)))) _).trans (hHeld.2.2))))))))⟩ (fun hHeld => ?_)
     clear hK K
     refine p1 7 (some 3) ?_
     refine done_ (done_of HT_.out (by kernel_rfl)) ?_
     try go_wp2
     refine bodyPost_ret (results_ct rfl _ _ gb543 60 #[.int .i64 t548, .string (rdOf ByteArray.empty t544 1), .int .i64 t553, .bool t554] (0, 0) _ rfl (fB BK543.out) Tryz.underlying60 rfl (by kernel_rfl)) rfl ?_
     exact ⟨re_, bl⟩
    ·
     rw [if_neg c12] at H
     have c12b0 : (t555 == 0) = false := beq_eq_false_iff_ne.mpr c12
     have c12b1 : (t555 != 0) = true := bne_iff_ne.mpr c12
     simp only [Option.some.injEq, Prod.mk.injEq] at H
     obtain ⟨rfl, rfl, rfl, rfl, rfl⟩ := H
     go_enter Tryz.func71, Tryz.ntmps71
     go_wp2_with (first | ((with_reducible refine gate_dst (N := 2) rfl ?_); refine bx (N := 2) #[.int .i64 0, .string (⟨#[]⟩ : ByteArray), .int .i64 0, .bool false] 60 ?_; intro gb543 hg w27 hbox hb; have BK543 := Aside0.mk (hbox); have GW543 := gw hg (uW HB.out); have GE543 := GW543; replace HB := cW HB hb; clear hb hbox hg) | (refine gL (some 9) rfl Tryz.func47 #[.string a0, .int .u8 124] ?_; (with_reducible refine (r02_Split.calls k a0 124 t544 _ A2.out).mono ?_); rintro e w28 ⟨v545, rfl, ho0, hb⟩; refine ⟨_, rfl, ?_⟩; have HO546 := Aside0.mk (Kd.R_lower ho0 (below_size bl)); replace BK543 := cB BK543 hb; replace HB := Aside0.mk (below_step bl hb); (try clear hb); (try clear ho0); obtain ⟨Ao29, co29, eo29⟩ := Kd.R_slice HO546.out; subst eo29; have p547 : 0 ≤ (0 : Int) := (by omega); have q547 : 0 < (t544.length : Int) := od; obtain ⟨ad547, e547, hx547_0⟩ := Kd.at_string (Kd.R_reads' HO546.out).2.2 0 p547 q547; cases e547; have qi547 : (0 < t544.length) = True := eq_true (by omega); (try rw [show ((0 : Int)).toNat = 0 from rfl] at hx547_0); (try rw [Addr.add_zero'] at hx547_0); replace p547 := eq_true p547; replace q547 := eq_true q547) | (refine gL (some 18) rfl Tryz.func56 #[.string (rdOf ByteArray.empty t544 0)] ?_; (with_reducible refine (r01_Read.calls k (rdOf ByteArray.empty t544 0) t548 t549 _ A5.out).mono ?_); rintro e w' ⟨rfl, ⟨nd, rfl⟩⟩; refine ⟨_, rfl, ?_⟩; (try (rw [drewN_self w28]; generalize hq_ : World.drewN w28 _ = w28; have n0_ : Aside0 (Kd.R Kd.string 9 w28 w.heap.size (fun _ => True) (.slice (some ad547) t544.length co29) t544) := ⟨by rw [← hq_]; exact (uR HO546.out)⟩; have n1_ : Aside0 (w28.heap[gb543]? = some (.cells #[.int .i64 0, .string (⟨#[]⟩ : ByteArray), .int .i64 0, .bool false] 60 (0, 0))) := ⟨by rw [← hq_]; exact (uB BK543.out)⟩; have n2_ : Aside0 (Below w.heap.size w w28) := ⟨by rw [← hq_]; exact bl⟩; clear HO546 BK543 HB hq_; have HO546 := n0_; have BK543 := n1_; have HB := n2_; clear n0_ n1_ n2_)); have p550 : 0 ≤ (1 : Int) := (by omega); have q550 : 1 < (t544.length : Int) := od; obtain ⟨ad550, e550, hx550_0⟩ := Kd.at_string (Kd.R_reads' HO546.out).2.2 1 p550 q550; obtain rfl : ad547 = ad550 := (by injection e550); (try simp only [show (1 : Int).toNat = 1 from rfl, Nat.reduceMul, Nat.reduceEqDiff, Go.Addr.add, ↓reduceIte] at hx550_0); have qi550 : (1 < t544.length) = True := eq_true (by omega); (try rw [show ((1 : Int)).toNat = 1 from rfl] at hx550_0); replace p550 := eq_true p550; replace q550 := eq_true q550) | (refine gL (some 28) rfl Tryz.func59 #[.string (rdOf ByteArray.empty t544 1)] ?_; (with_reducible refine (r08_group.calls k (rdOf ByteArray.empty t544 1) t551 _ A8.out).mono ?_); rintro e w30 ⟨rfl, hb⟩; refine ⟨_, rfl, ?_⟩; replace HO546 := cR HO546 hb; replace BK543 := cB BK543 hb; replace HB := Aside0.mk (below_step bl hb); (try clear hb); have p552 : 0 ≤ (2 : Int) := (by omega); have q552 : 2 < (t544.length : Int) := od; obtain ⟨ad552, e552, hx552_0⟩ := Kd.at_string (Kd.R_reads' HO546.out).2.2 2 p552 q552; obtain rfl : ad547 = ad552 := (by injection e552); (try simp only [show (2 : Int).toNat = 2 from rfl, Nat.reduceMul, Nat.reduceEqDiff, Go.Addr.add, ↓reduceIte] at hx552_0); have qi552 : (2 < t544.length) = True := eq_true (by omega); (try rw [show ((2 : Int)).toNat = 2 from rfl] at hx552_0); replace p552 := eq_true p552; replace q552 := eq_true q552) | (refine gL (some 37) rfl Tryz.func89 #[.string (rdOf ByteArray.empty t544 2)] ?_; (with_reducible refine (r01_Parse.calls k (rdOf ByteArray.empty t544 2) t553 t554 t555 _ A11.out).mono ?_); rintro e w31 ⟨rfl, hb⟩; refine ⟨_, rfl, ?_⟩; replace HO546 := cR HO546 hb; replace BK543 := cB BK543 hb; replace HB := Aside0.mk (below_step bl hb); (try clear hb)) | ((with_reducible refine gate_dst (N := 7) rfl ?_); refine bx (N := 7) #[.int .i64 0, .bool false] 58 ?_; intro gb556 hg w32 hbox hb; replace HO546 := cR HO546 hb; have BK556 := Aside0.mk (hbox); have GW556 := gw hg bl; have GE556 := GW556; replace HB := Aside0.mk (below_step bl hb); have NB543_556 := Aside0.mk ((by rw [hg]; exact Nat.ne_of_lt (blk_lt (g := gb543) (o := .cells #[.int .i64 0, .string (⟨#[]⟩ : ByteArray), .int .i64 0, .bool false] 60 (0, 0)) (uB BK543.out)) : gb543 ≠ gb556)); have NB556_543 := Aside0.mk ((by rw [hg]; exact Nat.ne_of_gt (blk_lt (g := gb543) (o := .cells #[.int .i64 0, .string (⟨#[]⟩ : ByteArray), .int .i64 0, .bool false] 60 (0, 0)) (uB BK543.out)) : gb556 ≠ gb543)); replace BK543 := cB BK543 hb; clear hb hbox hg; have hnb33 := NB556_543.out; have hnc33 := NB543_556.out; obtain ⟨hcz34_0, hcz34_1, hfz34_0, hfz34_1⟩ := z2 BK556; obtain ⟨hcz35_0, hcz35_1, hcz35_2, hcz35_3, hfz35_0, hfz35_1, hfz35_2, hfz35_3⟩ := z4 BK543) | ((with_reducible refine gate_store (t := 60) (p := 2) rfl ?_); refine store_event (t := 60) (p := 2) (v := ?vo_w36) (w1 := ((((((w32.setCell ⟨gb556, 0, none⟩ (.int .i64 t553)).setCell ⟨gb556, 1, none⟩ (.bool t554)).setCell ⟨gb543, 0, none⟩ (.int .i64 0)).setCell ⟨gb543, 1, none⟩ (.string (⟨#[]⟩ : ByteArray))).setCell ⟨gb543, 2, none⟩ (.int .i64 0)).setCell ⟨gb543, 3, none⟩ (.bool false))) ?hg ?ho ?hn ?hr ?_; (case ho => rfl); (case hg => rfl); (case hn => rfl); (case hr => first | (go_simp; done) | (go_simp; rfl)); intro w36 hw; have n0_ : Aside0 (Kd.R Kd.string 9 w36 w.heap.size (fun _ => True) (.slice (some ad547) t544.length co29) t544) := ⟨(by rw [hw]; exact (by exact uR <| Kd.R_mono (Kd.R_far (p := ⟨gb543, 3, none⟩) (Kd.R_far (p := ⟨gb543, 2, none⟩) (Kd.R_far (p := ⟨gb543, 1, none⟩) (Kd.R_far (p := ⟨gb543, 0, none⟩) (Kd.R_far (p := ⟨gb556, 1, none⟩) (Kd.R_far (p := ⟨gb556, 0, none⟩) (Kd.R_types (Kd.R_types HO546.out BK556.out (by decide)) BK543.out (by decide)) (fun _ hk => hk.1.2) (.int .i64 t553)) (fun _ hk => hk.1.2) (.bool t554)) (fun _ hk => hk.2) (.int .i64 0)) (fun _ hk => hk.2) (.string (⟨#[]⟩ : ByteArray))) (fun _ hk => hk.2) (.int .i64 0)) (fun _ hk => hk.2) (.bool false)) (fun _ hk => trivial)))⟩; have n1_ : Aside0 (w36.heap[gb543]? = some (.cells #[.int .i64 0, .string (⟨#[]⟩ : ByteArray), .int .i64 0, .bool false] 60 (0, 0))) := ⟨(by rw [hw]; exact (by (with_reducible repeat (first | refine blk_drewN ?_ _ | refine blk_drew ?_ | refine blk_alloc ?_ _)); refine blk_put (cs := #[.int .i64 0, .string (⟨#[]⟩ : ByteArray), .int .i64 0, .bool false]) ?_ 3 _ rfl; (with_reducible repeat (first | refine blk_drewN ?_ _ | refine blk_drew ?_ | refine blk_alloc ?_ _)); refine blk_put (cs := #[.int .i64 0, .string (⟨#[]⟩ : ByteArray), .int .i64 0, .bool false]) ?_ 2 _ rfl; (with_reducible repeat (first | refine blk_drewN ?_ _ | refine blk_drew ?_ | refine blk_alloc ?_ _)); refine blk_put (cs := #[.int .i64 0, .string (⟨#[]⟩ : ByteArray), .int .i64 0, .bool false]) ?_ 1 _ rfl; (with_reducible repeat (first | refine blk_drewN ?_ _ | refine blk_drew ?_ | refine blk_alloc ?_ _)); refine blk_put (cs := #[.int .i64 0, .string (⟨#[]⟩ : ByteArray), .int .i64 0, .bool false]) ?_ 0 _ rfl; (with_reducible repeat (first | refine blk_drewN ?_ _ | refine blk_drew ?_ | refine blk_alloc ?_ _)); refine blk_far ?_ NB543_556.out _; (with_reducible repeat (first | refine blk_drewN ?_ _ | refine blk_drew ?_ | refine blk_alloc ?_ _)); refine blk_far ?_ NB543_556.out _; exact uB <| BK543.out))⟩; have n2_ : Aside0 (w36.heap[gb556]? = some (.cells #[.int .i64 t553, .bool t554] 58 (0, 0))) := ⟨(by rw [hw]; exact (by (with_reducible repeat (first | refine blk_drewN ?_ _ | refine blk_drew ?_ | refine blk_alloc ?_ _)); refine blk_far ?_ NB556_543.out _; (with_reducible repeat (first | refine blk_drewN ?_ _ | refine blk_drew ?_ | refine blk_alloc ?_ _)); refine blk_far ?_ NB556_543.out _; (with_reducible repeat (first | refine blk_drewN ?_ _ | refine blk_drew ?_ | refine blk_alloc ?_ _)); refine blk_far ?_ NB556_543.out _; (with_reducible repeat (first | refine blk_drewN ?_ _ | refine blk_drew ?_ | refine blk_alloc ?_ _)); refine blk_far ?_ NB556_543.out _; (with_reducible repeat (first | refine blk_drewN ?_ _ | refine blk_drew ?_ | refine blk_alloc ?_ _)); refine blk_put (cs := #[.int .i64 t553, .bool false]) ?_ 1 _ rfl; (with_reducible repeat (first | refine blk_drewN ?_ _ | refine blk_drew ?_ | refine blk_alloc ?_ _)); refine blk_put (cs := #[.int .i64 0, .bool false]) ?_ 0 _ rfl; exact uB <| BK556.out))⟩; have n3_ : Aside0 (Below w.heap.size w w36) := ⟨(by rw [hw]; exact bl)⟩; clear hw; clear HO546; clear BK543; clear BK556; clear HB; have HO546 := n0_; have BK543 := n1_; have BK556 := n2_; have HB := n3_; clear n0_ n1_ n2_ n3_))
     refine bodyPost_ret (results_ct rfl _ _ gb543 60 #[.int .i64 0, .string (⟨#[]⟩ : ByteArray), .int .i64 0, .bool false] (0, 0) _ rfl (uB BK543.out) Tryz.underlying60 rfl (by kernel_rfl)) rfl ?_
     exact ⟨re_, bl⟩
   ·
    rw [if_neg c9] at H
    have c9b0 : (t551 == 0) = false := beq_eq_false_iff_ne.mpr c9
    have c9b1 : (t551 != 0) = true := bne_iff_ne.mpr c9
    simp only [Option.some.injEq, Prod.mk.injEq] at H
    obtain ⟨rfl, rfl, rfl, rfl, rfl⟩ := H
    go_enter Tryz.func71, Tryz.ntmps71
    go_wp2_with (first | ((with_reducible refine gate_dst (N := 2) rfl ?_); refine bx (N := 2) #[.int .i64 0, .string (⟨#[]⟩ : ByteArray), .int .i64 0, .bool false] 60 ?_; intro gb543 hg w37 hbox hb; have BK543 := Aside0.mk (hbox); have GW543 := gw hg (uW HB.out); have GE543 := GW543; replace HB := cW HB hb; clear hb hbox hg) | (refine gL (some 9) rfl Tryz.func47 #[.string a0, .int .u8 124] ?_; (with_reducible refine (r02_Split.calls k a0 124 t544 _ A2.out).mono ?_); rintro e w38 ⟨v545, rfl, ho0, hb⟩; refine ⟨_, rfl, ?_⟩; have HO546 := Aside0.mk (Kd.R_lower ho0 (below_size bl)); replace BK543 := cB BK543 hb; replace HB := Aside0.mk (below_step bl hb); (try clear hb); (try clear ho0); obtain ⟨Ao39, co39, eo39⟩ := Kd.R_slice HO546.out; subst eo39; have p547 : 0 ≤ (0 : Int) := (by omega); have q547 : 0 < (t544.length : Int) := od; obtain ⟨ad547, e547, hx547_0⟩ := Kd.at_string (Kd.R_reads' HO546.out).2.2 0 p547 q547; cases e547; have qi547 : (0 < t544.length) = True := eq_true (by omega); (try rw [show ((0 : Int)).toNat = 0 from rfl] at hx547_0); (try rw [Addr.add_zero'] at hx547_0); replace p547 := eq_true p547; replace q547 := eq_true q547) | (refine gL (some 18) rfl Tryz.func56 #[.string (rdOf ByteArray.empty t544 0)] ?_; (with_reducible refine (r01_Read.calls k (rdOf ByteArray.empty t544 0) t548 t549 _ A5.out).mono ?_); rintro e w' ⟨rfl, ⟨nd, rfl⟩⟩; refine ⟨_, rfl, ?_⟩; (try (rw [drewN_self w38]; generalize hq_ : World.drewN w38 _ = w38; have n0_ : Aside0 (Kd.R Kd.string 9 w38 w.heap.size (fun _ => True) (.slice (some ad547) t544.length co39) t544) := ⟨by rw [← hq_]; exact (uR HO546.out)⟩; have n1_ : Aside0 (w38.heap[gb543]? = some (.cells #[.int .i64 0, .string (⟨#[]⟩ : ByteArray), .int .i64 0, .bool false] 60 (0, 0))) := ⟨by rw [← hq_]; exact (uB BK543.out)⟩; have n2_ : Aside0 (Below w.heap.size w w38) := ⟨by rw [← hq_]; exact bl⟩; clear HO546 BK543 HB hq_; have HO546 := n0_; have BK543 := n1_; have HB := n2_; clear n0_ n1_ n2_)); have p550 : 0 ≤ (1 : Int) := (by omega); have q550 : 1 < (t544.length : Int) := od; obtain ⟨ad550, e550, hx550_0⟩ := Kd.at_string (Kd.R_reads' HO546.out).2.2 1 p550 q550; obtain rfl : ad547 = ad550 := (by injection e550); (try simp only [show (1 : Int).toNat = 1 from rfl, Nat.reduceMul, Nat.reduceEqDiff, Go.Addr.add, ↓reduceIte] at hx550_0); have qi550 : (1 < t544.length) = True := eq_true (by omega); (try rw [show ((1 : Int)).toNat = 1 from rfl] at hx550_0); replace p550 := eq_true p550; replace q550 := eq_true q550) | (refine gL (some 28) rfl Tryz.func59 #[.string (rdOf ByteArray.empty t544 1)] ?_; (with_reducible refine (r08_group.calls k (rdOf ByteArray.empty t544 1) t551 _ A8.out).mono ?_); rintro e w40 ⟨rfl, hb⟩; refine ⟨_, rfl, ?_⟩; replace HO546 := cR HO546 hb; replace BK543 := cB BK543 hb; replace HB := Aside0.mk (below_step bl hb); (try clear hb); obtain ⟨hcz41_0, hcz41_1, hcz41_2, hcz41_3, hfz41_0, hfz41_1, hfz41_2, hfz41_3⟩ := z4 BK543))
    refine bodyPost_ret (results_ct rfl _ _ gb543 60 #[.int .i64 0, .string (⟨#[]⟩ : ByteArray), .int .i64 0, .bool false] (0, 0) _ rfl (fB BK543.out) Tryz.underlying60 rfl (by kernel_rfl)) rfl ?_
    exact ⟨re_, bl⟩
  ·
   rw [if_neg c6] at H
   have c6b0 : (t549 == 0) = false := beq_eq_false_iff_ne.mpr c6
   have c6b1 : (t549 != 0) = true := bne_iff_ne.mpr c6
   simp only [Option.some.injEq, Prod.mk.injEq] at H
   obtain ⟨rfl, rfl, rfl, rfl, rfl⟩ := H
   go_enter Tryz.func71, Tryz.ntmps71
   go_wp2_with (first | ((with_reducible refine gate_dst (N := 2) rfl ?_); refine bx (N := 2) #[.int .i64 0, .string (⟨#[]⟩ : ByteArray), .int .i64 0, .bool false] 60 ?_; intro gb543 hg w42 hbox hb; have BK543 := Aside0.mk (hbox); have GW543 := gw hg (uW HB.out); have GE543 := GW543; replace HB := cW HB hb; clear hb hbox hg) | (refine gL (some 9) rfl Tryz.func47 #[.string a0, .int .u8 124] ?_; (with_reducible refine (r02_Split.calls k a0 124 t544 _ A2.out).mono ?_); rintro e w43 ⟨v545, rfl, ho0, hb⟩; refine ⟨_, rfl, ?_⟩; have HO546 := Aside0.mk (Kd.R_lower ho0 (below_size bl)); replace BK543 := cB BK543 hb; replace HB := Aside0.mk (below_step bl hb); (try clear hb); (try clear ho0); obtain ⟨Ao44, co44, eo44⟩ := Kd.R_slice HO546.out; subst eo44; have p547 : 0 ≤ (0 : Int) := (by omega); have q547 : 0 < (t544.length : Int) := od; obtain ⟨ad547, e547, hx547_0⟩ := Kd.at_string (Kd.R_reads' HO546.out).2.2 0 p547 q547; cases e547; have qi547 : (0 < t544.length) = True := eq_true (by omega); (try rw [show ((0 : Int)).toNat = 0 from rfl] at hx547_0); (try rw [Addr.add_zero'] at hx547_0); replace p547 := eq_true p547; replace q547 := eq_true q547) | (refine gL (some 18) rfl Tryz.func56 #[.string (rdOf ByteArray.empty t544 0)] ?_; (with_reducible refine (r01_Read.calls k (rdOf ByteArray.empty t544 0) t548 t549 _ A5.out).mono ?_); rintro e w' ⟨rfl, ⟨nd, rfl⟩⟩; refine ⟨_, rfl, ?_⟩; (try (rw [drewN_self w43]; generalize hq_ : World.drewN w43 _ = w43; have n0_ : Aside0 (Kd.R Kd.string 9 w43 w.heap.size (fun _ => True) (.slice (some ad547) t544.length co44) t544) := ⟨by rw [← hq_]; exact (uR HO546.out)⟩; have n1_ : Aside0 (w43.heap[gb543]? = some (.cells #[.int .i64 0, .string (⟨#[]⟩ : ByteArray), .int .i64 0, .bool false] 60 (0, 0))) := ⟨by rw [← hq_]; exact (uB BK543.out)⟩; have n2_ : Aside0 (Below w.heap.size w w43) := ⟨by rw [← hq_]; exact bl⟩; clear HO546 BK543 HB hq_; have HO546 := n0_; have BK543 := n1_; have HB := n2_; clear n0_ n1_ n2_)); obtain ⟨hcz45_0, hcz45_1, hcz45_2, hcz45_3, hfz45_0, hfz45_1, hfz45_2, hfz45_3⟩ := z4 BK543))
   refine bodyPost_ret (results_ct rfl _ _ gb543 60 #[.int .i64 0, .string (⟨#[]⟩ : ByteArray), .int .i64 0, .bool false] (0, 0) _ rfl (fB BK543.out) Tryz.underlying60 rfl (by kernel_rfl)) rfl ?_
   exact ⟨re_, bl⟩
 ·
  rw [if_neg c3] at H
  have c3b0 : ((t544.length : Int) == 3) = false := beq_eq_false_iff_ne.mpr c3
  have c3b1 : ((t544.length : Int) != 3) = true := bne_iff_ne.mpr c3
  simp only [Option.some.injEq, Prod.mk.injEq] at H
  obtain ⟨rfl, rfl, rfl, rfl, rfl⟩ := H
  go_enter Tryz.func71, Tryz.ntmps71
  go_wp2_with (first | ((with_reducible refine gate_dst (N := 2) rfl ?_); refine bx (N := 2) #[.int .i64 0, .string (⟨#[]⟩ : ByteArray), .int .i64 0, .bool false] 60 ?_; intro gb543 hg w46 hbox hb; have BK543 := Aside0.mk (hbox); have GW543 := gw hg (uW HB.out); have GE543 := GW543; replace HB := cW HB hb; clear hb hbox hg) | (refine gL (some 9) rfl Tryz.func47 #[.string a0, .int .u8 124] ?_; (with_reducible refine (r02_Split.calls k a0 124 t544 _ A2.out).mono ?_); rintro e w47 ⟨v545, rfl, ho0, hb⟩; refine ⟨_, rfl, ?_⟩; have HO546 := Aside0.mk (Kd.R_lower ho0 (below_size bl)); replace BK543 := cB BK543 hb; replace HB := Aside0.mk (below_step bl hb); (try clear hb); (try clear ho0); obtain ⟨Ao48, co48, eo48⟩ := Kd.R_slice HO546.out; subst eo48; obtain ⟨hcz49_0, hcz49_1, hcz49_2, hcz49_3, hfz49_0, hfz49_1, hfz49_2, hfz49_3⟩ := z4 BK543))
  refine bodyPost_ret (results_ct rfl _ _ gb543 60 #[.int .i64 0, .string (⟨#[]⟩ : ByteArray), .int .i64 0, .bool false] (0, 0) _ rfl (fB BK543.out) Tryz.underlying60 rfl (by kernel_rfl)) rfl ?_
  exact ⟨re_, bl⟩
attribute [local go_sem high] eqA58
def r08_Parse.l0 : Nat → List (S60) → List ByteArray → Int → Option ((List (S60)) × Int)
 | 0, _, _, _ => none
 | k + 1, x4, x5, x6 => if x6 < (x5.length : Int) then (if 0 ≤ x6 then ((r08_one.f k (rdOf ByteArray.empty x5 x6)).bind fun bt562 => (if bt562.2.2.2.2 = 0 then (if x4.length < 3518437208883 then (r08_Parse.l0 k (x4 ++ [(⟨bt562.1, bt562.2.1, (⟨bt562.2.2.1, bt562.2.2.2.1⟩ : S58)⟩ : S60)]) x5 (wrap64 (x6 + 1))) else (none)) else (some (([] : List (S60)), bt562.2.2.2.2)))) else (none)) else ((r08_rise.f k x4).bind fun t571 => (if t571 = true then (some (x4, 0)) else (some (([] : List (S60)), 9))))
def r08_Parse.f (k : Nat) (a0 : ByteArray) : Option ((List (S60)) × Int) := if a0.toList = ([45] : List UInt8) then (some (([] : List (S60)), 0)) else ((r02_Split.f k a0 59).bind fun t558 => (r08_Parse.l0 k ([] : List (S60)) t558 0))
theorem r08_Parse.mono_l : ∀ k, (∀ y0 y1 y2, LeC (r08_Parse.l0 k y0 y1 y2) (r08_Parse.l0 (k + 1) y0 y1 y2))
 | 0 => fun _ _ _ => ⟨fun r h => by simp [r08_Parse.l0] at h⟩
 | k + 1 => by have ih0 := r08_Parse.mono_l k; exact fun _ _ _ => by unfold r08_Parse.l0; exact lm
theorem r08_Parse.mono : ∀ a0 k, LeO (r08_Parse.f k a0) (r08_Parse.f (k + 1) a0) := by
 intro a0 k
 have ih0 := r08_Parse.mono_l k
 unfold r08_Parse.f
 exact lo
instance r08_Parse.mI {a0 k} : LeC (r08_Parse.f k a0) (r08_Parse.f (k + 1) a0) := ⟨r08_Parse.mono _ _⟩
theorem r08_Parse.calls (k : Nat) (a0 : ByteArray) (r1 : List (S60)) (r2 : Int) (w : World) (h : r08_Parse.f k a0 = some (r1, r2)) :
 Calls Tryz.prog 52 #[.string a0] w fun e w' => ∃ v0_ : Value, e = .returned (.tuple #[v0_, .int .i64 r2]) ∧ Kd.R k60 60 w' w.heap.size (fun _ => True) v0_ r1 ∧ Below w.heap.size w w' := by
 have hu60 := Tryz.underlying60
 have HB := Aside0.mk (Below.refl w.heap.size w)
 have H : (if a0.toList = ([45] : List UInt8) then (some (([] : List (S60)), 0)) else ((r02_Split.f k a0 59).bind fun t558 => (r08_Parse.l0 k ([] : List (S60)) t558 0))) = some (r1, r2) := h
 clear h
 by_cases c2 : a0.toList = ([45] : List UInt8)
 ·
  rw [if_pos c2] at H
  have c2b0 : (a0.toList == ([45] : List UInt8)) = true := beq_iff_eq.mpr c2
  have c2b1 : (a0.toList != ([45] : List UInt8)) = false := bne_eq_false_iff_eq.mpr c2
  clear c2
  simp only [Option.some.injEq, Prod.mk.injEq] at H
  obtain ⟨rfl, rfl⟩ := H
  go_enter Tryz.func52, Tryz.ntmps52
  go_wp2
  go_ret2
  exact ⟨_, re_, nl_, uW HB.out⟩
 ·
  rw [if_neg c2] at H
  have c2b0 : (a0.toList == ([45] : List UInt8)) = false := beq_eq_false_iff_ne.mpr c2
  have c2b1 : (a0.toList != ([45] : List UInt8)) = true := bne_iff_ne.mpr c2
  obtain ⟨t558, A3, H⟩ := bs H
  try dsimp only at H
  have H' := Aside0.mk H
  clear H
  go_enter Tryz.func52, Tryz.ntmps52
  go_wp2_with (first | (refine gL (some 12) rfl Tryz.func47 #[.string a0, .int .u8 59] ?_; (with_reducible refine (r02_Split.calls k a0 59 t558 _ A3.out).mono ?_); rintro e w4 ⟨v559, rfl, ho0, hb⟩; refine ⟨_, rfl, ?_⟩; have HO560 := Aside0.mk (Kd.R_lower ho0 (below_size (uW HB.out))); replace HB := cW HB hb; (try clear hb); (try clear ho0)))
  (try simp only [Act.put, List.setIfInBounds_toArray, List.set_cons_zero, List.set_cons_succ])
  go_loopg [4, 6] k (fun kq v4 v6 w' => ∃ (x4_1 : List (S60)) (x6_1 : Int), v6 = .int .i64 x6_1 ∧ Aside0 (r08_Parse.l0 kq x4_1 t558 x6_1 = some (r1, r2)) ∧ Aside0 (kq ≤ k) ∧ Aside0 (Kd.R k60 60 w' w.heap.size (fun _ => True) v4 x4_1) ∧ Aside0 (Kd.R Kd.string 9 w' w.heap.size (fun _ => True) v559 t558) ∧ Aside0 (Below w.heap.size w w'))
  case atStart => exact ⟨(([] : List (S60))), (0), rs_, H', ⟨Nat.le_refl _⟩, ⟨nl_⟩, ⟨uR HO560.out⟩, ⟨uW HB.out⟩⟩
  case round =>
   clear H'
   try clear c2
   try clear c2b0
   try clear c2b1
   try clear p2
   try clear c4
   obtain ⟨x4_1, x6_1, rfl, HA, HK1, HO_4, HO_5, HB⟩ := hrel
   cases gk with
   | zero => exact absurd HA.out (by simp [r08_Parse.l0])
   | succ k1 =>
    have H := HA.out
    clear HA
    simp only [r08_Parse.l0] at H
    by_cases c5 : x6_1 < (t558.length : Int)
    ·
     rw [if_pos c5] at H
     have c5b0 : decide (x6_1 < (t558.length : Int)) = true := decide_eq_true c5
     clear c5
     obtain ⟨c6b0, H⟩ := gdd H
     obtain ⟨⟨t562, t563, t564, t565, t566⟩, A7, H⟩ := bs H
     try dsimp only at H
     by_cases c8 : t566 = 0
     ·
      rw [if_pos c8] at H
      have c8b0 : (t566 == 0) = true := beq_iff_eq.mpr c8
      have c8b1 : (t566 != 0) = false := bne_eq_false_iff_eq.mpr c8
      clear c8
      obtain ⟨c9, H⟩ := gd H
      have LMc9 := Aside0.mk c9
      clear c9
      obtain ⟨y568, hy568⟩ : ∃ y_ : List (S60), y_ = (x4_1 ++ [(⟨t562, t563, (⟨t564, t565⟩ : S58)⟩ : S60)]) := ⟨_, rfl⟩
      replace H : (r08_Parse.l0 k1 y568 t558 (wrap64 (x6_1 + 1))) = some (r1, r2) := by first | (rw [hy568]; with_reducible exact H) | (have H2_ := (Option.bind_some _ _).symm.trans H; rw [hy568]; with_reducible exact H2_) | (have H2_ := (Option.bind_some _ _).symm.trans H; with_reducible exact H2_) | with_reducible exact H | (rw [hy568]; exact H) | exact H
      have Ny568 := Aside0.mk hy568
      clear hy568
      have H' := Aside0.mk H
      clear H
      obtain ⟨Ao10, co10, eo10⟩ := Kd.R_slice HO_5.out
      subst eo10
      have p561 : 0 ≤ (x6_1 : Int) := od
      have q561 : x6_1 < (t558.length : Int) := od
      obtain ⟨ad561, e561, hx561_0⟩ := Kd.at_string (Kd.R_reads' HO_5.out).2.2 x6_1 p561 q561
      cases e561
      replace p561 := eq_true p561
      replace q561 := eq_true q561
      go_wp2_with (first | (refine gL (some 24) rfl Tryz.func71 #[.string (rdOf ByteArray.empty t558 x6_1)] ?_; (with_reducible refine (r08_one.calls k1 (rdOf ByteArray.empty t558 x6_1) t562 t563 t564 t565 t566 _ A7.out).mono ?_); rintro e w11 ⟨rfl, hb⟩; refine ⟨_, rfl, ?_⟩; replace HO_4 := cR HO_4 hb; replace HO_5 := cR HO_5 hb; replace HB := cW HB hb; (try clear hb)) | ((with_reducible refine gate_dst (N := 7) rfl ?_); refine bx (N := 7) #[.int .i64 0, .string (⟨#[]⟩ : ByteArray), .int .i64 0, .bool false] 60 ?_; intro gb567 hg w12 hbox hb; replace HO_4 := Aside0.mk (Kd.R_below (Kd.R_elderB (uR HO_4.out) gb567 (Nat.le_of_eq hg.symm)) hb); replace HO_5 := cR HO_5 hb; have BK567 := Aside0.mk (hbox); have GW567 := gw hg (uW HB.out); have GE567 := GW567; replace HB := cW HB hb; clear hb hbox hg; obtain ⟨hcz13_0, hcz13_1, hcz13_2, hcz13_3, hfz13_0, hfz13_1, hfz13_2, hfz13_3⟩ := z4 BK567) | ((with_reducible refine gate_builtin (b := .append) (xs := #[.tmp 30, .tmp 32]) rfl ?_); at_builtin; refine Kd.R_append k60 (w0 := w) w.heap.size rfl (.tmp 30) (.tmp 32) 31 60 (.agg #[(.int .i64 0), (.string ⟨#[]⟩), (.int .i64 0), (.bool false)]) 40 rfl Tryz.underlying31 info60 rfl (by decide) (by omega) u4 x4_1 (⟨t562, t563, (⟨t564, t565⟩ : S58)⟩ : S60) [.int .i64 t562, .string t563, .int .i64 t564, .bool t565] (fun k_ => k_ ≠ gb567) (fun _ => False) rfl (by first | (go_simp; done) | (go_simp; rfl)) ?aP (fun _ hk => hk.elim) ?aF ?aO ?aB ?aS ?aL ?_; (case aP => exact k60_mkM _ _ _ (⟨t562, t563, (⟨t564, t565⟩ : S58)⟩ : S60)); (case aB => exact bl); (case aF => exact (fun k_ hk => Kd.freshB (g := gb567) (o := .cells #[.int .i64 t562, .string t563, .int .i64 t564, .bool t565] 60 (0, 0)) (fB BK567.out) k_ hk)); (case aO => exact (by exact uR <| Kd.R_mono (Kd.R_far (p := ⟨gb567, 3, none⟩) (Kd.R_far (p := ⟨gb567, 2, none⟩) (Kd.R_far (p := ⟨gb567, 1, none⟩) (Kd.R_far (p := ⟨gb567, 0, none⟩) (Kd.R_mono HO_4.out (fun k_ hk => (⟨hk, hk.2⟩ : _ ∧ k_ ≠ gb567))) (fun _ hk => hk.2) (.int .i64 t562)) (fun _ hk => hk.2) (.string t563)) (fun _ hk => hk.2) (.int .i64 t564)) (fun _ hk => hk.2) (.bool t565)) (fun _ hk => hk.1.2))); (case aS => exact (below_size bl)); (case aL => have := LMc9.out; omega); intro v569 w14 ho hb hg hat; rw [← Ny568.out] at ho; replace HO_5 := Aside0.mk (Kd.R_over' (by exact uR <| (Kd.R_mono (Kd.R_far (p := ⟨gb567, 3, none⟩) (Kd.R_far (p := ⟨gb567, 2, none⟩) (Kd.R_far (p := ⟨gb567, 1, none⟩) (Kd.R_far (p := ⟨gb567, 0, none⟩) (Kd.R_types HO_5.out BK567.out (by decide)) (fun _ hk => hk.2) (.int .i64 t562)) (fun _ hk => hk.2) (.string t563)) (fun _ hk => hk.2) (.int .i64 t564)) (fun _ hk => hk.2) (.bool t565)) (fun _ h_ => h_.1))) (Kd.R_typed (by exact uR <| (Kd.R_mono (Kd.R_far (p := ⟨gb567, 3, none⟩) (Kd.R_far (p := ⟨gb567, 2, none⟩) (Kd.R_far (p := ⟨gb567, 1, none⟩) (Kd.R_far (p := ⟨gb567, 0, none⟩) (Kd.R_mono HO_4.out (fun k_ hk => (⟨hk, hk.2⟩ : _ ∧ k_ ≠ gb567))) (fun _ hk => hk.2) (.int .i64 t562)) (fun _ hk => hk.2) (.string t563)) (fun _ hk => hk.2) (.int .i64 t564)) (fun _ hk => hk.2) (.bool t565)) (fun _ h_ => h_.1)))) (by decide) hg); replace BK567 := Aside0.mk (blk_grown (g := gb567) (o := .cells #[.int .i64 t562, .string t563, .int .i64 t564, .bool t565] 60 (0, 0)) (fB BK567.out) hg (Kd.R_away HO_4.out (fun _ hk => hk.2))); replace HB := Aside0.mk (hb); have HO570 := Aside0.mk (ho); clear HO_4; clear ho hb hg hat))
      go_roundg k1
      case measure => have := HK1.out; omega
      case rel => exact ⟨(y568), (wrap64 (x6_1 + 1)), rs_, H', ⟨by have := HK1.out; omega⟩, ⟨by exact uR <| Kd.R_mono HO570.out (fun _ hk => trivial)⟩, ⟨uR HO_5.out⟩, ⟨bl⟩⟩
     ·
      rw [if_neg c8] at H
      have c8b0 : (t566 == 0) = false := beq_eq_false_iff_ne.mpr c8
      have c8b1 : (t566 != 0) = true := bne_iff_ne.mpr c8
      simp only [Option.some.injEq, Prod.mk.injEq] at H
      obtain ⟨rfl, rfl⟩ := H
      obtain ⟨Ao15, co15, eo15⟩ := Kd.R_slice HO_5.out
      subst eo15
      have p561 : 0 ≤ (x6_1 : Int) := od
      have q561 : x6_1 < (t558.length : Int) := od
      obtain ⟨ad561, e561, hx561_0⟩ := Kd.at_string (Kd.R_reads' HO_5.out).2.2 x6_1 p561 q561
      cases e561
      replace p561 := eq_true p561
      replace q561 := eq_true q561
      go_wp2_with (first | (refine gL (some 24) rfl Tryz.func71 #[.string (rdOf ByteArray.empty t558 x6_1)] ?_; (with_reducible refine (r08_one.calls k1 (rdOf ByteArray.empty t558 x6_1) t562 t563 t564 t565 t566 _ A7.out).mono ?_); rintro e w16 ⟨rfl, hb⟩; refine ⟨_, rfl, ?_⟩; replace HO_4 := cR HO_4 hb; replace HO_5 := cR HO_5 hb; replace HB := cW HB hb; (try clear hb)) | ((with_reducible refine gate_dst (N := 7) rfl ?_); refine bx (N := 7) #[.int .i64 0, .string (⟨#[]⟩ : ByteArray), .int .i64 0, .bool false] 60 ?_; intro gb567 hg w17 hbox hb; replace HO_4 := Aside0.mk (Kd.R_below (Kd.R_elderB (uR HO_4.out) gb567 (Nat.le_of_eq hg.symm)) hb); replace HO_5 := cR HO_5 hb; have BK567 := Aside0.mk (hbox); have GW567 := gw hg (uW HB.out); have GE567 := GW567; replace HB := cW HB hb; clear hb hbox hg; obtain ⟨hcz18_0, hcz18_1, hcz18_2, hcz18_3, hfz18_0, hfz18_1, hfz18_2, hfz18_3⟩ := z4 BK567))
      go_ret2
      exact ⟨_, re_, nl_, bl⟩
    ·
     rw [if_neg c5] at H
     have c5b0 : decide (x6_1 < (t558.length : Int)) = false := decide_eq_false c5
     clear c5
     obtain ⟨t571, A19, H⟩ := bs H
     try dsimp only at H
     by_cases c20 : t571 = true
     ·
      subst c20
      rw [if_pos rfl] at H
      simp only [Option.some.injEq, Prod.mk.injEq] at H
      obtain ⟨rfl, rfl⟩ := H
      obtain ⟨Ao21, co21, eo21⟩ := Kd.R_slice HO_5.out
      subst eo21
      obtain ⟨Ao22, co22, eo22⟩ := Kd.R_slice HO_4.out
      subst eo22
      go_wp2_with (first | (refine gL (some 35) rfl Tryz.func60 #[.slice Ao22 x4_1.length co22] ?_; (with_reducible refine (r08_rise.calls k1 _ _ x4_1 true _ ?side1 ?side2 A19.out).mono ?_); (case side1 => exact uC <| (Kd.R_reads' HO_4.out).2.2); (case side2 => exact (Kd.R_reads' HO_4.out).2.1); rintro e w23 ⟨rfl, hb⟩; refine ⟨_, rfl, ?_⟩; replace HO_4 := cR HO_4 hb; replace HO_5 := cR HO_5 hb; replace HB := cW HB hb; (try clear hb)))
      go_ret2
      exact ⟨_, re_, uR HO_4.out, uW HB.out⟩
     ·
      replace c20 := Bool.eq_false_iff.mpr c20
      subst c20
      rw [if_neg (show ¬ (false = true) by decide)] at H
      simp only [Option.some.injEq, Prod.mk.injEq] at H
      obtain ⟨rfl, rfl⟩ := H
      obtain ⟨Ao24, co24, eo24⟩ := Kd.R_slice HO_5.out
      subst eo24
      obtain ⟨Ao25, co25, eo25⟩ := Kd.R_slice HO_4.out
      subst eo25
      go_wp2_with (first | (refine gL (some 35) rfl Tryz.func60 #[.slice Ao25 x4_1.length co25] ?_; (with_reducible refine (r08_rise.calls k1 _ _ x4_1 false _ ?side1 ?side2 A19.out).mono ?_); (case side1 => exact uC <| (Kd.R_reads' HO_4.out).2.2); (case side2 => exact (Kd.R_reads' HO_4.out).2.1); rintro e w26 ⟨rfl, hb⟩; refine ⟨_, rfl, ?_⟩; replace HO_4 := cR HO_4 hb; replace HO_5 := cR HO_5 hb; replace HB := cW HB hb; (try clear hb)))
      go_ret2
      exact ⟨_, re_, nl_, uW HB.out⟩
def r23_ReadRows.j0 : Nat → List ByteArray → Bool → Option (Int × Int × (List (S60)) × Int)
 | 0, _, _ => none
 | k + 1, x4, x18 => if x18 = true then (some (0, 0, ([] : List (S60)), 2)) else (if 1 < (x4.length : Int) then ((r23_stamp.f k (rdOf ByteArray.empty x4 1)).bind fun bt578 => (if bt578.2 = 0 then (if 2 < (x4.length : Int) then ((r08_Parse.f k (rdOf ByteArray.empty x4 2)).bind fun bt581 => (if bt581.2 = 0 then (some (0, bt578.1, bt581.1, 0)) else (some (0, 0, ([] : List (S60)), bt581.2)))) else (none)) else (some (0, 0, ([] : List (S60)), bt578.2)))) else (none))
def r23_ReadRows.f (k : Nat) (a0 : ByteArray) : Option (Int × Int × (List (S60)) × Int) := (r02_Split.f k a0 32).bind fun t573 => (if (t573.length : Int) = 3 then (if 0 < (t573.length : Int) then (r23_ReadRows.j0 k t573 ((rdOf ByteArray.empty t573 0).toList != ([114, 111, 119, 115] : List UInt8))) else (none)) else (r23_ReadRows.j0 k t573 true))
theorem r23_ReadRows.mono_l : ∀ k, (∀ y0 y1, LeC (r23_ReadRows.j0 k y0 y1) (r23_ReadRows.j0 (k + 1) y0 y1))
 | 0 => fun _ _ => ⟨fun r h => by simp [r23_ReadRows.j0] at h⟩
 | k + 1 => by have ih0 := r23_ReadRows.mono_l k; exact fun _ _ => by unfold r23_ReadRows.j0; exact lm
theorem r23_ReadRows.mono : ∀ a0 k, LeO (r23_ReadRows.f k a0) (r23_ReadRows.f (k + 1) a0) := by
 intro a0 k
 have ih0 := r23_ReadRows.mono_l k
 unfold r23_ReadRows.f
 exact lo
instance r23_ReadRows.mI {a0 k} : LeC (r23_ReadRows.f k a0) (r23_ReadRows.f (k + 1) a0) := ⟨r23_ReadRows.mono _ _⟩
theorem r23_ReadRows.calls (k : Nat) (a0 : ByteArray) (r1 : Int) (r2 : Int) (r3 : List (S60)) (r4 : Int) (w : World) (h : r23_ReadRows.f k a0 = some (r1, r2, r3, r4)) :
 Calls Tryz.prog 25 #[.string a0] w fun e w' => ∃ v2_ : Value, e = .returned (.tuple #[.agg #[.int .i64 r1, .int .i64 r2, v2_], .int .i64 r4]) ∧ Kd.R k60 60 w' w.heap.size (fun _ => True) v2_ r3 ∧ Below w.heap.size w w' := by
 have hu33 := Tryz.underlying33
 have HB := Aside0.mk (Below.refl w.heap.size w)
 have H : ((r02_Split.f k a0 32).bind fun t573 => (if (t573.length : Int) = 3 then (if 0 < (t573.length : Int) then (r23_ReadRows.j0 k t573 ((rdOf ByteArray.empty t573 0).toList != ([114, 111, 119, 115] : List UInt8))) else (none)) else (r23_ReadRows.j0 k t573 true))) = some (r1, r2, r3, r4) := h
 clear h
 obtain ⟨t573, A2, H⟩ := bs H
 try dsimp only at H
 have HC3 := Aside0.mk H
 clear H
 go_enter Tryz.func25, Tryz.ntmps25
 go_upto_region 2 with (first | ((with_reducible refine gate_dst (N := 2) rfl ?_); refine bx (N := 2) #[.int .i64 0, .int .i64 0, .slice none 0 0] 33 ?_; intro gb572 hg w4 hbox hb; have BK572 := Aside0.mk (hbox); have GW572 := gw hg (uW HB.out); have GE572 := GW572; replace HB := cW HB hb; clear hb hbox hg) | (refine gL (some 9) rfl Tryz.func47 #[.string a0, .int .u8 32] ?_; (with_reducible refine (r02_Split.calls k a0 32 t573 _ A2.out).mono ?_); rintro e w5 ⟨v574, rfl, ho0, hb⟩; refine ⟨_, rfl, ?_⟩; have HO575 := Aside0.mk (Kd.R_lower ho0 (below_size bl)); replace BK572 := cB BK572 hb; replace HB := Aside0.mk (below_step bl hb); (try clear hb); (try clear ho0)))
 (try simp only [Act.put, List.setIfInBounds_toArray, List.set_cons_zero, List.set_cons_succ])
 go_cut [18] (fun v18 wc => ∃ (kq : Nat) (x18_2 : Bool), v18 = .bool x18_2 ∧ Aside0 (r23_ReadRows.j0 kq t573 x18_2 = some (r1, r2, r3, r4)) ∧ Aside0 (kq ≤ k) ∧ Aside0 (Kd.R Kd.string 9 wc w.heap.size (fun _ => True) v574 t573) ∧ Aside0 (wc.heap[gb572]? = some (.cells #[.int .i64 0, .int .i64 0, (.slice none 0 0)] 33 (0, 0))) ∧ Aside0 (Below w.heap.size w wc))
 case first =>
  have H := HC3.out
  clear HC3
  by_cases c6 : (t573.length : Int) = 3
  ·
   rw [if_pos c6] at H
   have c6b0 : ((t573.length : Int) == 3) = true := beq_iff_eq.mpr c6
   have c6b1 : ((t573.length : Int) != 3) = false := bne_eq_false_iff_eq.mpr c6
   clear c6
   (first | rw [c6b0] | (simp only [i64_w, i32_w]; rw [c6b0]) | skip)
   obtain ⟨c7, H⟩ := gd H
   have c7b0 : decide (0 < (t573.length : Int)) = true := decide_eq_true c7
   have c7b1 : decide (0 < t573.length) = true := decide_eq_true (by omega)
   clear c7
   have H' := Aside0.mk H
   clear H
   obtain ⟨Ao8, co8, eo8⟩ := Kd.R_slice HO575.out
   subst eo8
   have p576 : 0 ≤ (0 : Int) := (by omega)
   have q576 : 0 < (t573.length : Int) := od
   obtain ⟨ad576, e576, hx576_0⟩ := Kd.at_string (Kd.R_reads' HO575.out).2.2 0 p576 q576
   cases e576
   have qi576 : (0 < t573.length) = True := eq_true (by omega)
   (try rw [show ((0 : Int)).toNat = 0 from rfl] at hx576_0)
   (try rw [Addr.add_zero'] at hx576_0)
   replace p576 := eq_true p576
   replace q576 := eq_true q576
   go_wp2
   go_meet
   case rel => exact ⟨_, (((rdOf ByteArray.empty t573 0).toList != ([114, 111, 119, 115] : List UInt8))), rs_, H', ⟨by first | omega | exact Nat.le_refl _⟩, ⟨uR HO575.out⟩, ⟨uB BK572.out⟩, ⟨bl⟩⟩
  ·
   rw [if_neg c6] at H
   have c6b0 : ((t573.length : Int) == 3) = false := beq_eq_false_iff_ne.mpr c6
   have c6b1 : ((t573.length : Int) != 3) = true := bne_iff_ne.mpr c6
   (first | rw [c6b0] | (simp only [i64_w, i32_w]; rw [c6b0]) | skip)
   have H' := Aside0.mk H
   clear H
   obtain ⟨Ao9, co9, eo9⟩ := Kd.R_slice HO575.out
   subst eo9
   go_wp2
   go_meet
   case rel => exact ⟨_, (true), rs_, H', ⟨by first | omega | exact Nat.le_refl _⟩, ⟨uR HO575.out⟩, ⟨uB BK572.out⟩, ⟨bl⟩⟩
 case rest =>
  clear HC3
  try clear c2
  try clear p2
  try clear c4
  try clear p5
  try clear q5
  try clear hx5
  try clear qi5
  try clear c6
  try clear c6b0
  try clear c6b1
  try clear c7
  try clear c7b0
  try clear c7b1
  try clear hx576_0
  try clear p576
  try clear q576
  obtain ⟨kq, x18_2, rfl, HA, HJ2, HO_4, BK572, HB⟩ := hcut
  cases kq with
  | zero => exact absurd HA.out (by simp [r23_ReadRows.j0])
  | succ kj2 =>
   have H := HA.out
   clear HA
   simp only [r23_ReadRows.j0] at H
   by_cases c10 : x18_2 = true
   ·
    subst c10
    rw [if_pos rfl] at H
    simp only [Option.some.injEq, Prod.mk.injEq] at H
    obtain ⟨rfl, rfl, rfl, rfl⟩ := H
    obtain ⟨hcz11_0, hcz11_1, hcz11_2, hfz11_0, hfz11_1, hfz11_2⟩ := z3 BK572
    go_wp2
    refine bodyPost_ret (results_ct rfl _ _ gb572 33 #[.int .i64 0, .int .i64 0, .slice none 0 0] (0, 0) _ rfl (fB BK572.out) Tryz.underlying33 rfl (by kernel_rfl)) rfl ?_
    exact ⟨_, re_, nl_, bl⟩
   ·
    replace c10 := Bool.eq_false_iff.mpr c10
    subst c10
    rw [if_neg (show ¬ (false = true) by decide)] at H
    by_cases c12 : 1 < (t573.length : Int)
    ·
     rw [if_pos c12] at H
     have c12b0 : decide (1 < (t573.length : Int)) = true := decide_eq_true c12
     have c12b1 : decide (1 < t573.length) = true := decide_eq_true (by omega)
     clear c12
     obtain ⟨⟨t578, t579⟩, A13, H⟩ := bs H
     try dsimp only at H
     by_cases c14 : t579 = 0
     ·
      rw [if_pos c14] at H
      have c14b0 : (t579 == 0) = true := beq_iff_eq.mpr c14
      have c14b1 : (t579 != 0) = false := bne_eq_false_iff_eq.mpr c14
      clear c14
      obtain ⟨c15, H⟩ := gd H
      have c15b0 : decide (2 < (t573.length : Int)) = true := decide_eq_true c15
      have c15b1 : decide (2 < t573.length) = true := decide_eq_true (by omega)
      clear c15
      obtain ⟨⟨t581, t582⟩, A16, H⟩ := bs H
      try dsimp only at H
      by_cases c17 : t582 = 0
      ·
       rw [if_pos c17] at H
       have c17b0 : (t582 == 0) = true := beq_iff_eq.mpr c17
       have c17b1 : (t582 != 0) = false := bne_eq_false_iff_eq.mpr c17
       clear c17
       simp only [Option.some.injEq, Prod.mk.injEq] at H
       obtain ⟨rfl, rfl, rfl, rfl⟩ := H
       obtain ⟨Ao18, co18, eo18⟩ := Kd.R_slice HO_4.out
       subst eo18
       have p577 : 0 ≤ (1 : Int) := (by omega)
       have q577 : 1 < (t573.length : Int) := od
       obtain ⟨ad577, e577, hx577_0⟩ := Kd.at_string (Kd.R_reads' HO_4.out).2.2 1 p577 q577
       cases e577
       (try simp only [show (1 : Int).toNat = 1 from rfl, Nat.reduceMul, Nat.reduceEqDiff, Go.Addr.add, ↓reduceIte] at hx577_0)
       have qi577 : (1 < t573.length) = True := eq_true (by omega)
       (try rw [show ((1 : Int)).toNat = 1 from rfl] at hx577_0)
       replace p577 := eq_true p577
       replace q577 := eq_true q577
       go_wp2_with (first | (refine gL (some 24) rfl Tryz.func48 #[.string (rdOf ByteArray.empty t573 1)] ?_; (with_reducible refine (r23_stamp.calls kj2 (rdOf ByteArray.empty t573 1) t578 t579 _ A13.out).mono ?_); rintro e w' ⟨rfl, ⟨nd, rfl⟩⟩; refine ⟨_, rfl, ?_⟩; (try (rw [drewN_self wc]; generalize hq_ : World.drewN wc _ = wc; have n0_ : Aside0 (Kd.R Kd.string 9 wc w.heap.size (fun _ => True) (.slice (some ad577) t573.length co18) t573) := ⟨by rw [← hq_]; exact (uR HO_4.out)⟩; have n1_ : Aside0 (wc.heap[gb572]? = some (.cells #[.int .i64 0, .int .i64 0, .slice none 0 0] 33 (0, 0))) := ⟨by rw [← hq_]; exact (uB BK572.out)⟩; have n2_ : Aside0 (Below w.heap.size w wc) := ⟨by rw [← hq_]; exact bl⟩; clear HO_4 BK572 HB hq_; have HO_4 := n0_; have BK572 := n1_; have HB := n2_; clear n0_ n1_ n2_)); have p580 : 0 ≤ (2 : Int) := (by omega); have q580 : 2 < (t573.length : Int) := od; obtain ⟨ad580, e580, hx580_0⟩ := Kd.at_string (Kd.R_reads' HO_4.out).2.2 2 p580 q580; obtain rfl : ad577 = ad580 := (by injection e580); (try simp only [show (2 : Int).toNat = 2 from rfl, Nat.reduceMul, Nat.reduceEqDiff, Go.Addr.add, ↓reduceIte] at hx580_0); have qi580 : (2 < t573.length) = True := eq_true (by omega); (try rw [show ((2 : Int)).toNat = 2 from rfl] at hx580_0); replace p580 := eq_true p580; replace q580 := eq_true q580) | (refine gL (some 35) rfl Tryz.func52 #[.string (rdOf ByteArray.empty t573 2)] ?_; (with_reducible refine (r08_Parse.calls kj2 (rdOf ByteArray.empty t573 2) t581 t582 _ A16.out).mono ?_); rintro e w19 ⟨v583, rfl, ho0, hb⟩; refine ⟨_, rfl, ?_⟩; replace HO_4 := cR HO_4 hb; have HO584 := Aside0.mk (Kd.R_lower ho0 (below_size bl)); replace BK572 := cB BK572 hb; replace HB := Aside0.mk (below_step bl hb); (try clear hb); (try clear ho0); obtain ⟨Ao20, co20, eo20⟩ := Kd.R_slice HO584.out; subst eo20; obtain ⟨hcz21_0, hcz21_1, hcz21_2, hfz21_0, hfz21_1, hfz21_2⟩ := z3 BK572))
       refine bodyPost_ret (results_ct rfl _ _ gb572 33 #[.int .i64 0, .int .i64 t578, .slice Ao20 t581.length co20] (0, 0) _ rfl (fB BK572.out) Tryz.underlying33 rfl (by kernel_rfl)) rfl ?_
       exact ⟨_, re_, by exact uR <| Kd.R_mono (Kd.R_far (p := ⟨gb572, 2, none⟩) (Kd.R_far (p := ⟨gb572, 1, none⟩) (Kd.R_far (p := ⟨gb572, 0, none⟩) (Kd.R_types HO584.out BK572.out (by decide)) (fun _ hk => hk.2) (.int .i64 0)) (fun _ hk => hk.2) (.int .i64 t578)) (fun _ hk => hk.2) (.slice Ao20 t581.length co20)) (fun _ hk => trivial), bl⟩
      ·
       rw [if_neg c17] at H
       have c17b0 : (t582 == 0) = false := beq_eq_false_iff_ne.mpr c17
       have c17b1 : (t582 != 0) = true := bne_iff_ne.mpr c17
       simp only [Option.some.injEq, Prod.mk.injEq] at H
       obtain ⟨rfl, rfl, rfl, rfl⟩ := H
       obtain ⟨Ao22, co22, eo22⟩ := Kd.R_slice HO_4.out
       subst eo22
       have p577 : 0 ≤ (1 : Int) := (by omega)
       have q577 : 1 < (t573.length : Int) := od
       obtain ⟨ad577, e577, hx577_0⟩ := Kd.at_string (Kd.R_reads' HO_4.out).2.2 1 p577 q577
       cases e577
       (try simp only [show (1 : Int).toNat = 1 from rfl, Nat.reduceMul, Nat.reduceEqDiff, Go.Addr.add, ↓reduceIte] at hx577_0)
       have qi577 : (1 < t573.length) = True := eq_true (by omega)
       (try rw [show ((1 : Int)).toNat = 1 from rfl] at hx577_0)
       replace p577 := eq_true p577
       replace q577 := eq_true q577
       go_wp2_with (first | (refine gL (some 24) rfl Tryz.func48 #[.string (rdOf ByteArray.empty t573 1)] ?_; (with_reducible refine (r23_stamp.calls kj2 (rdOf ByteArray.empty t573 1) t578 t579 _ A13.out).mono ?_); rintro e w' ⟨rfl, ⟨nd, rfl⟩⟩; refine ⟨_, rfl, ?_⟩; (try (rw [drewN_self wc]; generalize hq_ : World.drewN wc _ = wc; have n0_ : Aside0 (Kd.R Kd.string 9 wc w.heap.size (fun _ => True) (.slice (some ad577) t573.length co22) t573) := ⟨by rw [← hq_]; exact (uR HO_4.out)⟩; have n1_ : Aside0 (wc.heap[gb572]? = some (.cells #[.int .i64 0, .int .i64 0, .slice none 0 0] 33 (0, 0))) := ⟨by rw [← hq_]; exact (uB BK572.out)⟩; have n2_ : Aside0 (Below w.heap.size w wc) := ⟨by rw [← hq_]; exact bl⟩; clear HO_4 BK572 HB hq_; have HO_4 := n0_; have BK572 := n1_; have HB := n2_; clear n0_ n1_ n2_)); have p580 : 0 ≤ (2 : Int) := (by omega); have q580 : 2 < (t573.length : Int) := od; obtain ⟨ad580, e580, hx580_0⟩ := Kd.at_string (Kd.R_reads' HO_4.out).2.2 2 p580 q580; obtain rfl : ad577 = ad580 := (by injection e580); (try simp only [show (2 : Int).toNat = 2 from rfl, Nat.reduceMul, Nat.reduceEqDiff, Go.Addr.add, ↓reduceIte] at hx580_0); have qi580 : (2 < t573.length) = True := eq_true (by omega); (try rw [show ((2 : Int)).toNat = 2 from rfl] at hx580_0); replace p580 := eq_true p580; replace q580 := eq_true q580) | (refine gL (some 35) rfl Tryz.func52 #[.string (rdOf ByteArray.empty t573 2)] ?_; (with_reducible refine (r08_Parse.calls kj2 (rdOf ByteArray.empty t573 2) t581 t582 _ A16.out).mono ?_); rintro e w23 ⟨v583, rfl, ho0, hb⟩; refine ⟨_, rfl, ?_⟩; replace HO_4 := cR HO_4 hb; have HO584 := Aside0.mk (Kd.R_lower ho0 (below_size bl)); replace BK572 := cB BK572 hb; replace HB := Aside0.mk (below_step bl hb); (try clear hb); (try clear ho0); obtain ⟨hcz24_0, hcz24_1, hcz24_2, hfz24_0, hfz24_1, hfz24_2⟩ := z3 BK572))
       refine bodyPost_ret (results_ct rfl _ _ gb572 33 #[.int .i64 0, .int .i64 0, .slice none 0 0] (0, 0) _ rfl (fB BK572.out) Tryz.underlying33 rfl (by kernel_rfl)) rfl ?_
       exact ⟨_, re_, nl_, bl⟩
     ·
      rw [if_neg c14] at H
      have c14b0 : (t579 == 0) = false := beq_eq_false_iff_ne.mpr c14
      have c14b1 : (t579 != 0) = true := bne_iff_ne.mpr c14
      simp only [Option.some.injEq, Prod.mk.injEq] at H
      obtain ⟨rfl, rfl, rfl, rfl⟩ := H
      obtain ⟨Ao25, co25, eo25⟩ := Kd.R_slice HO_4.out
      subst eo25
      have p577 : 0 ≤ (1 : Int) := (by omega)
      have q577 : 1 < (t573.length : Int) := od
      obtain ⟨ad577, e577, hx577_0⟩ := Kd.at_string (Kd.R_reads' HO_4.out).2.2 1 p577 q577
      cases e577
      (try simp only [show (1 : Int).toNat = 1 from rfl, Nat.reduceMul, Nat.reduceEqDiff, Go.Addr.add, ↓reduceIte] at hx577_0)
      have qi577 : (1 < t573.length) = True := eq_true (by omega)
      (try rw [show ((1 : Int)).toNat = 1 from rfl] at hx577_0)
      replace p577 := eq_true p577
      replace q577 := eq_true q577
      go_wp2_with (first | (refine gL (some 24) rfl Tryz.func48 #[.string (rdOf ByteArray.empty t573 1)] ?_; (with_reducible refine (r23_stamp.calls kj2 (rdOf ByteArray.empty t573 1) t578 t579 _ A13.out).mono ?_); rintro e w' ⟨rfl, ⟨nd, rfl⟩⟩; refine ⟨_, rfl, ?_⟩; (try (rw [drewN_self wc]; generalize hq_ : World.drewN wc _ = wc; have n0_ : Aside0 (Kd.R Kd.string 9 wc w.heap.size (fun _ => True) (.slice (some ad577) t573.length co25) t573) := ⟨by rw [← hq_]; exact (uR HO_4.out)⟩; have n1_ : Aside0 (wc.heap[gb572]? = some (.cells #[.int .i64 0, .int .i64 0, .slice none 0 0] 33 (0, 0))) := ⟨by rw [← hq_]; exact (uB BK572.out)⟩; have n2_ : Aside0 (Below w.heap.size w wc) := ⟨by rw [← hq_]; exact bl⟩; clear HO_4 BK572 HB hq_; have HO_4 := n0_; have BK572 := n1_; have HB := n2_; clear n0_ n1_ n2_)); obtain ⟨hcz26_0, hcz26_1, hcz26_2, hfz26_0, hfz26_1, hfz26_2⟩ := z3 BK572))
      refine bodyPost_ret (results_ct rfl _ _ gb572 33 #[.int .i64 0, .int .i64 0, .slice none 0 0] (0, 0) _ rfl (fB BK572.out) Tryz.underlying33 rfl (by kernel_rfl)) rfl ?_
      exact ⟨_, re_, nl_, bl⟩
    ·
     rw [if_neg c12] at H
     exact absurd H (by simp)
def r23_kind.f (a0 : ByteArray) : Option (Int) := if a0.toList = ([105, 109, 97, 103, 101] : List UInt8) then (some 1) else (if a0.toList = ([100, 105, 102, 102] : List UInt8) then (some 2) else (if a0.toList = ([114, 101, 115, 121, 110, 99] : List UInt8) then (some 3) else (some 0)))
theorem r23_kind.calls (a0 : ByteArray) (r : Int) (w : World) (h : r23_kind.f a0 = some r) :
 Calls Tryz.prog 55 #[.string a0] w fun e w' => e = .returned (.int .i64 r) ∧ Drawn0 w w' := by
 have H : (if a0.toList = ([105, 109, 97, 103, 101] : List UInt8) then (some 1) else (if a0.toList = ([100, 105, 102, 102] : List UInt8) then (some 2) else (if a0.toList = ([114, 101, 115, 121, 110, 99] : List UInt8) then (some 3) else (some 0)))) = some r := h
 clear h
 by_cases c2 : a0.toList = ([105, 109, 97, 103, 101] : List UInt8)
 ·
  rw [if_pos c2] at H
  have c2b0 : (a0.toList == ([105, 109, 97, 103, 101] : List UInt8)) = true := beq_iff_eq.mpr c2
  have c2b1 : (a0.toList != ([105, 109, 97, 103, 101] : List UInt8)) = false := bne_eq_false_iff_eq.mpr c2
  clear c2
  obtain rfl := Option.some.inj H
  go_enter Tryz.func55, Tryz.ntmps55
  go_wp2
  go_ret
  exact ⟨rs_, dr_⟩
 ·
  rw [if_neg c2] at H
  have c2b0 : (a0.toList == ([105, 109, 97, 103, 101] : List UInt8)) = false := beq_eq_false_iff_ne.mpr c2
  have c2b1 : (a0.toList != ([105, 109, 97, 103, 101] : List UInt8)) = true := bne_iff_ne.mpr c2
  by_cases c3 : a0.toList = ([100, 105, 102, 102] : List UInt8)
  ·
   rw [if_pos c3] at H
   have c3b0 : (a0.toList == ([100, 105, 102, 102] : List UInt8)) = true := beq_iff_eq.mpr c3
   have c3b1 : (a0.toList != ([100, 105, 102, 102] : List UInt8)) = false := bne_eq_false_iff_eq.mpr c3
   clear c3
   obtain rfl := Option.some.inj H
   go_enter Tryz.func55, Tryz.ntmps55
   go_wp2
   go_ret
   exact ⟨rs_, dr_⟩
  ·
   rw [if_neg c3] at H
   have c3b0 : (a0.toList == ([100, 105, 102, 102] : List UInt8)) = false := beq_eq_false_iff_ne.mpr c3
   have c3b1 : (a0.toList != ([100, 105, 102, 102] : List UInt8)) = true := bne_iff_ne.mpr c3
   by_cases c4 : a0.toList = ([114, 101, 115, 121, 110, 99] : List UInt8)
   ·
    rw [if_pos c4] at H
    have c4b0 : (a0.toList == ([114, 101, 115, 121, 110, 99] : List UInt8)) = true := beq_iff_eq.mpr c4
    have c4b1 : (a0.toList != ([114, 101, 115, 121, 110, 99] : List UInt8)) = false := bne_eq_false_iff_eq.mpr c4
    clear c4
    obtain rfl := Option.some.inj H
    go_enter Tryz.func55, Tryz.ntmps55
    go_wp2
    go_ret
    exact ⟨rs_, dr_⟩
   ·
    rw [if_neg c4] at H
    have c4b0 : (a0.toList == ([114, 101, 115, 121, 110, 99] : List UInt8)) = false := beq_eq_false_iff_ne.mpr c4
    have c4b1 : (a0.toList != ([114, 101, 115, 121, 110, 99] : List UInt8)) = true := bne_iff_ne.mpr c4
    obtain rfl := Option.some.inj H
    go_enter Tryz.func55, Tryz.ntmps55
    go_wp2
    go_ret
    exact ⟨rs_, dr_⟩
def r08_Right.l0 : Nat → List (S60) → Int → Option (Bool)
 | 0, _, _ => none
 | k + 1, x0, x3 => if x3 < (x0.length : Int) then (if 0 ≤ x3 then ((r08_group.f k ((rd_T60 x0 x3).f1)).bind fun t586 => (if t586 = 0 then (r08_Right.l0 k x0 (wrap64 (x3 + 1))) else (some false))) else (none)) else ((r08_rise.f k x0).bind fun t587 => (some t587))
def r08_Right.f (k : Nat) (l0 : List (S60)) : Option (Bool) := r08_Right.l0 k l0 0
theorem r08_Right.mono_l : ∀ k, (∀ y0 y1, LeC (r08_Right.l0 k y0 y1) (r08_Right.l0 (k + 1) y0 y1))
 | 0 => fun _ _ => ⟨fun r h => by simp [r08_Right.l0] at h⟩
 | k + 1 => by have ih0 := r08_Right.mono_l k; exact fun _ _ => by unfold r08_Right.l0; exact lm
theorem r08_Right.mono : ∀ a0 k, LeO (r08_Right.f k a0) (r08_Right.f (k + 1) a0) := by
 intro a0 k
 have ih0 := r08_Right.mono_l k
 unfold r08_Right.f
 exact lo
instance r08_Right.mI {a0 k} : LeC (r08_Right.f k a0) (r08_Right.f (k + 1) a0) := ⟨r08_Right.mono _ _⟩
theorem r08_Right.calls (k : Nat) (A0 : Option Addr) (c0 : Nat) (l0 : List (S60)) (r : Bool) (w : World) (hr0 : Kd.C k60 w A0 l0.length l0) (hc0 : l0.length ≤ c0) (h : r08_Right.f k l0 = some r) :
 Calls Tryz.prog 30 #[.slice A0 l0.length c0] w fun e w' => e = .returned (.bool r) ∧ Below w.heap.size w w' := by
 have HR0 := Aside0.mk hr0
 have HC0 := Aside0.mk hc0
 clear hr0 hc0
 have HB := Aside0.mk (Below.refl w.heap.size w)
 have H : (r08_Right.l0 k l0 0) = some r := h
 clear h
 have H' := Aside0.mk H
 clear H
 go_enter Tryz.func30, Tryz.ntmps30
 go_wp2
 go_loopg [3] k (fun kq v3 w' => ∃ (x3_1 : Int), v3 = .int .i64 x3_1 ∧ Aside0 (r08_Right.l0 kq l0 x3_1 = some r) ∧ Aside0 (kq ≤ k) ∧ Aside0 (Below w.heap.size w w'))
 case atStart => exact ⟨(0), rs_, H', ⟨Nat.le_refl _⟩, ⟨uW HB.out⟩⟩
 case round =>
  clear H'
  obtain ⟨x3_1, rfl, HA, HK1, HB⟩ := hrel
  cases gk with
  | zero => exact absurd HA.out (by simp [r08_Right.l0])
  | succ k1 =>
   have H := HA.out
   clear HA
   simp only [r08_Right.l0] at H
   by_cases c2 : x3_1 < (l0.length : Int)
   ·
    rw [if_pos c2] at H
    have c2b0 : decide (x3_1 < (l0.length : Int)) = true := decide_eq_true c2
    clear c2
    obtain ⟨c3b0, H⟩ := gdd H
    obtain ⟨t586, A4, H⟩ := bs H
    try dsimp only at H
    by_cases c5 : t586 = 0
    ·
     rw [if_pos c5] at H
     have c5b0 : (t586 == 0) = true := beq_iff_eq.mpr c5
     have c5b1 : (t586 != 0) = false := bne_eq_false_iff_eq.mpr c5
     clear c5
     have H' := Aside0.mk H
     clear H
     have p585 : 0 ≤ (x3_1 : Int) := od
     have q585 : x3_1 < (l0.length : Int) := od
     obtain ⟨ad585, e585, hx585_0, hx585_1, hx585_2, hx585_3⟩ := at_T60 HR0.out x3_1 p585 q585
     cases e585
     replace hx585_0 := kc HB hx585_0
     replace hx585_1 := kc HB hx585_1
     replace hx585_2 := kc HB hx585_2
     replace hx585_3 := kc HB hx585_3
     replace p585 := eq_true p585
     replace q585 := eq_true q585
     go_wp2_with (first | (refine gL (some 15) rfl Tryz.func59 #[.string ((rd_T60 l0 x3_1).f1)] ?_; (with_reducible refine (r08_group.calls k1 ((rd_T60 l0 x3_1).f1) t586 _ A4.out).mono ?_); rintro e w6 ⟨rfl, hb⟩; refine ⟨_, rfl, ?_⟩; replace HB := cW HB hb; (try clear hb)))
     go_roundg k1
     case measure => have := HK1.out; omega
     case rel => exact ⟨(wrap64 (x3_1 + 1)), rs_, H', ⟨by have := HK1.out; omega⟩, ⟨uW HB.out⟩⟩
    ·
     rw [if_neg c5] at H
     have c5b0 : (t586 == 0) = false := beq_eq_false_iff_ne.mpr c5
     have c5b1 : (t586 != 0) = true := bne_iff_ne.mpr c5
     obtain rfl := Option.some.inj H
     have p585 : 0 ≤ (x3_1 : Int) := od
     have q585 : x3_1 < (l0.length : Int) := od
     obtain ⟨ad585, e585, hx585_0, hx585_1, hx585_2, hx585_3⟩ := at_T60 HR0.out x3_1 p585 q585
     cases e585
     replace hx585_0 := kc HB hx585_0
     replace hx585_1 := kc HB hx585_1
     replace hx585_2 := kc HB hx585_2
     replace hx585_3 := kc HB hx585_3
     replace p585 := eq_true p585
     replace q585 := eq_true q585
     go_wp2_with (first | (refine gL (some 15) rfl Tryz.func59 #[.string ((rd_T60 l0 x3_1).f1)] ?_; (with_reducible refine (r08_group.calls k1 ((rd_T60 l0 x3_1).f1) t586 _ A4.out).mono ?_); rintro e w7 ⟨rfl, hb⟩; refine ⟨_, rfl, ?_⟩; replace HB := cW HB hb; (try clear hb)))
     go_ret
     exact ⟨re_, uW HB.out⟩
   ·
    rw [if_neg c2] at H
    have c2b0 : decide (x3_1 < (l0.length : Int)) = false := decide_eq_false c2
    clear c2
    obtain ⟨t587, A8, H⟩ := bs H
    try dsimp only at H
    obtain rfl := Option.some.inj H
    go_wp2_with (first | (refine gL (some 18) rfl Tryz.func60 #[.slice A0 l0.length c0] ?_; (with_reducible refine (r08_rise.calls k1 _ _ l0 t587 _ ?side1 ?side2 A8.out).mono ?_); (case side1 => exact uC <| (Kd.C_below HR0.out HB.out)); (case side2 => exact HC0.out); rintro e w9 ⟨rfl, hb⟩; refine ⟨_, rfl, ?_⟩; replace HB := cW HB hb; (try clear hb)))
    go_ret
    exact ⟨re_, uW HB.out⟩
def r09_Right.l0 : Nat → List (S78) → List (S60) → Int → Option (Bool)
 | 0, _, _, _ => none
 | k + 1, x0, x3, x4 => if x4 < (x0.length : Int) then (if 0 ≤ x4 then (if (rd_T78 x0 x4).f1 = true then (if (!(((rd_T78 x0 x4).f0.f2.f0) == 0) || (((rd_T78 x0 x4).f0.f2.f1))) = true then (some false) else (if x3.length < 3518437208883 then (r09_Right.l0 k x0 (x3 ++ [(⟨(rd_T78 x0 x4).f0.f0, (rd_T78 x0 x4).f0.f1, (⟨(rd_T78 x0 x4).f0.f2.f0, (rd_T78 x0 x4).f0.f2.f1⟩ : S58)⟩ : S60)]) (wrap64 (x4 + 1))) else (none))) else (if x3.length < 3518437208883 then (r09_Right.l0 k x0 (x3 ++ [(⟨(rd_T78 x0 x4).f0.f0, (rd_T78 x0 x4).f0.f1, (⟨(rd_T78 x0 x4).f0.f2.f0, (rd_T78 x0 x4).f0.f2.f1⟩ : S58)⟩ : S60)]) (wrap64 (x4 + 1))) else (none))) else (none)) else ((r08_Right.f k x3).bind fun t598 => (some t598))
def r09_Right.f (k : Nat) (l0 : List (S78)) : Option (Bool) := r09_Right.l0 k l0 ([] : List (S60)) 0
theorem r09_Right.mono_l : ∀ k, (∀ y0 y1 y2, LeC (r09_Right.l0 k y0 y1 y2) (r09_Right.l0 (k + 1) y0 y1 y2))
 | 0 => fun _ _ _ => ⟨fun r h => by simp [r09_Right.l0] at h⟩
 | k + 1 => by have ih0 := r09_Right.mono_l k; exact fun _ _ _ => by unfold r09_Right.l0; exact lm
theorem r09_Right.mono : ∀ a0 k, LeO (r09_Right.f k a0) (r09_Right.f (k + 1) a0) := by
 intro a0 k
 have ih0 := r09_Right.mono_l k
 unfold r09_Right.f
 exact lo
instance r09_Right.mI {a0 k} : LeC (r09_Right.f k a0) (r09_Right.f (k + 1) a0) := ⟨r09_Right.mono _ _⟩
theorem r09_Right.calls (k : Nat) (A0 : Option Addr) (c0 : Nat) (l0 : List (S78)) (r : Bool) (w : World) (hr0 : Kd.C k78 w A0 l0.length l0) (hc0 : l0.length ≤ c0) (h : r09_Right.f k l0 = some r) :
 Calls Tryz.prog 32 #[.slice A0 l0.length c0] w fun e w' => e = .returned (.bool r) ∧ Below w.heap.size w w' := by
 have hu58 := Tryz.underlying58
 have hu60 := Tryz.underlying60
 have HR0 := Aside0.mk hr0
 have HC0 := Aside0.mk hc0
 clear hr0 hc0
 have HB := Aside0.mk (Below.refl w.heap.size w)
 have H : (r09_Right.l0 k l0 ([] : List (S60)) 0) = some r := h
 clear h
 have H' := Aside0.mk H
 clear H
 go_enter Tryz.func32, Tryz.ntmps32
 go_wp2
 go_loopg [3, 4] k (fun kq v3 v4 w' => ∃ (x3_1 : List (S60)) (x4_1 : Int), v4 = .int .i64 x4_1 ∧ Aside0 (r09_Right.l0 kq l0 x3_1 x4_1 = some r) ∧ Aside0 (kq ≤ k) ∧ Aside0 (Kd.R k60 60 w' w.heap.size (fun _ => True) v3 x3_1) ∧ Aside0 (Below w.heap.size w w'))
 case atStart => exact ⟨(([] : List (S60))), (0), rs_, H', ⟨Nat.le_refl _⟩, ⟨nl_⟩, ⟨uW HB.out⟩⟩
 case round =>
  clear H'
  obtain ⟨x3_1, x4_1, rfl, HA, HK1, HO_3, HB⟩ := hrel
  cases gk with
  | zero => exact absurd HA.out (by simp [r09_Right.l0])
  | succ k1 =>
   have H := HA.out
   clear HA
   simp only [r09_Right.l0] at H
   by_cases c2 : x4_1 < (l0.length : Int)
   ·
    rw [if_pos c2] at H
    have c2b0 : decide (x4_1 < (l0.length : Int)) = true := decide_eq_true c2
    clear c2
    obtain ⟨c3b0, H⟩ := gdd H
    obtain ⟨bq4, hbq4⟩ : ∃ b_ : Bool, b_ = ((rd_T78 l0 x4_1).f1) := ⟨_, rfl⟩
    replace H : (if bq4 = true then (if (!(((rd_T78 l0 x4_1).f0.f2.f0) == 0) || (((rd_T78 l0 x4_1).f0.f2.f1))) = true then (some false) else (if x3_1.length < 3518437208883 then (r09_Right.l0 k1 l0 (x3_1 ++ [(⟨(rd_T78 l0 x4_1).f0.f0, (rd_T78 l0 x4_1).f0.f1, (⟨(rd_T78 l0 x4_1).f0.f2.f0, (rd_T78 l0 x4_1).f0.f2.f1⟩ : S58)⟩ : S60)]) (wrap64 (x4_1 + 1))) else (none))) else (if x3_1.length < 3518437208883 then (r09_Right.l0 k1 l0 (x3_1 ++ [(⟨(rd_T78 l0 x4_1).f0.f0, (rd_T78 l0 x4_1).f0.f1, (⟨(rd_T78 l0 x4_1).f0.f2.f0, (rd_T78 l0 x4_1).f0.f2.f1⟩ : S58)⟩ : S60)]) (wrap64 (x4_1 + 1))) else (none))) = some r := by rw [← hbq4] at H; exact H
    have Nbq4 := Aside0.mk hbq4
    clear hbq4
    by_cases c5 : bq4 = true
    ·
     subst c5
     rw [if_pos rfl] at H
     by_cases c6 : (!(((rd_T78 l0 x4_1).f0.f2.f0) == 0) || (((rd_T78 l0 x4_1).f0.f2.f1))) = true
     ·
      rw [if_pos c6] at H
      have c6b0 : (!(((rd_T78 l0 x4_1).f0.f2.f0) == 0) || (((rd_T78 l0 x4_1).f0.f2.f1))) = true := c6
      clear c6
      obtain rfl := Option.some.inj H
      have p588 : 0 ≤ (x4_1 : Int) := od
      have q588 : x4_1 < (l0.length : Int) := od
      obtain ⟨ad588, e588, hx588_0, hx588_1, hx588_2, hx588_3, hx588_4⟩ := at_T78 HR0.out x4_1 p588 q588
      (try rw [← Nbq4.out] at hx588_3)
      (try rw [← Nbq4.out] at hx588_4)
      cases e588
      replace hx588_0 := kc HB hx588_0
      replace hx588_1 := kc HB hx588_1
      replace hx588_2 := kc HB hx588_2
      replace hx588_3 := kc HB hx588_3
      replace hx588_4 := kc HB hx588_4
      replace p588 := eq_true p588
      replace q588 := eq_true q588
      have p589 : 0 ≤ (x4_1 : Int) := od
      have q589 : x4_1 < (l0.length : Int) := od
      obtain ⟨ad589, e589, hx589_0, hx589_1, hx589_2, hx589_3, hx589_4⟩ := at_T78 HR0.out x4_1 p589 q589
      (try rw [← Nbq4.out] at hx589_3)
      (try rw [← Nbq4.out] at hx589_4)
      obtain rfl : ad588 = ad589 := (by injection e589)
      replace hx589_0 := kc HB hx589_0
      replace hx589_1 := kc HB hx589_1
      replace hx589_2 := kc HB hx589_2
      replace hx589_3 := kc HB hx589_3
      replace hx589_4 := kc HB hx589_4
      replace p589 := eq_true p589
      replace q589 := eq_true q589
      go_wp2
      go_ret
      exact ⟨re_, uW HB.out⟩
     ·
      rw [if_neg c6] at H
      have c6b0 : (!(((rd_T78 l0 x4_1).f0.f2.f0) == 0) || (((rd_T78 l0 x4_1).f0.f2.f1))) = false := by simpa using c6
      clear c6
      obtain ⟨c7, H⟩ := gd H
      have LMc7 := Aside0.mk c7
      clear c7
      obtain ⟨y591, hy591⟩ : ∃ y_ : List (S60), y_ = (x3_1 ++ [(⟨(rd_T78 l0 x4_1).f0.f0, (rd_T78 l0 x4_1).f0.f1, (⟨(rd_T78 l0 x4_1).f0.f2.f0, (rd_T78 l0 x4_1).f0.f2.f1⟩ : S58)⟩ : S60)]) := ⟨_, rfl⟩
      replace H : (r09_Right.l0 k1 l0 y591 (wrap64 (x4_1 + 1))) = some r := by first | (rw [hy591]; with_reducible exact H) | (have H2_ := (Option.bind_some _ _).symm.trans H; rw [hy591]; with_reducible exact H2_) | (have H2_ := (Option.bind_some _ _).symm.trans H; with_reducible exact H2_) | with_reducible exact H | (rw [hy591]; exact H) | exact H
      have Ny591 := Aside0.mk hy591
      clear hy591
      have H' := Aside0.mk H
      clear H
      have p588 : 0 ≤ (x4_1 : Int) := od
      have q588 : x4_1 < (l0.length : Int) := od
      obtain ⟨ad588, e588, hx588_0, hx588_1, hx588_2, hx588_3, hx588_4⟩ := at_T78 HR0.out x4_1 p588 q588
      (try rw [← Nbq4.out] at hx588_3)
      (try rw [← Nbq4.out] at hx588_4)
      cases e588
      replace hx588_0 := kc HB hx588_0
      replace hx588_1 := kc HB hx588_1
      replace hx588_2 := kc HB hx588_2
      replace hx588_3 := kc HB hx588_3
      replace hx588_4 := kc HB hx588_4
      replace p588 := eq_true p588
      replace q588 := eq_true q588
      have p589 : 0 ≤ (x4_1 : Int) := od
      have q589 : x4_1 < (l0.length : Int) := od
      obtain ⟨ad589, e589, hx589_0, hx589_1, hx589_2, hx589_3, hx589_4⟩ := at_T78 HR0.out x4_1 p589 q589
      (try rw [← Nbq4.out] at hx589_3)
      (try rw [← Nbq4.out] at hx589_4)
      obtain rfl : ad588 = ad589 := (by injection e589)
      replace hx589_0 := kc HB hx589_0
      replace hx589_1 := kc HB hx589_1
      replace hx589_2 := kc HB hx589_2
      replace hx589_3 := kc HB hx589_3
      replace hx589_4 := kc HB hx589_4
      replace p589 := eq_true p589
      replace q589 := eq_true q589
      have p590 : 0 ≤ (x4_1 : Int) := od
      have q590 : x4_1 < (l0.length : Int) := od
      obtain ⟨ad590, e590, hx590_0, hx590_1, hx590_2, hx590_3, hx590_4⟩ := at_T78 HR0.out x4_1 p590 q590
      (try rw [← Nbq4.out] at hx590_3)
      (try rw [← Nbq4.out] at hx590_4)
      obtain rfl : ad588 = ad590 := (by injection e590)
      replace hx590_0 := kc HB hx590_0
      replace hx590_1 := kc HB hx590_1
      replace hx590_2 := kc HB hx590_2
      replace hx590_3 := kc HB hx590_3
      replace hx590_4 := kc HB hx590_4
      replace p590 := eq_true p590
      replace q590 := eq_true q590
      go_wp2_with (first | ((with_reducible refine gate_builtin (b := .append) (xs := #[.tmp 26, .tmp 32]) rfl ?_); at_builtin; refine Kd.R_append k60 (w0 := w) w.heap.size rfl (.tmp 26) (.tmp 32) 31 60 (.agg #[(.int .i64 0), (.string ⟨#[]⟩), (.int .i64 0), (.bool false)]) 40 rfl Tryz.underlying31 info60 rfl (by decide) (by omega) u3 x3_1 (⟨(rd_T78 l0 x4_1).f0.f0, (rd_T78 l0 x4_1).f0.f1, (⟨(rd_T78 l0 x4_1).f0.f2.f0, (rd_T78 l0 x4_1).f0.f2.f1⟩ : S58)⟩ : S60) [.int .i64 ((rd_T78 l0 x4_1).f0.f0), .string ((rd_T78 l0 x4_1).f0.f1), .int .i64 ((rd_T78 l0 x4_1).f0.f2.f0), .bool ((rd_T78 l0 x4_1).f0.f2.f1)] (fun _ => True) (fun _ => False) rfl rfl ?aP (fun _ hk => hk.elim) ?aF ?aO ?aB ?aS ?aL ?_; (case aP => exact k60_mkM _ _ _ (⟨(rd_T78 l0 x4_1).f0.f0, (rd_T78 l0 x4_1).f0.f1, (⟨(rd_T78 l0 x4_1).f0.f2.f0, (rd_T78 l0 x4_1).f0.f2.f1⟩ : S58)⟩ : S60)); (case aB => exact (uW HB.out)); (case aF => exact (fun _ _ => trivial)); (case aO => exact (uR HO_3.out)); (case aS => exact (below_size (uW HB.out))); (case aL => have := LMc7.out; omega); intro v592 w8 ho hb hg hat; rw [← Ny591.out] at ho; replace HB := Aside0.mk (hb); have HO593 := Aside0.mk (ho); clear HO_3; clear ho hb hg hat))
      go_roundg k1
      case measure => have := HK1.out; omega
      case rel => exact ⟨(y591), (wrap64 (x4_1 + 1)), rs_, (by first | exact H' | (rw [← Nbq4.out]; exact H')), ⟨by have := HK1.out; omega⟩, ⟨uR HO593.out⟩, ⟨uW HB.out⟩⟩
    ·
     replace c5 := Bool.eq_false_iff.mpr c5
     subst c5
     rw [if_neg (show ¬ (false = true) by decide)] at H
     obtain ⟨c9, H⟩ := gd H
     have LMc9 := Aside0.mk c9
     clear c9
     obtain ⟨y595, hy595⟩ : ∃ y_ : List (S60), y_ = (x3_1 ++ [(⟨(rd_T78 l0 x4_1).f0.f0, (rd_T78 l0 x4_1).f0.f1, (⟨(rd_T78 l0 x4_1).f0.f2.f0, (rd_T78 l0 x4_1).f0.f2.f1⟩ : S58)⟩ : S60)]) := ⟨_, rfl⟩
     replace H : (r09_Right.l0 k1 l0 y595 (wrap64 (x4_1 + 1))) = some r := by first | (rw [hy595]; with_reducible exact H) | (have H2_ := (Option.bind_some _ _).symm.trans H; rw [hy595]; with_reducible exact H2_) | (have H2_ := (Option.bind_some _ _).symm.trans H; with_reducible exact H2_) | with_reducible exact H | (rw [hy595]; exact H) | exact H
     have Ny595 := Aside0.mk hy595
     clear hy595
     have H' := Aside0.mk H
     clear H
     have p588 : 0 ≤ (x4_1 : Int) := od
     have q588 : x4_1 < (l0.length : Int) := od
     obtain ⟨ad588, e588, hx588_0, hx588_1, hx588_2, hx588_3, hx588_4⟩ := at_T78 HR0.out x4_1 p588 q588
     (try rw [← Nbq4.out] at hx588_3)
     (try rw [← Nbq4.out] at hx588_4)
     cases e588
     replace hx588_0 := kc HB hx588_0
     replace hx588_1 := kc HB hx588_1
     replace hx588_2 := kc HB hx588_2
     replace hx588_3 := kc HB hx588_3
     replace hx588_4 := kc HB hx588_4
     replace p588 := eq_true p588
     replace q588 := eq_true q588
     have p594 : 0 ≤ (x4_1 : Int) := od
     have q594 : x4_1 < (l0.length : Int) := od
     obtain ⟨ad594, e594, hx594_0, hx594_1, hx594_2, hx594_3, hx594_4⟩ := at_T78 HR0.out x4_1 p594 q594
     (try rw [← Nbq4.out] at hx594_3)
     (try rw [← Nbq4.out] at hx594_4)
     obtain rfl : ad588 = ad594 := (by injection e594)
     replace hx594_0 := kc HB hx594_0
     replace hx594_1 := kc HB hx594_1
     replace hx594_2 := kc HB hx594_2
     replace hx594_3 := kc HB hx594_3
     replace hx594_4 := kc HB hx594_4
     replace p594 := eq_true p594
     replace q594 := eq_true q594
     go_wp2_with (first | ((with_reducible refine gate_builtin (b := .append) (xs := #[.tmp 26, .tmp 32]) rfl ?_); at_builtin; refine Kd.R_append k60 (w0 := w) w.heap.size rfl (.tmp 26) (.tmp 32) 31 60 (.agg #[(.int .i64 0), (.string ⟨#[]⟩), (.int .i64 0), (.bool false)]) 40 rfl Tryz.underlying31 info60 rfl (by decide) (by omega) u3 x3_1 (⟨(rd_T78 l0 x4_1).f0.f0, (rd_T78 l0 x4_1).f0.f1, (⟨(rd_T78 l0 x4_1).f0.f2.f0, (rd_T78 l0 x4_1).f0.f2.f1⟩ : S58)⟩ : S60) [.int .i64 ((rd_T78 l0 x4_1).f0.f0), .string ((rd_T78 l0 x4_1).f0.f1), .int .i64 ((rd_T78 l0 x4_1).f0.f2.f0), .bool ((rd_T78 l0 x4_1).f0.f2.f1)] (fun _ => True) (fun _ => False) rfl rfl ?aP (fun _ hk => hk.elim) ?aF ?aO ?aB ?aS ?aL ?_; (case aP => exact k60_mkM _ _ _ (⟨(rd_T78 l0 x4_1).f0.f0, (rd_T78 l0 x4_1).f0.f1, (⟨(rd_T78 l0 x4_1).f0.f2.f0, (rd_T78 l0 x4_1).f0.f2.f1⟩ : S58)⟩ : S60)); (case aB => exact (uW HB.out)); (case aF => exact (fun _ _ => trivial)); (case aO => exact (uR HO_3.out)); (case aS => exact (below_size (uW HB.out))); (case aL => have := LMc9.out; omega); intro v596 w10 ho hb hg hat; rw [← Ny595.out] at ho; replace HB := Aside0.mk (hb); have HO597 := Aside0.mk (ho); clear HO_3; clear ho hb hg hat))
     go_roundg k1
     case measure => have := HK1.out; omega
     case rel => exact ⟨(y595), (wrap64 (x4_1 + 1)), rs_, (by first | exact H' | (rw [← Nbq4.out]; exact H')), ⟨by have := HK1.out; omega⟩, ⟨uR HO597.out⟩, ⟨uW HB.out⟩⟩
   ·
    rw [if_neg c2] at H
    have c2b0 : decide (x4_1 < (l0.length : Int)) = false := decide_eq_false c2
    clear c2
    obtain ⟨t598, A11, H⟩ := bs H
    try dsimp only at H
    obtain rfl := Option.some.inj H
    obtain ⟨Ao12, co12, eo12⟩ := Kd.R_slice HO_3.out
    subst eo12
    go_wp2_with (first | (refine gL (some 35) rfl Tryz.func30 #[.slice Ao12 x3_1.length co12] ?_; (with_reducible refine (r08_Right.calls k1 _ _ x3_1 t598 _ ?side1 ?side2 A11.out).mono ?_); (case side1 => exact uC <| (Kd.R_reads' HO_3.out).2.2); (case side2 => exact (Kd.R_reads' HO_3.out).2.1); rintro e w13 ⟨rfl, hb⟩; refine ⟨_, rfl, ?_⟩; replace HO_3 := cR HO_3 hb; replace HB := cW HB hb; (try clear hb)))
    go_ret
    exact ⟨re_, uW HB.out⟩
end Go.Proofs.YteckidchnicjeaaGreatDoor.X
