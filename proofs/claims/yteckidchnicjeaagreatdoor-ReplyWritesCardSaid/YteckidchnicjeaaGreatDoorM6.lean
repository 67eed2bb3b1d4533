/- Printed by a program of this session's own: what functions of the program compute, and that the machine computes it. No condition of its own. -/
import Derived.Test.YteckidchnicjeaaGreatDoorM3
import Derived.Test.YteckidchnicjeaaGreatDoorM4
import Derived.Test.YteckidchnicjeaaGreatDoorM5
namespace Go.Proofs.YteckidchnicjeaaGreatDoor.X
open Go.RowKit Go.Proofs.YteckidchnicjeaaGreatDoorW.PrintWords Go.Proofs.YteckidchnicjeaaGreatDoorW.PrintLast Go.Proofs.YteckidchnicjeaaGreatDoorW.PrintMore
attribute [local go_sem] max2_int min2_int max_two min_two max_three min_three max_four min_four
set_option linter.unusedVariables false
set_option linter.unusedSimpArgs false
set_option maxHeartbeats 8000000
set_option maxRecDepth 100000
def row_Before.f (k : Nat) (a0_0 : Int) (a0_1 : ByteArray) (a0_2 : Int) (a0_3 : Bool) (a1_0 : Int) (a1_1 : ByteArray) (a1_2 : Int) (a1_3 : Bool) : Option (Bool) := (row_of.f a0_0 a0_1 a0_2 a0_3).bind fun bt242 => ((row_of.f a1_0 a1_1 a1_2 a1_3).bind fun bt244 => ((row_order.f k bt242.1 bt242.2 bt244.1 bt244.2).bind fun t246 => (some (decide (t246 < 0)))))
theorem row_Before.mono : ∀ a0 a1 a2 a3 a4 a5 a6 a7 k, LeO (row_Before.f k a0 a1 a2 a3 a4 a5 a6 a7) (row_Before.f (k + 1) a0 a1 a2 a3 a4 a5 a6 a7) := by
 intro a0 a1 a2 a3 a4 a5 a6 a7 k
 unfold row_Before.f
 exact lo
instance row_Before.mI {a0 a1 a2 a3 a4 a5 a6 a7 k} : LeC (row_Before.f k a0 a1 a2 a3 a4 a5 a6 a7) (row_Before.f (k + 1) a0 a1 a2 a3 a4 a5 a6 a7) := ⟨row_Before.mono _ _ _ _ _ _ _ _ _⟩
theorem row_Before.calls (k : Nat) (a0_0 : Int) (a0_1 : ByteArray) (a0_2 : Int) (a0_3 : Bool) (a1_0 : Int) (a1_1 : ByteArray) (a1_2 : Int) (a1_3 : Bool) (r : Bool) (w : World) (h : row_Before.f k a0_0 a0_1 a0_2 a0_3 a1_0 a1_1 a1_2 a1_3 = some r) :
 Calls Tryz.prog 88 #[.agg #[.int .i64 a0_0, .string a0_1, .int .i64 a0_2, .bool a0_3], .agg #[.int .i64 a1_0, .string a1_1, .int .i64 a1_2, .bool a1_3]] w fun e w' => e = .returned (.bool r) ∧ Below w.heap.size w w' := by
 have hu60 := Tryz.underlying60
 have HB := Aside0.mk (Below.refl w.heap.size w)
 have H : ((row_of.f a0_0 a0_1 a0_2 a0_3).bind fun bt242 => ((row_of.f a1_0 a1_1 a1_2 a1_3).bind fun bt244 => ((row_order.f k bt242.1 bt242.2 bt244.1 bt244.2).bind fun t246 => (some (decide (t246 < 0)))))) = some r := h
 clear h
 obtain ⟨⟨t242, t243⟩, A3, H⟩ := bs H
 try dsimp only at H
 obtain ⟨⟨t244, t245⟩, A4, H⟩ := bs H
 try dsimp only at H
 obtain ⟨t246, A5, H⟩ := bs H
 try dsimp only at H
 obtain rfl := Option.some.inj H
 go_enter Tryz.func88, Tryz.ntmps88
 try go_wp2_with (first | ((with_reducible refine gate_dst (N := 2) rfl ?_); refine bx (N := 2) #[.int .i64 a0_0, .string a0_1, .int .i64 a0_2, .bool a0_3] 60 ?_; intro gb240 hg w6 hbox hb; have BK240 := Aside0.mk (hbox); have GW240 := gw hg (uW HB.out); have GE240 := GW240; replace HB := cW HB hb; clear hb hbox hg) | ((with_reducible refine gate_dst (N := 3) rfl ?_); refine bx (N := 3) #[.int .i64 a1_0, .string a1_1, .int .i64 a1_2, .bool a1_3] 60 ?_; intro gb241 hg w7 hbox hb; have BK241 := Aside0.mk (hbox); have GW241 := gw hg bl; have GE241 := GW241; replace HB := Aside0.mk (below_step bl hb); have NB240_241 := Aside0.mk ((by rw [hg]; exact Nat.ne_of_lt (blk_lt (g := gb240) (o := .cells #[.int .i64 a0_0, .string a0_1, .int .i64 a0_2, .bool a0_3] 60 (0, 0)) (uB BK240.out)) : gb240 ≠ gb241)); have NB241_240 := Aside0.mk ((by rw [hg]; exact Nat.ne_of_gt (blk_lt (g := gb240) (o := .cells #[.int .i64 a0_0, .string a0_1, .int .i64 a0_2, .bool a0_3] 60 (0, 0)) (uB BK240.out)) : gb241 ≠ gb240)); replace BK240 := cB BK240 hb; clear hb hbox hg))
 replace BK240 := Aside0.mk (blk_drew BK240.out)
 replace BK241 := Aside0.mk (blk_drew BK241.out)
 replace HB := Aside0.mk (below_drew1 HB.out)
 refine start_ (n := 7) (S := fun w' => w'.cell? ⟨gb240, 0, none⟩ = some (.int .i64 a0_0) ∧ w'.cell? ⟨gb240, 1, none⟩ = some (.string a0_1) ∧ w'.cell? ⟨gb240, 2, none⟩ = some (.int .i64 a0_2) ∧ w'.cell? ⟨gb240, 3, none⟩ = some (.bool a0_3) ∧ w'.cell? ⟨gb241, 0, none⟩ = some (.int .i64 a1_0) ∧ w'.cell? ⟨gb241, 1, none⟩ = some (.string a1_1) ∧ w'.cell? ⟨gb241, 2, none⟩ = some (.int .i64 a1_2) ∧ w'.cell? ⟨gb241, 3, none⟩ = some (.bool a1_3)) (ds := []) _ (by kernel_rfl) rfl rfl ⟨(blk_cell BK240.out 0).trans rfl, (blk_cell BK240.out 1).trans rfl, (blk_cell BK240.out 2).trans rfl, (blk_cell BK240.out 3).trans rfl, (blk_cell BK241.out 0).trans rfl, (blk_cell BK241.out 1).trans rfl, (blk_cell BK241.out 2).trans rfl, (blk_cell BK241.out 3).trans rfl⟩ (fun hHeld => ?_)
 generalize w7.drew = w8 at BK240 BK241 HB hHeld ⊢
 refine take_ (i := 0) (N := some 5) (v := ?_) (a' := ?_) #[true, false, false, false, false, false, false] rfl rfl (by kernel_rfl) (fun _ _ _ h => h) (Or.inl ⟨by rfl, ?_⟩) hHeld ?_ ?_
 rotate_left
 ·
  rintro w' ⟨s0, s1, s2, s3, s4, s5, s6, s7⟩
  go_simp
  with_reducible rfl
 rotate_left
 ·
  simp only [Act.put, List.setIfInBounds_toArray, List.set_cons_zero, List.set_cons_succ, i64_w, i32_w]
  rfl
 refine take_ (i := 2) (N := some 7) (v := ?_) (a' := ?_) #[true, false, true, false, false, false, false] rfl rfl (by kernel_rfl) (fun _ _ _ h => h) (Or.inl ⟨by rfl, ?_⟩) hHeld ?_ ?_
 rotate_left
 ·
  rintro w' ⟨s0, s1, s2, s3, s4, s5, s6, s7⟩
  go_simp
  with_reducible rfl
 rotate_left
 ·
  simp only [Act.put, List.setIfInBounds_toArray, List.set_cons_zero, List.set_cons_succ, i64_w, i32_w]
  rfl
 refine one_ (i := 1) (N := some 6) #[true, true, true, false, false, false, false] rfl rfl (by kernel_rfl) (by decide) (fun K hK => ?_)
 refine gS Tryz.func112 #[.agg #[.int .i64 a0_0, .string a0_1, .int .i64 a0_2, .bool a0_3]] ?_
 with_reducible refine (row_of.calls a0_0 a0_1 a0_2 a0_3 t242 t243 _ A3.out).mono ?_
 rintro e w9 ⟨rfl, hb⟩
 refine ⟨_, rfl, ?_⟩
 replace BK240 := cB BK240 hb
 replace BK241 := cB BK241 hb
 replace HB := Aside0.mk (below_step bl hb)
 (try clear hb)
 refine hK.out _ _ ⟨(blk_cell BK240.out 0).trans rfl, (blk_cell BK240.out 1).trans rfl, (blk_cell BK240.out 2).trans rfl, (blk_cell BK240.out 3).trans rfl, (blk_cell BK241.out 0).trans rfl, (blk_cell BK241.out 1).trans rfl, (blk_cell BK241.out 2).trans rfl, (blk_cell BK241.out 3).trans rfl⟩ (fun hHeld => ?_)
 clear hK K
 refine norm_ (a' := ?_) ?_ ?_
 rotate_left
 ·
  show Act.put _ (some 6) _ = _
  simp only [Act.put, List.setIfInBounds_toArray, List.set_cons_zero, List.set_cons_succ, i64_w, i32_w]
  rfl
 refine one_ (i := 3) (N := some 8) #[true, true, true, true, false, false, false] rfl rfl (by kernel_rfl) (by decide) (fun K hK => ?_)
 refine gS Tryz.func112 #[.agg #[.int .i64 a1_0, .string a1_1, .int .i64 a1_2, .bool a1_3]] ?_
 with_reducible refine (row_of.calls a1_0 a1_1 a1_2 a1_3 t244 t245 _ A4.out).mono ?_
 rintro e w10 ⟨rfl, hb⟩
 refine ⟨_, rfl, ?_⟩
 replace BK240 := cB BK240 hb
 replace BK241 := cB BK241 hb
 replace HB := Aside0.mk (below_step bl hb)
 (try clear hb)
 refine hK.out _ _ ⟨(blk_cell BK240.out 0).trans rfl, (blk_cell BK240.out 1).trans rfl, (blk_cell BK240.out 2).trans rfl, (blk_cell BK240.out 3).trans rfl, (blk_cell BK241.out 0).trans rfl, (blk_cell BK241.out 1).trans rfl, (blk_cell BK241.out 2).trans rfl, (blk_cell BK241.out 3).trans rfl⟩ (fun hHeld => ?_)
 clear hK K
 refine norm_ (a' := ?_) ?_ ?_
 rotate_left
 ·
  show Act.put _ (some 8) _ = _
  simp only [Act.put, List.setIfInBounds_toArray, List.set_cons_zero, List.set_cons_succ, i64_w, i32_w]
  rfl
 refine one_ (i := 4) (N := some 9) #[true, true, true, true, true, false, false] rfl rfl (by kernel_rfl) (by decide) (fun K hK => ?_)
 refine gS Tryz.func111 #[.agg #[.int .i64 t242, .string t243], .agg #[.int .i64 t244, .string t245]] ?_
 with_reducible refine (row_order.calls k t242 t243 t244 t245 t246 _ A5.out).mono ?_
 rintro e w11 ⟨rfl, hb⟩
 refine ⟨_, rfl, ?_⟩
 replace BK240 := cB BK240 hb
 replace BK241 := cB BK241 hb
 replace HB := Aside0.mk (below_step bl hb)
 (try clear hb)
 refine hK.out _ _ ⟨(blk_cell BK240.out 0).trans rfl, (blk_cell BK240.out 1).trans rfl, (blk_cell BK240.out 2).trans rfl, (blk_cell BK240.out 3).trans rfl, (blk_cell BK241.out 0).trans rfl, (blk_cell BK241.out 1).trans rfl, (blk_cell BK241.out 2).trans rfl, (blk_cell BK241.out 3).trans rfl⟩ (fun hHeld => ?_)
 clear hK K
 refine norm_ (a' := ?_) ?_ ?_
 rotate_left
 ·
  show Act.put _ (some 9) _ = _
  simp only [Act.put, List.setIfInBounds_toArray, List.set_cons_zero, List.set_cons_succ, i64_w, i32_w]
  rfl
 refine pure_ (i := 5) (N := some 10) (v := ?_) (a' := ?_) #[true, true, true, true, true, true, false] rfl rfl (by kernel_rfl) (fun _ _ _ h => h) (Or.inl ⟨by rfl, ?_⟩) ?_ ?_
 rotate_left
 ·
  intro w'
  go_simp
  with_reducible rfl
 rotate_left
 ·
  simp only [Act.put, List.setIfInBounds_toArray, List.set_cons_zero, List.set_cons_succ, i64_w, i32_w]
  rfl
 refine pure_ (i := 6) (N := some 4) (v := ?_) (a' := ?_) #[true, true, true, true, true, true, true] rfl rfl (by kernel_rfl) (fun _ _ _ h => h) (Or.inl ⟨by rfl, ?_⟩) ?_ ?_
 rotate_left
 ·
  intro w'
  go_simp
  with_reducible rfl
 rotate_left
 ·
  simp only [Act.put, List.setIfInBounds_toArray, List.set_cons_zero, List.set_cons_succ, i64_w, i32_w]
  rfl
 refine done_ (by kernel_rfl) ?_
 try go_wp2
 go_ret
 exact ⟨re_, bl⟩
def row_rise.l0 : Nat → List (S60) → Int → Option (Bool)
 | 0, _, _ => none
 | k + 1, x0, x3 => if x3 < (x0.length : Int) then (if 0 ≤ (wrap64 (x3 - 1)) then (if (wrap64 (x3 - 1)) < (x0.length : Int) then (if 0 ≤ x3 then ((row_Before.f k ((rd_T60 x0 (wrap64 (x3 - 1))).f0) ((rd_T60 x0 (wrap64 (x3 - 1))).f1) ((rd_T60 x0 (wrap64 (x3 - 1))).f2.f0) ((rd_T60 x0 (wrap64 (x3 - 1))).f2.f1) ((rd_T60 x0 x3).f0) ((rd_T60 x0 x3).f1) ((rd_T60 x0 x3).f2.f0) ((rd_T60 x0 x3).f2.f1)).bind fun t249 => (if t249 = true then (row_rise.l0 k x0 (wrap64 (x3 + 1))) else (none))) else (none)) else (none)) else (none)) else (some true)
def row_rise.f (k : Nat) (l0 : List (S60)) : Option (Bool) := row_rise.l0 k l0 1
theorem row_rise.mono_l : ∀ k, (∀ y0 y1, LeC (row_rise.l0 k y0 y1) (row_rise.l0 (k + 1) y0 y1))
 | 0 => fun _ _ => ⟨fun r h => by simp [row_rise.l0] at h⟩
 | k + 1 => by have ih0 := row_rise.mono_l k; exact fun _ _ => by unfold row_rise.l0; exact lm
theorem row_rise.mono : ∀ a0 k, LeO (row_rise.f k a0) (row_rise.f (k + 1) a0) := by
 intro a0 k
 have ih0 := row_rise.mono_l k
 unfold row_rise.f
 exact lo
instance row_rise.mI {a0 k} : LeC (row_rise.f k a0) (row_rise.f (k + 1) a0) := ⟨row_rise.mono _ _⟩
def row_rise.T4 : Bool × List (List Nat × List Nat) := (true, [([], []), ([], []), ([1], [1]), ([0, 2], [0, 2]), ([3], [3]), ([], []), ([], []), ([5, 6], [5, 6]), ([7], [7]), ([4, 8], [4, 8]), ([9], [9])])
def row_rise.B4 : List Nat := [0, 0, 2, 7, 15, 0, 0, 96, 224, 511, 1023]
theorem row_rise.tab4 : rtab .any (opsOf Tryz.f70 4) = row_rise.T4 := by kernel_rfl
theorem row_rise.bits4 : waitsOk row_rise.T4.2 row_rise.B4 = true := by kernel_rfl
theorem row_rise.calls (k : Nat) (A0 : Option Addr) (c0 : Nat) (l0 : List (S60)) (r : Bool) (w : World) (hr0 : Kd.C k60 w A0 l0.length l0) (hc0 : l0.length ≤ c0) (h : row_rise.f k l0 = some r) :
 Calls Tryz.prog 70 #[.slice A0 l0.length c0] w fun e w' => e = .returned (.bool r) ∧ Below w.heap.size w w' := by
 have hu60 := Tryz.underlying60
 have HR0 := Aside0.mk hr0
 have HC0 := Aside0.mk hc0
 clear hr0 hc0
 have HB := Aside0.mk (Below.refl w.heap.size w)
 have H : (row_rise.l0 k l0 1) = some r := h
 clear h
 have H' := Aside0.mk H
 clear H
 go_enter Tryz.func70, Tryz.ntmps70
 go_wp2
 go_loopg [3] k (fun kq v3 w' => ∃ (x3_1 : Int), v3 = .int .i64 x3_1 ∧ Aside0 (row_rise.l0 kq l0 x3_1 = some r) ∧ Aside0 (kq ≤ k) ∧ Aside0 (Below w.heap.size w w'))
 case atStart => exact ⟨(1), rs_, H', ⟨Nat.le_refl _⟩, ⟨uW HB.out⟩⟩
 case round =>
  clear H'
  obtain ⟨x3_1, rfl, HA, HK1, HB⟩ := hrel
  cases gk with
  | zero => exact absurd HA.out (by simp [row_rise.l0])
  | succ k1 =>
   have H := HA.out
   clear HA
   simp only [row_rise.l0] at H
   by_cases c2 : x3_1 < (l0.length : Int)
   ·
    rw [if_pos c2] at H
    have c2b0 : decide (x3_1 < (l0.length : Int)) = true := decide_eq_true c2
    clear c2
    obtain ⟨ji3, hji3⟩ : ∃ j_ : Int, (wrap64 (x3_1 - 1)) = j_ := ⟨_, rfl⟩
    (first | rw [hji3] at H | simp only [hji3] at H)
    have hji3w : (IntKind.i64.wrap (x3_1 - 1)) = ji3 := (i64_w _).trans hji3
    obtain ⟨c4b0, H⟩ := gdd H
    obtain ⟨c5b0, H⟩ := gdd H
    obtain ⟨c6b0, H⟩ := gdd H
    obtain ⟨t249, A7, H⟩ := bs H
    try dsimp only at H
    by_cases c8 : t249 = true
    ·
     subst c8
     rw [if_pos rfl] at H
     have H' := Aside0.mk H
     clear H
     try go_wp2
     replace HB := Aside0.mk (below_drew1 HB.out)
     have p247 : 0 ≤ ((ji3) : Int) := od
     have q247 : (ji3) < (l0.length : Int) := od
     obtain ⟨ad247, e247, hx247_0, hx247_1, hx247_2, hx247_3⟩ := at_T60 HR0.out (ji3) p247 q247
     have hw247_3 := hx247_3
     have hw247_2 := hx247_2
     have hw247_1 := hx247_1
     have hw247_0 := hx247_0
     cases e247
     replace hx247_0 := kc HB hx247_0
     replace hx247_1 := kc HB hx247_1
     replace hx247_2 := kc HB hx247_2
     replace hx247_3 := kc HB hx247_3
     replace p247 := eq_true p247
     replace q247 := eq_true q247
     have p248 : 0 ≤ (x3_1 : Int) := od
     have q248 : x3_1 < (l0.length : Int) := od
     obtain ⟨ad248, e248, hx248_0, hx248_1, hx248_2, hx248_3⟩ := at_T60 HR0.out x3_1 p248 q248
     have hw248_3 := hx248_3
     have hw248_2 := hx248_2
     have hw248_1 := hx248_1
     have hw248_0 := hx248_0
     obtain rfl : ad247 = ad248 := (by injection e248)
     replace hx248_0 := kc HB hx248_0
     replace hx248_1 := kc HB hx248_1
     replace hx248_2 := kc HB hx248_2
     replace hx248_3 := kc HB hx248_3
     replace p248 := eq_true p248
     replace q248 := eq_true q248
     refine start_ (n := 11) (S := fun w' => w'.cell? (ad247.add (((ji3)).toNat * 4)) = some (.int .i64 ((rd_T60 l0 (ji3)).f0)) ∧ w'.cell? ⟨(ad247.add (((ji3)).toNat * 4)).block, (ad247.add (((ji3)).toNat * 4)).off + 1, none⟩ = some (.string ((rd_T60 l0 (ji3)).f1)) ∧ w'.cell? ⟨(ad247.add (((ji3)).toNat * 4)).block, (ad247.add (((ji3)).toNat * 4)).off + 2, none⟩ = some (.int .i64 ((rd_T60 l0 (ji3)).f2.f0)) ∧ w'.cell? ⟨(ad247.add (((ji3)).toNat * 4)).block, (ad247.add (((ji3)).toNat * 4)).off + 3, none⟩ = some (.bool ((rd_T60 l0 (ji3)).f2.f1)) ∧ w'.cell? (ad247.add ((x3_1).toNat * 4)) = some (.int .i64 ((rd_T60 l0 x3_1).f0)) ∧ w'.cell? ⟨(ad247.add ((x3_1).toNat * 4)).block, (ad247.add ((x3_1).toNat * 4)).off + 1, none⟩ = some (.string ((rd_T60 l0 x3_1).f1)) ∧ w'.cell? ⟨(ad247.add ((x3_1).toNat * 4)).block, (ad247.add ((x3_1).toNat * 4)).off + 2, none⟩ = some (.int .i64 ((rd_T60 l0 x3_1).f2.f0)) ∧ w'.cell? ⟨(ad247.add ((x3_1).toNat * 4)).block, (ad247.add ((x3_1).toNat * 4)).off + 3, none⟩ = some (.bool ((rd_T60 l0 x3_1).f2.f1))) (ds := []) _ (by kernel_rfl) rfl rfl ⟨(kc HB hw247_0), (kc HB hw247_1), (kc HB hw247_2), (kc HB hw247_3), (kc HB hw248_0), (kc HB hw248_1), (kc HB hw248_2), (kc HB hw248_3)⟩ (fun hHeld => ?_); refine with_tabW row_rise.tab4 row_rise.bits4 (fun HT_ HW_ => ?_)
     generalize wr.drew = w9 at HB hx247_0 hx247_1 hx247_2 hx247_3 hx248_0 hx248_1 hx248_2 hx248_3 hHeld ⊢
     refine p1 0 (some 10) ?_
     refine p1 1 (some 11) ?_
     refine p1 2 (some 12) ?_
     refine p1 3 (some 13) ?_
     refine p1 5 (some 15) ?_
     refine p1 6 (some 16) ?_
     refine p1 7 (some 17) ?_
     refine t1 4 (some 14) rfl rfl hHeld (Or.inl ⟨by rfl, by rintro w' ⟨s0, s1, s2, s3, s4, s5, s6, s7⟩; go_simp; with_reducible rfl⟩) ?_
     refine t1 8 (some 18) rfl rfl hHeld (Or.inl ⟨by rfl, by rintro w' ⟨s0, s1, s2, s3, s4, s5, s6, s7⟩; go_simp; with_reducible rfl⟩) ?_
     refine o1 9 (some 19) rfl rfl (fun K hK => ?_)
     refine goes_ Tryz.func88 (by kernel_rfl) rfl #[.agg #[.int .i64 ((rd_T60 l0 (ji3)).f0), .string ((rd_T60 l0 (ji3)).f1), .int .i64 ((rd_T60 l0 (ji3)).f2.f0), .bool ((rd_T60 l0 (ji3)).f2.f1)], .agg #[.int .i64 ((rd_T60 l0 x3_1).f0), .string ((rd_T60 l0 x3_1).f1), .int .i64 ((rd_T60 l0 x3_1).f2.f0), .bool ((rd_T60 l0 x3_1).f2.f1)]] (by rfl) rfl rfl (by (try simp only [List.map_toArray, List.map_cons, List.map_nil]); first | done | (simp only [hji3]; rfl) | rfl | (simp only [List.length_drop, List.length_take]; rfl)) ?_
     with_reducible refine (row_Before.calls k1 ((rd_T60 l0 (ji3)).f0) ((rd_T60 l0 (ji3)).f1) ((rd_T60 l0 (ji3)).f2.f0) ((rd_T60 l0 (ji3)).f2.f1) ((rd_T60 l0 x3_1).f0) ((rd_T60 l0 x3_1).f1) ((rd_T60 l0 x3_1).f2.f0) ((rd_T60 l0 x3_1).f2.f1) true _ A7.out).mono ?_
     rintro e w10 ⟨rfl, hb⟩
     refine ⟨_, rfl, ?_⟩
     replace HB := cW HB hb
     (try clear hb)
     refine hK.out _ _ ⟨(kc HB hw247_0), (kc HB hw247_1), (kc HB hw247_2), (kc HB hw247_3), (kc HB hw248_0), (kc HB hw248_1), (kc HB hw248_2), (kc HB hw248_3)⟩ (fun hHeld => ?_)
     clear hK K
     refine norm_ (a' := ?_) ?_ ?_
     rotate_left
     ·
      show Act.put _ (some 19) _ = _
      simp only [Act.put, List.setIfInBounds_toArray, List.set_cons_zero, List.set_cons_succ, i64_w, i32_w]
      rfl
     refine p1 10 (some 20) ?_
     refine done_ (done_of HT_.out (by kernel_rfl)) ?_
     try go_wp2
     go_roundg k1
     case measure => have := HK1.out; omega
     case rel => exact ⟨(wrap64 (x3_1 + 1)), rs_, H', ⟨by have := HK1.out; omega⟩, ⟨uW HB.out⟩⟩
    ·
     replace c8 := Bool.eq_false_iff.mpr c8
     subst c8
     rw [if_neg (show ¬ (false = true) by decide)] at H
     exact absurd H (by simp)
   ·
    rw [if_neg c2] at H
    have c2b0 : decide (x3_1 < (l0.length : Int)) = false := decide_eq_false c2
    clear c2
    obtain rfl := Option.some.inj H
    go_wp2
    go_ret
    exact ⟨re_, uW HB.out⟩
def row_Parse.l0 : Nat → List (S60) → List ByteArray → Int → Int → Option ((List (S60)) × Int)
 | 0, _, _, _, _ => none
 | k + 1, x2, x11, x12, x13 => if x13 < x12 then (if 0 ≤ x13 then (if x13 < (x11.length : Int) then ((row_one.f k (rdOf ByteArray.empty x11 x13)).bind fun bt254 => (if bt254.2.2.2.2 = 0 then (if x2.length < 3518437208883 then (row_Parse.l0 k (x2 ++ [(⟨bt254.1, bt254.2.1, (⟨bt254.2.2.1, bt254.2.2.2.1⟩ : S58)⟩ : S60)]) x11 x12 (wrap64 (x13 + 1))) else (none)) else (none))) else (none)) else (none)) else ((row_rise.f k x2).bind fun t263 => (if t263 = true then (some (x2, 0)) else (none)))
def row_Parse.f (k : Nat) (a0 : ByteArray) : Option ((List (S60)) × Int) := if a0.toList = ([45] : List UInt8) then (none) else ((word_Split.f k a0 59).bind fun t250 => (row_Parse.l0 k ([] : List (S60)) t250 (t250.length : Int) 0))
theorem row_Parse.mono_l : ∀ k, (∀ y0 y1 y2 y3, LeC (row_Parse.l0 k y0 y1 y2 y3) (row_Parse.l0 (k + 1) y0 y1 y2 y3))
 | 0 => fun _ _ _ _ => ⟨fun r h => by simp [row_Parse.l0] at h⟩
 | k + 1 => by have ih0 := row_Parse.mono_l k; exact fun _ _ _ _ => by unfold row_Parse.l0; exact lm
theorem row_Parse.mono : ∀ a0 k, LeO (row_Parse.f k a0) (row_Parse.f (k + 1) a0) := by
 intro a0 k
 have ih0 := row_Parse.mono_l k
 unfold row_Parse.f
 exact lo
instance row_Parse.mI {a0 k} : LeC (row_Parse.f k a0) (row_Parse.f (k + 1) a0) := ⟨row_Parse.mono _ _⟩
theorem row_Parse.calls (k : Nat) (a0 : ByteArray) (r1 : List (S60)) (r2 : Int) (w : World) (hL : LD w) (h : row_Parse.f k a0 = some (r1, r2)) :
 Calls Tryz.prog 50 #[.string a0] w fun e w' => ∃ v0_ : Value, e = .returned (.tuple #[v0_, .int .i64 r2]) ∧ Kd.R k60 60 w' w.heap.size (fun _ => True) v0_ r1 ∧ Below w.heap.size w w' := by
 have HL0 := Aside0.mk hL
 clear hL
 have hu60 := Tryz.underlying60
 have HB := Aside0.mk (Below.refl w.heap.size w)
 have H : (if a0.toList = ([45] : List UInt8) then (none) else ((word_Split.f k a0 59).bind fun t250 => (row_Parse.l0 k ([] : List (S60)) t250 (t250.length : Int) 0))) = some (r1, r2) := h
 clear h
 obtain ⟨c2, H⟩ := gn H
 have c2b0 : (a0.toList == ([45] : List UInt8)) = false := beq_eq_false_iff_ne.mpr c2
 have c2b1 : (a0.toList != ([45] : List UInt8)) = true := bne_iff_ne.mpr c2
 obtain ⟨t250, A3, H⟩ := bs H
 try dsimp only at H
 have H' := Aside0.mk H
 clear H
 go_enter Tryz.func50, Tryz.ntmps50
 go_wp2_with (first | (refine gL (some 11) rfl Tryz.func67 #[.string a0, .int .u8 59] ?_; (with_reducible refine (word_Split.calls k a0 59 t250 _ A3.out).mono ?_); rintro e w4 ⟨v251, rfl, ho0, hb⟩; refine ⟨_, rfl, ?_⟩; have HO252 := Aside0.mk (Kd.R_lower ho0 (below_size (uW HB.out))); replace HB := cW HB hb; (try clear hb); (try clear ho0); obtain ⟨Ao5, co5, eo5⟩ := Kd.R_slice HO252.out; subst eo5))
 (try simp only [Act.put, List.setIfInBounds_toArray, List.set_cons_zero, List.set_cons_succ])
 go_loopg [2, 13] k (fun kq v2 v13 w' => ∃ (x2_1 : List (S60)) (x13_1 : Int), v13 = .int .i64 x13_1 ∧ Aside0 (row_Parse.l0 kq x2_1 t250 (t250.length : Int) x13_1 = some (r1, r2)) ∧ Aside0 (kq ≤ k) ∧ Aside0 (Kd.R k60 60 w' w.heap.size (fun _ => True) v2 x2_1) ∧ Aside0 (Kd.R Kd.string 9 w' w.heap.size (fun _ => True) (.slice Ao5 t250.length co5) t250) ∧ Aside0 (Below w.heap.size w w'))
 case atStart => exact ⟨(([] : List (S60))), (0), rs_, H', ⟨Nat.le_refl _⟩, ⟨nl_⟩, ⟨uR HO252.out⟩, ⟨uW HB.out⟩⟩
 case round =>
  clear H'
  try clear c2
  try clear c2b0
  try clear c2b1
  try clear p2
  try clear c5
  obtain ⟨x2_1, x13_1, rfl, HA, HK1, HO_2, HO_11, HB⟩ := hrel
  cases gk with
  | zero => exact absurd HA.out (by simp [row_Parse.l0])
  | succ k1 =>
   have H := HA.out
   clear HA
   simp only [row_Parse.l0] at H
   by_cases c6 : x13_1 < (t250.length : Int)
   ·
    rw [if_pos c6] at H
    have c6b0 : decide (x13_1 < (t250.length : Int)) = true := decide_eq_true c6
    clear c6
    obtain ⟨c7b0, H⟩ := gdd H
    obtain ⟨c8b0, H⟩ := gdd H
    obtain ⟨⟨t254, t255, t256, t257, t258⟩, A9, H⟩ := bs H
    try dsimp only at H
    obtain ⟨c10, H⟩ := gd H
    have c10b0 : (t258 == 0) = true := beq_iff_eq.mpr c10
    have c10b1 : (t258 != 0) = false := bne_eq_false_iff_eq.mpr c10
    clear c10
    obtain ⟨c11, H⟩ := gd H
    have LMc11 := Aside0.mk c11
    clear c11
    obtain ⟨y260, hy260⟩ : ∃ y_ : List (S60), y_ = (x2_1 ++ [(⟨t254, t255, (⟨t256, t257⟩ : S58)⟩ : S60)]) := ⟨_, rfl⟩
    replace H : (row_Parse.l0 k1 y260 t250 (t250.length : Int) (wrap64 (x13_1 + 1))) = some (r1, r2) := by first | (rw [hy260]; with_reducible exact H) | (have H2_ := (Option.bind_some _ _).symm.trans H; rw [hy260]; with_reducible exact H2_) | (have H2_ := (Option.bind_some _ _).symm.trans H; with_reducible exact H2_) | with_reducible exact H | (rw [hy260]; exact H) | exact H
    have Ny260 := Aside0.mk hy260
    clear hy260
    have H' := Aside0.mk H
    clear H
    have p253 : 0 ≤ (x13_1 : Int) := od
    have q253 : x13_1 < (t250.length : Int) := od
    obtain ⟨ad253, e253, hx253_0⟩ := Kd.at_string (Kd.R_reads' HO_11.out).2.2 x13_1 p253 q253
    cases e253
    replace p253 := eq_true p253
    replace q253 := eq_true q253
    go_wp2_with (first | (refine gL (some 19) rfl Tryz.func69 #[.string (rdOf ByteArray.empty t250 x13_1)] ?_; (with_reducible refine (row_one.calls (hL := ld) k1 (rdOf ByteArray.empty t250 x13_1) t254 t255 t256 t257 t258 _ A9.out).mono ?_); rintro e w12 ⟨rfl, hb⟩; refine ⟨_, rfl, ?_⟩; replace HO_2 := cR HO_2 hb; replace HO_11 := cR HO_11 hb; replace HB := cW HB hb; (try clear hb)) | ((with_reducible refine gate_dst (N := 6) rfl ?_); refine bx (N := 6) #[.int .i64 0, .string (⟨#[]⟩ : ByteArray), .int .i64 0, .bool false] 60 ?_; intro gb259 hg w13 hbox hb; replace HO_2 := Aside0.mk (Kd.R_below (Kd.R_elderB (uR HO_2.out) gb259 (Nat.le_of_eq hg.symm)) hb); replace HO_11 := cR HO_11 hb; have BK259 := Aside0.mk (hbox); have GW259 := gw hg (uW HB.out); have GE259 := GW259; replace HB := cW HB hb; clear hb hbox hg; obtain ⟨hcz14_0, hcz14_1, hcz14_2, hcz14_3, hfz14_0, hfz14_1, hfz14_2, hfz14_3⟩ := z4 BK259) | ((with_reducible refine gate_builtin (b := .append) (xs := #[.tmp 25, .tmp 27]) rfl ?_); at_builtin; refine Kd.R_append k60 (w0 := w) w.heap.size rfl (.tmp 25) (.tmp 27) 31 60 (.agg #[(.int .i64 0), (.string ⟨#[]⟩), (.int .i64 0), (.bool false)]) 40 rfl Tryz.underlying31 info60 rfl (by decide) (by omega) u2 x2_1 (⟨t254, t255, (⟨t256, t257⟩ : S58)⟩ : S60) [.int .i64 t254, .string t255, .int .i64 t256, .bool t257] (fun k_ => k_ ≠ gb259) (fun _ => False) rfl (by first | (go_simp; done) | (go_simp; rfl)) ?aP (fun _ hk => hk.elim) ?aF ?aO ?aB ?aS ?aL ?_; (case aP => exact k60_mkM _ _ _ (⟨t254, t255, (⟨t256, t257⟩ : S58)⟩ : S60)); (case aB => exact bl); (case aF => exact (fun k_ hk => Kd.freshB (g := gb259) (o := .cells #[.int .i64 t254, .string t255, .int .i64 t256, .bool t257] 60 (0, 0)) (by (with_reducible repeat (first | refine blk_drewN ?_ _ | refine blk_drew ?_ | refine blk_alloc ?_ _)); refine blk_put (cs := #[.int .i64 t254, .string t255, .int .i64 t256, .bool false]) ?_ 3 _ rfl; (with_reducible repeat (first | refine blk_drewN ?_ _ | refine blk_drew ?_ | refine blk_alloc ?_ _)); refine blk_put (cs := #[.int .i64 t254, .string t255, .int .i64 0, .bool false]) ?_ 2 _ rfl; (with_reducible repeat (first | refine blk_drewN ?_ _ | refine blk_drew ?_ | refine blk_alloc ?_ _)); refine blk_put (cs := #[.int .i64 t254, .string (⟨#[]⟩ : ByteArray), .int .i64 0, .bool false]) ?_ 1 _ rfl; (with_reducible repeat (first | refine blk_drewN ?_ _ | refine blk_drew ?_ | refine blk_alloc ?_ _)); refine blk_put (cs := #[.int .i64 0, .string (⟨#[]⟩ : ByteArray), .int .i64 0, .bool false]) ?_ 0 _ rfl; exact uB <| BK259.out) k_ hk)); (case aO => exact (by exact uR <| Kd.R_mono (Kd.R_far (p := ⟨gb259, 3, none⟩) (Kd.R_far (p := ⟨gb259, 2, none⟩) (Kd.R_far (p := ⟨gb259, 1, none⟩) (Kd.R_far (p := ⟨gb259, 0, none⟩) (Kd.R_mono HO_2.out (fun k_ hk => (⟨hk, hk.2⟩ : _ ∧ k_ ≠ gb259))) (fun _ hk => hk.2) (.int .i64 t254)) (fun _ hk => hk.2) (.string t255)) (fun _ hk => hk.2) (.int .i64 t256)) (fun _ hk => hk.2) (.bool t257)) (fun _ hk => hk.1.2))); (case aS => exact (below_size bl)); (case aL => have := LMc11.out; omega); intro v261 w15 ho hb hg hat; rw [← Ny260.out] at ho; replace HO_11 := Aside0.mk (Kd.R_over' (by exact uR <| (Kd.R_mono (Kd.R_far (p := ⟨gb259, 3, none⟩) (Kd.R_far (p := ⟨gb259, 2, none⟩) (Kd.R_far (p := ⟨gb259, 1, none⟩) (Kd.R_far (p := ⟨gb259, 0, none⟩) (Kd.R_types HO_11.out BK259.out (by decide)) (fun _ hk => hk.2) (.int .i64 t254)) (fun _ hk => hk.2) (.string t255)) (fun _ hk => hk.2) (.int .i64 t256)) (fun _ hk => hk.2) (.bool t257)) (fun _ h_ => h_.1))) (Kd.R_typed (by exact uR <| (Kd.R_mono (Kd.R_far (p := ⟨gb259, 3, none⟩) (Kd.R_far (p := ⟨gb259, 2, none⟩) (Kd.R_far (p := ⟨gb259, 1, none⟩) (Kd.R_far (p := ⟨gb259, 0, none⟩) (Kd.R_mono HO_2.out (fun k_ hk => (⟨hk, hk.2⟩ : _ ∧ k_ ≠ gb259))) (fun _ hk => hk.2) (.int .i64 t254)) (fun _ hk => hk.2) (.string t255)) (fun _ hk => hk.2) (.int .i64 t256)) (fun _ hk => hk.2) (.bool t257)) (fun _ h_ => h_.1)))) (by decide) hg); replace BK259 := Aside0.mk (blk_grown (g := gb259) (o := .cells #[.int .i64 t254, .string t255, .int .i64 t256, .bool t257] 60 (0, 0)) (by (with_reducible repeat (first | refine blk_drewN ?_ _ | refine blk_drew ?_ | refine blk_alloc ?_ _)); refine blk_put (cs := #[.int .i64 t254, .string t255, .int .i64 t256, .bool false]) ?_ 3 _ rfl; (with_reducible repeat (first | refine blk_drewN ?_ _ | refine blk_drew ?_ | refine blk_alloc ?_ _)); refine blk_put (cs := #[.int .i64 t254, .string t255, .int .i64 0, .bool false]) ?_ 2 _ rfl; (with_reducible repeat (first | refine blk_drewN ?_ _ | refine blk_drew ?_ | refine blk_alloc ?_ _)); refine blk_put (cs := #[.int .i64 t254, .string (⟨#[]⟩ : ByteArray), .int .i64 0, .bool false]) ?_ 1 _ rfl; (with_reducible repeat (first | refine blk_drewN ?_ _ | refine blk_drew ?_ | refine blk_alloc ?_ _)); refine blk_put (cs := #[.int .i64 0, .string (⟨#[]⟩ : ByteArray), .int .i64 0, .bool false]) ?_ 0 _ rfl; exact uB <| BK259.out) hg (Kd.R_away HO_2.out (fun _ hk => hk.2))); replace HB := Aside0.mk (hb); have HO262 := Aside0.mk (ho); clear HO_2; clear ho hb hg hat))
    go_roundg k1
    case measure => have := HK1.out; omega
    case rel => exact ⟨(y260), (wrap64 (x13_1 + 1)), rs_, H', ⟨by have := HK1.out; omega⟩, ⟨by exact uR <| Kd.R_mono HO262.out (fun _ hk => trivial)⟩, ⟨uR HO_11.out⟩, ⟨bl⟩⟩
   ·
    rw [if_neg c6] at H
    have c6b0 : decide (x13_1 < (t250.length : Int)) = false := decide_eq_false c6
    clear c6
    obtain ⟨t263, A16, H⟩ := bs H
    try dsimp only at H
    by_cases c17 : t263 = true
    ·
     subst c17
     rw [if_pos rfl] at H
     simp only [Option.some.injEq, Prod.mk.injEq] at H
     obtain ⟨rfl, rfl⟩ := H
     obtain ⟨Ao18, co18, eo18⟩ := Kd.R_slice HO_2.out
     subst eo18
     go_wp2_with (first | (refine gL (some 31) rfl Tryz.func70 #[.slice Ao18 x2_1.length co18] ?_; (with_reducible refine (row_rise.calls k1 _ _ x2_1 true _ ?side1 ?side2 A16.out).mono ?_); (case side1 => exact uC <| (Kd.R_reads' HO_2.out).2.2); (case side2 => exact (Kd.R_reads' HO_2.out).2.1); rintro e w19 ⟨rfl, hb⟩; refine ⟨_, rfl, ?_⟩; replace HO_2 := cR HO_2 hb; replace HO_11 := cR HO_11 hb; replace HB := cW HB hb; (try clear hb)))
     go_ret2
     exact ⟨_, re_, uR HO_2.out, uW HB.out⟩
    ·
     replace c17 := Bool.eq_false_iff.mpr c17
     subst c17
     rw [if_neg (show ¬ (false = true) by decide)] at H
     exact absurd H (by simp)
theorem reply_ReadRows.catch (p q : Nat) (er y : Int) (x0 x1 x2 : Value) (w : World) (hp : w.heap[p]? = some (.cells #[x0, x1, x2] 33 (0, 0))) (hq : w.heap[q]? = some (.cells #[.int .i64 y] 22 (0, 0))) :
 CallsD Tryz.prog 49 #[.pointer (some ⟨p, 0, none⟩), .pointer (some ⟨q, 0, none⟩)] (.panicking (wr_ er)) w fun e u' w' =>
  e = .returned (.tuple #[]) ∧ u' = .panicking [{ v := .iface 86 (.agg #[.int .i64 er]), recovered := true }] ∧ ∃ w1, Below w.heap.size w w1 ∧ w' = ((((w1.setCell ⟨p, 0, none⟩ (.int .i64 0)).setCell ⟨p, 1, none⟩ (.int .i64 0)).setCell ⟨p, 2, none⟩ (.slice none 0 0)).setCell ⟨q, 0, none⟩ (.int .i64 er)) := by
 have hne : p ≠ q := blk_ne hp hq (by decide)
 have hu33 := Tryz.underlying33
 have hu36 := Tryz.underlying36
 refine callsD_of_wpS Tryz.func49 rfl fun c₀ cs hu => ?_
 apply wpS_seq
 apply wpS_region
 simp [wpOpsS, go_sem, recoverD, hu, Tryz.ntmps49, Exit.thenS]
 apply wpS_seq
 apply wpS_region
 simp [wpOpsS, go_sem, Exit.thenS]
 refine wpS_cond (t := true) (by simp [Act.eval, Array.replicate]) ?_
 simp only [if_true]
 refine wpS_of_wp ?_
 go_wp2_with (first | (go_at_call 44; (with_reducible refine (reply_caught.calls er _).mono ?_); rintro e w5 ⟨rfl, hb⟩; have hp5 := blk_below hp hb; have hq5 := blk_below hq hb; have hc0 := (blk_cell hp5 0).trans rfl; have hz0 := blk_frozen hp5 0; have hc1 := (blk_cell hp5 1).trans rfl; have hz1 := blk_frozen hp5 1; have hc2 := (blk_cell hp5 2).trans rfl; have hz2 := blk_frozen hp5 2; have hcq := (blk_cell (blk_far (blk_far (blk_far hq5 (p := ⟨p, 0, none⟩) hne.symm (.int .i64 0)) (p := ⟨p, 1, none⟩) hne.symm (.int .i64 0)) (p := ⟨p, 2, none⟩) hne.symm (.slice none 0 0)) 0).trans rfl; have hzq := blk_frozen (blk_far (blk_far (blk_far hq5 (p := ⟨p, 0, none⟩) hne.symm (.int .i64 0)) (p := ⟨p, 1, none⟩) hne.symm (.int .i64 0)) (p := ⟨p, 2, none⟩) hne.symm (.slice none 0 0)) 0))
 cases c₀
 simp_all [bodyPostS, results, Tryz.results49, Exit.thenS]
 exact ⟨w5, hb, rfl⟩
theorem reply_ReadRows.idle (p q : Nat) (w : World) : CallsD Tryz.prog 49 #[.pointer (some ⟨p, 0, none⟩), .pointer (some ⟨q, 0, none⟩)] .returning w fun e u' w' => e = .returned (.tuple #[]) ∧ u' = .returning ∧ w' = w := by
 refine callsD_of_wpS Tryz.func49 rfl fun c₀ cs hu => ?_
 apply wpS_seq
 apply wpS_region
 simp [wpOpsS, go_sem, recoverD, hu, Tryz.ntmps49, Exit.thenS]
 apply wpS_seq
 apply wpS_region
 simp [wpOpsS, go_sem, Exit.thenS]
 refine wpS_cond (t := false) (by simp [Act.eval, Array.replicate]) ?_
 simp only [Bool.false_eq_true, if_false]
 refine wpS_of_wp (wp_skip ?_)
 cases c₀
 simp_all [bodyPostS, results, Tryz.results49, Exit.thenS]
theorem reply_ReadRows.out {w W : World} {p q : Nat} {er y : Int} {x0 x1 x2 t0 t1 t4 t5 t6 t7 t8 t9 t10 t11 t12 t13 t14 t15 t16 t17 t18 t19 t20 t21 t22 t23 t24 t25 t26 t27 t28 : Value} (hp : W.heap[p]? = some (.cells #[x0, x1, x2] 33 (0, 0))) (hq : W.heap[q]? = some (.cells #[.int .i64 y] 22 (0, 0))) (hb : Below w.heap.size w W) (gp : w.heap.size ≤ p) (gq : w.heap.size ≤ q) :
 bodyPostD Tryz.prog Tryz.f24 (fun e w' => ∃ v0_ : Value, e = .returned (.tuple #[.agg #[.int .i64 0, .int .i64 0, v0_], .int .i64 er]) ∧ Kd.R k60 60 w' w.heap.size (fun _ => True) v0_ [] ∧ Below w.heap.size w w') (.panic (wr_ er)) { tmps := #[t0, t1, .pointer (some ⟨p, 0, none⟩), .pointer (some ⟨q, 0, none⟩), t4, t5, t6, t7, t8, t9, t10, t11, t12, t13, t14, t15, t16, t17, t18, t19, t20, t21, t22, t23, t24, t25, t26, t27, t28], defers := [{ target := .fn (.func 49) #[.pointer (some ⟨p, 0, none⟩), .pointer (some ⟨q, 0, none⟩)], args := #[] }] } W := by
 have hne : p ≠ q := blk_ne hp hq (by decide)
 refine leaves_cons (f := 49) (args := #[.pointer (some ⟨p, 0, none⟩), .pointer (some ⟨q, 0, none⟩)]) (by simp) (by simp [go_sem]) ?_
 refine (reply_ReadRows.catch p q er _ _ _ _ _ hp hq).mono ?_
 rintro e u' w'' ⟨rfl, rfl, w6, hb6, rfl⟩
 have cp0 := (blk_cell (blk_far (blk_set (blk_set (blk_set (blk_below hp hb6) 0 (.int .i64 0)) 1 (.int .i64 0)) 2 (.slice none 0 0)) (p := ⟨q, 0, none⟩) hne (.int .i64 er)) 0).trans rfl
 have cp1 := (blk_cell (blk_far (blk_set (blk_set (blk_set (blk_below hp hb6) 0 (.int .i64 0)) 1 (.int .i64 0)) 2 (.slice none 0 0)) (p := ⟨q, 0, none⟩) hne (.int .i64 er)) 1).trans rfl
 have cp2 := (blk_cell (blk_far (blk_set (blk_set (blk_set (blk_below hp hb6) 0 (.int .i64 0)) 1 (.int .i64 0)) 2 (.slice none 0 0)) (p := ⟨q, 0, none⟩) hne (.int .i64 er)) 2).trans rfl
 have cq := (blk_cell (blk_set (blk_far (blk_far (blk_far (blk_below hq hb6) (p := ⟨p, 0, none⟩) hne.symm (.int .i64 0)) (p := ⟨p, 1, none⟩) hne.symm (.int .i64 0)) (p := ⟨p, 2, none⟩) hne.symm (.slice none 0 0)) 0 (.int .i64 er)) 0).trans rfl
 have HB2 := (below_set (j := 0) (v := .int .i64 er) (below_set (j := 2) (v := .slice none 0 0) (below_set (j := 1) (v := .int .i64 0) (below_set (j := 0) (v := .int .i64 0) (below_step hb hb6) gp) gp) gp) gq)
 simp [Leaves, settle, results, Tryz.results24, go_sem, cp0, cp1, cp2, cq, HB2]
 (try exact Kd.R_nil _ _ _ _ _)
def reply_ReadRows.f (k : Nat) (a0 : ByteArray) : Option (Int × Int × (List (S60)) × Int) := (word_Split.f k a0 32).bind fun t => (if (reply_words.g t 2 [rows_] 0).isSome = true then ((sat_Read.f (rdOf ByteArray.empty t 1)).bind fun b => (if b.2 = 0 then (if b.1 < 0 then (some (0, 0, [], 3)) else ((row_Parse.f k (rdOf ByteArray.empty t 2)).bind fun d => (if d.2 = 0 then (some (0, b.1, d.1, 0)) else (some (0, 0, [], d.2))))) else (some (0, 0, [], b.2)))) else (some (0, 0, [], 2)))
theorem reply_ReadRows.mono : ∀ a0 k, LeO (reply_ReadRows.f k a0) (reply_ReadRows.f (k + 1) a0) := by
 intro a0 k
 unfold reply_ReadRows.f
 exact lo
instance reply_ReadRows.mI {a0 k} : LeC (reply_ReadRows.f k a0) (reply_ReadRows.f (k + 1) a0) := ⟨reply_ReadRows.mono _ _⟩
theorem reply_ReadRows.calls (k : Nat) (a0 : ByteArray) (r1 : Int) (r2 : Int) (r3 : List (S60)) (r4 : Int) (w : World) (hL : LD w) (h : reply_ReadRows.f k a0 = some (r1, r2, r3, r4)) :
 Calls Tryz.prog 24 #[.string a0] w fun e w' => ∃ v2_ : Value, e = .returned (.tuple #[.agg #[.int .i64 r1, .int .i64 r2, v2_], .int .i64 r4]) ∧ Kd.R k60 60 w' w.heap.size (fun _ => True) v2_ r3 ∧ Below w.heap.size w w' := by
 unfold reply_ReadRows.f at h
 obtain ⟨t, hs, h⟩ := Option.bind_eq_some_iff.mp h
 have hmf : ∀ (fn : Fn) (first cap : Array Value) (w : World), (Instr.makeFunc fn first cap).run Tryz.prog w = .ok (.func fn first cap) w := fun _ _ _ _ => rfl
 have hu56 := Tryz.underlying56
 have hu33 := Tryz.underlying33
 have hu36 := Tryz.underlying36
 have HB := Aside0.mk (Below.refl w.heap.size w)
 have HH := Aside0.mk h
 clear h
 go_enter_defers Tryz.func24, Tryz.ntmps24
 go_wp2_with (first | ((with_reducible refine gate_dst (N := 2) rfl ?_); refine bx (N := 2) #[.int .i64 0, .int .i64 0, .slice none 0 0] 33 ?_; intro p hp w1 hk1 hb1; have BP := Aside0.mk hk1; have GP := Aside0.mk (show w.heap.size ≤ p by rw [hp]; exact HB.out.size); replace HB := Aside0.mk (below_step HB.out hb1); clear hk1 hp hb1) | ((with_reducible refine gate_dst (N := 3) rfl ?_); refine bx (N := 3) #[.int .i64 0] 22 ?_; intro q hq w2 hk1 hb1; have BQ := Aside0.mk hk1; have GQ := Aside0.mk (show w.heap.size ≤ q by rw [hq]; exact HB.out.size); replace BP := Aside0.mk (blk_below BP.out hb1); replace HB := Aside0.mk (below_step HB.out hb1); clear hk1 hq hb1))
 cases hg : reply_words.g t 2 [rows_] 0 with
 | none =>
  have h := HH.out
  clear HH
  rw [hg, if_neg (by simp)] at h
  injection h with h
  injection h with h1 h
  injection h with h2 h
  injection h with h3 h4
  subst h1 h2 h3 h4
  refine (reply_words.one k a0 2 (by decide) _ t _ hs).mono ?_
  rintro e w5 ⟨ho, hb⟩
  rw [hg] at ho
  have ho2 : e = .panicked (wr_ 2) := ho
  subst ho2
  have hb' := below_step (Below.refl _ _) (below_step (below_alloc (Below.refl _ _) _) hb)
  replace BP := Aside0.mk (blk_below BP.out hb'); replace BQ := Aside0.mk (blk_below BQ.out hb'); replace HB := Aside0.mk (below_step HB.out hb')
  go_wp2_with fail
  exact reply_ReadRows.out BP.out BQ.out HB.out GP.out GQ.out
 | some i =>
  have h := HH.out
  clear HH
  rw [hg, if_pos (show (some i).isSome = true from rfl)] at h
  have HH := Aside0.mk h
  clear h
  refine (reply_words.one k a0 2 (by decide) _ t _ hs).mono ?_
  rintro e w5 ⟨ho, hb⟩
  rw [hg] at ho
  obtain ⟨v1_, rfl, hq⟩ := ho
  have hb' := below_step (Below.refl _ _) (below_step (below_alloc (Below.refl _ _) _) hb)
  replace BP := Aside0.mk (blk_below BP.out hb'); replace BQ := Aside0.mk (blk_below BQ.out hb'); replace HB := Aside0.mk (below_step HB.out hb')
  have hlt := (reply_words.g_some hg).1
  obtain ⟨y, hy⟩ : ∃ y : List ByteArray, y = t.drop 1 := ⟨_, rfl⟩
  have hyl : (y.length : Int) = 2 := by rw [hy, List.length_drop]; omega
  rw [← hy] at hq
  obtain ⟨A5, c5, e5, _⟩ := Kd.Q_slice hq
  subst e5
  have HQ := Aside0.mk hq
  have HY := Aside0.mk hy
  have q0 : ((0 : Int) < (y.length : Int)) = True := eq_true (by omega)
  have qi0 : (0 < y.length) = True := eq_true (by omega)
  have q1 : ((1 : Int) < (y.length : Int)) = True := eq_true (by omega)
  have qi1 : (1 < y.length) = True := eq_true (by omega)
  clear hq hb hb' hy
  have hne := blk_ne BP.out BQ.out (by decide)
  obtain ⟨ad10_, ea10_, hx10_⟩ := Kd.at_string (Kd.Q_reads' HQ.out).2.2 0 (by decide) (by omega)
  cases ea10_
  (try rw [show ((0 : Int)).toNat = 0 from rfl] at hx10_)
  (try rw [Addr.add_zero'] at hx10_)
  rw [HY.out, show rdOf ByteArray.empty (t.drop 1) 0 = rdOf ByteArray.empty t 1 from reply_words.rd1 t 0] at hx10_
  go_wp2_with fail
  have h := HH.out
  clear HH
  obtain ⟨⟨n0, er⟩, hA, h⟩ := Option.bind_eq_some_iff.mp h
  dsimp only at h
  by_cases c : er = 0
  case neg =>
   rw [if_neg c] at h
   injection h with h
   injection h with h1 h
   injection h with h2 h
   injection h with h3 h4
   subst h1 h2 h3 h4
   refine (reply_number.bad1 (rdOf ByteArray.empty t 1) 0 n0 er _ (LD.below hL HB.out) hA c).mono ?_
   rintro e w20 ⟨rfl, hb'⟩
   replace BP := Aside0.mk (blk_below BP.out hb'); replace BQ := Aside0.mk (blk_below BQ.out hb'); replace HQ := Aside0.mk (Kd.Q_below HQ.out hb'); replace HB := Aside0.mk (below_step HB.out hb')
   go_wp2_with fail
   exact reply_ReadRows.out BP.out BQ.out HB.out GP.out GQ.out
  rw [if_pos c] at h
  subst c
  by_cases c : n0 < 0
  case pos =>
   rw [if_pos c] at h
   injection h with h
   injection h with h1 h
   injection h with h2 h
   injection h with h3 h4
   subst h1 h2 h3 h4
   refine (reply_number.bad2 (rdOf ByteArray.empty t 1) 0 n0 _ (LD.below hL HB.out) hA (Or.inl c)).mono ?_
   rintro e w20 ⟨rfl, hb'⟩
   replace BP := Aside0.mk (blk_below BP.out hb'); replace BQ := Aside0.mk (blk_below BQ.out hb'); replace HQ := Aside0.mk (Kd.Q_below HQ.out hb'); replace HB := Aside0.mk (below_step HB.out hb')
   go_wp2_with fail
   exact reply_ReadRows.out BP.out BQ.out HB.out GP.out GQ.out
  rw [if_neg c] at h
  have hn6 := c
  clear c
  have HH := Aside0.mk h
  clear h
  refine (reply_number.good (rdOf ByteArray.empty t 1) 0 n0 _ (LD.below hL HB.out) hA (by omega) (by omega)).mono ?_
  rintro e w20 ⟨rfl, hb'⟩
  replace BP := Aside0.mk (blk_below BP.out hb'); replace BQ := Aside0.mk (blk_below BQ.out hb'); replace HQ := Aside0.mk (Kd.Q_below HQ.out hb'); replace HB := Aside0.mk (below_step HB.out hb')
  clear hb' hA
  have hc1_ := (blk_cell BP.out 1).trans rfl; have hz1_ := blk_frozen BP.out 1; have HN_ := Aside0.mk (show (World.setCell _ ⟨p, 1, none⟩ (.int .i64 n0)).heap[p]? = some (.cells #[.int .i64 0, .int .i64 n0, .slice none 0 0] 33 (0, 0)) from blk_set BP.out 1 (.int .i64 n0)); replace HQ := Aside0.mk (Kd.Q_set HQ.out BP.out (by decide) 1 (.int .i64 n0)); replace BQ := Aside0.mk (blk_far BQ.out (p := ⟨p, 1, none⟩) (hne.symm) (.int .i64 n0)); replace BP := HN_; clear HN_; replace HB := Aside0.mk (below_set (j := 1) (v := .int .i64 n0) HB.out GP.out)
  obtain ⟨ad11_, ea11_, hx11_⟩ := Kd.at_string (Kd.Q_reads' HQ.out).2.2 1 (by decide) (by omega)
  cases ea11_
  simp only [show (1 : Int).toNat = 1 from rfl, Nat.reduceMul, Nat.reduceEqDiff, Go.Addr.add, ↓reduceIte] at hx11_
  rw [HY.out, show rdOf ByteArray.empty (t.drop 1) 1 = rdOf ByteArray.empty t 2 from reply_words.rd1 t 1] at hx11_
  go_wp2_with fail
  have h := HH.out
  clear HH
  obtain ⟨⟨rs, er⟩, hR, h⟩ := Option.bind_eq_some_iff.mp h
  dsimp only at h
  have HH := Aside0.mk h
  clear h
  refine (row_Parse.calls k (rdOf ByteArray.empty t 2) rs er _ (LD.below hL HB.out) hR).mono ?_
  rintro e w7 ⟨v7_, rfl, ho7, hb'⟩
  have ho8 := Kd.R_lower ho7 (below_size HB.out)
  replace BP := Aside0.mk (blk_below BP.out hb'); replace BQ := Aside0.mk (blk_below BQ.out hb'); replace HQ := Aside0.mk (Kd.Q_below HQ.out hb'); replace HB := Aside0.mk (below_step HB.out hb')
  have HO := Aside0.mk ho8
  obtain ⟨A7, c7, e7⟩ := Kd.R_slice ho8
  subst e7
  clear ho7 ho8 hb'
  have hc50_ := (blk_cell BP.out 2).trans rfl; have hz50_ := blk_frozen BP.out 2; have HN_ := Aside0.mk (show (World.setCell _ ⟨p, 2, none⟩ (.slice A7 rs.length c7)).heap[p]? = some (.cells #[.int .i64 0, .int .i64 n0, .slice A7 rs.length c7] 33 (0, 0)) from blk_set BP.out 2 (.slice A7 rs.length c7)); replace HQ := Aside0.mk (Kd.Q_set HQ.out BP.out (by decide) 2 (.slice A7 rs.length c7)); replace HO := Aside0.mk (Kd.R_set HO.out BP.out (by decide) 2 (.slice A7 rs.length c7)); replace BQ := Aside0.mk (blk_far BQ.out (p := ⟨p, 2, none⟩) (hne.symm) (.slice A7 rs.length c7)); replace BP := HN_; clear HN_; replace HB := Aside0.mk (below_set (j := 2) (v := .slice A7 rs.length c7) HB.out GP.out)
  have hc51_ := (blk_cell BQ.out 0).trans rfl; have hz51_ := blk_frozen BQ.out 0; have HN_ := Aside0.mk (show (World.setCell _ ⟨q, 0, none⟩ (.int .i64 er)).heap[q]? = some (.cells #[.int .i64 er] 22 (0, 0)) from blk_set BQ.out 0 (.int .i64 er)); replace HQ := Aside0.mk (Kd.Q_set HQ.out BQ.out (by decide) 0 (.int .i64 er)); replace HO := Aside0.mk (Kd.R_set HO.out BQ.out (by decide) 0 (.int .i64 er)); replace BP := Aside0.mk (blk_far BP.out (p := ⟨q, 0, none⟩) (hne) (.int .i64 er)); replace BQ := HN_; clear HN_; replace HB := Aside0.mk (below_set (j := 0) (v := .int .i64 er) HB.out GQ.out)
  have hl60_ := (blk_cell BQ.out 0).trans rfl
  go_wp2_with fail
  by_cases c : er = 0
  case neg =>
   have h := HH.out
   rw [if_neg c] at h
   injection h with h
   injection h with h1 h
   injection h with h2 h
   injection h with h3 h4
   subst h1 h2 h3 h4
   refine (reply_must.bad er c _).mono ?_
   rintro e w8 ⟨rfl, rfl⟩
   go_wp2_with fail
   exact reply_ReadRows.out BP.out BQ.out HB.out GP.out GQ.out
  subst c
  have h := HH.out
  rw [if_pos rfl] at h
  injection h with h
  injection h with h1 h
  injection h with h2 h
  injection h with h3 h4
  subst h1 h2 h3 h4
  refine (reply_must.good _).mono ?_
  rintro e w8 ⟨rfl, rfl⟩
  have hl61_ := (blk_cell BP.out 0).trans rfl
  have hl62_ := (blk_cell BP.out 1).trans rfl
  have hl63_ := (blk_cell BP.out 2).trans rfl
  have hc70_ := (blk_cell BP.out 0).trans rfl; have hz70_ := blk_frozen BP.out 0; have HN_ := Aside0.mk (show (World.setCell _ ⟨p, 0, none⟩ (.int .i64 0)).heap[p]? = some (.cells #[.int .i64 0, .int .i64 n0, .slice A7 rs.length c7] 33 (0, 0)) from blk_set BP.out 0 (.int .i64 0)); replace HQ := Aside0.mk (Kd.Q_set HQ.out BP.out (by decide) 0 (.int .i64 0)); replace HO := Aside0.mk (Kd.R_set HO.out BP.out (by decide) 0 (.int .i64 0)); replace BQ := Aside0.mk (blk_far BQ.out (p := ⟨p, 0, none⟩) (hne.symm) (.int .i64 0)); replace BP := HN_; clear HN_; replace HB := Aside0.mk (below_set (j := 0) (v := .int .i64 0) HB.out GP.out)
  have hc71_ := (blk_cell BP.out 1).trans rfl; have hz71_ := blk_frozen BP.out 1; have HN_ := Aside0.mk (show (World.setCell _ ⟨p, 1, none⟩ (.int .i64 n0)).heap[p]? = some (.cells #[.int .i64 0, .int .i64 n0, .slice A7 rs.length c7] 33 (0, 0)) from blk_set BP.out 1 (.int .i64 n0)); replace HQ := Aside0.mk (Kd.Q_set HQ.out BP.out (by decide) 1 (.int .i64 n0)); replace HO := Aside0.mk (Kd.R_set HO.out BP.out (by decide) 1 (.int .i64 n0)); replace BQ := Aside0.mk (blk_far BQ.out (p := ⟨p, 1, none⟩) (hne.symm) (.int .i64 n0)); replace BP := HN_; clear HN_; replace HB := Aside0.mk (below_set (j := 1) (v := .int .i64 n0) HB.out GP.out)
  have hc72_ := (blk_cell BP.out 2).trans rfl; have hz72_ := blk_frozen BP.out 2; have HN_ := Aside0.mk (show (World.setCell _ ⟨p, 2, none⟩ (.slice A7 rs.length c7)).heap[p]? = some (.cells #[.int .i64 0, .int .i64 n0, .slice A7 rs.length c7] 33 (0, 0)) from blk_set BP.out 2 (.slice A7 rs.length c7)); replace HQ := Aside0.mk (Kd.Q_set HQ.out BP.out (by decide) 2 (.slice A7 rs.length c7)); replace HO := Aside0.mk (Kd.R_set HO.out BP.out (by decide) 2 (.slice A7 rs.length c7)); replace BQ := Aside0.mk (blk_far BQ.out (p := ⟨p, 2, none⟩) (hne.symm) (.slice A7 rs.length c7)); replace BP := HN_; clear HN_; replace HB := Aside0.mk (below_set (j := 2) (v := .slice A7 rs.length c7) HB.out GP.out)
  have hc80_ := (blk_cell BQ.out 0).trans rfl; have hz80_ := blk_frozen BQ.out 0; have HN_ := Aside0.mk (show (World.setCell _ ⟨q, 0, none⟩ (.int .i64 0)).heap[q]? = some (.cells #[.int .i64 0] 22 (0, 0)) from blk_set BQ.out 0 (.int .i64 0)); replace HQ := Aside0.mk (Kd.Q_set HQ.out BQ.out (by decide) 0 (.int .i64 0)); replace HO := Aside0.mk (Kd.R_set HO.out BQ.out (by decide) 0 (.int .i64 0)); replace BP := Aside0.mk (blk_far BP.out (p := ⟨q, 0, none⟩) (hne) (.int .i64 0)); replace BQ := HN_; clear HN_; replace HB := Aside0.mk (below_set (j := 0) (v := .int .i64 0) HB.out GQ.out)
  go_wp2_with fail
  refine leaves_cons (f := 49) (args := #[.pointer (some ⟨p, 0, none⟩), .pointer (some ⟨q, 0, none⟩)]) (by simp) (by simp [go_sem]) ?_
  refine (reply_ReadRows.idle p q _).mono ?_
  rintro e u' w'' ⟨rfl, rfl, rfl⟩
  have cp0 := (blk_cell BP.out 0).trans rfl
  have cp1 := (blk_cell BP.out 1).trans rfl
  have cp2 := (blk_cell BP.out 2).trans rfl
  have cq := (blk_cell BQ.out 0).trans rfl
  simp [Leaves, settle, results, Tryz.results24, go_sem, cp0, cp1, cp2, cq, HB.out]
  (try exact HO.out)
def stringslite_CutPrefix.f (a0 : ByteArray) (a1 : ByteArray) : Option (ByteArray × Bool) := (stringslite_HasPrefix.f a0 a1).bind fun t264 => (if t264 = true then (if 0 ≤ (a1.size : Int) then (if (a1.size : Int) ≤ (a0.size : Int) then (some (a0.extract ((a1.size : Int) : Int).toNat a0.size, true)) else (none)) else (none)) else (some (a0, false)))
theorem stringslite_CutPrefix.calls (a0 : ByteArray) (a1 : ByteArray) (r1 : ByteArray) (r2 : Bool) (w : World) (h : stringslite_CutPrefix.f a0 a1 = some (r1, r2)) :
 Calls Tryz.prog 113 #[.string a0, .string a1] w fun e w' => e = .returned (.tuple #[.string r1, .bool r2]) ∧ Drawn0 w w' := by
 have H : ((stringslite_HasPrefix.f a0 a1).bind fun t264 => (if t264 = true then (if 0 ≤ (a1.size : Int) then (if (a1.size : Int) ≤ (a0.size : Int) then (some (a0.extract ((a1.size : Int) : Int).toNat a0.size, true)) else (none)) else (none)) else (some (a0, false)))) = some (r1, r2) := h
 clear h
 obtain ⟨t264, A3, H⟩ := bs H
 try dsimp only at H
 by_cases c4 : t264 = true
 ·
  subst c4
  rw [if_pos rfl] at H
  obtain ⟨c5, H⟩ := gd H
  have c5b0 := eq_true c5
  have c5b1 : decide (0 ≤ (a1.size : Int)) = true := decide_eq_true c5
  clear c5
  obtain ⟨c6, H⟩ := gd H
  have c6b0 := eq_true c6
  have c6b1 : decide ((a1.size : Int) ≤ (a0.size : Int)) = true := decide_eq_true c6
  clear c6
  simp only [Option.some.injEq, Prod.mk.injEq] at H
  obtain ⟨rfl, rfl⟩ := H
  go_enter Tryz.func113, Tryz.ntmps113
  go_wp2_with (first | (refine gL (some 8) rfl Tryz.func127 #[.string a0, .string a1] ?_; (with_reducible refine (stringslite_HasPrefix.calls a0 a1 true _ A3.out).mono ?_); rintro e w' ⟨rfl, ⟨nd, rfl⟩⟩; refine ⟨_, rfl, ?_⟩))
  go_ret2
  exact ⟨rs_, dr_⟩
 ·
  replace c4 := Bool.eq_false_iff.mpr c4
  subst c4
  rw [if_neg (show ¬ (false = true) by decide)] at H
  simp only [Option.some.injEq, Prod.mk.injEq] at H
  obtain ⟨rfl, rfl⟩ := H
  go_enter Tryz.func113, Tryz.ntmps113
  go_wp2_with (first | (refine gL (some 8) rfl Tryz.func127 #[.string a0, .string a1] ?_; (with_reducible refine (stringslite_HasPrefix.calls a0 a1 false _ A3.out).mono ?_); rintro e w' ⟨rfl, ⟨nd, rfl⟩⟩; refine ⟨_, rfl, ?_⟩))
  go_ret2
  exact ⟨rs_, dr_⟩
theorem eqA58 (d : Nat) (w : World) (x0 y0 : Int) (x1 y1 : Bool) :
 (Op.equalIn (d + 2) 58 (.agg #[.int .i64 x0, .bool x1]) (.agg #[.int .i64 y0, .bool y1])).run Tryz.prog w = .ok (x0 == y0 && (x1 == y1)) w := by
 refine eqA_of Tryz.underlying58 (by kernel_rfl) ?_
 refine eqf_cons (by rfl) (by go_simp; rfl) (by go_simp; rfl) (by go_simp) ?_
 exact eqf_last (by rfl) (by go_simp; rfl) (by go_simp; rfl) (by go_simp)
theorem eqA60 (d : Nat) (w : World) (x0 y0 : Int) (x1 y1 : ByteArray) (x2 y2 : Int) (x3 y3 : Bool) :
 (Op.equalIn (d + 3) 60 (.agg #[.int .i64 x0, .string x1, .int .i64 x2, .bool x3]) (.agg #[.int .i64 y0, .string y1, .int .i64 y2, .bool y3])).run Tryz.prog w = .ok (x0 == y0 && (x1.toList == y1.toList && ((x2 == y2 && (x3 == y3))))) w := by
 refine eqA_of Tryz.underlying60 (by kernel_rfl) ?_
 refine eqf_cons (by rfl) (by go_simp; rfl) (by go_simp; rfl) (by go_simp) ?_
 refine eqf_cons (by rfl) (by go_simp; rfl) (by go_simp; rfl) (by go_simp) ?_
 exact eqf_last (by rfl) (by go_simp) (by go_simp) (eqA58 (d + 0) w _ _ _ _)
theorem eqA78 (d : Nat) (w : World) (x0 y0 : Int) (x1 y1 : ByteArray) (x2 y2 : Int) (x3 y3 : Bool) (x4 y4 : Bool) :
 (Op.equalIn (d + 4) 78 (.agg #[.int .i64 x0, .string x1, .int .i64 x2, .bool x3, .bool x4]) (.agg #[.int .i64 y0, .string y1, .int .i64 y2, .bool y3, .bool y4])).run Tryz.prog w = .ok ((x0 == y0 && (x1.toList == y1.toList && ((x2 == y2 && (x3 == y3))))) && (x4 == y4)) w := by
 refine eqA_of Tryz.underlying78 (by kernel_rfl) ?_
 refine eqf_cons (by rfl) (by go_simp) (by go_simp) (eqA60 (d + 0) w _ _ _ _ _ _ _ _) ?_
 exact eqf_last (by rfl) (by go_simp; rfl) (by go_simp; rfl) (by go_simp)
def strings_CutPrefix.f (a0 : ByteArray) (a1 : ByteArray) : Option (ByteArray × Bool) := (stringslite_CutPrefix.f a0 a1).bind fun bt265 => (some (bt265.1, bt265.2))
theorem strings_CutPrefix.calls (a0 : ByteArray) (a1 : ByteArray) (r1 : ByteArray) (r2 : Bool) (w : World) (h : strings_CutPrefix.f a0 a1 = some (r1, r2)) :
 Calls Tryz.prog 90 #[.string a0, .string a1] w fun e w' => e = .returned (.tuple #[.string r1, .bool r2]) ∧ Drawn0 w w' := by
 have H : ((stringslite_CutPrefix.f a0 a1).bind fun bt265 => (some (bt265.1, bt265.2))) = some (r1, r2) := h
 clear h
 obtain ⟨⟨t265, t266⟩, A3, H⟩ := bs H
 try dsimp only at H
 simp only [Option.some.injEq, Prod.mk.injEq] at H
 obtain ⟨rfl, rfl⟩ := H
 go_enter Tryz.func90, Tryz.ntmps90
 go_wp2_with (first | (refine gL (some 8) rfl Tryz.func113 #[.string a0, .string a1] ?_; (with_reducible refine (stringslite_CutPrefix.calls a0 a1 t265 t266 _ A3.out).mono ?_); rintro e w' ⟨rfl, ⟨nd, rfl⟩⟩; refine ⟨_, rfl, ?_⟩))
 go_ret2
 exact ⟨rs_, dr_⟩
def diff_leaves.f (k : Nat) (a0 : ByteArray) : Option (Int × ByteArray × Int × Bool × Bool × Int) := (word_Split.f k a0 124).bind fun t268 => (if (t268.length : Int) = 2 then (if 1 < (t268.length : Int) then (if 0 < (t268.length : Int) then ((sat_Read.f (rdOf ByteArray.empty t268 0)).bind fun bt273 => (if bt273.2 = 0 then ((tag_Parse.f (rdOf ByteArray.empty t268 1)).bind fun bt276 => (if bt276.2 = 0 then ((tag_Text.f k bt276.1).bind fun t280 => (if t280.toList = (rdOf ByteArray.empty t268 1).toList then (some (bt273.1, rdOf ByteArray.empty t268 1, 0, false, true, bt276.2)) else (none))) else (some (bt273.1, rdOf ByteArray.empty t268 1, 0, false, true, bt276.2)))) else (none))) else (none)) else (none)) else (none))
theorem diff_leaves.mono : ∀ a0 k, LeO (diff_leaves.f k a0) (diff_leaves.f (k + 1) a0) := by
 intro a0 k
 unfold diff_leaves.f
 exact lo
instance diff_leaves.mI {a0 k} : LeC (diff_leaves.f k a0) (diff_leaves.f (k + 1) a0) := ⟨diff_leaves.mono _ _⟩
def diff_leaves.T4 : Bool × List (List Nat × List Nat) := (true, [([], []), ([0], [0]), ([1], [1]), ([], []), ([3], [3]), ([0, 1, 2, 3, 4], []), ([5, 0, 1, 2, 3, 4], [5]), ([6, 2, 4, 0, 1, 2, 3, 4], [2, 6])])
def diff_leaves.B4 : List Nat := [0, 1, 3, 0, 8, 31, 63, 127]
theorem diff_leaves.tab4 : rtab .any (opsOf Tryz.f91 4) = diff_leaves.T4 := by kernel_rfl
theorem diff_leaves.bits4 : waitsOk diff_leaves.T4.2 diff_leaves.B4 = true := by kernel_rfl
def diff_leaves.T9 : Bool × List (List Nat × List Nat) := (true, [([], []), ([0], [0]), ([1], [1]), ([2], [2]), ([3, 2, 2], [2, 3]), ([2], [2]), ([5, 2], [2, 5]), ([6, 2], [2, 6]), ([4, 7, 2], [2, 4, 7]), ([2, 8], [2, 8])])
def diff_leaves.B9 : List Nat := [0, 1, 3, 7, 15, 7, 39, 103, 255, 511]
theorem diff_leaves.tab9 : rtab .any (opsOf Tryz.f91 9) = diff_leaves.T9 := by kernel_rfl
theorem diff_leaves.bits9 : waitsOk diff_leaves.T9.2 diff_leaves.B9 = true := by kernel_rfl
theorem diff_leaves.calls (k : Nat) (a0 : ByteArray) (r1 : Int) (r2 : ByteArray) (r3 : Int) (r4 : Bool) (r5 : Bool) (r6 : Int) (w : World) (hL : LD w) (h : diff_leaves.f k a0 = some (r1, r2, r3, r4, r5, r6)) :
 Calls Tryz.prog 91 #[.string a0] w fun e w' => e = .returned (.tuple #[.agg #[.int .i64 r1, .string r2, .int .i64 r3, .bool r4, .bool r5], .int .i64 r6]) ∧ Below w.heap.size w w' := by
 have HL0 := Aside0.mk hL
 clear hL
 have hu78 := Tryz.underlying78
 have HB := Aside0.mk (Below.refl w.heap.size w)
 have H : ((word_Split.f k a0 124).bind fun t268 => (if (t268.length : Int) = 2 then (if 1 < (t268.length : Int) then (if 0 < (t268.length : Int) then ((sat_Read.f (rdOf ByteArray.empty t268 0)).bind fun bt273 => (if bt273.2 = 0 then ((tag_Parse.f (rdOf ByteArray.empty t268 1)).bind fun bt276 => (if bt276.2 = 0 then ((tag_Text.f k bt276.1).bind fun t280 => (if t280.toList = (rdOf ByteArray.empty t268 1).toList then (some (bt273.1, rdOf ByteArray.empty t268 1, 0, false, true, bt276.2)) else (none))) else (some (bt273.1, rdOf ByteArray.empty t268 1, 0, false, true, bt276.2)))) else (none))) else (none)) else (none)) else (none))) = some (r1, r2, r3, r4, r5, r6) := h
 clear h
 obtain ⟨t268, A2, H⟩ := bs H
 try dsimp only at H
 by_cases c3 : (t268.length : Int) = 2
 ·
  rw [if_pos c3] at H
  have c3b0 : ((t268.length : Int) == 2) = true := beq_iff_eq.mpr c3
  have c3b1 : ((t268.length : Int) != 2) = false := bne_eq_false_iff_eq.mpr c3
  clear c3
  obtain ⟨c4, H⟩ := gd H
  have c4b0 : decide (1 < (t268.length : Int)) = true := decide_eq_true c4
  have c4b1 : decide (1 < t268.length) = true := decide_eq_true (by omega)
  clear c4
  obtain ⟨c5, H⟩ := gd H
  have c5b0 : decide (0 < (t268.length : Int)) = true := decide_eq_true c5
  have c5b1 : decide (0 < t268.length) = true := decide_eq_true (by omega)
  clear c5
  obtain ⟨⟨t273, t274⟩, A6, H⟩ := bs H
  try dsimp only at H
  obtain ⟨c7, H⟩ := gd H
  have c7b0 : (t274 == 0) = true := beq_iff_eq.mpr c7
  have c7b1 : (t274 != 0) = false := bne_eq_false_iff_eq.mpr c7
  clear c7
  obtain ⟨⟨t276, t277⟩, A8, H⟩ := bs H
  try dsimp only at H
  by_cases c9 : t277 = 0
  ·
   rw [if_pos c9] at H
   have c9b0 : (t277 == 0) = true := beq_iff_eq.mpr c9
   have c9b1 : (t277 != 0) = false := bne_eq_false_iff_eq.mpr c9
   clear c9
   obtain ⟨t280, A10, H⟩ := bs H
   try dsimp only at H
   obtain ⟨c11, H⟩ := gd H
   have c11b0 : (t280.toList == (rdOf ByteArray.empty t268 1).toList) = true := beq_iff_eq.mpr c11
   have c11b1 : (t280.toList != (rdOf ByteArray.empty t268 1).toList) = false := bne_eq_false_iff_eq.mpr c11
   clear c11
   simp only [Option.some.injEq, Prod.mk.injEq] at H
   obtain ⟨rfl, rfl, rfl, rfl, rfl, rfl⟩ := H
   go_enter Tryz.func91, Tryz.ntmps91
   try go_wp2_with (first | ((with_reducible refine gate_dst (N := 2) rfl ?_); refine bx (N := 2) #[.int .i64 0, .string (⟨#[]⟩ : ByteArray), .int .i64 0, .bool false, .bool false] 78 ?_; intro gb267 hg w12 hbox hb; have BK267 := Aside0.mk (hbox); have GW267 := gw hg (uW HB.out); have GE267 := GW267; replace HB := cW HB hb; clear hb hbox hg) | (refine gL (some 7) rfl Tryz.func67 #[.string a0, .int .u8 124] ?_; (with_reducible refine (word_Split.calls k a0 124 t268 _ A2.out).mono ?_); rintro e w13 ⟨v269, rfl, ho0, hb⟩; refine ⟨_, rfl, ?_⟩; have HO270 := Aside0.mk (Kd.R_lower ho0 (below_size bl)); replace BK267 := cB BK267 hb; replace HB := Aside0.mk (below_step bl hb); (try clear hb); (try clear ho0); obtain ⟨Ao14, co14, eo14⟩ := Kd.R_slice HO270.out; subst eo14))
   replace HO270 := Aside0.mk (Kd.R_drew HO270.out)
   replace BK267 := Aside0.mk (blk_drew BK267.out)
   replace HB := Aside0.mk (below_drew1 HB.out)
   have p271 : 0 ≤ (1 : Int) := (by omega)
   have q271 : 1 < (t268.length : Int) := od
   obtain ⟨ad271, e271, hx271_0⟩ := Kd.at_string (Kd.R_reads' HO270.out).2.2 1 p271 q271
   cases e271
   (try simp only [show (1 : Int).toNat = 1 from rfl, Nat.reduceMul, Nat.reduceEqDiff, Go.Addr.add, ↓reduceIte] at hx271_0)
   have qi271 : (1 < t268.length) = True := eq_true (by omega)
   (try rw [show ((1 : Int)).toNat = 1 from rfl] at hx271_0)
   replace p271 := eq_true p271
   replace q271 := eq_true q271
   refine start_ (n := 8) (S := fun w' => w'.cell? ⟨ad271.block, ad271.off + 1, none⟩ = some (.string (rdOf ByteArray.empty t268 1))) (ds := []) _ (by kernel_rfl) rfl rfl (hx271_0) (fun hHeld => ?_); refine with_tabW diff_leaves.tab4 diff_leaves.bits4 (fun HT_ HW_ => ?_)
   generalize w13.drew = w15 at HO270 BK267 HB hx271_0 hHeld ⊢
   refine p1 0 (some 12) ?_
   refine p1 1 (some 13) ?_
   refine p1 3 (some 15) ?_
   refine t1 2 (some 14) rfl rfl hHeld (Or.inl ⟨by rfl, by intro w' s0; go_simp; with_reducible rfl⟩) ?_
   refine o1 4 none rfl rfl (fun K hK => ?_)
   have hs16 : w15.cell? ⟨gb267, 4, none⟩ = some (.bool false) := (blk_cell BK267.out 4).trans rfl
   have hfs16 := blk_frozen BK267.out 4
   refine skip_ (w1 := ?_) (by rfl) rfl ?_ ?_
   rotate_left
   ·
    go_simp
    rfl
   refine hK.out _ _ (((cell_far (p := ⟨gb267, _, none⟩) (by first | exact Kd.own_blk (Kd.R_ne HO270.out BK267.out (by decide)) | (rw [add_block]; exact Kd.own_blk (Kd.R_ne HO270.out BK267.out (by decide))) | (show (Addr.add _ _).block ≠ _; rw [add_block]; exact Kd.own_blk (Kd.R_ne HO270.out BK267.out (by decide))) | (dsimp only; exact Kd.own_blk (Kd.R_ne HO270.out BK267.out (by decide)))) _).trans (hHeld))) (fun hHeld => ?_)
   clear hK K
   refine p1 5 (some 16) ?_
   refine p1 6 (some 17) ?_
   refine o1 7 none rfl rfl (fun K hK => ?_)
   have hs17 : w15.cell? ⟨gb267, 1, none⟩ = some (.string (⟨#[]⟩ : ByteArray)) := (blk_cell BK267.out 1).trans rfl
   have hfs17 := blk_frozen BK267.out 1
   refine skip_ (w1 := ?_) (by rfl) rfl ?_ ?_
   rotate_left
   ·
    go_simp
    rfl
   refine hK.out _ _ (((cell_far (p := ⟨gb267, _, none⟩) (by first | exact Kd.own_blk (Kd.R_ne HO270.out BK267.out (by decide)) | (rw [add_block]; exact Kd.own_blk (Kd.R_ne HO270.out BK267.out (by decide))) | (show (Addr.add _ _).block ≠ _; rw [add_block]; exact Kd.own_blk (Kd.R_ne HO270.out BK267.out (by decide))) | (dsimp only; exact Kd.own_blk (Kd.R_ne HO270.out BK267.out (by decide)))) _).trans (hHeld))) (fun hHeld => ?_)
   clear hK K
   refine done_ (done_of HT_.out (by kernel_rfl)) ?_
   have p272 : 0 ≤ (0 : Int) := (by omega)
   have q272 : 0 < (t268.length : Int) := od
   obtain ⟨ad272, e272, hx272_0⟩ := Kd.at_string (Kd.R_reads' HO270.out).2.2 0 p272 q272
   obtain rfl : ad271 = ad272 := (by injection e272)
   have qi272 : (0 < t268.length) = True := eq_true (by omega)
   (try rw [show ((0 : Int)).toNat = 0 from rfl] at hx272_0)
   (try rw [Addr.add_zero'] at hx272_0)
   have hn272_0 : ad271.block ≠ gb267 := Kd.own_blk (Kd.R_ne HO270.out BK267.out (by decide))
   have hn272_1 : ad271.block ≠ gb267 := Kd.own_blk (Kd.R_ne HO270.out BK267.out (by decide))
   replace hx272_0 := (cell_far (p := ⟨gb267, 4, none⟩) (by first | (rw [add_block]; exact hn272_0) | (show (Addr.add _ _).block ≠ _; rw [add_block]; exact hn272_0) | exact hn272_0) (.bool true)).trans hx272_0
   replace hx272_0 := (cell_far (p := ⟨gb267, 1, none⟩) (by first | (rw [add_block]; exact hn272_1) | (show (Addr.add _ _).block ≠ _; rw [add_block]; exact hn272_1) | exact hn272_1) (.string (rdOf ByteArray.empty t268 1))).trans hx272_0
   clear hn272_0
   clear hn272_1
   replace p272 := eq_true p272
   replace q272 := eq_true q272
   try go_wp2_with (first | (refine gL (some 22) rfl Tryz.func68 #[.string (rdOf ByteArray.empty t268 0)] ?_; (with_reducible refine (sat_Read.calls (hL := ld) (rdOf ByteArray.empty t268 0) t273 t274 _ A6.out).mono ?_); rintro e w18 ⟨rfl, hb⟩; refine ⟨_, rfl, ?_⟩; replace HO270 := Aside0.mk (Kd.R_below (by exact uR <| (Kd.R_mono (Kd.R_far (p := ⟨gb267, 1, none⟩) (Kd.R_far (p := ⟨gb267, 4, none⟩) (Kd.R_types HO270.out BK267.out (by decide)) (fun _ hk => hk.2) (.bool true)) (fun _ hk => hk.2) (.string (rdOf ByteArray.empty t268 1))) (fun _ h_ => h_.1))) hb); replace BK267 := Aside0.mk (blk_below (g := gb267) (o := .cells #[.int .i64 0, .string (rdOf ByteArray.empty t268 1), .int .i64 0, .bool false, .bool true] 78 (0, 0)) (by (with_reducible repeat (first | refine blk_drewN ?_ _ | refine blk_drew ?_ | refine blk_alloc ?_ _)); refine blk_put (cs := #[.int .i64 0, .string (⟨#[]⟩ : ByteArray), .int .i64 0, .bool false, .bool true]) ?_ 1 _ rfl; (with_reducible repeat (first | refine blk_drewN ?_ _ | refine blk_drew ?_ | refine blk_alloc ?_ _)); refine blk_put (cs := #[.int .i64 0, .string (⟨#[]⟩ : ByteArray), .int .i64 0, .bool false, .bool false]) ?_ 4 _ rfl; exact uB <| BK267.out) hb); replace HB := Aside0.mk (below_step bl hb); (try clear hb); obtain ⟨hcz19_0, hcz19_1, hcz19_2, hcz19_3, hcz19_4, hfz19_0, hfz19_1, hfz19_2, hfz19_3, hfz19_4⟩ := z5 BK267; have p275 : 0 ≤ (1 : Int) := (by omega); have q275 : 1 < (t268.length : Int) := od; obtain ⟨ad275, e275, hx275_0⟩ := Kd.at_string (Kd.R_reads' HO270.out).2.2 1 p275 q275; obtain rfl : ad271 = ad275 := (by injection e275); (try simp only [show (1 : Int).toNat = 1 from rfl, Nat.reduceMul, Nat.reduceEqDiff, Go.Addr.add, ↓reduceIte] at hx275_0); have qi275 : (1 < t268.length) = True := eq_true (by omega); (try rw [show ((1 : Int)).toNat = 1 from rfl] at hx275_0); have hn275_0 : ad271.block ≠ gb267 := Kd.own_blk (Kd.R_ne HO270.out BK267.out (by decide)); replace hx275_0 := (cell_far (p := ⟨gb267, 0, none⟩) (by first | (rw [add_block]; exact hn275_0) | (show (Addr.add _ _).block ≠ _; rw [add_block]; exact hn275_0) | exact hn275_0) (.int .i64 t273)).trans hx275_0; clear hn275_0; replace p275 := eq_true p275; replace q275 := eq_true q275) | (refine gL (some 35) rfl Tryz.func108 #[.string (rdOf ByteArray.empty t268 1)] ?_; (with_reducible refine (tag_Parse.calls (rdOf ByteArray.empty t268 1) t276 t277 _ A8.out).mono ?_); rintro e w20 ⟨v278, rfl, ho0, hb⟩; refine ⟨_, rfl, ?_⟩; replace HO270 := Aside0.mk (Kd.R_below (by exact uR <| (Kd.R_mono (Kd.R_far (p := ⟨gb267, 0, none⟩) (Kd.R_types HO270.out BK267.out (by decide)) (fun _ hk => hk.2) (.int .i64 t273)) (fun _ h_ => h_.1))) hb); have HO279 := Aside0.mk (Kd.R_lower ho0 (below_size bl)); replace BK267 := Aside0.mk (blk_below (g := gb267) (o := .cells #[.int .i64 t273, .string (rdOf ByteArray.empty t268 1), .int .i64 0, .bool false, .bool true] 78 (0, 0)) (by (with_reducible repeat (first | refine blk_drewN ?_ _ | refine blk_drew ?_ | refine blk_alloc ?_ _)); refine blk_put (cs := #[.int .i64 0, .string (rdOf ByteArray.empty t268 1), .int .i64 0, .bool false, .bool true]) ?_ 0 _ rfl; exact uB <| BK267.out) hb); replace HB := Aside0.mk (below_step bl hb); (try clear hb); (try clear ho0)))
   replace HO270 := Aside0.mk (Kd.R_drew HO270.out)
   replace HO279 := Aside0.mk (Kd.R_drew HO279.out)
   replace BK267 := Aside0.mk (blk_drew BK267.out)
   replace HB := Aside0.mk (below_drew1 HB.out)
   have p281 : 0 ≤ (1 : Int) := (by omega)
   have q281 : 1 < (t268.length : Int) := od
   obtain ⟨ad281, e281, hx281_0⟩ := Kd.at_string (Kd.R_reads' HO270.out).2.2 1 p281 q281
   obtain rfl : ad271 = ad281 := (by injection e281)
   (try simp only [show (1 : Int).toNat = 1 from rfl, Nat.reduceMul, Nat.reduceEqDiff, Go.Addr.add, ↓reduceIte] at hx281_0)
   have qi281 : (1 < t268.length) = True := eq_true (by omega)
   (try rw [show ((1 : Int)).toNat = 1 from rfl] at hx281_0)
   replace p281 := eq_true p281
   replace q281 := eq_true q281
   obtain ⟨Ao22, co22, eo22⟩ := Kd.R_slice HO279.out
   (first | subst eo22 | (injection eo22 with f1_ f2_ f3_; have f4_ := f1_.symm; have f5_ := f3_.symm; clear f1_ f2_ f3_; subst f4_; subst f5_))
   refine start_ (n := 10) (S := fun w' => w'.cell? ⟨ad271.block, ad271.off + 1, none⟩ = some (.string (rdOf ByteArray.empty t268 1))) (ds := []) _ (by kernel_rfl) rfl rfl (hx281_0) (fun hHeld => ?_); refine with_tabW diff_leaves.tab9 diff_leaves.bits9 (fun HT_ HW_ => ?_)
   generalize w20.drew = w21 at HO270 HO279 BK267 HB hx281_0 hHeld ⊢
   refine p1 0 (some 38) ?_
   refine p1 1 (some 39) ?_
   refine p1 2 (some 40) ?_
   refine p1 3 (some 41) ?_
   refine p1 5 (some 43) ?_
   refine p1 6 (some 44) ?_
   refine t1 7 (some 45) rfl rfl hHeld (Or.inl ⟨by rfl, by intro w' s0; go_simp; with_reducible rfl⟩) ?_
   refine o1 4 (some 42) rfl rfl (fun K hK => ?_)
   refine gS Tryz.func109 #[.slice Ao22 t276.length co22] ?_
   with_reducible refine (tag_Text.calls k _ _ t276 t280 _ ?side1 ?side2 A10.out).mono ?_
   (case side1 => exact uC <| (Kd.R_reads' HO279.out).2.2)
   (case side2 => exact (Kd.R_reads' HO279.out).2.1)
   rintro e w23 ⟨rfl, hb⟩
   have HS0_ := (hb.cell (World.block_lt_of_cell? _ _ (hHeld))).trans (hHeld)
   refine ⟨_, rfl, ?_⟩
   replace HO270 := cR HO270 hb
   replace HO279 := cR HO279 hb
   replace BK267 := cB BK267 hb
   replace HB := Aside0.mk (below_step bl hb)
   (try clear hb)
   refine hK.out _ _ (HS0_) (fun hHeld => ?_)
   clear hK K
   refine norm_ (a' := ?_) ?_ ?_
   rotate_left
   ·
    show Act.put _ (some 42) _ = _
    simp only [Act.put, List.setIfInBounds_toArray, List.set_cons_zero, List.set_cons_succ, i64_w, i32_w]
    rfl
   refine p1 8 (some 46) ?_
   refine p1 9 (some 47) ?_
   refine done_ (done_of HT_.out (by kernel_rfl)) ?_
   obtain ⟨hcz24_0, hcz24_1, hcz24_2, hcz24_3, hcz24_4, hfz24_0, hfz24_1, hfz24_2, hfz24_3, hfz24_4⟩ := z5 BK267
   try go_wp2_with (first | ((with_reducible refine gate_store (t := 78) (p := 2) rfl ?_); refine store_event (t := 78) (p := 2) (v := ?vo_w25) (w1 := (((((w23.setCell ⟨gb267, 0, none⟩ (.int .i64 t273)).setCell ⟨gb267, 1, none⟩ (.string (rdOf ByteArray.empty t268 1))).setCell ⟨gb267, 2, none⟩ (.int .i64 0)).setCell ⟨gb267, 3, none⟩ (.bool false)).setCell ⟨gb267, 4, none⟩ (.bool true))) ?hg ?ho ?hn ?hr ?_; (case ho => rfl); (case hg => rfl); (case hn => rfl); (case hr => first | (go_simp; done) | (go_simp; rfl)); intro w25 hw; have n0_ : Aside0 (Kd.R Kd.string 9 w25 w.heap.size (fun _ => True) (.slice (some ad271) t268.length co14) t268) := ⟨(by rw [hw]; exact (by exact uR <| Kd.R_mono (Kd.R_far (p := ⟨gb267, 4, none⟩) (Kd.R_far (p := ⟨gb267, 3, none⟩) (Kd.R_far (p := ⟨gb267, 2, none⟩) (Kd.R_far (p := ⟨gb267, 1, none⟩) (Kd.R_far (p := ⟨gb267, 0, none⟩) (Kd.R_types HO270.out BK267.out (by decide)) (fun _ hk => hk.2) (.int .i64 t273)) (fun _ hk => hk.2) (.string (rdOf ByteArray.empty t268 1))) (fun _ hk => hk.2) (.int .i64 0)) (fun _ hk => hk.2) (.bool false)) (fun _ hk => hk.2) (.bool true)) (fun _ hk => trivial)))⟩; have n1_ : Aside0 (Kd.R k113 113 w25 w.heap.size (fun _ => True) (.slice Ao22 t276.length co22) t276) := ⟨(by rw [hw]; exact (by exact uR <| Kd.R_mono (Kd.R_far (p := ⟨gb267, 4, none⟩) (Kd.R_far (p := ⟨gb267, 3, none⟩) (Kd.R_far (p := ⟨gb267, 2, none⟩) (Kd.R_far (p := ⟨gb267, 1, none⟩) (Kd.R_far (p := ⟨gb267, 0, none⟩) (Kd.R_types HO279.out BK267.out (by decide)) (fun _ hk => hk.2) (.int .i64 t273)) (fun _ hk => hk.2) (.string (rdOf ByteArray.empty t268 1))) (fun _ hk => hk.2) (.int .i64 0)) (fun _ hk => hk.2) (.bool false)) (fun _ hk => hk.2) (.bool true)) (fun _ hk => trivial)))⟩; have n2_ : Aside0 (w25.heap[gb267]? = some (.cells #[.int .i64 t273, .string (rdOf ByteArray.empty t268 1), .int .i64 0, .bool false, .bool true] 78 (0, 0))) := ⟨(by rw [hw]; exact (by (with_reducible repeat (first | refine blk_drewN ?_ _ | refine blk_drew ?_ | refine blk_alloc ?_ _)); refine blk_put (cs := #[.int .i64 t273, .string (rdOf ByteArray.empty t268 1), .int .i64 0, .bool false, .bool true]) ?_ 4 _ rfl; (with_reducible repeat (first | refine blk_drewN ?_ _ | refine blk_drew ?_ | refine blk_alloc ?_ _)); refine blk_put (cs := #[.int .i64 t273, .string (rdOf ByteArray.empty t268 1), .int .i64 0, .bool false, .bool true]) ?_ 3 _ rfl; (with_reducible repeat (first | refine blk_drewN ?_ _ | refine blk_drew ?_ | refine blk_alloc ?_ _)); refine blk_put (cs := #[.int .i64 t273, .string (rdOf ByteArray.empty t268 1), .int .i64 0, .bool false, .bool true]) ?_ 2 _ rfl; (with_reducible repeat (first | refine blk_drewN ?_ _ | refine blk_drew ?_ | refine blk_alloc ?_ _)); refine blk_put (cs := #[.int .i64 t273, .string (rdOf ByteArray.empty t268 1), .int .i64 0, .bool false, .bool true]) ?_ 1 _ rfl; (with_reducible repeat (first | refine blk_drewN ?_ _ | refine blk_drew ?_ | refine blk_alloc ?_ _)); refine blk_put (cs := #[.int .i64 t273, .string (rdOf ByteArray.empty t268 1), .int .i64 0, .bool false, .bool true]) ?_ 0 _ rfl; exact uB <| BK267.out))⟩; have n3_ : Aside0 (Below w.heap.size w w25) := ⟨(by rw [hw]; exact bl)⟩; clear hw; clear HO270; clear HO279; clear BK267; clear HB; have HO270 := n0_; have HO279 := n1_; have BK267 := n2_; have HB := n3_; clear n0_ n1_ n2_ n3_))
   refine bodyPost_ret (results_ct rfl _ _ gb267 78 #[.int .i64 t273, .string (rdOf ByteArray.empty t268 1), .int .i64 0, .bool false, .bool true] (0, 0) _ rfl (uB BK267.out) Tryz.underlying78 rfl (by kernel_rfl)) rfl ?_
   exact ⟨re_, bl⟩
  ·
   rw [if_neg c9] at H
   have c9b0 : (t277 == 0) = false := beq_eq_false_iff_ne.mpr c9
   have c9b1 : (t277 != 0) = true := bne_iff_ne.mpr c9
   simp only [Option.some.injEq, Prod.mk.injEq] at H
   obtain ⟨rfl, rfl, rfl, rfl, rfl, rfl⟩ := H
   go_enter Tryz.func91, Tryz.ntmps91
   try go_wp2_with (first | ((with_reducible refine gate_dst (N := 2) rfl ?_); refine bx (N := 2) #[.int .i64 0, .string (⟨#[]⟩ : ByteArray), .int .i64 0, .bool false, .bool false] 78 ?_; intro gb267 hg w26 hbox hb; have BK267 := Aside0.mk (hbox); have GW267 := gw hg (uW HB.out); have GE267 := GW267; replace HB := cW HB hb; clear hb hbox hg) | (refine gL (some 7) rfl Tryz.func67 #[.string a0, .int .u8 124] ?_; (with_reducible refine (word_Split.calls k a0 124 t268 _ A2.out).mono ?_); rintro e w27 ⟨v269, rfl, ho0, hb⟩; refine ⟨_, rfl, ?_⟩; have HO270 := Aside0.mk (Kd.R_lower ho0 (below_size bl)); replace BK267 := cB BK267 hb; replace HB := Aside0.mk (below_step bl hb); (try clear hb); (try clear ho0); obtain ⟨Ao28, co28, eo28⟩ := Kd.R_slice HO270.out; subst eo28))
   replace HO270 := Aside0.mk (Kd.R_drew HO270.out)
   replace BK267 := Aside0.mk (blk_drew BK267.out)
   replace HB := Aside0.mk (below_drew1 HB.out)
   have p271 : 0 ≤ (1 : Int) := (by omega)
   have q271 : 1 < (t268.length : Int) := od
   obtain ⟨ad271, e271, hx271_0⟩ := Kd.at_string (Kd.R_reads' HO270.out).2.2 1 p271 q271
   cases e271
   (try simp only [show (1 : Int).toNat = 1 from rfl, Nat.reduceMul, Nat.reduceEqDiff, Go.Addr.add, ↓reduceIte] at hx271_0)
   have qi271 : (1 < t268.length) = True := eq_true (by omega)
   (try rw [show ((1 : Int)).toNat = 1 from rfl] at hx271_0)
   replace p271 := eq_true p271
   replace q271 := eq_true q271
   refine start_ (n := 8) (S := fun w' => w'.cell? ⟨ad271.block, ad271.off + 1, none⟩ = some (.string (rdOf ByteArray.empty t268 1))) (ds := []) _ (by kernel_rfl) rfl rfl (hx271_0) (fun hHeld => ?_); refine with_tabW diff_leaves.tab4 diff_leaves.bits4 (fun HT_ HW_ => ?_)
   generalize w27.drew = w29 at HO270 BK267 HB hx271_0 hHeld ⊢
   refine p1 0 (some 12) ?_
   refine p1 1 (some 13) ?_
   refine p1 3 (some 15) ?_
   refine t1 2 (some 14) rfl rfl hHeld (Or.inl ⟨by rfl, by intro w' s0; go_simp; with_reducible rfl⟩) ?_
   refine o1 4 none rfl rfl (fun K hK => ?_)
   have hs30 : w29.cell? ⟨gb267, 4, none⟩ = some (.bool false) := (blk_cell BK267.out 4).trans rfl
   have hfs30 := blk_frozen BK267.out 4
   refine skip_ (w1 := ?_) (by rfl) rfl ?_ ?_
   rotate_left
   ·
    go_simp
    rfl
   refine hK.out _ _ (((cell_far (p := ⟨gb267, _, none⟩) (by first | exact Kd.own_blk (Kd.R_ne HO270.out BK267.out (by decide)) | (rw [add_block]; exact Kd.own_blk (Kd.R_ne HO270.out BK267.out (by decide))) | (show (Addr.add _ _).block ≠ _; rw [add_block]; exact Kd.own_blk (Kd.R_ne HO270.out BK267.out (by decide))) | (dsimp only; exact Kd.own_blk (Kd.R_ne HO270.out BK267.out (by decide)))) _).trans (hHeld))) (fun hHeld => ?_)
   clear hK K
   refine p1 5 (some 16) ?_
   refine p1 6 (some 17) ?_
   refine o1 7 none rfl rfl (fun K hK => ?_)
   have hs31 : w29.cell? ⟨gb267, 1, none⟩ = some (.string (⟨#[]⟩ : ByteArray)) := (blk_cell BK267.out 1).trans rfl
   have hfs31 := blk_frozen BK267.out 1
   refine skip_ (w1 := ?_) (by rfl) rfl ?_ ?_
   rotate_left
   ·
    go_simp
    rfl
   refine hK.out _ _ (((cell_far (p := ⟨gb267, _, none⟩) (by first | exact Kd.own_blk (Kd.R_ne HO270.out BK267.out (by decide)) | (rw [add_block]; exact Kd.own_blk (Kd.R_ne HO270.out BK267.out (by decide))) | (show (Addr.add _ _).block ≠ _; rw [add_block]; exact Kd.own_blk (Kd.R_ne HO270.out BK267.out (by decide))) | (dsimp only; exact Kd.own_blk (Kd.R_ne HO270.out BK267.out (by decide)))) _).trans (hHeld))) (fun hHeld => ?_)
   clear hK K
   refine done_ (done_of HT_.out (by kernel_rfl)) ?_
   have p272 : 0 ≤ (0 : Int) := (by omega)
   have q272 : 0 < (t268.length : Int) := od
   obtain ⟨ad272, e272, hx272_0⟩ := Kd.at_string (Kd.R_reads' HO270.out).2.2 0 p272 q272
   obtain rfl : ad271 = ad272 := (by injection e272)
   have qi272 : (0 < t268.length) = True := eq_true (by omega)
   (try rw [show ((0 : Int)).toNat = 0 from rfl] at hx272_0)
   (try rw [Addr.add_zero'] at hx272_0)
   have hn272_0 : ad271.block ≠ gb267 := Kd.own_blk (Kd.R_ne HO270.out BK267.out (by decide))
   have hn272_1 : ad271.block ≠ gb267 := Kd.own_blk (Kd.R_ne HO270.out BK267.out (by decide))
   replace hx272_0 := (cell_far (p := ⟨gb267, 4, none⟩) (by first | (rw [add_block]; exact hn272_0) | (show (Addr.add _ _).block ≠ _; rw [add_block]; exact hn272_0) | exact hn272_0) (.bool true)).trans hx272_0
   replace hx272_0 := (cell_far (p := ⟨gb267, 1, none⟩) (by first | (rw [add_block]; exact hn272_1) | (show (Addr.add _ _).block ≠ _; rw [add_block]; exact hn272_1) | exact hn272_1) (.string (rdOf ByteArray.empty t268 1))).trans hx272_0
   clear hn272_0
   clear hn272_1
   replace p272 := eq_true p272
   replace q272 := eq_true q272
   try go_wp2_with (first | (refine gL (some 22) rfl Tryz.func68 #[.string (rdOf ByteArray.empty t268 0)] ?_; (with_reducible refine (sat_Read.calls (hL := ld) (rdOf ByteArray.empty t268 0) t273 t274 _ A6.out).mono ?_); rintro e w32 ⟨rfl, hb⟩; refine ⟨_, rfl, ?_⟩; replace HO270 := Aside0.mk (Kd.R_below (by exact uR <| (Kd.R_mono (Kd.R_far (p := ⟨gb267, 1, none⟩) (Kd.R_far (p := ⟨gb267, 4, none⟩) (Kd.R_types HO270.out BK267.out (by decide)) (fun _ hk => hk.2) (.bool true)) (fun _ hk => hk.2) (.string (rdOf ByteArray.empty t268 1))) (fun _ h_ => h_.1))) hb); replace BK267 := Aside0.mk (blk_below (g := gb267) (o := .cells #[.int .i64 0, .string (rdOf ByteArray.empty t268 1), .int .i64 0, .bool false, .bool true] 78 (0, 0)) (by (with_reducible repeat (first | refine blk_drewN ?_ _ | refine blk_drew ?_ | refine blk_alloc ?_ _)); refine blk_put (cs := #[.int .i64 0, .string (⟨#[]⟩ : ByteArray), .int .i64 0, .bool false, .bool true]) ?_ 1 _ rfl; (with_reducible repeat (first | refine blk_drewN ?_ _ | refine blk_drew ?_ | refine blk_alloc ?_ _)); refine blk_put (cs := #[.int .i64 0, .string (⟨#[]⟩ : ByteArray), .int .i64 0, .bool false, .bool false]) ?_ 4 _ rfl; exact uB <| BK267.out) hb); replace HB := Aside0.mk (below_step bl hb); (try clear hb); obtain ⟨hcz33_0, hcz33_1, hcz33_2, hcz33_3, hcz33_4, hfz33_0, hfz33_1, hfz33_2, hfz33_3, hfz33_4⟩ := z5 BK267; have p275 : 0 ≤ (1 : Int) := (by omega); have q275 : 1 < (t268.length : Int) := od; obtain ⟨ad275, e275, hx275_0⟩ := Kd.at_string (Kd.R_reads' HO270.out).2.2 1 p275 q275; obtain rfl : ad271 = ad275 := (by injection e275); (try simp only [show (1 : Int).toNat = 1 from rfl, Nat.reduceMul, Nat.reduceEqDiff, Go.Addr.add, ↓reduceIte] at hx275_0); have qi275 : (1 < t268.length) = True := eq_true (by omega); (try rw [show ((1 : Int)).toNat = 1 from rfl] at hx275_0); have hn275_0 : ad271.block ≠ gb267 := Kd.own_blk (Kd.R_ne HO270.out BK267.out (by decide)); replace hx275_0 := (cell_far (p := ⟨gb267, 0, none⟩) (by first | (rw [add_block]; exact hn275_0) | (show (Addr.add _ _).block ≠ _; rw [add_block]; exact hn275_0) | exact hn275_0) (.int .i64 t273)).trans hx275_0; clear hn275_0; replace p275 := eq_true p275; replace q275 := eq_true q275) | (refine gL (some 35) rfl Tryz.func108 #[.string (rdOf ByteArray.empty t268 1)] ?_; (with_reducible refine (tag_Parse.calls (rdOf ByteArray.empty t268 1) t276 t277 _ A8.out).mono ?_); rintro e w34 ⟨v278, rfl, ho0, hb⟩; refine ⟨_, rfl, ?_⟩; replace HO270 := Aside0.mk (Kd.R_below (by exact uR <| (Kd.R_mono (Kd.R_far (p := ⟨gb267, 0, none⟩) (Kd.R_types HO270.out BK267.out (by decide)) (fun _ hk => hk.2) (.int .i64 t273)) (fun _ h_ => h_.1))) hb); have HO279 := Aside0.mk (Kd.R_lower ho0 (below_size bl)); replace BK267 := Aside0.mk (blk_below (g := gb267) (o := .cells #[.int .i64 t273, .string (rdOf ByteArray.empty t268 1), .int .i64 0, .bool false, .bool true] 78 (0, 0)) (by (with_reducible repeat (first | refine blk_drewN ?_ _ | refine blk_drew ?_ | refine blk_alloc ?_ _)); refine blk_put (cs := #[.int .i64 0, .string (rdOf ByteArray.empty t268 1), .int .i64 0, .bool false, .bool true]) ?_ 0 _ rfl; exact uB <| BK267.out) hb); replace HB := Aside0.mk (below_step bl hb); (try clear hb); (try clear ho0)))
   replace HO270 := Aside0.mk (Kd.R_drew HO270.out)
   replace HO279 := Aside0.mk (Kd.R_drew HO279.out)
   replace BK267 := Aside0.mk (blk_drew BK267.out)
   replace HB := Aside0.mk (below_drew1 HB.out)
   refine start_ (n := 10) (S := fun w' => True) (ds := []) _ (by kernel_rfl) rfl rfl trivial (fun hHeld => ?_); refine with_tabW diff_leaves.tab9 diff_leaves.bits9 (fun HT_ HW_ => ?_)
   generalize w34.drew = w35 at HO270 HO279 BK267 HB hHeld ⊢
   refine p1 0 (some 38) ?_
   refine p1 1 (some 39) ?_
   refine p1 2 (some 40) ?_
   refine p2 3 (some 41) ?_
   refine p2 4 (some 42) ?_
   refine p2 5 (some 43) ?_
   refine p2 6 (some 44) ?_
   refine p2 7 (some 45) ?_
   refine p2 8 (some 46) ?_
   refine p1 9 (some 47) ?_
   refine done_ (done_of HT_.out (by kernel_rfl)) ?_
   obtain ⟨hcz36_0, hcz36_1, hcz36_2, hcz36_3, hcz36_4, hfz36_0, hfz36_1, hfz36_2, hfz36_3, hfz36_4⟩ := z5 BK267
   try go_wp2_with (first | ((with_reducible refine gate_store (t := 78) (p := 2) rfl ?_); refine store_event (t := 78) (p := 2) (v := ?vo_w37) (w1 := (((((w35.setCell ⟨gb267, 0, none⟩ (.int .i64 t273)).setCell ⟨gb267, 1, none⟩ (.string (rdOf ByteArray.empty t268 1))).setCell ⟨gb267, 2, none⟩ (.int .i64 0)).setCell ⟨gb267, 3, none⟩ (.bool false)).setCell ⟨gb267, 4, none⟩ (.bool true))) ?hg ?ho ?hn ?hr ?_; (case ho => rfl); (case hg => rfl); (case hn => rfl); (case hr => first | (go_simp; done) | (go_simp; rfl)); intro w37 hw; have n0_ : Aside0 (Kd.R Kd.string 9 w37 w.heap.size (fun _ => True) (.slice (some ad271) t268.length co28) t268) := ⟨(by rw [hw]; exact (by exact uR <| Kd.R_mono (Kd.R_far (p := ⟨gb267, 4, none⟩) (Kd.R_far (p := ⟨gb267, 3, none⟩) (Kd.R_far (p := ⟨gb267, 2, none⟩) (Kd.R_far (p := ⟨gb267, 1, none⟩) (Kd.R_far (p := ⟨gb267, 0, none⟩) (Kd.R_types HO270.out BK267.out (by decide)) (fun _ hk => hk.2) (.int .i64 t273)) (fun _ hk => hk.2) (.string (rdOf ByteArray.empty t268 1))) (fun _ hk => hk.2) (.int .i64 0)) (fun _ hk => hk.2) (.bool false)) (fun _ hk => hk.2) (.bool true)) (fun _ hk => trivial)))⟩; have n1_ : Aside0 (Kd.R k113 113 w37 w.heap.size (fun _ => True) v278 t276) := ⟨(by rw [hw]; exact (by exact uR <| Kd.R_mono (Kd.R_far (p := ⟨gb267, 4, none⟩) (Kd.R_far (p := ⟨gb267, 3, none⟩) (Kd.R_far (p := ⟨gb267, 2, none⟩) (Kd.R_far (p := ⟨gb267, 1, none⟩) (Kd.R_far (p := ⟨gb267, 0, none⟩) (Kd.R_types HO279.out BK267.out (by decide)) (fun _ hk => hk.2) (.int .i64 t273)) (fun _ hk => hk.2) (.string (rdOf ByteArray.empty t268 1))) (fun _ hk => hk.2) (.int .i64 0)) (fun _ hk => hk.2) (.bool false)) (fun _ hk => hk.2) (.bool true)) (fun _ hk => trivial)))⟩; have n2_ : Aside0 (w37.heap[gb267]? = some (.cells #[.int .i64 t273, .string (rdOf ByteArray.empty t268 1), .int .i64 0, .bool false, .bool true] 78 (0, 0))) := ⟨(by rw [hw]; exact (by (with_reducible repeat (first | refine blk_drewN ?_ _ | refine blk_drew ?_ | refine blk_alloc ?_ _)); refine blk_put (cs := #[.int .i64 t273, .string (rdOf ByteArray.empty t268 1), .int .i64 0, .bool false, .bool true]) ?_ 4 _ rfl; (with_reducible repeat (first | refine blk_drewN ?_ _ | refine blk_drew ?_ | refine blk_alloc ?_ _)); refine blk_put (cs := #[.int .i64 t273, .string (rdOf ByteArray.empty t268 1), .int .i64 0, .bool false, .bool true]) ?_ 3 _ rfl; (with_reducible repeat (first | refine blk_drewN ?_ _ | refine blk_drew ?_ | refine blk_alloc ?_ _)); refine blk_put (cs := #[.int .i64 t273, .string (rdOf ByteArray.empty t268 1), .int .i64 0, .bool false, .bool true]) ?_ 2 _ rfl; (with_reducible repeat (first | refine blk_drewN ?_ _ | refine blk_drew ?_ | refine blk_alloc ?_ _)); refine blk_put (cs := #[.int .i64 t273, .string (rdOf ByteArray.empty t268 1), .int .i64 0, .bool false, .bool true]) ?_ 1 _ rfl; (with_reducible repeat (first | refine blk_drewN ?_ _ | refine blk_drew ?_ | refine blk_alloc ?_ _)); refine blk_put (cs := #[.int .i64 t273, .string (rdOf ByteArray.empty t268 1), .int .i64 0, .bool false, .bool true]) ?_ 0 _ rfl; exact uB <| BK267.out))⟩; have n3_ : Aside0 (Below w.heap.size w w37) := ⟨(by rw [hw]; exact bl)⟩; clear hw; clear HO270; clear HO279; clear BK267; clear HB; have HO270 := n0_; have HO279 := n1_; have BK267 := n2_; have HB := n3_; clear n0_ n1_ n2_ n3_))
   refine bodyPost_ret (results_ct rfl _ _ gb267 78 #[.int .i64 t273, .string (rdOf ByteArray.empty t268 1), .int .i64 0, .bool false, .bool true] (0, 0) _ rfl (uB BK267.out) Tryz.underlying78 rfl (by kernel_rfl)) rfl ?_
   exact ⟨re_, bl⟩
 ·
  rw [if_neg c3] at H
  exact absurd H (by simp)
def diff_one.f (k : Nat) (a0 : ByteArray) : Option (Int × ByteArray × Int × Bool × Bool × Int) := (strings_CutPrefix.f a0 (⟨#[33]⟩ : ByteArray)).bind fun bt283 => (if bt283.2 = true then ((diff_leaves.f k bt283.1).bind fun bt285 => (some (bt285.1, bt285.2.1, bt285.2.2.1, bt285.2.2.2.1, bt285.2.2.2.2.1, bt285.2.2.2.2.2))) else ((row_Parse.f k a0).bind fun bt291 => (if bt291.2 = 0 then (if (bt291.1.length : Int) = 0 then (none) else (if 0 < (bt291.1.length : Int) then (some ((rd_T60 bt291.1 0).f0, (rd_T60 bt291.1 0).f1, (rd_T60 bt291.1 0).f2.f0, (rd_T60 bt291.1 0).f2.f1, false, 0)) else (none))) else (none))))
theorem diff_one.mono : ∀ a0 k, LeO (diff_one.f k a0) (diff_one.f (k + 1) a0) := by
 intro a0 k
 unfold diff_one.f
 exact lo
instance diff_one.mI {a0 k} : LeC (diff_one.f k a0) (diff_one.f (k + 1) a0) := ⟨diff_one.mono _ _⟩
theorem diff_one.calls (k : Nat) (a0 : ByteArray) (r1 : Int) (r2 : ByteArray) (r3 : Int) (r4 : Bool) (r5 : Bool) (r6 : Int) (w : World) (hL : LD w) (h : diff_one.f k a0 = some (r1, r2, r3, r4, r5, r6)) :
 Calls Tryz.prog 72 #[.string a0] w fun e w' => e = .returned (.tuple #[.agg #[.int .i64 r1, .string r2, .int .i64 r3, .bool r4, .bool r5], .int .i64 r6]) ∧ Below w.heap.size w w' := by
 have HL0 := Aside0.mk hL
 clear hL
 have hu78 := Tryz.underlying78
 have hu60 := Tryz.underlying60
 have HB := Aside0.mk (Below.refl w.heap.size w)
 have H : ((strings_CutPrefix.f a0 (⟨#[33]⟩ : ByteArray)).bind fun bt283 => (if bt283.2 = true then ((diff_leaves.f k bt283.1).bind fun bt285 => (some (bt285.1, bt285.2.1, bt285.2.2.1, bt285.2.2.2.1, bt285.2.2.2.2.1, bt285.2.2.2.2.2))) else ((row_Parse.f k a0).bind fun bt291 => (if bt291.2 = 0 then (if (bt291.1.length : Int) = 0 then (none) else (if 0 < (bt291.1.length : Int) then (some ((rd_T60 bt291.1 0).f0, (rd_T60 bt291.1 0).f1, (rd_T60 bt291.1 0).f2.f0, (rd_T60 bt291.1 0).f2.f1, false, 0)) else (none))) else (none))))) = some (r1, r2, r3, r4, r5, r6) := h
 clear h
 obtain ⟨⟨t283, t284⟩, A2, H⟩ := bs H
 try dsimp only at H
 by_cases c3 : t284 = true
 ·
  subst c3
  rw [if_pos rfl] at H
  obtain ⟨⟨t285, t286, t287, t288, t289, t290⟩, A4, H⟩ := bs H
  try dsimp only at H
  simp only [Option.some.injEq, Prod.mk.injEq] at H
  obtain ⟨rfl, rfl, rfl, rfl, rfl, rfl⟩ := H
  go_enter Tryz.func72, Tryz.ntmps72
  go_wp2_with (first | ((with_reducible refine gate_dst (N := 2) rfl ?_); refine bx (N := 2) #[.int .i64 0, .string (⟨#[]⟩ : ByteArray), .int .i64 0, .bool false, .bool false] 78 ?_; intro gb282 hg w5 hbox hb; have BK282 := Aside0.mk (hbox); have GW282 := gw hg (uW HB.out); have GE282 := GW282; replace HB := cW HB hb; clear hb hbox hg) | (refine gL (some 10) rfl Tryz.func90 #[.string a0, .string (⟨#[33]⟩ : ByteArray)] ?_; (with_reducible refine (strings_CutPrefix.calls a0 (⟨#[33]⟩ : ByteArray) t283 true _ A2.out).mono ?_); rintro e w' ⟨rfl, ⟨nd, rfl⟩⟩; refine ⟨_, rfl, ?_⟩; (try (rw [drewN_self w5]; generalize hq_ : World.drewN w5 _ = w5; have n0_ : Aside0 (w5.heap[gb282]? = some (.cells #[.int .i64 0, .string (⟨#[]⟩ : ByteArray), .int .i64 0, .bool false, .bool false] 78 (0, 0))) := ⟨by rw [← hq_]; exact (uB BK282.out)⟩; have n1_ : Aside0 (Below w.heap.size w w5) := ⟨by rw [← hq_]; exact bl⟩; clear BK282 HB hq_; have BK282 := n0_; have HB := n1_; clear n0_ n1_))) | (refine gL (some 15) rfl Tryz.func91 #[.string t283] ?_; (with_reducible refine (diff_leaves.calls (hL := ld) k t283 t285 t286 t287 t288 t289 t290 _ A4.out).mono ?_); rintro e w6 ⟨rfl, hb⟩; refine ⟨_, rfl, ?_⟩; replace BK282 := cB BK282 hb; replace HB := Aside0.mk (below_step bl hb); (try clear hb); obtain ⟨hcz7_0, hcz7_1, hcz7_2, hcz7_3, hcz7_4, hfz7_0, hfz7_1, hfz7_2, hfz7_3, hfz7_4⟩ := z5 BK282) | ((with_reducible refine gate_store (t := 78) (p := 2) rfl ?_); refine store_event (t := 78) (p := 2) (v := ?vo_w8) (w1 := (((((w6.setCell ⟨gb282, 0, none⟩ (.int .i64 t285)).setCell ⟨gb282, 1, none⟩ (.string t286)).setCell ⟨gb282, 2, none⟩ (.int .i64 t287)).setCell ⟨gb282, 3, none⟩ (.bool t288)).setCell ⟨gb282, 4, none⟩ (.bool t289))) ?hg ?ho ?hn ?hr ?_; (case ho => rfl); (case hg => rfl); (case hn => rfl); (case hr => first | (go_simp; done) | (go_simp; rfl)); intro w8 hw; have n0_ : Aside0 (w8.heap[gb282]? = some (.cells #[.int .i64 t285, .string t286, .int .i64 t287, .bool t288, .bool t289] 78 (0, 0))) := ⟨(by rw [hw]; exact (by (with_reducible repeat (first | refine blk_drewN ?_ _ | refine blk_drew ?_ | refine blk_alloc ?_ _)); refine blk_put (cs := #[.int .i64 t285, .string t286, .int .i64 t287, .bool t288, .bool false]) ?_ 4 _ rfl; (with_reducible repeat (first | refine blk_drewN ?_ _ | refine blk_drew ?_ | refine blk_alloc ?_ _)); refine blk_put (cs := #[.int .i64 t285, .string t286, .int .i64 t287, .bool false, .bool false]) ?_ 3 _ rfl; (with_reducible repeat (first | refine blk_drewN ?_ _ | refine blk_drew ?_ | refine blk_alloc ?_ _)); refine blk_put (cs := #[.int .i64 t285, .string t286, .int .i64 0, .bool false, .bool false]) ?_ 2 _ rfl; (with_reducible repeat (first | refine blk_drewN ?_ _ | refine blk_drew ?_ | refine blk_alloc ?_ _)); refine blk_put (cs := #[.int .i64 t285, .string (⟨#[]⟩ : ByteArray), .int .i64 0, .bool false, .bool false]) ?_ 1 _ rfl; (with_reducible repeat (first | refine blk_drewN ?_ _ | refine blk_drew ?_ | refine blk_alloc ?_ _)); refine blk_put (cs := #[.int .i64 0, .string (⟨#[]⟩ : ByteArray), .int .i64 0, .bool false, .bool false]) ?_ 0 _ rfl; exact uB <| BK282.out))⟩; have n1_ : Aside0 (Below w.heap.size w w8) := ⟨(by rw [hw]; exact bl)⟩; clear hw; clear BK282; clear HB; have BK282 := n0_; have HB := n1_; clear n0_ n1_))
  refine bodyPost_ret (results_ct rfl _ _ gb282 78 #[.int .i64 t285, .string t286, .int .i64 t287, .bool t288, .bool t289] (0, 0) _ rfl (uB BK282.out) Tryz.underlying78 rfl (by kernel_rfl)) rfl ?_
  exact ⟨re_, bl⟩
 ·
  replace c3 := Bool.eq_false_iff.mpr c3
  subst c3
  rw [if_neg (show ¬ (false = true) by decide)] at H
  obtain ⟨⟨t291, t292⟩, A9, H⟩ := bs H
  try dsimp only at H
  by_cases c10 : t292 = 0
  ·
   rw [if_pos c10] at H
   have c10b0 : (t292 == 0) = true := beq_iff_eq.mpr c10
   have c10b1 : (t292 != 0) = false := bne_eq_false_iff_eq.mpr c10
   clear c10
   obtain ⟨c11, H⟩ := gn H
   have c11b0 : ((t291.length : Int) == 0) = false := beq_eq_false_iff_ne.mpr c11
   have c11b1 : ((t291.length : Int) != 0) = true := bne_iff_ne.mpr c11
   have c11b2 : ¬ (t291 = []) := fun h_ => c11 (by rw [h_]; rfl)
   obtain ⟨c12, H⟩ := gd H
   have c12b0 : decide (0 < (t291.length : Int)) = true := decide_eq_true c12
   have c12b1 : decide (0 < t291.length) = true := decide_eq_true (by omega)
   clear c12
   simp only [Option.some.injEq, Prod.mk.injEq] at H
   obtain ⟨rfl, rfl, rfl, rfl, rfl, rfl⟩ := H
   go_enter Tryz.func72, Tryz.ntmps72
   go_wp2_with (first | ((with_reducible refine gate_dst (N := 2) rfl ?_); refine bx (N := 2) #[.int .i64 0, .string (⟨#[]⟩ : ByteArray), .int .i64 0, .bool false, .bool false] 78 ?_; intro gb282 hg w13 hbox hb; have BK282 := Aside0.mk (hbox); have GW282 := gw hg (uW HB.out); have GE282 := GW282; replace HB := cW HB hb; clear hb hbox hg) | (refine gL (some 10) rfl Tryz.func90 #[.string a0, .string (⟨#[33]⟩ : ByteArray)] ?_; (with_reducible refine (strings_CutPrefix.calls a0 (⟨#[33]⟩ : ByteArray) t283 false _ A2.out).mono ?_); rintro e w' ⟨rfl, ⟨nd, rfl⟩⟩; refine ⟨_, rfl, ?_⟩; (try (rw [drewN_self w13]; generalize hq_ : World.drewN w13 _ = w13; have n0_ : Aside0 (w13.heap[gb282]? = some (.cells #[.int .i64 0, .string (⟨#[]⟩ : ByteArray), .int .i64 0, .bool false, .bool false] 78 (0, 0))) := ⟨by rw [← hq_]; exact (uB BK282.out)⟩; have n1_ : Aside0 (Below w.heap.size w w13) := ⟨by rw [← hq_]; exact bl⟩; clear BK282 HB hq_; have BK282 := n0_; have HB := n1_; clear n0_ n1_))) | (refine gL (some 20) rfl Tryz.func50 #[.string a0] ?_; (with_reducible refine (row_Parse.calls (hL := ld) k a0 t291 t292 _ A9.out).mono ?_); rintro e w14 ⟨v293, rfl, ho0, hb⟩; refine ⟨_, rfl, ?_⟩; have HO294 := Aside0.mk (Kd.R_lower ho0 (below_size bl)); replace BK282 := cB BK282 hb; replace HB := Aside0.mk (below_step bl hb); (try clear hb); (try clear ho0); obtain ⟨Ao15, co15, eo15⟩ := Kd.R_slice HO294.out; subst eo15; have p295 : 0 ≤ (0 : Int) := (by omega); have q295 : 0 < (t291.length : Int) := od; obtain ⟨ad295, e295, hx295_0, hx295_1, hx295_2, hx295_3⟩ := at_T60 (Kd.R_reads' HO294.out).2.2 0 p295 q295; cases e295; have qi295 : (0 < t291.length) = True := eq_true (by omega); (try rw [show ((0 : Int)).toNat = 0 from rfl] at hx295_0); (try rw [show 0 * 4 = 0 from rfl] at hx295_0); (try rw [Addr.add_zero'] at hx295_0); (try rw [show ((0 : Int)).toNat = 0 from rfl] at hx295_1); (try rw [show 0 * 4 = 0 from rfl] at hx295_1); (try rw [Addr.add_zero'] at hx295_1); (try rw [show ((0 : Int)).toNat = 0 from rfl] at hx295_2); (try rw [show 0 * 4 = 0 from rfl] at hx295_2); (try rw [Addr.add_zero'] at hx295_2); (try rw [show ((0 : Int)).toNat = 0 from rfl] at hx295_3); (try rw [show 0 * 4 = 0 from rfl] at hx295_3); (try rw [Addr.add_zero'] at hx295_3); replace p295 := eq_true p295; replace q295 := eq_true q295; obtain ⟨hcz16_0, hcz16_1, hcz16_2, hcz16_3, hcz16_4, hfz16_0, hfz16_1, hfz16_2, hfz16_3, hfz16_4⟩ := z5 BK282) | ((with_reducible refine gate_store (t := 78) (p := 2) rfl ?_); refine store_event (t := 78) (p := 2) (v := ?vo_w17) (w1 := (((((w14.setCell ⟨gb282, 0, none⟩ (.int .i64 ((rd_T60 t291 0).f0))).setCell ⟨gb282, 1, none⟩ (.string ((rd_T60 t291 0).f1))).setCell ⟨gb282, 2, none⟩ (.int .i64 ((rd_T60 t291 0).f2.f0))).setCell ⟨gb282, 3, none⟩ (.bool ((rd_T60 t291 0).f2.f1))).setCell ⟨gb282, 4, none⟩ (.bool false))) ?hg ?ho ?hn ?hr ?_; (case ho => rfl); (case hg => rfl); (case hn => rfl); (case hr => first | (go_simp; done) | (go_simp; rfl)); intro w17 hw; have n0_ : Aside0 (Kd.R k60 60 w17 w.heap.size (fun _ => True) (.slice (some ad295) t291.length co15) t291) := ⟨(by rw [hw]; exact (by exact uR <| Kd.R_mono (Kd.R_far (p := ⟨gb282, 4, none⟩) (Kd.R_far (p := ⟨gb282, 3, none⟩) (Kd.R_far (p := ⟨gb282, 2, none⟩) (Kd.R_far (p := ⟨gb282, 1, none⟩) (Kd.R_far (p := ⟨gb282, 0, none⟩) (Kd.R_types HO294.out BK282.out (by decide)) (fun _ hk => hk.2) (.int .i64 ((rd_T60 t291 0).f0))) (fun _ hk => hk.2) (.string ((rd_T60 t291 0).f1))) (fun _ hk => hk.2) (.int .i64 ((rd_T60 t291 0).f2.f0))) (fun _ hk => hk.2) (.bool ((rd_T60 t291 0).f2.f1))) (fun _ hk => hk.2) (.bool false)) (fun _ hk => trivial)))⟩; have n1_ : Aside0 (w17.heap[gb282]? = some (.cells #[.int .i64 ((rd_T60 t291 0).f0), .string ((rd_T60 t291 0).f1), .int .i64 ((rd_T60 t291 0).f2.f0), .bool ((rd_T60 t291 0).f2.f1), .bool false] 78 (0, 0))) := ⟨(by rw [hw]; exact (by (with_reducible repeat (first | refine blk_drewN ?_ _ | refine blk_drew ?_ | refine blk_alloc ?_ _)); refine blk_put (cs := #[.int .i64 ((rd_T60 t291 0).f0), .string ((rd_T60 t291 0).f1), .int .i64 ((rd_T60 t291 0).f2.f0), .bool ((rd_T60 t291 0).f2.f1), .bool false]) ?_ 4 _ rfl; (with_reducible repeat (first | refine blk_drewN ?_ _ | refine blk_drew ?_ | refine blk_alloc ?_ _)); refine blk_put (cs := #[.int .i64 ((rd_T60 t291 0).f0), .string ((rd_T60 t291 0).f1), .int .i64 ((rd_T60 t291 0).f2.f0), .bool false, .bool false]) ?_ 3 _ rfl; (with_reducible repeat (first | refine blk_drewN ?_ _ | refine blk_drew ?_ | refine blk_alloc ?_ _)); refine blk_put (cs := #[.int .i64 ((rd_T60 t291 0).f0), .string ((rd_T60 t291 0).f1), .int .i64 0, .bool false, .bool false]) ?_ 2 _ rfl; (with_reducible repeat (first | refine blk_drewN ?_ _ | refine blk_drew ?_ | refine blk_alloc ?_ _)); refine blk_put (cs := #[.int .i64 ((rd_T60 t291 0).f0), .string (⟨#[]⟩ : ByteArray), .int .i64 0, .bool false, .bool false]) ?_ 1 _ rfl; (with_reducible repeat (first | refine blk_drewN ?_ _ | refine blk_drew ?_ | refine blk_alloc ?_ _)); refine blk_put (cs := #[.int .i64 0, .string (⟨#[]⟩ : ByteArray), .int .i64 0, .bool false, .bool false]) ?_ 0 _ rfl; exact uB <| BK282.out))⟩; have n2_ : Aside0 (Below w.heap.size w w17) := ⟨(by rw [hw]; exact bl)⟩; clear hw; clear HO294; clear BK282; clear HB; have HO294 := n0_; have BK282 := n1_; have HB := n2_; clear n0_ n1_ n2_))
   refine bodyPost_ret (results_ct rfl _ _ gb282 78 #[.int .i64 ((rd_T60 t291 0).f0), .string ((rd_T60 t291 0).f1), .int .i64 ((rd_T60 t291 0).f2.f0), .bool ((rd_T60 t291 0).f2.f1), .bool false] (0, 0) _ rfl (uB BK282.out) Tryz.underlying78 rfl (by kernel_rfl)) rfl ?_
   exact ⟨re_, bl⟩
  ·
   rw [if_neg c10] at H
   exact absurd H (by simp)
def diff_gone.f (a0_0 : Int) (a0_1 : ByteArray) (a0_2 : Int) (a0_3 : Bool) : Option (Int × ByteArray × Int × Bool × Bool) := some (a0_0, a0_1, 0, false, true)
theorem diff_gone.calls (a0_0 : Int) (a0_1 : ByteArray) (a0_2 : Int) (a0_3 : Bool) (r1 : Int) (r2 : ByteArray) (r3 : Int) (r4 : Bool) (r5 : Bool) (w : World) (h : diff_gone.f a0_0 a0_1 a0_2 a0_3 = some (r1, r2, r3, r4, r5)) :
 Calls Tryz.prog 92 #[.agg #[.int .i64 a0_0, .string a0_1, .int .i64 a0_2, .bool a0_3]] w fun e w' => e = .returned (.agg #[.int .i64 r1, .string r2, .int .i64 r3, .bool r4, .bool r5]) ∧ Below w.heap.size w w' := by
 have hu60 := Tryz.underlying60
 have hu78 := Tryz.underlying78
 have HB := Aside0.mk (Below.refl w.heap.size w)
 have H : (some (a0_0, a0_1, 0, false, true)) = some (r1, r2, r3, r4, r5) := h
 clear h
 simp only [Option.some.injEq, Prod.mk.injEq] at H
 obtain ⟨rfl, rfl, rfl, rfl, rfl⟩ := H
 go_enter Tryz.func92, Tryz.ntmps92
 go_wp2_with (first | ((with_reducible refine gate_dst (N := 1) rfl ?_); refine bx (N := 1) #[.int .i64 a0_0, .string a0_1, .int .i64 a0_2, .bool a0_3] 60 ?_; intro gb296 hg w2 hbox hb; have BK296 := Aside0.mk (hbox); have GW296 := gw hg (uW HB.out); have GE296 := GW296; replace HB := cW HB hb; clear hb hbox hg) | ((with_reducible refine gate_dst (N := 2) rfl ?_); refine bx (N := 2) #[.int .i64 0, .string (⟨#[]⟩ : ByteArray), .int .i64 0, .bool false, .bool false] 78 ?_; intro gb297 hg w3 hbox hb; have BK297 := Aside0.mk (hbox); have GW297 := gw hg bl; have GE297 := GW297; replace HB := Aside0.mk (below_step bl hb); have NB296_297 := Aside0.mk ((by rw [hg]; exact Nat.ne_of_lt (blk_lt (g := gb296) (o := .cells #[.int .i64 a0_0, .string a0_1, .int .i64 a0_2, .bool a0_3] 60 (0, 0)) (uB BK296.out)) : gb296 ≠ gb297)); have NB297_296 := Aside0.mk ((by rw [hg]; exact Nat.ne_of_gt (blk_lt (g := gb296) (o := .cells #[.int .i64 a0_0, .string a0_1, .int .i64 a0_2, .bool a0_3] 60 (0, 0)) (uB BK296.out)) : gb297 ≠ gb296)); replace BK296 := cB BK296 hb; clear hb hbox hg; have hnb4 := NB296_297.out; have hnc4 := NB297_296.out; obtain ⟨hcz5_0, hcz5_1, hcz5_2, hcz5_3, hfz5_0, hfz5_1, hfz5_2, hfz5_3⟩ := z4 BK296; obtain ⟨hcz6_0, hcz6_1, hcz6_2, hcz6_3, hcz6_4, hfz6_0, hfz6_1, hfz6_2, hfz6_3, hfz6_4⟩ := z5 BK297) | ((with_reducible refine gate_store (t := 78) (p := 2) rfl ?_); refine store_event (t := 78) (p := 2) (v := ?vo_w7) (w1 := (((((w3.setCell ⟨gb297, 0, none⟩ (.int .i64 a0_0)).setCell ⟨gb297, 1, none⟩ (.string a0_1)).setCell ⟨gb297, 2, none⟩ (.int .i64 0)).setCell ⟨gb297, 3, none⟩ (.bool false)).setCell ⟨gb297, 4, none⟩ (.bool true))) ?hg ?ho ?hn ?hr ?_; (case ho => rfl); (case hg => rfl); (case hn => rfl); (case hr => first | (go_simp; done) | (go_simp; rfl)); intro w7 hw; have n0_ : Aside0 (w7.heap[gb296]? = some (.cells #[.int .i64 a0_0, .string a0_1, .int .i64 a0_2, .bool a0_3] 60 (0, 0))) := ⟨(by rw [hw]; exact (by (with_reducible repeat (first | refine blk_drewN ?_ _ | refine blk_drew ?_ | refine blk_alloc ?_ _)); refine blk_far ?_ NB296_297.out _; (with_reducible repeat (first | refine blk_drewN ?_ _ | refine blk_drew ?_ | refine blk_alloc ?_ _)); refine blk_far ?_ NB296_297.out _; (with_reducible repeat (first | refine blk_drewN ?_ _ | refine blk_drew ?_ | refine blk_alloc ?_ _)); refine blk_far ?_ NB296_297.out _; (with_reducible repeat (first | refine blk_drewN ?_ _ | refine blk_drew ?_ | refine blk_alloc ?_ _)); refine blk_far ?_ NB296_297.out _; (with_reducible repeat (first | refine blk_drewN ?_ _ | refine blk_drew ?_ | refine blk_alloc ?_ _)); refine blk_far ?_ NB296_297.out _; exact uB <| BK296.out))⟩; have n1_ : Aside0 (w7.heap[gb297]? = some (.cells #[.int .i64 a0_0, .string a0_1, .int .i64 0, .bool false, .bool true] 78 (0, 0))) := ⟨(by rw [hw]; exact (by (with_reducible repeat (first | refine blk_drewN ?_ _ | refine blk_drew ?_ | refine blk_alloc ?_ _)); refine blk_put (cs := #[.int .i64 a0_0, .string a0_1, .int .i64 0, .bool false, .bool false]) ?_ 4 _ rfl; (with_reducible repeat (first | refine blk_drewN ?_ _ | refine blk_drew ?_ | refine blk_alloc ?_ _)); refine blk_put (cs := #[.int .i64 a0_0, .string a0_1, .int .i64 0, .bool false, .bool false]) ?_ 3 _ rfl; (with_reducible repeat (first | refine blk_drewN ?_ _ | refine blk_drew ?_ | refine blk_alloc ?_ _)); refine blk_put (cs := #[.int .i64 a0_0, .string a0_1, .int .i64 0, .bool false, .bool false]) ?_ 2 _ rfl; (with_reducible repeat (first | refine blk_drewN ?_ _ | refine blk_drew ?_ | refine blk_alloc ?_ _)); refine blk_put (cs := #[.int .i64 a0_0, .string (⟨#[]⟩ : ByteArray), .int .i64 0, .bool false, .bool false]) ?_ 1 _ rfl; (with_reducible repeat (first | refine blk_drewN ?_ _ | refine blk_drew ?_ | refine blk_alloc ?_ _)); refine blk_put (cs := #[.int .i64 0, .string (⟨#[]⟩ : ByteArray), .int .i64 0, .bool false, .bool false]) ?_ 0 _ rfl; exact uB <| BK297.out))⟩; have n2_ : Aside0 (Below w.heap.size w w7) := ⟨(by rw [hw]; exact bl)⟩; clear hw; clear BK296; clear BK297; clear HB; have BK296 := n0_; have BK297 := n1_; have HB := n2_; clear n0_ n1_ n2_))
 refine bodyPost_ret (results_cell_row rfl _ _ gb297 78 #[.int .i64 a0_0, .string a0_1, .int .i64 0, .bool false, .bool true] (0, 0) _ rfl (uB BK297.out) Tryz.underlying78 rfl (by kernel_rfl)) rfl ?_
 exact ⟨re_, bl⟩
def api_Row_146.Fn (g : Nat) (lb : Array Value) (p : S60 → Bool) (l : List (S60)) (w : World) : Prop :=
 ∀ (W : World) (x : S60), x ∈ l → Below w.heap.size w W → Calls Tryz.prog g (#[.agg #[.int .i64 x.f0, .string x.f1, .int .i64 x.f2.f0, .bool x.f2.f1]] ++ lb) W fun e w' => e = .returned (.bool (p x)) ∧ Below W.heap.size W w'
def api_Row_146.idx (p : S60 → Bool) : List (S60) → Nat → Int
 | [], _ => -1
 | x :: l, i => if p x = true then (i : Int) else api_Row_146.idx p l (i + 1)
theorem api_Row_146.idx_miss {p : S60 → Bool} : ∀ {l : List (S60)} {i : Nat}, api_Row_146.idx p l i = -1 ∨ (i : Int) ≤ api_Row_146.idx p l i
 | [], _ => .inl rfl
 | x :: l, i => by
  unfold api_Row_146.idx
  split
  ·
   exact .inr (Int.le_refl _)
  ·
   rcases api_Row_146.idx_miss (p := p) (l := l) (i := i + 1) with h | h
   ·
    exact .inl h
   ·
    exact .inr (by omega)
theorem api_Row_146.idx_any (p : S60 → Bool) : ∀ (l : List (S60)) (i : Nat), decide (0 ≤ api_Row_146.idx p l i) = l.any p
 | [], _ => rfl
 | x :: l, i => by
  unfold api_Row_146.idx
  by_cases h : p x = true
  ·
   rw [if_pos h, List.any_cons, h, Bool.true_or]
   exact decide_eq_true (by omega)
  ·
   rw [if_neg h, api_Row_146.idx_any p l (i + 1), List.any_cons, Bool.eq_false_iff.2 h, Bool.false_or]
set_option maxHeartbeats 2000000 in
theorem api_Row_146.calls (g : Nat) (lb : Array Value) (eg : ∀ args w, (callFunc g args).run Tryz.prog w = .ok (.enter g args) w) (p : S60 → Bool) (A0 : Option Addr) (c0 : Nat) (l0 : List (S60)) (w : World) (hr0 : Kd.C k60 w A0 l0.length l0) (hp : api_Row_146.Fn g lb p l0 w) :
 Calls Tryz.prog 146 #[.slice A0 l0.length c0, .func (.func g) #[] lb] w fun e w' => e = .returned (.int .i64 (api_Row_146.idx p l0 0)) ∧ Below w.heap.size w w' := by
 have hu60 := Tryz.underlying60
 have HR0 := Aside0.mk hr0
 have HP := Aside0.mk hp
 have HL := Aside0.mk hr0.2.1
 clear hr0 hp
 go_enter Tryz.func146, Tryz.ntmps146
 go_wp2
 go_loopg [5, 8] l0.length (fun gg _ v8 wr => ∃ x : Int, v8 = .int .i64 x ∧ Aside0 (0 ≤ x) ∧ Aside0 (x ≤ (l0.length : Int)) ∧ Aside0 ((l0.length : Int) - x ≤ gg) ∧ Aside0 (api_Row_146.idx p l0 0 = api_Row_146.idx p (l0.drop x.toNat) x.toNat) ∧ Aside0 (Below w.heap.size w wr))
 case atStart => exact ⟨0, rfl, ⟨by omega⟩, ⟨by omega⟩, ⟨by omega⟩, ⟨rfl⟩, ⟨Below.refl _ _⟩⟩
 case round =>
  obtain ⟨x, rfl, H0, H1, HG, HI, HB⟩ := hrel
  by_cases hlt : x < (l0.length : Int)
  ·
   have p101 : 0 ≤ x := H0.out
   obtain ⟨ad101, e101, hx101_0, hx101_1, hx101_2, hx101_3⟩ := at_T60 HR0.out x p101 hlt
   cases e101
   have hy101_0 := kc HB hx101_0
   clear hx101_0
   have hy101_1 := kc HB hx101_1
   clear hx101_1
   have hy101_2 := kc HB hx101_2
   clear hx101_2
   have hy101_3 := kc HB hx101_3
   clear hx101_3
   have HN : Aside0 (x.toNat < l0.length) := ⟨by omega⟩
   have hget : rd_T60 l0 x = l0[x.toNat]'HN.out := by
    show l0.getD x.toNat _ = _
    rw [List.getD_eq_getElem?_getD, List.getElem?_eq_getElem HN.out, Option.getD_some]
   have hcall := HP.out wr (rd_T60 l0 x) (by rw [hget]; exact List.getElem_mem HN.out) HB.out
   have HGE := Aside0.mk hget
   clear hget
   have c1b0 : decide (x < (l0.length : Int)) = true := decide_eq_true hlt
   have pi101 : (0 ≤ (x : Int)) = True := eq_true p101
   have qi101 : (x < (l0.length : Int)) = True := eq_true hlt
   have HLT := Aside0.mk hlt
   clear hlt p101
   cases hq : p (rd_T60 l0 x) with
   | true =>
    rw [hq] at hcall
    have HQ := Aside0.mk hq
    clear hq
    go_wp2_with (go_at_fn g; refine hcall.mono ?_; rintro e w' ⟨rfl, hb'⟩)
    go_ret
    refine ⟨?_, HB.out.trans (hb'.mono HB.out.size)⟩
    rw [HI.out, List.drop_eq_getElem_cons HN.out]
    unfold api_Row_146.idx
    rw [if_pos (by rw [← HGE.out]; exact HQ.out), Int.toNat_of_nonneg H0.out]
    rfl
   | false =>
    rw [hq] at hcall
    have HQ := Aside0.mk hq
    clear hq
    go_wp2_with (go_at_fn g; refine hcall.mono ?_; rintro e w' ⟨rfl, hb'⟩)
    have hw : wrap64 (x + 1) = x + 1 := by have := HLT.out; have := HL.out; have := H0.out; unfold wrap64; omega
    (try rw [hw])
    clear hw
    go_roundg (l0.length - (x.toNat + 1))
    case measure => have := HLT.out; have := HG.out; have := H0.out; omega
    case rel =>
     refine ⟨x + 1, by first | rfl | (have := HLT.out; have := HL.out; have := H0.out; simp; unfold wrap64; omega), ⟨by have := H0.out; omega⟩, ⟨by have := HLT.out; omega⟩, ⟨by have := HLT.out; have := H0.out; omega⟩, ⟨?_⟩, ⟨HB.out.trans (hb'.mono HB.out.size)⟩⟩
     rw [HI.out, List.drop_eq_getElem_cons HN.out, show (x + 1).toNat = x.toNat + 1 from by have := H0.out; omega]
     conv => lhs; unfold api_Row_146.idx
     rw [if_neg (by rw [← HGE.out, HQ.out]; simp)]
  ·
   have hx : x = (l0.length : Int) := by have := H1.out; omega
   have c1b0 : decide (x < (l0.length : Int)) = false := decide_eq_false hlt
   clear hlt
   have HX := Aside0.mk hx
   clear hx
   go_wp2
   go_ret
   refine ⟨?_, HB.out⟩
   rw [HI.out, HX.out, Int.toNat_natCast, List.drop_of_length_le (Nat.le_refl _)]
   rfl
set_option maxHeartbeats 2000000 in
theorem api_Row_114.calls (g : Nat) (lb : Array Value) (eg : ∀ args w, (callFunc g args).run Tryz.prog w = .ok (.enter g args) w) (p : S60 → Bool) (A0 : Option Addr) (c0 : Nat) (l0 : List (S60)) (w : World) (hr0 : Kd.C k60 w A0 l0.length l0) (hp : api_Row_146.Fn g lb p l0 w) :
 Calls Tryz.prog 114 #[.slice A0 l0.length c0, .func (.func g) #[] lb] w fun e w' => e = .returned (.bool (l0.any p)) ∧ Below w.heap.size w w' := by
 have hcall := fun W => api_Row_146.calls g lb eg p A0 c0 l0 W
 rw [← api_Row_146.idx_any p l0 0]
 generalize api_Row_146.idx p l0 0 = r at hcall ⊢
 go_enter Tryz.func114, Tryz.ntmps114
 go_wp2_with (go_at_call 146; refine (hcall _ hr0 hp).mono ?_; rintro e w' ⟨rfl, hb'⟩)
 go_ret
 exact ⟨rfl, hb'⟩
end Go.Proofs.YteckidchnicjeaaGreatDoor.X
