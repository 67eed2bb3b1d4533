/- Printed by a program of this session's own: what functions of the program compute, and that the machine computes it. No condition of its own. -/
import Derived.Test.YtgcbejidponoaaaGreatDoorM3
namespace Go.Proofs.YtgcbejidponoaaaGreatDoor.X
open Go.RowKit Go.Proofs.YtgcbejidponoaaaGreatDoorW.PrintWords Go.Proofs.YtgcbejidponoaaaGreatDoorW.PrintLast Go.Proofs.YtgcbejidponoaaaGreatDoorW.PrintMore
attribute [local go_sem] max2_int min2_int max_two min_two max_three min_three max_four min_four
set_option linter.unusedVariables false
set_option linter.unusedSimpArgs false
set_option maxHeartbeats 8000000
set_option maxRecDepth 100000
def cmp_Or_int.l0 : Nat → Int → List Int → Int → Int → Option (Int)
 | 0, _, _, _, _ => none
 | k + 1, x3, x6, x7, x8 => if x8 < x7 then (if 0 ≤ x8 then (if x8 < (x6.length : Int) then (if (rd x6 x8) = x3 then (cmp_Or_int.l0 k x3 x6 x7 (wrap64 (x8 + 1))) else (some (rd x6 x8))) else (none)) else (none)) else (some x3)
def cmp_Or_int.f (k : Nat) (l0 : List Int) : Option (Int) := cmp_Or_int.l0 k 0 l0 (l0.length : Int) 0
theorem cmp_Or_int.mono_l : ∀ k, (∀ y0 y1 y2 y3, LeC (cmp_Or_int.l0 k y0 y1 y2 y3) (cmp_Or_int.l0 (k + 1) y0 y1 y2 y3))
 | 0 => fun _ _ _ _ => ⟨fun r h => by simp [cmp_Or_int.l0] at h⟩
 | k + 1 => by have ih0 := cmp_Or_int.mono_l k; exact fun _ _ _ _ => by unfold cmp_Or_int.l0; exact lm
theorem cmp_Or_int.mono : ∀ a0 k, LeO (cmp_Or_int.f k a0) (cmp_Or_int.f (k + 1) a0) := by
 intro a0 k
 have ih0 := cmp_Or_int.mono_l k
 unfold cmp_Or_int.f
 exact lo
instance cmp_Or_int.mI {a0 k} : LeC (cmp_Or_int.f k a0) (cmp_Or_int.f (k + 1) a0) := ⟨cmp_Or_int.mono _ _⟩
theorem cmp_Or_int.calls (k : Nat) (A0 : Option Addr) (c0 : Nat) (l0 : List Int) (r : Int) (w : World) (hr0 : Kd.C (Kd.int .i64) w A0 l0.length l0) (hc0 : l0.length ≤ c0) (h : cmp_Or_int.f k l0 = some r) :
 Calls Tryz.prog 67 #[.slice A0 l0.length c0] w fun e w' => e = .returned (.int .i64 r) ∧ Drawn0 w w' := by
 have HR0 := Aside0.mk hr0
 have HC0 := Aside0.mk hc0
 clear hr0 hc0
 have H : (cmp_Or_int.l0 k 0 l0 (l0.length : Int) 0) = some r := h
 clear h
 have H' := Aside0.mk H
 clear H
 go_enter Tryz.func67, Tryz.ntmps67
 go_wp2
 go_loopg [8] k (fun kq v8 w' => ∃ (x8_1 : Int), v8 = .int .i64 x8_1 ∧ Aside0 (cmp_Or_int.l0 kq 0 l0 (l0.length : Int) x8_1 = some r) ∧ Aside0 (kq ≤ k) ∧ Drawn0 w w')
 case atStart => exact ⟨(0), rs_, H', ⟨Nat.le_refl _⟩, dr_⟩
 case round =>
  clear H'
  obtain ⟨x8_1, rfl, HA, HK1, ⟨m1, rfl⟩⟩ := hrel
  cases gk with
  | zero => exact absurd HA.out (by simp [cmp_Or_int.l0])
  | succ k1 =>
   have H := HA.out
   clear HA
   simp only [cmp_Or_int.l0] at H
   by_cases c2 : x8_1 < (l0.length : Int)
   ·
    rw [if_pos c2] at H
    have c2b0 : decide (x8_1 < (l0.length : Int)) = true := decide_eq_true c2
    clear c2
    obtain ⟨c3b0, H⟩ := gdd H
    obtain ⟨c4b0, H⟩ := gdd H
    by_cases c5 : (rd l0 x8_1) = 0
    ·
     rw [if_pos c5] at H
     have c5b0 : ((rd l0 x8_1) == 0) = true := beq_iff_eq.mpr c5
     have c5b1 : ((rd l0 x8_1) != 0) = false := bne_eq_false_iff_eq.mpr c5
     clear c5
     have H' := Aside0.mk H
     clear H
     have p101 : 0 ≤ (x8_1 : Int) := od
     have q101 : x8_1 < (l0.length : Int) := od
     obtain ⟨ad101, e101, hx101_0⟩ := Kd.at_int HR0.out x8_1 p101 q101
     cases e101
     replace p101 := eq_true p101
     replace q101 := eq_true q101
     go_wp2
     go_roundg k1
     case measure => have := HK1.out; omega
     case rel => exact ⟨(wrap64 (x8_1 + 1)), rs_, H', ⟨by have := HK1.out; omega⟩, dr_⟩
    ·
     rw [if_neg c5] at H
     have c5b0 : ((rd l0 x8_1) == 0) = false := beq_eq_false_iff_ne.mpr c5
     have c5b1 : ((rd l0 x8_1) != 0) = true := bne_iff_ne.mpr c5
     obtain rfl := Option.some.inj H
     have p101 : 0 ≤ (x8_1 : Int) := od
     have q101 : x8_1 < (l0.length : Int) := od
     obtain ⟨ad101, e101, hx101_0⟩ := Kd.at_int HR0.out x8_1 p101 q101
     cases e101
     replace p101 := eq_true p101
     replace q101 := eq_true q101
     go_wp2
     go_ret
     exact ⟨rs_, dr_⟩
   ·
    rw [if_neg c2] at H
    have c2b0 : decide (x8_1 < (l0.length : Int)) = false := decide_eq_false c2
    clear c2
    obtain rfl := Option.some.inj H
    go_wp2
    go_ret
    exact ⟨rs_, dr_⟩
def cmp_isNaN_int64.f (a0 : Int) : Option (Bool) := some (a0 != a0)
theorem cmp_isNaN_int64.calls (a0 : Int) (r : Bool) (w : World) (h : cmp_isNaN_int64.f a0 = some r) :
 Calls Tryz.prog 81 #[.int .i64 a0] w fun e w' => e = .returned (.bool r) ∧ Drawn0 w w' := by
 have H : (some (a0 != a0)) = some r := h
 clear h
 obtain rfl := Option.some.inj H
 go_enter Tryz.func81, Tryz.ntmps81
 go_wp2
 go_ret
 exact ⟨rs_, dr_⟩
def cmp_Compare_int64.f (a0 : Int) (a1 : Int) : Option (Int) := (cmp_isNaN_int64.f a0).bind fun t102 => ((cmp_isNaN_int64.f a1).bind fun t103 => (if t102 = true then (if t103 = true then (some 0) else (some (-1))) else (if t103 = true then (some 1) else (if a0 < a1 then (some (-1)) else (if a0 > a1 then (some 1) else (some 0))))))
theorem cmp_Compare_int64.calls (a0 : Int) (a1 : Int) (r : Int) (w : World) (h : cmp_Compare_int64.f a0 a1 = some r) :
 Calls Tryz.prog 68 #[.int .i64 a0, .int .i64 a1] w fun e w' => e = .returned (.int .i64 r) ∧ Drawn0 w w' := by
 have H : ((cmp_isNaN_int64.f a0).bind fun t102 => ((cmp_isNaN_int64.f a1).bind fun t103 => (if t102 = true then (if t103 = true then (some 0) else (some (-1))) else (if t103 = true then (some 1) else (if a0 < a1 then (some (-1)) else (if a0 > a1 then (some 1) else (some 0))))))) = some r := h
 clear h
 obtain ⟨t102, A3, H⟩ := bs H
 try dsimp only at H
 obtain ⟨t103, A4, H⟩ := bs H
 try dsimp only at H
 by_cases c5 : t102 = true
 ·
  subst c5
  rw [if_pos rfl] at H
  by_cases c6 : t103 = true
  ·
   subst c6
   rw [if_pos rfl] at H
   obtain rfl := Option.some.inj H
   go_enter Tryz.func68, Tryz.ntmps68
   go_wp2_with (first | (refine gL (some 8) rfl Tryz.func81 #[.int .i64 a0] ?_; (with_reducible refine (cmp_isNaN_int64.calls a0 true _ A3.out).mono ?_); rintro e w' ⟨rfl, ⟨nd, rfl⟩⟩; refine ⟨_, rfl, ?_⟩) | (refine gL (some 10) rfl Tryz.func81 #[.int .i64 a1] ?_; (with_reducible refine (cmp_isNaN_int64.calls a1 true _ A4.out).mono ?_); rintro e w' ⟨rfl, ⟨nd, rfl⟩⟩; refine ⟨_, rfl, ?_⟩))
   go_ret
   exact ⟨rs_, dr_⟩
  ·
   replace c6 := Bool.eq_false_iff.mpr c6
   subst c6
   rw [if_neg (show ¬ (false = true) by decide)] at H
   obtain rfl := Option.some.inj H
   go_enter Tryz.func68, Tryz.ntmps68
   go_wp2_with (first | (refine gL (some 8) rfl Tryz.func81 #[.int .i64 a0] ?_; (with_reducible refine (cmp_isNaN_int64.calls a0 true _ A3.out).mono ?_); rintro e w' ⟨rfl, ⟨nd, rfl⟩⟩; refine ⟨_, rfl, ?_⟩) | (refine gL (some 10) rfl Tryz.func81 #[.int .i64 a1] ?_; (with_reducible refine (cmp_isNaN_int64.calls a1 false _ A4.out).mono ?_); rintro e w' ⟨rfl, ⟨nd, rfl⟩⟩; refine ⟨_, rfl, ?_⟩))
   go_ret
   exact ⟨rs_, dr_⟩
 ·
  replace c5 := Bool.eq_false_iff.mpr c5
  subst c5
  rw [if_neg (show ¬ (false = true) by decide)] at H
  by_cases c7 : t103 = true
  ·
   subst c7
   rw [if_pos rfl] at H
   obtain rfl := Option.some.inj H
   go_enter Tryz.func68, Tryz.ntmps68
   go_wp2_with (first | (refine gL (some 8) rfl Tryz.func81 #[.int .i64 a0] ?_; (with_reducible refine (cmp_isNaN_int64.calls a0 false _ A3.out).mono ?_); rintro e w' ⟨rfl, ⟨nd, rfl⟩⟩; refine ⟨_, rfl, ?_⟩) | (refine gL (some 10) rfl Tryz.func81 #[.int .i64 a1] ?_; (with_reducible refine (cmp_isNaN_int64.calls a1 true _ A4.out).mono ?_); rintro e w' ⟨rfl, ⟨nd, rfl⟩⟩; refine ⟨_, rfl, ?_⟩))
   go_ret
   exact ⟨rs_, dr_⟩
  ·
   replace c7 := Bool.eq_false_iff.mpr c7
   subst c7
   rw [if_neg (show ¬ (false = true) by decide)] at H
   by_cases c8 : a0 < a1
   ·
    rw [if_pos c8] at H
    have c8b0 : decide (a0 < a1) = true := decide_eq_true c8
    clear c8
    obtain rfl := Option.some.inj H
    go_enter Tryz.func68, Tryz.ntmps68
    go_wp2_with (first | (refine gL (some 8) rfl Tryz.func81 #[.int .i64 a0] ?_; (with_reducible refine (cmp_isNaN_int64.calls a0 false _ A3.out).mono ?_); rintro e w' ⟨rfl, ⟨nd, rfl⟩⟩; refine ⟨_, rfl, ?_⟩) | (refine gL (some 10) rfl Tryz.func81 #[.int .i64 a1] ?_; (with_reducible refine (cmp_isNaN_int64.calls a1 false _ A4.out).mono ?_); rintro e w' ⟨rfl, ⟨nd, rfl⟩⟩; refine ⟨_, rfl, ?_⟩))
    go_ret
    exact ⟨rs_, dr_⟩
   ·
    rw [if_neg c8] at H
    have c8b0 : decide (a0 < a1) = false := decide_eq_false c8
    clear c8
    by_cases c9 : a0 > a1
    ·
     rw [if_pos c9] at H
     have c9b0 : decide (a1 < a0) = true := decide_eq_true c9
     clear c9
     obtain rfl := Option.some.inj H
     go_enter Tryz.func68, Tryz.ntmps68
     go_wp2_with (first | (refine gL (some 8) rfl Tryz.func81 #[.int .i64 a0] ?_; (with_reducible refine (cmp_isNaN_int64.calls a0 false _ A3.out).mono ?_); rintro e w' ⟨rfl, ⟨nd, rfl⟩⟩; refine ⟨_, rfl, ?_⟩) | (refine gL (some 10) rfl Tryz.func81 #[.int .i64 a1] ?_; (with_reducible refine (cmp_isNaN_int64.calls a1 false _ A4.out).mono ?_); rintro e w' ⟨rfl, ⟨nd, rfl⟩⟩; refine ⟨_, rfl, ?_⟩))
     go_ret
     exact ⟨rs_, dr_⟩
    ·
     rw [if_neg c9] at H
     have c9b0 : decide (a1 < a0) = false := decide_eq_false c9
     clear c9
     obtain rfl := Option.some.inj H
     go_enter Tryz.func68, Tryz.ntmps68
     go_wp2_with (first | (refine gL (some 8) rfl Tryz.func81 #[.int .i64 a0] ?_; (with_reducible refine (cmp_isNaN_int64.calls a0 false _ A3.out).mono ?_); rintro e w' ⟨rfl, ⟨nd, rfl⟩⟩; refine ⟨_, rfl, ?_⟩) | (refine gL (some 10) rfl Tryz.func81 #[.int .i64 a1] ?_; (with_reducible refine (cmp_isNaN_int64.calls a1 false _ A4.out).mono ?_); rintro e w' ⟨rfl, ⟨nd, rfl⟩⟩; refine ⟨_, rfl, ?_⟩))
     go_ret
     exact ⟨rs_, dr_⟩
def strings_Compare.f (a0 : ByteArray) (a1 : ByteArray) : Option (Int) := some (Lib.compareBytes a0.data.toList a1.data.toList)
theorem strings_Compare.calls (a0 : ByteArray) (a1 : ByteArray) (r : Int) (w : World) (h : strings_Compare.f a0 a1 = some r) :
 Calls Tryz.prog 69 #[.string a0, .string a1] w fun e w' => e = .returned (.int .i64 r) ∧ Drawn0 w w' := by
 obtain rfl := Option.some.inj h
 exact (Tryz.strings_Compare a0 a1 w).mono fun e w' hh => ⟨hh.1, hh.2 ▸ Drawn0.refl _⟩
def row_order.f (k : Nat) (a0_0 : Int) (a0_1 : ByteArray) (a1_0 : Int) (a1_1 : ByteArray) : Option (Int) := (cmp_Compare_int64.f a0_0 a1_0).bind fun t106 => ((strings_Compare.f a0_1 a1_1).bind fun t107 => ((cmp_Or_int.f k (([t106, t107] : List Int))).bind fun t111 => (some t111)))
theorem row_order.mono : ∀ a0 a1 a2 a3 k, LeO (row_order.f k a0 a1 a2 a3) (row_order.f (k + 1) a0 a1 a2 a3) := by
 intro a0 a1 a2 a3 k
 unfold row_order.f
 exact lo
instance row_order.mI {a0 a1 a2 a3 k} : LeC (row_order.f k a0 a1 a2 a3) (row_order.f (k + 1) a0 a1 a2 a3) := ⟨row_order.mono _ _ _ _ _⟩
def row_order.T1 : Bool × List (List Nat × List Nat) := (true, [([], []), ([0], [0]), ([], []), ([2], [2]), ([1, 3], [1, 3]), ([], []), ([5], [5]), ([], []), ([7], [7]), ([6, 8, 4], [6, 8]), ([4, 9], [4, 9]), ([10, 9], [10]), ([11, 11, 0, 1, 2, 3, 4, 5, 6, 7, 8, 9, 10, 11], [11])])
def row_order.B1 : List Nat := [0, 1, 0, 4, 15, 0, 32, 0, 128, 511, 1023, 2047, 4095]
theorem row_order.tab1 : rtab .any (opsOf Tryz.f49 1) = row_order.T1 := by kernel_rfl
theorem row_order.bits1 : waitsOk row_order.T1.2 row_order.B1 = true := by kernel_rfl
theorem row_order.calls (k : Nat) (a0_0 : Int) (a0_1 : ByteArray) (a1_0 : Int) (a1_1 : ByteArray) (r : Int) (w : World) (h : row_order.f k a0_0 a0_1 a1_0 a1_1 = some r) :
 Calls Tryz.prog 49 #[.agg #[.int .i64 a0_0, .string a0_1], .agg #[.int .i64 a1_0, .string a1_1]] w fun e w' => e = .returned (.int .i64 r) ∧ Below w.heap.size w w' := by
 have hu67 := Tryz.underlying67
 have HB := Aside0.mk (Below.refl w.heap.size w)
 have H : ((cmp_Compare_int64.f a0_0 a1_0).bind fun t106 => ((strings_Compare.f a0_1 a1_1).bind fun t107 => ((cmp_Or_int.f k (([t106, t107] : List Int))).bind fun t111 => (some t111)))) = some r := h
 clear h
 obtain ⟨t106, A3, H⟩ := bs H
 try dsimp only at H
 obtain ⟨t107, A4, H⟩ := bs H
 try dsimp only at H
 obtain ⟨y108, hy108⟩ : ∃ y_ : List Int, y_ = (([t106, t107] : List Int)) := ⟨_, rfl⟩
 replace H : ((cmp_Or_int.f k y108).bind fun t111 => (some t111)) = some r := by first | (rw [hy108]; with_reducible exact H) | (have H2_ := (Option.bind_some _ _).symm.trans H; rw [hy108]; with_reducible exact H2_) | (have H2_ := (Option.bind_some _ _).symm.trans H; with_reducible exact H2_) | with_reducible exact H | (rw [hy108]; exact H) | exact H
 have Ny108 := Aside0.mk hy108
 clear hy108
 obtain ⟨t111, A5, H⟩ := bs H
 try dsimp only at H
 obtain rfl := Option.some.inj H
 go_enter Tryz.func49, Tryz.ntmps49
 try go_wp2_with (first | ((with_reducible refine gate_dst (N := 2) rfl ?_); refine bx (N := 2) #[.int .i64 a0_0, .string a0_1] 67 ?_; intro gb104 hg w6 hbox hb; have BK104 := Aside0.mk (hbox); have GW104 := gw hg (uW HB.out); have GE104 := GW104; replace HB := cW HB hb; clear hb hbox hg) | ((with_reducible refine gate_dst (N := 3) rfl ?_); refine bx (N := 3) #[.int .i64 a1_0, .string a1_1] 67 ?_; intro gb105 hg w7 hbox hb; have BK105 := Aside0.mk (hbox); have GW105 := gw hg bl; have GE105 := GW105; replace HB := Aside0.mk (below_step bl hb); have NB104_105 := Aside0.mk ((by rw [hg]; exact Nat.ne_of_lt (blk_lt (g := gb104) (o := .cells #[.int .i64 a0_0, .string a0_1] 67 (0, 0)) (uB BK104.out)) : gb104 ≠ gb105)); have NB105_104 := Aside0.mk ((by rw [hg]; exact Nat.ne_of_gt (blk_lt (g := gb104) (o := .cells #[.int .i64 a0_0, .string a0_1] 67 (0, 0)) (uB BK104.out)) : gb105 ≠ gb104)); replace BK104 := cB BK104 hb; clear hb hbox hg))
 replace BK104 := Aside0.mk (blk_drew BK104.out)
 replace BK105 := Aside0.mk (blk_drew BK105.out)
 replace HB := Aside0.mk (below_drew1 HB.out)
 refine start_ (n := 13) (S := fun w' => w'.cell? ⟨gb104, 0, none⟩ = some (.int .i64 a0_0) ∧ w'.cell? ⟨gb104, 1, none⟩ = some (.string a0_1) ∧ w'.cell? ⟨gb105, 0, none⟩ = some (.int .i64 a1_0) ∧ w'.cell? ⟨gb105, 1, none⟩ = some (.string a1_1)) (ds := []) _ (by kernel_rfl) rfl rfl ⟨(blk_cell BK104.out 0).trans rfl, (blk_cell BK104.out 1).trans rfl, (blk_cell BK105.out 0).trans rfl, (blk_cell BK105.out 1).trans rfl⟩ (fun hHeld => ?_); refine with_tabW row_order.tab1 row_order.bits1 (fun HT_ HW_ => ?_)
 generalize w7.drew = w8 at BK104 BK105 HB hHeld ⊢
 refine p1 0 (some 5) ?_
 refine p1 2 (some 7) ?_
 refine p1 5 (some 10) ?_
 refine p1 7 (some 12) ?_
 refine t1 1 (some 6) rfl rfl hHeld (Or.inl ⟨by rfl, by rintro w' ⟨s0, s1, s2, s3⟩; go_simp; with_reducible rfl⟩) ?_
 refine t1 3 (some 8) rfl rfl hHeld (Or.inl ⟨by rfl, by rintro w' ⟨s0, s1, s2, s3⟩; go_simp; with_reducible rfl⟩) ?_
 refine t1 6 (some 11) rfl rfl hHeld (Or.inl ⟨by rfl, by rintro w' ⟨s0, s1, s2, s3⟩; go_simp; with_reducible rfl⟩) ?_
 refine t1 8 (some 13) rfl rfl hHeld (Or.inl ⟨by rfl, by rintro w' ⟨s0, s1, s2, s3⟩; go_simp; with_reducible rfl⟩) ?_
 refine o1 4 (some 9) rfl rfl (fun K hK => ?_)
 refine gS Tryz.func68 #[.int .i64 a0_0, .int .i64 a1_0] ?_
 with_reducible refine (cmp_Compare_int64.calls a0_0 a1_0 t106 _ A3.out).mono ?_
 rintro e w' ⟨rfl, ⟨nd, rfl⟩⟩
 refine ⟨_, rfl, ?_⟩
 refine hK.out _ _ ⟨(blk_cell BK104.out 0).trans rfl, (blk_cell BK104.out 1).trans rfl, (blk_cell BK105.out 0).trans rfl, (blk_cell BK105.out 1).trans rfl⟩ (fun hHeld => ?_)
 clear hK K
 refine norm_ (a' := ?_) ?_ ?_
 rotate_left
 ·
  show Act.put _ (some 9) _ = _
  simp only [Act.put, List.setIfInBounds_toArray, List.set_cons_zero, List.set_cons_succ, i64_w, i32_w]
  rfl
 refine o1 9 (some 14) rfl rfl (fun K hK => ?_)
 refine gS Tryz.func69 #[.string a0_1, .string a1_1] ?_
 with_reducible refine (strings_Compare.calls a0_1 a1_1 t107 _ A4.out).mono ?_
 rintro e w' ⟨rfl, ⟨nd, rfl⟩⟩
 refine ⟨_, rfl, ?_⟩
 refine hK.out _ _ ⟨(blk_cell BK104.out 0).trans rfl, (blk_cell BK104.out 1).trans rfl, (blk_cell BK105.out 0).trans rfl, (blk_cell BK105.out 1).trans rfl⟩ (fun hHeld => ?_)
 clear hK K
 refine norm_ (a' := ?_) ?_ ?_
 rotate_left
 ·
  show Act.put _ (some 14) _ = _
  simp only [Act.put, List.setIfInBounds_toArray, List.set_cons_zero, List.set_cons_succ, i64_w, i32_w]
  rfl
 refine o1 10 (some 15) rfl rfl (fun K hK => ?_)
 refine Kd.R_lit_step (Kd.int .i64) _ 3 ?hg (N := 15) ?hd (xs := ([t106, t107] : List Int)) (inner := [.int .i64 t106, .int .i64 t107]) (ok := fun _ => True) (okp := fun _ => True) ?hr ?hp (fun _ hk => hk) trivial (Below.refl _ _) (Nat.le_refl _) (by simp) ?_; (case hd => rfl); (case hg => rfl); (case hr => first | (go_simp; done) | (go_simp; rfl)); (case hp => exact (Reps.one (show Kd.M (Kd.int .i64) _ _ _ t106 [.int .i64 t106] from rfl) (Reps.one (show Kd.M (Kd.int .i64) _ _ _ t107 [.int .i64 t107] from rfl) (Reps.none _ _))))
 intro v109 w9 ho10 hb hg_ hnew_
 clear hg_ hnew_
 (first | rw [← Ny108.out] at ho10 | (simp only [Int.reduceToNat] at ho10; rw [← Ny108.out] at ho10))
 have HO110 := Aside0.mk (Kd.R_lower ho10 (below_size bl))
 replace BK104 := cB BK104 hb
 replace BK105 := cB BK105 hb
 replace HB := Aside0.mk (below_step bl hb)
 clear hb ho10
 obtain ⟨Ao11, co11, eo11⟩ := Kd.R_slice HO110.out
 (first | subst eo11 | (injection eo11 with f1_ f2_ f3_; have f4_ := f1_.symm; have f5_ := f3_.symm; clear f1_ f2_ f3_; subst f4_; subst f5_))
 refine hK.out _ _ ⟨(blk_cell BK104.out 0).trans rfl, (blk_cell BK104.out 1).trans rfl, (blk_cell BK105.out 0).trans rfl, (blk_cell BK105.out 1).trans rfl⟩ (fun hHeld => ?_)
 clear hK K
 refine norm_ (a' := ?_) ?_ ?_
 rotate_left
 ·
  show Act.put _ (some 15) _ = _
  simp only [Act.put, List.setIfInBounds_toArray, List.set_cons_zero, List.set_cons_succ, i64_w, i32_w]
  rfl
 refine o1 11 (some 16) rfl rfl (fun K hK => ?_)
 refine gS Tryz.func67 #[.slice Ao11 y108.length co11] ?_
 with_reducible refine (cmp_Or_int.calls k _ _ y108 t111 _ ?side1 ?side2 A5.out).mono ?_
 (case side1 => exact uC <| (Kd.R_reads' HO110.out).2.2)
 (case side2 => exact (Kd.R_reads' HO110.out).2.1)
 rintro e w' ⟨rfl, ⟨nd, rfl⟩⟩
 refine ⟨_, rfl, ?_⟩
 refine hK.out _ _ ⟨(blk_cell BK104.out 0).trans rfl, (blk_cell BK104.out 1).trans rfl, (blk_cell BK105.out 0).trans rfl, (blk_cell BK105.out 1).trans rfl⟩ (fun hHeld => ?_)
 clear hK K
 refine norm_ (a' := ?_) ?_ ?_
 rotate_left
 ·
  show Act.put _ (some 16) _ = _
  simp only [Act.put, List.setIfInBounds_toArray, List.set_cons_zero, List.set_cons_succ, i64_w, i32_w]
  rfl
 refine p1 12 (some 4) ?_
 refine done_ (done_of HT_.out (by kernel_rfl)) ?_
 try go_wp2
 go_ret
 exact ⟨re_, bl⟩
def row_of.f (a0_0 : Int) (a0_1 : ByteArray) (a0_2 : Int) (a0_3 : Bool) : Option (Int × ByteArray) := some (a0_0, a0_1)
theorem row_of.calls (a0_0 : Int) (a0_1 : ByteArray) (a0_2 : Int) (a0_3 : Bool) (r1 : Int) (r2 : ByteArray) (w : World) (h : row_of.f a0_0 a0_1 a0_2 a0_3 = some (r1, r2)) :
 Calls Tryz.prog 50 #[.agg #[.int .i64 a0_0, .string a0_1, .int .i64 a0_2, .bool a0_3]] w fun e w' => e = .returned (.agg #[.int .i64 r1, .string r2]) ∧ Below w.heap.size w w' := by
 have hu45 := Tryz.underlying45
 have hu67 := Tryz.underlying67
 have HB := Aside0.mk (Below.refl w.heap.size w)
 have H : (some (a0_0, a0_1)) = some (r1, r2) := h
 clear h
 simp only [Option.some.injEq, Prod.mk.injEq] at H
 obtain ⟨rfl, rfl⟩ := H
 go_enter Tryz.func50, Tryz.ntmps50
 go_wp2_with (first | ((with_reducible refine gate_dst (N := 1) rfl ?_); refine bx (N := 1) #[.int .i64 a0_0, .string a0_1, .int .i64 a0_2, .bool a0_3] 45 ?_; intro gb112 hg w2 hbox hb; have BK112 := Aside0.mk (hbox); have GW112 := gw hg (uW HB.out); have GE112 := GW112; replace HB := cW HB hb; clear hb hbox hg) | ((with_reducible refine gate_dst (N := 2) rfl ?_); refine bx (N := 2) #[.int .i64 0, .string (⟨#[]⟩ : ByteArray)] 67 ?_; intro gb113 hg w3 hbox hb; have BK113 := Aside0.mk (hbox); have GW113 := gw hg bl; have GE113 := GW113; replace HB := Aside0.mk (below_step bl hb); have NB112_113 := Aside0.mk ((by rw [hg]; exact Nat.ne_of_lt (blk_lt (g := gb112) (o := .cells #[.int .i64 a0_0, .string a0_1, .int .i64 a0_2, .bool a0_3] 45 (0, 0)) (uB BK112.out)) : gb112 ≠ gb113)); have NB113_112 := Aside0.mk ((by rw [hg]; exact Nat.ne_of_gt (blk_lt (g := gb112) (o := .cells #[.int .i64 a0_0, .string a0_1, .int .i64 a0_2, .bool a0_3] 45 (0, 0)) (uB BK112.out)) : gb113 ≠ gb112)); replace BK112 := cB BK112 hb; clear hb hbox hg; have hnb4 := NB112_113.out; have hnc4 := NB113_112.out; obtain ⟨hcz5_0, hcz5_1, hcz5_2, hcz5_3, hfz5_0, hfz5_1, hfz5_2, hfz5_3⟩ := z4 BK112; obtain ⟨hcz6_0, hcz6_1, hfz6_0, hfz6_1⟩ := z2 BK113))
 refine bodyPost_ret (results_cell_row rfl _ _ gb113 67 #[.int .i64 a0_0, .string a0_1] (0, 0) _ rfl (by (with_reducible repeat (first | refine blk_drewN ?_ _ | refine blk_drew ?_ | refine blk_alloc ?_ _)); refine blk_put (cs := #[.int .i64 a0_0, .string (⟨#[]⟩ : ByteArray)]) ?_ 1 _ rfl; (with_reducible repeat (first | refine blk_drewN ?_ _ | refine blk_drew ?_ | refine blk_alloc ?_ _)); refine blk_put (cs := #[.int .i64 0, .string (⟨#[]⟩ : ByteArray)]) ?_ 0 _ rfl; exact uB <| BK113.out) Tryz.underlying67 rfl (by kernel_rfl)) rfl ?_
 exact ⟨re_, bl⟩
def row_Before.f (k : Nat) (a0_0 : Int) (a0_1 : ByteArray) (a0_2 : Int) (a0_3 : Bool) (a1_0 : Int) (a1_1 : ByteArray) (a1_2 : Int) (a1_3 : Bool) : Option (Bool) := (row_of.f a0_0 a0_1 a0_2 a0_3).bind fun bt116 => ((row_of.f a1_0 a1_1 a1_2 a1_3).bind fun bt118 => ((row_order.f k bt116.1 bt116.2 bt118.1 bt118.2).bind fun t120 => (some (decide (t120 < 0)))))
theorem row_Before.mono : ∀ a0 a1 a2 a3 a4 a5 a6 a7 k, LeO (row_Before.f k a0 a1 a2 a3 a4 a5 a6 a7) (row_Before.f (k + 1) a0 a1 a2 a3 a4 a5 a6 a7) := by
 intro a0 a1 a2 a3 a4 a5 a6 a7 k
 unfold row_Before.f
 exact lo
instance row_Before.mI {a0 a1 a2 a3 a4 a5 a6 a7 k} : LeC (row_Before.f k a0 a1 a2 a3 a4 a5 a6 a7) (row_Before.f (k + 1) a0 a1 a2 a3 a4 a5 a6 a7) := ⟨row_Before.mono _ _ _ _ _ _ _ _ _⟩
theorem row_Before.calls (k : Nat) (a0_0 : Int) (a0_1 : ByteArray) (a0_2 : Int) (a0_3 : Bool) (a1_0 : Int) (a1_1 : ByteArray) (a1_2 : Int) (a1_3 : Bool) (r : Bool) (w : World) (h : row_Before.f k a0_0 a0_1 a0_2 a0_3 a1_0 a1_1 a1_2 a1_3 = some r) :
 Calls Tryz.prog 25 #[.agg #[.int .i64 a0_0, .string a0_1, .int .i64 a0_2, .bool a0_3], .agg #[.int .i64 a1_0, .string a1_1, .int .i64 a1_2, .bool a1_3]] w fun e w' => e = .returned (.bool r) ∧ Below w.heap.size w w' := by
 have hu45 := Tryz.underlying45
 have HB := Aside0.mk (Below.refl w.heap.size w)
 have H : ((row_of.f a0_0 a0_1 a0_2 a0_3).bind fun bt116 => ((row_of.f a1_0 a1_1 a1_2 a1_3).bind fun bt118 => ((row_order.f k bt116.1 bt116.2 bt118.1 bt118.2).bind fun t120 => (some (decide (t120 < 0)))))) = some r := h
 clear h
 obtain ⟨⟨t116, t117⟩, A3, H⟩ := bs H
 try dsimp only at H
 obtain ⟨⟨t118, t119⟩, A4, H⟩ := bs H
 try dsimp only at H
 obtain ⟨t120, A5, H⟩ := bs H
 try dsimp only at H
 obtain rfl := Option.some.inj H
 go_enter Tryz.func25, Tryz.ntmps25
 try go_wp2_with (first | ((with_reducible refine gate_dst (N := 2) rfl ?_); refine bx (N := 2) #[.int .i64 a0_0, .string a0_1, .int .i64 a0_2, .bool a0_3] 45 ?_; intro gb114 hg w6 hbox hb; have BK114 := Aside0.mk (hbox); have GW114 := gw hg (uW HB.out); have GE114 := GW114; replace HB := cW HB hb; clear hb hbox hg) | ((with_reducible refine gate_dst (N := 3) rfl ?_); refine bx (N := 3) #[.int .i64 a1_0, .string a1_1, .int .i64 a1_2, .bool a1_3] 45 ?_; intro gb115 hg w7 hbox hb; have BK115 := Aside0.mk (hbox); have GW115 := gw hg bl; have GE115 := GW115; replace HB := Aside0.mk (below_step bl hb); have NB114_115 := Aside0.mk ((by rw [hg]; exact Nat.ne_of_lt (blk_lt (g := gb114) (o := .cells #[.int .i64 a0_0, .string a0_1, .int .i64 a0_2, .bool a0_3] 45 (0, 0)) (uB BK114.out)) : gb114 ≠ gb115)); have NB115_114 := Aside0.mk ((by rw [hg]; exact Nat.ne_of_gt (blk_lt (g := gb114) (o := .cells #[.int .i64 a0_0, .string a0_1, .int .i64 a0_2, .bool a0_3] 45 (0, 0)) (uB BK114.out)) : gb115 ≠ gb114)); replace BK114 := cB BK114 hb; clear hb hbox hg))
 replace BK114 := Aside0.mk (blk_drew BK114.out)
 replace BK115 := Aside0.mk (blk_drew BK115.out)
 replace HB := Aside0.mk (below_drew1 HB.out)
 refine start_ (n := 7) (S := fun w' => w'.cell? ⟨gb114, 0, none⟩ = some (.int .i64 a0_0) ∧ w'.cell? ⟨gb114, 1, none⟩ = some (.string a0_1) ∧ w'.cell? ⟨gb114, 2, none⟩ = some (.int .i64 a0_2) ∧ w'.cell? ⟨gb114, 3, none⟩ = some (.bool a0_3) ∧ w'.cell? ⟨gb115, 0, none⟩ = some (.int .i64 a1_0) ∧ w'.cell? ⟨gb115, 1, none⟩ = some (.string a1_1) ∧ w'.cell? ⟨gb115, 2, none⟩ = some (.int .i64 a1_2) ∧ w'.cell? ⟨gb115, 3, none⟩ = some (.bool a1_3)) (ds := []) _ (by kernel_rfl) rfl rfl ⟨(blk_cell BK114.out 0).trans rfl, (blk_cell BK114.out 1).trans rfl, (blk_cell BK114.out 2).trans rfl, (blk_cell BK114.out 3).trans rfl, (blk_cell BK115.out 0).trans rfl, (blk_cell BK115.out 1).trans rfl, (blk_cell BK115.out 2).trans rfl, (blk_cell BK115.out 3).trans rfl⟩ (fun hHeld => ?_)
 generalize w7.drew = w8 at BK114 BK115 HB hHeld ⊢
 refine take_ (i := 0) (N := some 5) (v := ?_) (a' := ?_) #[true, false, false, false, false, false, false] rfl rfl (by kernel_rfl) (fun _ _ _ h => h) (Or.inl ⟨by rfl, ?_⟩) hHeld ?_ ?_
 rotate_left
 ·
  rintro w' ⟨s0, s1, s2, s3, s4, s5, s6, s7⟩
  go_simp
  with_reducible rfl
 rotate_left
 ·
  simp only [Act.put, List.setIfInBounds_toArray, List.set_cons_zero, List.set_cons_succ, i64_w, i32_w]
  rfl
 refine take_ (i := 2) (N := some 7) (v := ?_) (a' := ?_) #[true, false, true, false, false, false, false] rfl rfl (by kernel_rfl) (fun _ _ _ h => h) (Or.inl ⟨by rfl, ?_⟩) hHeld ?_ ?_
 rotate_left
 ·
  rintro w' ⟨s0, s1, s2, s3, s4, s5, s6, s7⟩
  go_simp
  with_reducible rfl
 rotate_left
 ·
  simp only [Act.put, List.setIfInBounds_toArray, List.set_cons_zero, List.set_cons_succ, i64_w, i32_w]
  rfl
 refine one_ (i := 1) (N := some 6) #[true, true, true, false, false, false, false] rfl rfl (by kernel_rfl) (by decide) (fun K hK => ?_)
 refine gS Tryz.func50 #[.agg #[.int .i64 a0_0, .string a0_1, .int .i64 a0_2, .bool a0_3]] ?_
 with_reducible refine (row_of.calls a0_0 a0_1 a0_2 a0_3 t116 t117 _ A3.out).mono ?_
 rintro e w9 ⟨rfl, hb⟩
 refine ⟨_, rfl, ?_⟩
 replace BK114 := cB BK114 hb
 replace BK115 := cB BK115 hb
 replace HB := Aside0.mk (below_step bl hb)
 (try clear hb)
 refine hK.out _ _ ⟨(blk_cell BK114.out 0).trans rfl, (blk_cell BK114.out 1).trans rfl, (blk_cell BK114.out 2).trans rfl, (blk_cell BK114.out 3).trans rfl, (blk_cell BK115.out 0).trans rfl, (blk_cell BK115.out 1).trans rfl, (blk_cell BK115.out 2).trans rfl, (blk_cell BK115.out 3).trans rfl⟩ (fun hHeld => ?_)
 clear hK K
 refine norm_ (a' := ?_) ?_ ?_
 rotate_left
 ·
  show Act.put _ (some 6) _ = _
  simp only [Act.put, List.setIfInBounds_toArray, List.set_cons_zero, List.set_cons_succ, i64_w, i32_w]
  rfl
 refine one_ (i := 3) (N := some 8) #[true, true, true, true, false, false, false] rfl rfl (by kernel_rfl) (by decide) (fun K hK => ?_)
 refine gS Tryz.func50 #[.agg #[.int .i64 a1_0, .string a1_1, .int .i64 a1_2, .bool a1_3]] ?_
 with_reducible refine (row_of.calls a1_0 a1_1 a1_2 a1_3 t118 t119 _ A4.out).mono ?_
 rintro e w10 ⟨rfl, hb⟩
 refine ⟨_, rfl, ?_⟩
 replace BK114 := cB BK114 hb
 replace BK115 := cB BK115 hb
 replace HB := Aside0.mk (below_step bl hb)
 (try clear hb)
 refine hK.out _ _ ⟨(blk_cell BK114.out 0).trans rfl, (blk_cell BK114.out 1).trans rfl, (blk_cell BK114.out 2).trans rfl, (blk_cell BK114.out 3).trans rfl, (blk_cell BK115.out 0).trans rfl, (blk_cell BK115.out 1).trans rfl, (blk_cell BK115.out 2).trans rfl, (blk_cell BK115.out 3).trans rfl⟩ (fun hHeld => ?_)
 clear hK K
 refine norm_ (a' := ?_) ?_ ?_
 rotate_left
 ·
  show Act.put _ (some 8) _ = _
  simp only [Act.put, List.setIfInBounds_toArray, List.set_cons_zero, List.set_cons_succ, i64_w, i32_w]
  rfl
 refine one_ (i := 4) (N := some 9) #[true, true, true, true, true, false, false] rfl rfl (by kernel_rfl) (by decide) (fun K hK => ?_)
 refine gS Tryz.func49 #[.agg #[.int .i64 t116, .string t117], .agg #[.int .i64 t118, .string t119]] ?_
 with_reducible refine (row_order.calls k t116 t117 t118 t119 t120 _ A5.out).mono ?_
 rintro e w11 ⟨rfl, hb⟩
 refine ⟨_, rfl, ?_⟩
 replace BK114 := cB BK114 hb
 replace BK115 := cB BK115 hb
 replace HB := Aside0.mk (below_step bl hb)
 (try clear hb)
 refine hK.out _ _ ⟨(blk_cell BK114.out 0).trans rfl, (blk_cell BK114.out 1).trans rfl, (blk_cell BK114.out 2).trans rfl, (blk_cell BK114.out 3).trans rfl, (blk_cell BK115.out 0).trans rfl, (blk_cell BK115.out 1).trans rfl, (blk_cell BK115.out 2).trans rfl, (blk_cell BK115.out 3).trans rfl⟩ (fun hHeld => ?_)
 clear hK K
 refine norm_ (a' := ?_) ?_ ?_
 rotate_left
 ·
  show Act.put _ (some 9) _ = _
  simp only [Act.put, List.setIfInBounds_toArray, List.set_cons_zero, List.set_cons_succ, i64_w, i32_w]
  rfl
 refine pure_ (i := 5) (N := some 10) (v := ?_) (a' := ?_) #[true, true, true, true, true, true, false] rfl rfl (by kernel_rfl) (fun _ _ _ h => h) (Or.inl ⟨by rfl, ?_⟩) ?_ ?_
 rotate_left
 ·
  intro w'
  go_simp
  with_reducible rfl
 rotate_left
 ·
  simp only [Act.put, List.setIfInBounds_toArray, List.set_cons_zero, List.set_cons_succ, i64_w, i32_w]
  rfl
 refine pure_ (i := 6) (N := some 4) (v := ?_) (a' := ?_) #[true, true, true, true, true, true, true] rfl rfl (by kernel_rfl) (fun _ _ _ h => h) (Or.inl ⟨by rfl, ?_⟩) ?_ ?_
 rotate_left
 ·
  intro w'
  go_simp
  with_reducible rfl
 rotate_left
 ·
  simp only [Act.put, List.setIfInBounds_toArray, List.set_cons_zero, List.set_cons_succ, i64_w, i32_w]
  rfl
 refine done_ (by kernel_rfl) ?_
 try go_wp2
 go_ret
 exact ⟨re_, bl⟩
def row_rise.l0 : Nat → List (S45) → Int → Option (Bool)
 | 0, _, _ => none
 | k + 1, x0, x3 => if x3 < (x0.length : Int) then (if 0 ≤ (wrap64 (x3 - 1)) then (if (wrap64 (x3 - 1)) < (x0.length : Int) then (if 0 ≤ x3 then ((row_Before.f k ((rd_T45 x0 (wrap64 (x3 - 1))).f0) ((rd_T45 x0 (wrap64 (x3 - 1))).f1) ((rd_T45 x0 (wrap64 (x3 - 1))).f2.f0) ((rd_T45 x0 (wrap64 (x3 - 1))).f2.f1) ((rd_T45 x0 x3).f0) ((rd_T45 x0 x3).f1) ((rd_T45 x0 x3).f2.f0) ((rd_T45 x0 x3).f2.f1)).bind fun t123 => (if t123 = true then (row_rise.l0 k x0 (wrap64 (x3 + 1))) else (some false))) else (none)) else (none)) else (none)) else (some true)
def row_rise.f (k : Nat) (l0 : List (S45)) : Option (Bool) := row_rise.l0 k l0 1
theorem row_rise.mono_l : ∀ k, (∀ y0 y1, LeC (row_rise.l0 k y0 y1) (row_rise.l0 (k + 1) y0 y1))
 | 0 => fun _ _ => ⟨fun r h => by simp [row_rise.l0] at h⟩
 | k + 1 => by have ih0 := row_rise.mono_l k; exact fun _ _ => by unfold row_rise.l0; exact lm
theorem row_rise.mono : ∀ a0 k, LeO (row_rise.f k a0) (row_rise.f (k + 1) a0) := by
 intro a0 k
 have ih0 := row_rise.mono_l k
 unfold row_rise.f
 exact lo
instance row_rise.mI {a0 k} : LeC (row_rise.f k a0) (row_rise.f (k + 1) a0) := ⟨row_rise.mono _ _⟩
def row_rise.T4 : Bool × List (List Nat × List Nat) := (true, [([], []), ([], []), ([1], [1]), ([0, 2], [0, 2]), ([3], [3]), ([], []), ([], []), ([5, 6], [5, 6]), ([7], [7]), ([4, 8], [4, 8]), ([9], [9])])
def row_rise.B4 : List Nat := [0, 0, 2, 7, 15, 0, 0, 96, 224, 511, 1023]
theorem row_rise.tab4 : rtab .any (opsOf Tryz.f45 4) = row_rise.T4 := by kernel_rfl
theorem row_rise.bits4 : waitsOk row_rise.T4.2 row_rise.B4 = true := by kernel_rfl
theorem row_rise.calls (k : Nat) (A0 : Option Addr) (c0 : Nat) (l0 : List (S45)) (r : Bool) (w : World) (hr0 : Kd.C k45 w A0 l0.length l0) (hc0 : l0.length ≤ c0) (h : row_rise.f k l0 = some r) :
 Calls Tryz.prog 45 #[.slice A0 l0.length c0] w fun e w' => e = .returned (.bool r) ∧ Below w.heap.size w w' := by
 have hu45 := Tryz.underlying45
 have HR0 := Aside0.mk hr0
 have HC0 := Aside0.mk hc0
 clear hr0 hc0
 have HB := Aside0.mk (Below.refl w.heap.size w)
 have H : (row_rise.l0 k l0 1) = some r := h
 clear h
 have H' := Aside0.mk H
 clear H
 go_enter Tryz.func45, Tryz.ntmps45
 go_wp2
 go_loopg [3] k (fun kq v3 w' => ∃ (x3_1 : Int), v3 = .int .i64 x3_1 ∧ Aside0 (row_rise.l0 kq l0 x3_1 = some r) ∧ Aside0 (kq ≤ k) ∧ Aside0 (Below w.heap.size w w'))
 case atStart => exact ⟨(1), rs_, H', ⟨Nat.le_refl _⟩, ⟨uW HB.out⟩⟩
 case round =>
  clear H'
  obtain ⟨x3_1, rfl, HA, HK1, HB⟩ := hrel
  cases gk with
  | zero => exact absurd HA.out (by simp [row_rise.l0])
  | succ k1 =>
   have H := HA.out
   clear HA
   simp only [row_rise.l0] at H
   by_cases c2 : x3_1 < (l0.length : Int)
   ·
    rw [if_pos c2] at H
    have c2b0 : decide (x3_1 < (l0.length : Int)) = true := decide_eq_true c2
    clear c2
    obtain ⟨ji3, hji3⟩ : ∃ j_ : Int, (wrap64 (x3_1 - 1)) = j_ := ⟨_, rfl⟩
    (first | rw [hji3] at H | simp only [hji3] at H)
    have hji3w : (IntKind.i64.wrap (x3_1 - 1)) = ji3 := (i64_w _).trans hji3
    obtain ⟨c4b0, H⟩ := gdd H
    obtain ⟨c5b0, H⟩ := gdd H
    obtain ⟨c6b0, H⟩ := gdd H
    obtain ⟨t123, A7, H⟩ := bs H
    try dsimp only at H
    by_cases c8 : t123 = true
    ·
     subst c8
     rw [if_pos rfl] at H
     have H' := Aside0.mk H
     clear H
     try go_wp2
     replace HB := Aside0.mk (below_drew1 HB.out)
     have p121 : 0 ≤ ((ji3) : Int) := od
     have q121 : (ji3) < (l0.length : Int) := od
     obtain ⟨ad121, e121, hx121_0, hx121_1, hx121_2, hx121_3⟩ := at_T45 HR0.out (ji3) p121 q121
     have hw121_3 := hx121_3
     have hw121_2 := hx121_2
     have hw121_1 := hx121_1
     have hw121_0 := hx121_0
     cases e121
     replace hx121_0 := kc HB hx121_0
     replace hx121_1 := kc HB hx121_1
     replace hx121_2 := kc HB hx121_2
     replace hx121_3 := kc HB hx121_3
     replace p121 := eq_true p121
     replace q121 := eq_true q121
     have p122 : 0 ≤ (x3_1 : Int) := od
     have q122 : x3_1 < (l0.length : Int) := od
     obtain ⟨ad122, e122, hx122_0, hx122_1, hx122_2, hx122_3⟩ := at_T45 HR0.out x3_1 p122 q122
     have hw122_3 := hx122_3
     have hw122_2 := hx122_2
     have hw122_1 := hx122_1
     have hw122_0 := hx122_0
     obtain rfl : ad121 = ad122 := (by injection e122)
     replace hx122_0 := kc HB hx122_0
     replace hx122_1 := kc HB hx122_1
     replace hx122_2 := kc HB hx122_2
     replace hx122_3 := kc HB hx122_3
     replace p122 := eq_true p122
     replace q122 := eq_true q122
     refine start_ (n := 11) (S := fun w' => w'.cell? (ad121.add (((ji3)).toNat * 4)) = some (.int .i64 ((rd_T45 l0 (ji3)).f0)) ∧ w'.cell? ⟨(ad121.add (((ji3)).toNat * 4)).block, (ad121.add (((ji3)).toNat * 4)).off + 1, none⟩ = some (.string ((rd_T45 l0 (ji3)).f1)) ∧ w'.cell? ⟨(ad121.add (((ji3)).toNat * 4)).block, (ad121.add (((ji3)).toNat * 4)).off + 2, none⟩ = some (.int .i64 ((rd_T45 l0 (ji3)).f2.f0)) ∧ w'.cell? ⟨(ad121.add (((ji3)).toNat * 4)).block, (ad121.add (((ji3)).toNat * 4)).off + 3, none⟩ = some (.bool ((rd_T45 l0 (ji3)).f2.f1)) ∧ w'.cell? (ad121.add ((x3_1).toNat * 4)) = some (.int .i64 ((rd_T45 l0 x3_1).f0)) ∧ w'.cell? ⟨(ad121.add ((x3_1).toNat * 4)).block, (ad121.add ((x3_1).toNat * 4)).off + 1, none⟩ = some (.string ((rd_T45 l0 x3_1).f1)) ∧ w'.cell? ⟨(ad121.add ((x3_1).toNat * 4)).block, (ad121.add ((x3_1).toNat * 4)).off + 2, none⟩ = some (.int .i64 ((rd_T45 l0 x3_1).f2.f0)) ∧ w'.cell? ⟨(ad121.add ((x3_1).toNat * 4)).block, (ad121.add ((x3_1).toNat * 4)).off + 3, none⟩ = some (.bool ((rd_T45 l0 x3_1).f2.f1))) (ds := []) _ (by kernel_rfl) rfl rfl ⟨(kc HB hw121_0), (kc HB hw121_1), (kc HB hw121_2), (kc HB hw121_3), (kc HB hw122_0), (kc HB hw122_1), (kc HB hw122_2), (kc HB hw122_3)⟩ (fun hHeld => ?_); refine with_tabW row_rise.tab4 row_rise.bits4 (fun HT_ HW_ => ?_)
     generalize wr.drew = w9 at HB hx121_0 hx121_1 hx121_2 hx121_3 hx122_0 hx122_1 hx122_2 hx122_3 hHeld ⊢
     refine p1 0 (some 10) ?_
     refine p1 1 (some 11) ?_
     refine p1 2 (some 12) ?_
     refine p1 3 (some 13) ?_
     refine p1 5 (some 15) ?_
     refine p1 6 (some 16) ?_
     refine p1 7 (some 17) ?_
     refine t1 4 (some 14) rfl rfl hHeld (Or.inl ⟨by rfl, by rintro w' ⟨s0, s1, s2, s3, s4, s5, s6, s7⟩; go_simp; with_reducible rfl⟩) ?_
     refine t1 8 (some 18) rfl rfl hHeld (Or.inl ⟨by rfl, by rintro w' ⟨s0, s1, s2, s3, s4, s5, s6, s7⟩; go_simp; with_reducible rfl⟩) ?_
     refine o1 9 (some 19) rfl rfl (fun K hK => ?_)
     refine goes_ Tryz.func25 (by kernel_rfl) rfl #[.agg #[.int .i64 ((rd_T45 l0 (ji3)).f0), .string ((rd_T45 l0 (ji3)).f1), .int .i64 ((rd_T45 l0 (ji3)).f2.f0), .bool ((rd_T45 l0 (ji3)).f2.f1)], .agg #[.int .i64 ((rd_T45 l0 x3_1).f0), .string ((rd_T45 l0 x3_1).f1), .int .i64 ((rd_T45 l0 x3_1).f2.f0), .bool ((rd_T45 l0 x3_1).f2.f1)]] (by rfl) rfl rfl (by (try simp only [List.map_toArray, List.map_cons, List.map_nil]); first | done | (simp only [hji3]; rfl) | rfl | (simp only [List.length_drop, List.length_take]; rfl)) ?_
     with_reducible refine (row_Before.calls k1 ((rd_T45 l0 (ji3)).f0) ((rd_T45 l0 (ji3)).f1) ((rd_T45 l0 (ji3)).f2.f0) ((rd_T45 l0 (ji3)).f2.f1) ((rd_T45 l0 x3_1).f0) ((rd_T45 l0 x3_1).f1) ((rd_T45 l0 x3_1).f2.f0) ((rd_T45 l0 x3_1).f2.f1) true _ A7.out).mono ?_
     rintro e w10 ⟨rfl, hb⟩
     refine ⟨_, rfl, ?_⟩
     replace HB := cW HB hb
     (try clear hb)
     refine hK.out _ _ ⟨(kc HB hw121_0), (kc HB hw121_1), (kc HB hw121_2), (kc HB hw121_3), (kc HB hw122_0), (kc HB hw122_1), (kc HB hw122_2), (kc HB hw122_3)⟩ (fun hHeld => ?_)
     clear hK K
     refine norm_ (a' := ?_) ?_ ?_
     rotate_left
     ·
      show Act.put _ (some 19) _ = _
      simp only [Act.put, List.setIfInBounds_toArray, List.set_cons_zero, List.set_cons_succ, i64_w, i32_w]
      rfl
     refine p1 10 (some 20) ?_
     refine done_ (done_of HT_.out (by kernel_rfl)) ?_
     try go_wp2
     go_roundg k1
     case measure => have := HK1.out; omega
     case rel => exact ⟨(wrap64 (x3_1 + 1)), rs_, H', ⟨by have := HK1.out; omega⟩, ⟨uW HB.out⟩⟩
    ·
     replace c8 := Bool.eq_false_iff.mpr c8
     subst c8
     rw [if_neg (show ¬ (false = true) by decide)] at H
     obtain rfl := Option.some.inj H
     try go_wp2
     replace HB := Aside0.mk (below_drew1 HB.out)
     have p121 : 0 ≤ ((ji3) : Int) := od
     have q121 : (ji3) < (l0.length : Int) := od
     obtain ⟨ad121, e121, hx121_0, hx121_1, hx121_2, hx121_3⟩ := at_T45 HR0.out (ji3) p121 q121
     have hw121_3 := hx121_3
     have hw121_2 := hx121_2
     have hw121_1 := hx121_1
     have hw121_0 := hx121_0
     cases e121
     replace hx121_0 := kc HB hx121_0
     replace hx121_1 := kc HB hx121_1
     replace hx121_2 := kc HB hx121_2
     replace hx121_3 := kc HB hx121_3
     replace p121 := eq_true p121
     replace q121 := eq_true q121
     have p122 : 0 ≤ (x3_1 : Int) := od
     have q122 : x3_1 < (l0.length : Int) := od
     obtain ⟨ad122, e122, hx122_0, hx122_1, hx122_2, hx122_3⟩ := at_T45 HR0.out x3_1 p122 q122
     have hw122_3 := hx122_3
     have hw122_2 := hx122_2
     have hw122_1 := hx122_1
     have hw122_0 := hx122_0
     obtain rfl : ad121 = ad122 := (by injection e122)
     replace hx122_0 := kc HB hx122_0
     replace hx122_1 := kc HB hx122_1
     replace hx122_2 := kc HB hx122_2
     replace hx122_3 := kc HB hx122_3
     replace p122 := eq_true p122
     replace q122 := eq_true q122
     refine start_ (n := 11) (S := fun w' => w'.cell? (ad121.add (((ji3)).toNat * 4)) = some (.int .i64 ((rd_T45 l0 (ji3)).f0)) ∧ w'.cell? ⟨(ad121.add (((ji3)).toNat * 4)).block, (ad121.add (((ji3)).toNat * 4)).off + 1, none⟩ = some (.string ((rd_T45 l0 (ji3)).f1)) ∧ w'.cell? ⟨(ad121.add (((ji3)).toNat * 4)).block, (ad121.add (((ji3)).toNat * 4)).off + 2, none⟩ = some (.int .i64 ((rd_T45 l0 (ji3)).f2.f0)) ∧ w'.cell? ⟨(ad121.add (((ji3)).toNat * 4)).block, (ad121.add (((ji3)).toNat * 4)).off + 3, none⟩ = some (.bool ((rd_T45 l0 (ji3)).f2.f1)) ∧ w'.cell? (ad121.add ((x3_1).toNat * 4)) = some (.int .i64 ((rd_T45 l0 x3_1).f0)) ∧ w'.cell? ⟨(ad121.add ((x3_1).toNat * 4)).block, (ad121.add ((x3_1).toNat * 4)).off + 1, none⟩ = some (.string ((rd_T45 l0 x3_1).f1)) ∧ w'.cell? ⟨(ad121.add ((x3_1).toNat * 4)).block, (ad121.add ((x3_1).toNat * 4)).off + 2, none⟩ = some (.int .i64 ((rd_T45 l0 x3_1).f2.f0)) ∧ w'.cell? ⟨(ad121.add ((x3_1).toNat * 4)).block, (ad121.add ((x3_1).toNat * 4)).off + 3, none⟩ = some (.bool ((rd_T45 l0 x3_1).f2.f1))) (ds := []) _ (by kernel_rfl) rfl rfl ⟨(kc HB hw121_0), (kc HB hw121_1), (kc HB hw121_2), (kc HB hw121_3), (kc HB hw122_0), (kc HB hw122_1), (kc HB hw122_2), (kc HB hw122_3)⟩ (fun hHeld => ?_); refine with_tabW row_rise.tab4 row_rise.bits4 (fun HT_ HW_ => ?_)
     generalize wr.drew = w11 at HB hx121_0 hx121_1 hx121_2 hx121_3 hx122_0 hx122_1 hx122_2 hx122_3 hHeld ⊢
     refine p1 0 (some 10) ?_
     refine p1 1 (some 11) ?_
     refine p1 2 (some 12) ?_
     refine p1 3 (some 13) ?_
     refine p1 5 (some 15) ?_
     refine p1 6 (some 16) ?_
     refine p1 7 (some 17) ?_
     refine t1 4 (some 14) rfl rfl hHeld (Or.inl ⟨by rfl, by rintro w' ⟨s0, s1, s2, s3, s4, s5, s6, s7⟩; go_simp; with_reducible rfl⟩) ?_
     refine t1 8 (some 18) rfl rfl hHeld (Or.inl ⟨by rfl, by rintro w' ⟨s0, s1, s2, s3, s4, s5, s6, s7⟩; go_simp; with_reducible rfl⟩) ?_
     refine o1 9 (some 19) rfl rfl (fun K hK => ?_)
     refine goes_ Tryz.func25 (by kernel_rfl) rfl #[.agg #[.int .i64 ((rd_T45 l0 (ji3)).f0), .string ((rd_T45 l0 (ji3)).f1), .int .i64 ((rd_T45 l0 (ji3)).f2.f0), .bool ((rd_T45 l0 (ji3)).f2.f1)], .agg #[.int .i64 ((rd_T45 l0 x3_1).f0), .string ((rd_T45 l0 x3_1).f1), .int .i64 ((rd_T45 l0 x3_1).f2.f0), .bool ((rd_T45 l0 x3_1).f2.f1)]] (by rfl) rfl rfl (by (try simp only [List.map_toArray, List.map_cons, List.map_nil]); first | done | (simp only [hji3]; rfl) | rfl | (simp only [List.length_drop, List.length_take]; rfl)) ?_
     with_reducible refine (row_Before.calls k1 ((rd_T45 l0 (ji3)).f0) ((rd_T45 l0 (ji3)).f1) ((rd_T45 l0 (ji3)).f2.f0) ((rd_T45 l0 (ji3)).f2.f1) ((rd_T45 l0 x3_1).f0) ((rd_T45 l0 x3_1).f1) ((rd_T45 l0 x3_1).f2.f0) ((rd_T45 l0 x3_1).f2.f1) false _ A7.out).mono ?_
     rintro e w12 ⟨rfl, hb⟩
     refine ⟨_, rfl, ?_⟩
     replace HB := cW HB hb
     (try clear hb)
     refine hK.out _ _ ⟨(kc HB hw121_0), (kc HB hw121_1), (kc HB hw121_2), (kc HB hw121_3), (kc HB hw122_0), (kc HB hw122_1), (kc HB hw122_2), (kc HB hw122_3)⟩ (fun hHeld => ?_)
     clear hK K
     refine norm_ (a' := ?_) ?_ ?_
     rotate_left
     ·
      show Act.put _ (some 19) _ = _
      simp only [Act.put, List.setIfInBounds_toArray, List.set_cons_zero, List.set_cons_succ, i64_w, i32_w]
      rfl
     refine p1 10 (some 20) ?_
     refine done_ (done_of HT_.out (by kernel_rfl)) ?_
     try go_wp2
     go_ret
     exact ⟨by first | rfl | (simp [errW_none, errW_some] <;> rfl) | (simp only [← hji3]; first | rfl | (simp [errW_none, errW_some] <;> rfl)) | (simp [*, errW_none, errW_some] <;> rfl), uW HB.out⟩
   ·
    rw [if_neg c2] at H
    have c2b0 : decide (x3_1 < (l0.length : Int)) = false := decide_eq_false c2
    clear c2
    obtain rfl := Option.some.inj H
    go_wp2
    go_ret
    exact ⟨re_, uW HB.out⟩
def api_Row_64.Fn (g : Nat) (lb : Array Value) (p : S45 → Bool) (l : List (S45)) (w : World) : Prop :=
 ∀ (W : World) (x : S45), x ∈ l → Below w.heap.size w W → Calls Tryz.prog g (#[.agg #[.int .i64 x.f0, .string x.f1, .int .i64 x.f2.f0, .bool x.f2.f1]] ++ lb) W fun e w' => e = .returned (.bool (p x)) ∧ Below W.heap.size W w'
def api_Row_64.idx (p : S45 → Bool) : List (S45) → Nat → Int
 | [], _ => -1
 | x :: l, i => if p x = true then (i : Int) else api_Row_64.idx p l (i + 1)
theorem api_Row_64.idx_miss {p : S45 → Bool} : ∀ {l : List (S45)} {i : Nat}, api_Row_64.idx p l i = -1 ∨ (i : Int) ≤ api_Row_64.idx p l i
 | [], _ => .inl rfl
 | x :: l, i => by
  unfold api_Row_64.idx
  split
  ·
   exact .inr (Int.le_refl _)
  ·
   rcases api_Row_64.idx_miss (p := p) (l := l) (i := i + 1) with h | h
   ·
    exact .inl h
   ·
    exact .inr (by omega)
theorem api_Row_64.idx_any (p : S45 → Bool) : ∀ (l : List (S45)) (i : Nat), decide (0 ≤ api_Row_64.idx p l i) = l.any p
 | [], _ => rfl
 | x :: l, i => by
  unfold api_Row_64.idx
  by_cases h : p x = true
  ·
   rw [if_pos h, List.any_cons, h, Bool.true_or]
   exact decide_eq_true (by omega)
  ·
   rw [if_neg h, api_Row_64.idx_any p l (i + 1), List.any_cons, Bool.eq_false_iff.2 h, Bool.false_or]
set_option maxHeartbeats 2000000 in
theorem api_Row_64.calls (g : Nat) (lb : Array Value) (eg : ∀ args w, (callFunc g args).run Tryz.prog w = .ok (.enter g args) w) (p : S45 → Bool) (A0 : Option Addr) (c0 : Nat) (l0 : List (S45)) (w : World) (hr0 : Kd.C k45 w A0 l0.length l0) (hp : api_Row_64.Fn g lb p l0 w) :
 Calls Tryz.prog 64 #[.slice A0 l0.length c0, .func (.func g) #[] lb] w fun e w' => e = .returned (.int .i64 (api_Row_64.idx p l0 0)) ∧ Below w.heap.size w w' := by
 have hu45 := Tryz.underlying45
 have HR0 := Aside0.mk hr0
 have HP := Aside0.mk hp
 have HL := Aside0.mk hr0.2.1
 clear hr0 hp
 go_enter Tryz.func64, Tryz.ntmps64
 go_wp2
 go_loopg [5, 8] l0.length (fun gg _ v8 wr => ∃ x : Int, v8 = .int .i64 x ∧ Aside0 (0 ≤ x) ∧ Aside0 (x ≤ (l0.length : Int)) ∧ Aside0 ((l0.length : Int) - x ≤ gg) ∧ Aside0 (api_Row_64.idx p l0 0 = api_Row_64.idx p (l0.drop x.toNat) x.toNat) ∧ Aside0 (Below w.heap.size w wr))
 case atStart => exact ⟨0, rfl, ⟨by omega⟩, ⟨by omega⟩, ⟨by omega⟩, ⟨rfl⟩, ⟨Below.refl _ _⟩⟩
 case round =>
  obtain ⟨x, rfl, H0, H1, HG, HI, HB⟩ := hrel
  by_cases hlt : x < (l0.length : Int)
  ·
   have p101 : 0 ≤ x := H0.out
   obtain ⟨ad101, e101, hx101_0, hx101_1, hx101_2, hx101_3⟩ := at_T45 HR0.out x p101 hlt
   cases e101
   have hy101_0 := kc HB hx101_0
   clear hx101_0
   have hy101_1 := kc HB hx101_1
   clear hx101_1
   have hy101_2 := kc HB hx101_2
   clear hx101_2
   have hy101_3 := kc HB hx101_3
   clear hx101_3
   have HN : Aside0 (x.toNat < l0.length) := ⟨by omega⟩
   have hget : rd_T45 l0 x = l0[x.toNat]'HN.out := by
    show l0.getD x.toNat _ = _
    rw [List.getD_eq_getElem?_getD, List.getElem?_eq_getElem HN.out, Option.getD_some]
   have hcall := HP.out wr (rd_T45 l0 x) (by rw [hget]; exact List.getElem_mem HN.out) HB.out
   have HGE := Aside0.mk hget
   clear hget
   have c1b0 : decide (x < (l0.length : Int)) = true := decide_eq_true hlt
   have pi101 : (0 ≤ (x : Int)) = True := eq_true p101
   have qi101 : (x < (l0.length : Int)) = True := eq_true hlt
   have HLT := Aside0.mk hlt
   clear hlt p101
   cases hq : p (rd_T45 l0 x) with
   | true =>
    rw [hq] at hcall
    have HQ := Aside0.mk hq
    clear hq
    go_wp2_with (go_at_fn g; refine hcall.mono ?_; rintro e w' ⟨rfl, hb'⟩)
    go_ret
    refine ⟨?_, HB.out.trans (hb'.mono HB.out.size)⟩
    rw [HI.out, List.drop_eq_getElem_cons HN.out]
    unfold api_Row_64.idx
    rw [if_pos (by rw [← HGE.out]; exact HQ.out), Int.toNat_of_nonneg H0.out]
    rfl
   | false =>
    rw [hq] at hcall
    have HQ := Aside0.mk hq
    clear hq
    go_wp2_with (go_at_fn g; refine hcall.mono ?_; rintro e w' ⟨rfl, hb'⟩)
    have hw : wrap64 (x + 1) = x + 1 := by have := HLT.out; have := HL.out; have := H0.out; unfold wrap64; omega
    (try rw [hw])
    clear hw
    go_roundg (l0.length - (x.toNat + 1))
    case measure => have := HLT.out; have := HG.out; have := H0.out; omega
    case rel =>
     refine ⟨x + 1, by first | rfl | (have := HLT.out; have := HL.out; have := H0.out; simp; unfold wrap64; omega), ⟨by have := H0.out; omega⟩, ⟨by have := HLT.out; omega⟩, ⟨by have := HLT.out; have := H0.out; omega⟩, ⟨?_⟩, ⟨HB.out.trans (hb'.mono HB.out.size)⟩⟩
     rw [HI.out, List.drop_eq_getElem_cons HN.out, show (x + 1).toNat = x.toNat + 1 from by have := H0.out; omega]
     conv => lhs; unfold api_Row_64.idx
     rw [if_neg (by rw [← HGE.out, HQ.out]; simp)]
  ·
   have hx : x = (l0.length : Int) := by have := H1.out; omega
   have c1b0 : decide (x < (l0.length : Int)) = false := decide_eq_false hlt
   clear hlt
   have HX := Aside0.mk hx
   clear hx
   go_wp2
   go_ret
   refine ⟨?_, HB.out⟩
   rw [HI.out, HX.out, Int.toNat_natCast, List.drop_of_length_le (Nat.le_refl _)]
   rfl
set_option maxHeartbeats 2000000 in
theorem api_Row_46.calls (g : Nat) (lb : Array Value) (eg : ∀ args w, (callFunc g args).run Tryz.prog w = .ok (.enter g args) w) (p : S45 → Bool) (A0 : Option Addr) (c0 : Nat) (l0 : List (S45)) (w : World) (hr0 : Kd.C k45 w A0 l0.length l0) (hp : api_Row_64.Fn g lb p l0 w) :
 Calls Tryz.prog 46 #[.slice A0 l0.length c0, .func (.func g) #[] lb] w fun e w' => e = .returned (.bool (l0.any p)) ∧ Below w.heap.size w w' := by
 have hcall := fun W => api_Row_64.calls g lb eg p A0 c0 l0 W
 rw [← api_Row_64.idx_any p l0 0]
 generalize api_Row_64.idx p l0 0 = r at hcall ⊢
 go_enter Tryz.func46, Tryz.ntmps46
 go_wp2_with (go_at_call 64; refine (hcall _ hr0 hp).mono ?_; rintro e w' ⟨rfl, hb'⟩)
 go_ret
 exact ⟨rfl, hb'⟩
def strings_IndexByte.f (a0 : ByteArray) (a1 : Int) : Option (Int) := some (Lib.indexByte a0.data.toList a1.toNat.toUInt8)
theorem strings_IndexByte.calls (a0 : ByteArray) (a1 : Int) (r : Int) (w : World) (h : strings_IndexByte.f a0 a1 = some r) :
 Calls Tryz.prog 56 #[.string a0, .int .u8 a1] w fun e w' => e = .returned (.int .i64 r) ∧ Drawn0 w w' := by
 obtain rfl := Option.some.inj h
 exact (Tryz.strings_IndexByte a0 a1 w).mono fun e w' hh => ⟨hh.1, hh.2 ▸ Drawn0.refl _⟩
def word_Split.l0 : Nat → ByteArray → Int → List ByteArray → Option (List ByteArray)
 | 0, _, _, _ => none
 | k + 1, x0, x1, x4 => (strings_IndexByte.f x0 x1).bind fun t124 => (if t124 < 0 then (if x4.length < 8796093022208 then (some (x4 ++ [x0])) else (none)) else (if 0 ≤ t124 then (if t124 ≤ (x0.size : Int) then (if x4.length < 8796093022208 then (if 0 ≤ (wrap64 (t124 + 1)) then (if (wrap64 (t124 + 1)) ≤ (x0.size : Int) then (word_Split.l0 k (x0.extract ((wrap64 (t124 + 1)) : Int).toNat x0.size) x1 (x4 ++ [x0.extract 0 (t124 : Int).toNat])) else (none)) else (none)) else (none)) else (none)) else (none)))
def word_Split.f (k : Nat) (a0 : ByteArray) (a1 : Int) : Option (List ByteArray) := word_Split.l0 k a0 a1 ([] : List ByteArray)
theorem word_Split.mono_l : ∀ k, (∀ y0 y1 y2, LeC (word_Split.l0 k y0 y1 y2) (word_Split.l0 (k + 1) y0 y1 y2))
 | 0 => fun _ _ _ => ⟨fun r h => by simp [word_Split.l0] at h⟩
 | k + 1 => by have ih0 := word_Split.mono_l k; exact fun _ _ _ => by unfold word_Split.l0; exact lm
theorem word_Split.mono : ∀ a0 a1 k, LeO (word_Split.f k a0 a1) (word_Split.f (k + 1) a0 a1) := by
 intro a0 a1 k
 have ih0 := word_Split.mono_l k
 unfold word_Split.f
 exact lo
instance word_Split.mI {a0 a1 k} : LeC (word_Split.f k a0 a1) (word_Split.f (k + 1) a0 a1) := ⟨word_Split.mono _ _ _⟩
def word_Split.T4 : Bool × List (List Nat × List Nat) := (true, [([], []), ([], []), ([], []), ([1, 2], [1, 2]), ([3], [3]), ([0, 4], [0, 4]), ([], []), ([], []), ([7], [7]), ([6, 8], [6, 8]), ([5, 5, 0, 1, 2, 3, 4, 5], [0, 5]), ([9, 10, 0, 1, 2, 3, 4, 5, 6, 7, 8, 9, 10], [1, 6, 9])])
def word_Split.B4 : List Nat := [0, 0, 0, 6, 14, 31, 0, 0, 128, 448, 63, 2047]
theorem word_Split.tab4 : rtab .any (opsOf Tryz.f39 4) = word_Split.T4 := by kernel_rfl
theorem word_Split.bits4 : waitsOk word_Split.T4.2 word_Split.B4 = true := by kernel_rfl
theorem word_Split.calls (k : Nat) (a0 : ByteArray) (a1 : Int) (r : List ByteArray) (w : World) (h : word_Split.f k a0 a1 = some r) :
 Calls Tryz.prog 39 #[.string a0, .int .u8 a1] w fun e w' => ∃ v0_ : Value, e = .returned (v0_) ∧ Kd.R Kd.string 9 w' w.heap.size (fun _ => True) v0_ r ∧ Below w.heap.size w w' := by
 have HB := Aside0.mk (Below.refl w.heap.size w)
 have H : (word_Split.l0 k a0 a1 ([] : List ByteArray)) = some r := h
 clear h
 have H' := Aside0.mk H
 clear H
 go_enter Tryz.func39, Tryz.ntmps39
 go_wp2
 go_loopg [0, 4] k (fun kq v0 v4 w' => ∃ (x0_1 : ByteArray) (x4_1 : List ByteArray), v0 = .string x0_1 ∧ Aside0 (word_Split.l0 kq x0_1 a1 x4_1 = some r) ∧ Aside0 (kq ≤ k) ∧ Aside0 (Kd.R Kd.string 9 w' w.heap.size (fun _ => True) v4 x4_1) ∧ Aside0 (Below w.heap.size w w'))
 case atStart => exact ⟨(a0), (([] : List ByteArray)), rs_, H', ⟨Nat.le_refl _⟩, ⟨nl_⟩, ⟨uW HB.out⟩⟩
 case round =>
  clear H'
  try clear p2
  obtain ⟨x0_1, x4_1, rfl, HA, HK1, HO_4, HB⟩ := hrel
  cases gk with
  | zero => exact absurd HA.out (by simp [word_Split.l0])
  | succ k1 =>
   have H := HA.out
   clear HA
   simp only [word_Split.l0] at H
   obtain ⟨t124, A3, H⟩ := bs H
   try dsimp only at H
   by_cases c4 : t124 < 0
   ·
    rw [if_pos c4] at H
    have c4b0 : decide (t124 < 0) = true := decide_eq_true c4
    clear c4
    obtain ⟨c5, H⟩ := gd H
    have LMc5 := Aside0.mk c5
    clear c5
    obtain ⟨y125, hy125⟩ : ∃ y_ : List ByteArray, y_ = (x4_1 ++ [x0_1]) := ⟨_, rfl⟩
    replace H : (some y125) = some r := by first | (rw [hy125]; with_reducible exact H) | (have H2_ := (Option.bind_some _ _).symm.trans H; rw [hy125]; with_reducible exact H2_) | (have H2_ := (Option.bind_some _ _).symm.trans H; with_reducible exact H2_) | with_reducible exact H | (rw [hy125]; exact H) | exact H
    have Ny125 := Aside0.mk hy125
    clear hy125
    obtain rfl := Option.some.inj H
    go_wp2_with (first | (refine gL (some 8) rfl Tryz.func56 #[.string x0_1, .int .u8 a1] ?_; (with_reducible refine (strings_IndexByte.calls x0_1 a1 t124 _ A3.out).mono ?_); rintro e w' ⟨rfl, ⟨nd, rfl⟩⟩; refine ⟨_, rfl, ?_⟩) | ((with_reducible refine gate_builtin (b := .append) (xs := #[.tmp 11, .tmp 13]) rfl ?_); at_builtin; refine Kd.R_append Kd.string (w0 := w) w.heap.size rfl (.tmp 11) (.tmp 13) 52 9 (.string ⟨#[]⟩) 16 rfl Tryz.underlying52 info9 rfl (by decide) (by omega) u4 x4_1 x0_1 [.string x0_1] (fun _ => True) (fun _ => False) rfl rfl ?aP (fun _ hk => hk.elim) ?aF ?aO ?aB ?aS ?aL ?_; (case aP => exact rfl); (case aB => exact (uW HB.out)); (case aF => exact (fun _ _ => trivial)); (case aO => exact (uR HO_4.out)); (case aS => exact (below_size (uW HB.out))); (case aL => have := LMc5.out; omega); intro v126 w6 ho hb hg hat; rw [← Ny125.out] at ho; replace HB := Aside0.mk (hb); have HO127 := Aside0.mk (ho); clear HO_4; clear ho hb hg hat))
    go_ret
    exact ⟨_, re_, uR HO127.out, uW HB.out⟩
   ·
    rw [if_neg c4] at H
    have c4b0 : decide (t124 < 0) = false := decide_eq_false c4
    clear c4
    by_cases c7 : 0 ≤ t124
    ·
     rw [if_pos c7] at H
     have c7b0 := eq_true c7
     have c7b1 : decide (0 ≤ t124) = true := decide_eq_true c7
     clear c7
     obtain ⟨c8, H⟩ := gd H
     have c8b0 := eq_true c8
     have c8b1 : decide (t124 ≤ (x0_1.size : Int)) = true := decide_eq_true c8
     clear c8
     obtain ⟨c9, H⟩ := gd H
     have LMc9 := Aside0.mk c9
     clear c9
     obtain ⟨y128, hy128⟩ : ∃ y_ : List ByteArray, y_ = (x4_1 ++ [x0_1.extract 0 (t124 : Int).toNat]) := ⟨_, rfl⟩
     replace H : (if 0 ≤ (wrap64 (t124 + 1)) then (if (wrap64 (t124 + 1)) ≤ (x0_1.size : Int) then (word_Split.l0 k1 (x0_1.extract ((wrap64 (t124 + 1)) : Int).toNat x0_1.size) a1 y128) else (none)) else (none)) = some r := by first | (rw [hy128]; with_reducible exact H) | (have H2_ := (Option.bind_some _ _).symm.trans H; rw [hy128]; with_reducible exact H2_) | (have H2_ := (Option.bind_some _ _).symm.trans H; with_reducible exact H2_) | with_reducible exact H | (rw [hy128]; exact H) | exact H
     have Ny128 := Aside0.mk hy128
     clear hy128
     obtain ⟨ji10, hji10⟩ : ∃ j_ : Int, (wrap64 (t124 + 1)) = j_ := ⟨_, rfl⟩
     (first | rw [hji10] at H | simp only [hji10] at H)
     (try rw [hji10] at A3)
     have hji10w : (IntKind.i64.wrap (t124 + 1)) = ji10 := (i64_w _).trans hji10
     obtain ⟨c11, H⟩ := gd H
     have c11b0 := eq_true c11
     have c11b1 : decide (0 ≤ (ji10)) = true := decide_eq_true c11
     clear c11
     obtain ⟨c12, H⟩ := gd H
     have c12b0 := eq_true c12
     have c12b1 : decide ((ji10) ≤ (x0_1.size : Int)) = true := decide_eq_true c12
     clear c12
     have H' := Aside0.mk H
     clear H
     try go_wp2_with (first | (refine gL (some 8) rfl Tryz.func56 #[.string x0_1, .int .u8 a1] ?_; (with_reducible refine (strings_IndexByte.calls x0_1 a1 t124 _ A3.out).mono ?_); rintro e w' ⟨rfl, ⟨nd, rfl⟩⟩; refine ⟨_, rfl, ?_⟩))
     (try (rw [drewN_self wr]; generalize hq_ : World.drewN wr _ = wr; have n0_ : Aside0 (Kd.R Kd.string 9 wr w.heap.size (fun _ => True) u4 x4_1) := ⟨by rw [← hq_]; exact (uR HO_4.out)⟩; have n1_ : Aside0 (Below w.heap.size w wr) := ⟨by rw [← hq_]; exact (uW HB.out)⟩; clear HO_4 HB hq_; have HO_4 := n0_; have HB := n1_; clear n0_ n1_))
     replace HO_4 := Aside0.mk (Kd.R_drew HO_4.out)
     replace HB := Aside0.mk (below_drew1 HB.out)
     refine start_ (n := 12) (S := fun w' => True) (ds := []) _ (by kernel_rfl) rfl rfl trivial (fun hHeld => ?_); refine with_tabW word_Split.tab4 word_Split.bits4 (fun HT_ HW_ => ?_)
     generalize wr.drew = w13 at HO_4 HB hHeld ⊢
     refine p1 0 (some 15) ?_
     refine p1 1 (some 16) ?_
     refine p1 2 (some 17) ?_
     refine p1 3 (some 18) ?_
     refine p1 6 (some 21) ?_
     refine p1 7 (some 22) ?_
     refine p1 8 (some 23) ?_
     refine p1 9 (some 24) ?_
     refine o1 4 (some 19) rfl rfl (fun K hK => ?_)
     refine value_ (w1 := ?_) (v := ?_) (by rfl) rfl ?_ ?_
     rotate_left 2
     ·
      go_simp
      constructor
      ·
       rfl
      ·
       rfl
     refine hK.out _ _ trivial (fun hHeld => ?_)
     clear hK K
     refine norm_ (a' := ?_) ?_ ?_
     rotate_left
     ·
      show Act.put _ (some 19) _ = _
      simp only [Act.put, List.setIfInBounds_toArray, List.set_cons_zero, List.set_cons_succ, i64_w, i32_w]
      rfl
     refine o1 5 (some 20) rfl rfl (fun K hK => ?_)
     refine Kd.R_append_step Kd.string (w0 := w) w.heap.size (by rfl) (.tmp 15) (.tmp 19) 52 9 (.string ⟨#[]⟩) 16 rfl Tryz.underlying52 info9 rfl (by decide) (by omega) u4 x4_1 (x0_1.extract 0 (t124 : Int).toNat) [.string (x0_1.extract 0 (t124 : Int).toNat)] (fun _ => True) (fun _ => False) rfl rfl ?aP (fun _ hk => hk.elim) ?aF ?aO ?aB ?aS ?aL ?_
     (case aP => exact rfl)
     (case aB => exact (uW HB.out))
     (case aF => exact (fun _ _ => trivial))
     (case aO => exact (uR HO_4.out))
     (case aS => exact (below_size (uW HB.out)))
     (case aL => have := LMc9.out; omega)
     intro v129 w14 ho hb hg hat
     rw [← Ny128.out] at ho
     replace HB := Aside0.mk (hb)
     have HO130 := Aside0.mk (ho)
     clear HO_4
     clear ho hb hg hat
     refine hK.out _ _ trivial (fun hHeld => ?_)
     clear hK K
     refine norm_ (a' := ?_) ?_ ?_
     rotate_left
     ·
      show Act.put _ (some 20) _ = _
      simp only [Act.put, List.setIfInBounds_toArray, List.set_cons_zero, List.set_cons_succ, i64_w, i32_w]
      rfl
     refine p1 10 (some 4) ?_
     refine p1 11 (some 0) ?_
     refine done_ (done_of HT_.out (by kernel_rfl)) ?_
     try go_wp2
     go_roundg k1
     case measure => have := HK1.out; omega
     case rel => exact ⟨(x0_1.extract ((ji10) : Int).toNat x0_1.size), (y128), (by first | rfl | (simp; done) | (simp only [← hji10] <;> (first | rfl | simp)) | (simp [*]; done)), H', ⟨by have := HK1.out; omega⟩, ⟨uR HO130.out⟩, ⟨uW HB.out⟩⟩
    ·
     rw [if_neg c7] at H
     exact absurd H (by simp)
def strings_Cut.f (a0 : ByteArray) (a1 : ByteArray) : Option (ByteArray × ByteArray × Bool) := if a0.size < 4294967281 then (some ((⟨(Lib.cut a0.data.toList a1.data.toList).1.toArray⟩ : ByteArray), (⟨(Lib.cut a0.data.toList a1.data.toList).2.1.toArray⟩ : ByteArray), (Lib.cut a0.data.toList a1.data.toList).2.2)) else (none)
theorem strings_Cut.calls (a0 : ByteArray) (a1 : ByteArray) (r1 : ByteArray) (r2 : ByteArray) (r3 : Bool) (w : World) (hL : LD w) (h : strings_Cut.f a0 a1 = some (r1, r2, r3)) :
 Calls Tryz.prog 79 #[.string a0, .string a1] w fun e w' => e = .returned (.tuple #[.string r1, .string r2, .bool r3]) ∧ Drawn0 w w' := by
 unfold strings_Cut.f at h
 by_cases hc : a0.size < 4294967281
 ·
  rw [if_pos hc] at h
  injection h with h
  injection h with h1 h
  injection h with h2 h3
  subst h1 h2 h3
  obtain ⟨m, hm⟩ := hL.maxLen
  exact (Tryz.strings_Cut a0 a1 m w hc hm).mono fun e w' hh => ⟨hh.1, ⟨hh.2⟩⟩
 ·
  rw [if_neg hc] at h
  exact absurd h (by simp)
def api_Tag_119.Fn (g : Nat) (lb : Array Value) (p : S98 → Bool) (l : List (S98)) (w : World) : Prop :=
 ∀ (W : World) (x : S98), x ∈ l → Below w.heap.size w W → Calls Tryz.prog g (#[.agg #[.string x.f0, .string x.f1]] ++ lb) W fun e w' => e = .returned (.bool (p x)) ∧ Below W.heap.size W w'
def api_Tag_119.idx (p : S98 → Bool) : List (S98) → Nat → Int
 | [], _ => -1
 | x :: l, i => if p x = true then (i : Int) else api_Tag_119.idx p l (i + 1)
theorem api_Tag_119.idx_miss {p : S98 → Bool} : ∀ {l : List (S98)} {i : Nat}, api_Tag_119.idx p l i = -1 ∨ (i : Int) ≤ api_Tag_119.idx p l i
 | [], _ => .inl rfl
 | x :: l, i => by
  unfold api_Tag_119.idx
  split
  ·
   exact .inr (Int.le_refl _)
  ·
   rcases api_Tag_119.idx_miss (p := p) (l := l) (i := i + 1) with h | h
   ·
    exact .inl h
   ·
    exact .inr (by omega)
theorem api_Tag_119.idx_any (p : S98 → Bool) : ∀ (l : List (S98)) (i : Nat), decide (0 ≤ api_Tag_119.idx p l i) = l.any p
 | [], _ => rfl
 | x :: l, i => by
  unfold api_Tag_119.idx
  by_cases h : p x = true
  ·
   rw [if_pos h, List.any_cons, h, Bool.true_or]
   exact decide_eq_true (by omega)
  ·
   rw [if_neg h, api_Tag_119.idx_any p l (i + 1), List.any_cons, Bool.eq_false_iff.2 h, Bool.false_or]
set_option maxHeartbeats 2000000 in
theorem api_Tag_119.calls (g : Nat) (lb : Array Value) (eg : ∀ args w, (callFunc g args).run Tryz.prog w = .ok (.enter g args) w) (p : S98 → Bool) (A0 : Option Addr) (c0 : Nat) (l0 : List (S98)) (w : World) (hr0 : Kd.C k98 w A0 l0.length l0) (hp : api_Tag_119.Fn g lb p l0 w) :
 Calls Tryz.prog 119 #[.slice A0 l0.length c0, .func (.func g) #[] lb] w fun e w' => e = .returned (.int .i64 (api_Tag_119.idx p l0 0)) ∧ Below w.heap.size w w' := by
 have hu98 := Tryz.underlying98
 have HR0 := Aside0.mk hr0
 have HP := Aside0.mk hp
 have HL := Aside0.mk hr0.2.1
 clear hr0 hp
 go_enter Tryz.func119, Tryz.ntmps119
 go_wp2
 go_loopg [5, 8] l0.length (fun gg _ v8 wr => ∃ x : Int, v8 = .int .i64 x ∧ Aside0 (0 ≤ x) ∧ Aside0 (x ≤ (l0.length : Int)) ∧ Aside0 ((l0.length : Int) - x ≤ gg) ∧ Aside0 (api_Tag_119.idx p l0 0 = api_Tag_119.idx p (l0.drop x.toNat) x.toNat) ∧ Aside0 (Below w.heap.size w wr))
 case atStart => exact ⟨0, rfl, ⟨by omega⟩, ⟨by omega⟩, ⟨by omega⟩, ⟨rfl⟩, ⟨Below.refl _ _⟩⟩
 case round =>
  obtain ⟨x, rfl, H0, H1, HG, HI, HB⟩ := hrel
  by_cases hlt : x < (l0.length : Int)
  ·
   have p101 : 0 ≤ x := H0.out
   obtain ⟨ad101, e101, hx101_0, hx101_1⟩ := at_T98 HR0.out x p101 hlt
   cases e101
   have hy101_0 := kc HB hx101_0
   clear hx101_0
   have hy101_1 := kc HB hx101_1
   clear hx101_1
   have HN : Aside0 (x.toNat < l0.length) := ⟨by omega⟩
   have hget : rd_T98 l0 x = l0[x.toNat]'HN.out := by
    show l0.getD x.toNat _ = _
    rw [List.getD_eq_getElem?_getD, List.getElem?_eq_getElem HN.out, Option.getD_some]
   have hcall := HP.out wr (rd_T98 l0 x) (by rw [hget]; exact List.getElem_mem HN.out) HB.out
   have HGE := Aside0.mk hget
   clear hget
   have c1b0 : decide (x < (l0.length : Int)) = true := decide_eq_true hlt
   have pi101 : (0 ≤ (x : Int)) = True := eq_true p101
   have qi101 : (x < (l0.length : Int)) = True := eq_true hlt
   have HLT := Aside0.mk hlt
   clear hlt p101
   cases hq : p (rd_T98 l0 x) with
   | true =>
    rw [hq] at hcall
    have HQ := Aside0.mk hq
    clear hq
    go_wp2_with (go_at_fn g; refine hcall.mono ?_; rintro e w' ⟨rfl, hb'⟩)
    go_ret
    refine ⟨?_, HB.out.trans (hb'.mono HB.out.size)⟩
    rw [HI.out, List.drop_eq_getElem_cons HN.out]
    unfold api_Tag_119.idx
    rw [if_pos (by rw [← HGE.out]; exact HQ.out), Int.toNat_of_nonneg H0.out]
    rfl
   | false =>
    rw [hq] at hcall
    have HQ := Aside0.mk hq
    clear hq
    go_wp2_with (go_at_fn g; refine hcall.mono ?_; rintro e w' ⟨rfl, hb'⟩)
    have hw : wrap64 (x + 1) = x + 1 := by have := HLT.out; have := HL.out; have := H0.out; unfold wrap64; omega
    (try rw [hw])
    clear hw
    go_roundg (l0.length - (x.toNat + 1))
    case measure => have := HLT.out; have := HG.out; have := H0.out; omega
    case rel =>
     refine ⟨x + 1, by first | rfl | (have := HLT.out; have := HL.out; have := H0.out; simp; unfold wrap64; omega), ⟨by have := H0.out; omega⟩, ⟨by have := HLT.out; omega⟩, ⟨by have := HLT.out; have := H0.out; omega⟩, ⟨?_⟩, ⟨HB.out.trans (hb'.mono HB.out.size)⟩⟩
     rw [HI.out, List.drop_eq_getElem_cons HN.out, show (x + 1).toNat = x.toNat + 1 from by have := H0.out; omega]
     conv => lhs; unfold api_Tag_119.idx
     rw [if_neg (by rw [← HGE.out, HQ.out]; simp)]
  ·
   have hx : x = (l0.length : Int) := by have := H1.out; omega
   have c1b0 : decide (x < (l0.length : Int)) = false := decide_eq_false hlt
   clear hlt
   have HX := Aside0.mk hx
   clear hx
   go_wp2
   go_ret
   refine ⟨?_, HB.out⟩
   rw [HI.out, HX.out, Int.toNat_natCast, List.drop_of_length_le (Nat.le_refl _)]
   rfl
set_option maxHeartbeats 2000000 in
theorem api_Tag_97.calls (g : Nat) (lb : Array Value) (eg : ∀ args w, (callFunc g args).run Tryz.prog w = .ok (.enter g args) w) (p : S98 → Bool) (A0 : Option Addr) (c0 : Nat) (l0 : List (S98)) (w : World) (hr0 : Kd.C k98 w A0 l0.length l0) (hp : api_Tag_119.Fn g lb p l0 w) :
 Calls Tryz.prog 97 #[.slice A0 l0.length c0, .func (.func g) #[] lb] w fun e w' => e = .returned (.bool (l0.any p)) ∧ Below w.heap.size w w' := by
 have hcall := fun W => api_Tag_119.calls g lb eg p A0 c0 l0 W
 rw [← api_Tag_119.idx_any p l0 0]
 generalize api_Tag_119.idx p l0 0 = r at hcall ⊢
 go_enter Tryz.func97, Tryz.ntmps97
 go_wp2_with (go_at_call 119; refine (hcall _ hr0 hp).mono ?_; rintro e w' ⟨rfl, hb'⟩)
 go_ret
 exact ⟨rfl, hb'⟩
def api_Tag_100.f (l0 : List (S98)) : Option ((List (S98))) := if l0.length < 4398046511104 then (some l0) else (none)
theorem api_Tag_100.calls (A0 : Option Addr) (c0 : Nat) (l0 : List (S98)) (r : List (S98)) (w : World) (hr0 : Kd.C k98 w A0 l0.length l0) (hc0 : l0.length ≤ c0) (h : api_Tag_100.f l0 = some r) :
 Calls Tryz.prog 100 #[.slice A0 l0.length c0] w fun e w' => ∃ v0_ : Value, e = .returned (v0_) ∧ Kd.R k98 98 w' w.heap.size (fun _ => True) v0_ r ∧ Below w.heap.size w w' := by
 unfold api_Tag_100.f at h
 by_cases hl : l0.length < 4398046511104
 ·
  rw [if_pos hl] at h
  obtain rfl := Option.some.inj h
  have HL := Aside0.mk hl
  clear h hl
  have HR0 := Aside0.mk hr0
  clear hr0 hc0
  cases A0 with
  | none =>
   have e : l0 = [] := by
    have h2 := HR0.out.2.2
    cases l0 with
    | nil => rfl
    | cons x l => obtain ⟨_, h3, _⟩ := h2 (by simp); cases h3
   subst e
   have heq : ∀ (n c : Nat) (W : World), (binOp .eql 78 (.slice none n c) (.slice none 0 0)).run Tryz.prog W = .ok (.bool true) W := fun n c W => Lib.run_eql_slice_nil W 78 98 none n c 0 0 Tryz.underlying78
   go_enter Tryz.func100, Tryz.ntmps100
   go_wp2
   go_ret
   exact ⟨_, rfl, Kd.R_nil _ _ _ _ _, Below.refl _ _⟩
  | some a =>
   have HB := Aside0.mk (Below.refl w.heap.size w)
   have heq : ∀ (n c : Nat) (W : World), (binOp .eql 78 (.slice (some a) n c) (.slice none 0 0)).run Tryz.prog W = .ok (.bool false) W := fun n c W => Lib.run_eql_slice_nil W 78 98 (some a) n c 0 0 Tryz.underlying78
   go_enter Tryz.func100, Tryz.ntmps100
   go_wp2_with (first | ((with_reducible refine gate_dst (N := 5) rfl ?_); refine Kd.R_lit k98 _ 98 ?hg (N := 5) ?hd (xs := ([] : List (S98))) (inner := []) (ok := fun _ => True) (okp := fun _ => True) ?hr ?hp (fun _ hk => hk) trivial (Below.refl _ _) (Nat.le_refl _) (by simp) ?_; (case hd => rfl); (case hg => rfl); (case hr => first | (go_simp; done) | (go_simp; rfl)); (case hp => exact (Reps.none _ _)); intro v129 w7 ho8 hb hg_ hnew_; clear hg_ hnew_; have n0_ := Aside0.mk (Kd.R_lower ho8 (Nat.le_refl _)); have n1_ := Aside0.mk hb; clear HB ho8 hb; have HB := n1_; have HO130 := n0_; clear n0_ n1_) | ((with_reducible refine gate_builtin (b := .append) (xs := #[.tmp 5, .tmp 6]) rfl ?_); at_builtin; refine Kd.R_append_rows k98 (w0 := w) w.heap.size rfl (.tmp 5) (.tmp 6) 78 98 (.agg #[(.string ⟨#[]⟩), (.string ⟨#[]⟩)]) 32 rfl Tryz.underlying78 info98 rfl (by decide) (by decide) v129 [] l0 _ _ _ (fun _ => True) (fun _ => False) rfl rfl ?aO ?aR (fun _ _ h => h) (fun _ h => h.elim) ?aF ?aB ?aS ?aL ?_; (case aR => exact (Kd.C_below HR0.out HB.out)); (case aB => exact HB.out); (case aF => exact (fun _ _ => trivial)); (case aO => exact HO130.out); (case aS => exact (below_size HB.out)); (case aL => have := HL.out; simp only [List.length_nil, Nat.zero_add]; omega); intro v132 w9 ho hb hg hat; clear hg hat; have n0_ := Aside0.mk hb; have n1_ := Aside0.mk ho; clear HB HO130; have HB := n0_; have HO133 := n1_; clear n0_ n1_ ho hb))
   go_ret
   exact ⟨_, rfl, HO133.out, HB.out⟩
 ·
  rw [if_neg hl] at h
  exact absurd h (by simp)
def bits_Len.f (a0 : Int) : Option (Int) := if 0 ≤ a0 ∧ a0 ≤ 18446744073709551615 then (some ((Lib.bitLen a0.toNat : Nat) : Int)) else (none)
theorem bits_Len.calls (a0 : Int) (r : Int) (w : World) (h : bits_Len.f a0 = some r) :
 Calls Tryz.prog 123 #[.int .u64 a0] w fun e w' => e = .returned (.int .i64 r) ∧ Drawn0 w w' := by
 unfold bits_Len.f at h
 by_cases hc : 0 ≤ a0 ∧ a0 ≤ 18446744073709551615
 ·
  rw [if_pos hc] at h
  obtain rfl := Option.some.inj h
  exact (Tryz.bits_Len a0 w hc.1 hc.2).mono fun e w' hh => ⟨hh.1, hh.2 ▸ Drawn0.refl _⟩
 ·
  rw [if_neg hc] at h
  exact absurd h (by simp)
def tag_order.f (a0_0 : ByteArray) (a0_1 : ByteArray) (a1_0 : ByteArray) (a1_1 : ByteArray) : Option (Int) := (strings_Compare.f a0_0 a1_0).bind fun t133 => (some t133)
theorem tag_order.calls (a0_0 : ByteArray) (a0_1 : ByteArray) (a1_0 : ByteArray) (a1_1 : ByteArray) (r : Int) (w : World) (h : tag_order.f a0_0 a0_1 a1_0 a1_1 = some r) :
 Calls Tryz.prog 102 #[.agg #[.string a0_0, .string a0_1], .agg #[.string a1_0, .string a1_1]] w fun e w' => e = .returned (.int .i64 r) ∧ Below w.heap.size w w' := by
 have hu98 := Tryz.underlying98
 have HB := Aside0.mk (Below.refl w.heap.size w)
 have H : ((strings_Compare.f a0_0 a1_0).bind fun t133 => (some t133)) = some r := h
 clear h
 obtain ⟨t133, A3, H⟩ := bs H
 try dsimp only at H
 obtain rfl := Option.some.inj H
 go_enter Tryz.func102, Tryz.ntmps102
 go_wp2_with (first | ((with_reducible refine gate_dst (N := 2) rfl ?_); refine bx (N := 2) #[.string a0_0, .string a0_1] 98 ?_; intro gb131 hg w4 hbox hb; have BK131 := Aside0.mk (hbox); have GW131 := gw hg (uW HB.out); have GE131 := GW131; replace HB := cW HB hb; clear hb hbox hg) | ((with_reducible refine gate_dst (N := 3) rfl ?_); refine bx (N := 3) #[.string a1_0, .string a1_1] 98 ?_; intro gb132 hg w5 hbox hb; have BK132 := Aside0.mk (hbox); have GW132 := gw hg bl; have GE132 := GW132; replace HB := Aside0.mk (below_step bl hb); have NB131_132 := Aside0.mk ((by rw [hg]; exact Nat.ne_of_lt (blk_lt (g := gb131) (o := .cells #[.string a0_0, .string a0_1] 98 (0, 0)) (uB BK131.out)) : gb131 ≠ gb132)); have NB132_131 := Aside0.mk ((by rw [hg]; exact Nat.ne_of_gt (blk_lt (g := gb131) (o := .cells #[.string a0_0, .string a0_1] 98 (0, 0)) (uB BK131.out)) : gb132 ≠ gb131)); replace BK131 := cB BK131 hb; clear hb hbox hg; have hnb6 := NB131_132.out; have hnc6 := NB132_131.out; obtain ⟨hcz7_0, hcz7_1, hfz7_0, hfz7_1⟩ := z2 BK131; obtain ⟨hcz8_0, hcz8_1, hfz8_0, hfz8_1⟩ := z2 BK132) | (refine gL (some 9) rfl Tryz.func69 #[.string a0_0, .string a1_0] ?_; (with_reducible refine (strings_Compare.calls a0_0 a1_0 t133 _ A3.out).mono ?_); rintro e w' ⟨rfl, ⟨nd, rfl⟩⟩; refine ⟨_, rfl, ?_⟩))
 go_ret
 exact ⟨re_, bl⟩
def strings_Trim.f (a0 : ByteArray) (a1 : ByteArray) : Option (ByteArray) := if a0.size ≤ 9223372036854775807 ∧ a1.size < 4294967281 ∧ a1.data.toList.all (fun b => decide (b.toNat < 128)) = true then (some (⟨(Lib.trimS a0.data.toList a1.data.toList).toArray⟩ : ByteArray)) else (none)
theorem strings_Trim.calls (a0 : ByteArray) (a1 : ByteArray) (r : ByteArray) (w : World) (h : strings_Trim.f a0 a1 = some r) :
 Calls Tryz.prog 112 #[.string a0, .string a1] w fun e w' => e = .returned (.string r) ∧ Below w.heap.size w w' := by
 unfold strings_Trim.f at h
 by_cases hc : a0.size ≤ 9223372036854775807 ∧ a1.size < 4294967281 ∧ a1.data.toList.all (fun b => decide (b.toNat < 128)) = true
 ·
  rw [if_pos hc] at h
  obtain rfl := Option.some.inj h
  exact Tryz.strings_Trim_laid a0 a1 w hc.1 hc.2.1 (ascii_of_all hc.2.2)
 ·
  rw [if_neg hc] at h
  exact absurd h (by simp)
def word_made.f (a0 : ByteArray) (a1 : ByteArray) : Option (Bool) := if a0.toList = ([] : List UInt8) then (some false) else (if (a0.size : Int) ≤ 12 then ((strings_Trim.f a0 a1).bind fun t134 => (some (t134.toList == ([] : List UInt8)))) else (some false))
theorem word_made.calls (a0 : ByteArray) (a1 : ByteArray) (r : Bool) (w : World) (h : word_made.f a0 a1 = some r) :
 Calls Tryz.prog 144 #[.string a0, .string a1] w fun e w' => e = .returned (.bool r) ∧ Below w.heap.size w w' := by
 have HB := Aside0.mk (Below.refl w.heap.size w)
 have H : (if a0.toList = ([] : List UInt8) then (some false) else (if (a0.size : Int) ≤ 12 then ((strings_Trim.f a0 a1).bind fun t134 => (some (t134.toList == ([] : List UInt8)))) else (some false))) = some r := h
 clear h
 by_cases c3 : a0.toList = ([] : List UInt8)
 ·
  rw [if_pos c3] at H
  have c3b0 : (a0.toList == ([] : List UInt8)) = true := beq_iff_eq.mpr c3
  have c3b1 : (a0.toList != ([] : List UInt8)) = false := bne_eq_false_iff_eq.mpr c3
  clear c3
  obtain rfl := Option.some.inj H
  go_enter Tryz.func144, Tryz.ntmps144
  go_wp2
  go_ret
  exact ⟨re_, uW HB.out⟩
 ·
  rw [if_neg c3] at H
  have c3b0 : (a0.toList == ([] : List UInt8)) = false := beq_eq_false_iff_ne.mpr c3
  have c3b1 : (a0.toList != ([] : List UInt8)) = true := bne_iff_ne.mpr c3
  by_cases c4 : (a0.size : Int) ≤ 12
  ·
   rw [if_pos c4] at H
   have c4b0 : decide ((a0.size : Int) ≤ 12) = true := decide_eq_true c4
   have c4b1 : decide (a0.size ≤ 12) = true := decide_eq_true (by omega)
   clear c4
   obtain ⟨t134, A5, H⟩ := bs H
   try dsimp only at H
   obtain rfl := Option.some.inj H
   go_enter Tryz.func144, Tryz.ntmps144
   go_wp2_with (first | (go_at_call 112; (with_reducible refine (strings_Trim.calls a0 a1 t134 _ A5.out).mono ?_); rintro e w6 ⟨rfl, hb⟩; replace HB := cW HB hb; (try clear hb)))
   go_ret
   exact ⟨re_, uW HB.out⟩
  ·
   rw [if_neg c4] at H
   have c4b0 : decide ((a0.size : Int) ≤ 12) = false := decide_eq_false c4
   have c4b1 : decide (a0.size ≤ 12) = false := decide_eq_false (by omega)
   clear c4
   obtain rfl := Option.some.inj H
   go_enter Tryz.func144, Tryz.ntmps144
   go_wp2
   go_ret
   exact ⟨re_, uW HB.out⟩
def word_Name.f (a0 : ByteArray) : Option (Bool) := (word_made.f a0 (⟨#[97, 98, 99, 100, 101, 102, 103, 104, 105, 106, 107, 108, 109, 110, 111, 112, 113, 114, 115, 116, 117, 118, 119, 120, 121, 122, 48, 49, 50, 51, 52, 53, 54, 55, 56, 57, 95]⟩ : ByteArray)).bind fun t135 => (if t135 = true then (if 0 < (a0.size : Int) then ((strings_IndexByte.f (⟨#[97, 98, 99, 100, 101, 102, 103, 104, 105, 106, 107, 108, 109, 110, 111, 112, 113, 114, 115, 116, 117, 118, 119, 120, 121, 122]⟩ : ByteArray) (bt a0 0)).bind fun t136 => (some (decide (t136 ≥ 0)))) else (none)) else (some false))
theorem word_Name.calls (a0 : ByteArray) (r : Bool) (w : World) (h : word_Name.f a0 = some r) :
 Calls Tryz.prog 120 #[.string a0] w fun e w' => e = .returned (.bool r) ∧ Below w.heap.size w w' := by
 have HB := Aside0.mk (Below.refl w.heap.size w)
 have H : ((word_made.f a0 (⟨#[97, 98, 99, 100, 101, 102, 103, 104, 105, 106, 107, 108, 109, 110, 111, 112, 113, 114, 115, 116, 117, 118, 119, 120, 121, 122, 48, 49, 50, 51, 52, 53, 54, 55, 56, 57, 95]⟩ : ByteArray)).bind fun t135 => (if t135 = true then (if 0 < (a0.size : Int) then ((strings_IndexByte.f (⟨#[97, 98, 99, 100, 101, 102, 103, 104, 105, 106, 107, 108, 109, 110, 111, 112, 113, 114, 115, 116, 117, 118, 119, 120, 121, 122]⟩ : ByteArray) (bt a0 0)).bind fun t136 => (some (decide (t136 ≥ 0)))) else (none)) else (some false))) = some r := h
 clear h
 obtain ⟨t135, A2, H⟩ := bs H
 try dsimp only at H
 by_cases c3 : t135 = true
 ·
  subst c3
  rw [if_pos rfl] at H
  obtain ⟨c4, H⟩ := gd H
  have c4b0 : decide (0 < (a0.size : Int)) = true := decide_eq_true c4
  have c4b1 : decide (0 < a0.size) = true := decide_eq_true (by omega)
  clear c4
  obtain ⟨t136, A6, H⟩ := bs H
  try dsimp only at H
  obtain rfl := Option.some.inj H
  go_enter Tryz.func120, Tryz.ntmps120
  go_wp2_with (first | (refine gL (some 4) rfl Tryz.func144 #[.string a0, .string (⟨#[97, 98, 99, 100, 101, 102, 103, 104, 105, 106, 107, 108, 109, 110, 111, 112, 113, 114, 115, 116, 117, 118, 119, 120, 121, 122, 48, 49, 50, 51, 52, 53, 54, 55, 56, 57, 95]⟩ : ByteArray)] ?_; (with_reducible refine (word_made.calls a0 (⟨#[97, 98, 99, 100, 101, 102, 103, 104, 105, 106, 107, 108, 109, 110, 111, 112, 113, 114, 115, 116, 117, 118, 119, 120, 121, 122, 48, 49, 50, 51, 52, 53, 54, 55, 56, 57, 95]⟩ : ByteArray) true _ A2.out).mono ?_); rintro e w7 ⟨rfl, hb⟩; refine ⟨_, rfl, ?_⟩; replace HB := cW HB hb; (try clear hb); have p5 : 0 ≤ (0 : Int) := (by omega); have q5 : 0 < a0.size := (by have : (0 : Int) < (a0.size : Int) := od; omega); have hx5 : ∀ h : 0 < a0.size, ((a0[0]'h).toNat : Int) = bt a0 0 := bt_at a0 0; clear p5; have qi5 : (0 < (a0.size : Int)) = True := eq_true (od); replace q5 := eq_true q5) | (go_at_call 56; (with_reducible refine (strings_IndexByte.calls (⟨#[97, 98, 99, 100, 101, 102, 103, 104, 105, 106, 107, 108, 109, 110, 111, 112, 113, 114, 115, 116, 117, 118, 119, 120, 121, 122]⟩ : ByteArray) (bt a0 0) t136 _ A6.out).mono ?_); rintro e w' ⟨rfl, ⟨nd, rfl⟩⟩))
  go_ret
  exact ⟨re_, uW HB.out⟩
 ·
  replace c3 := Bool.eq_false_iff.mpr c3
  subst c3
  rw [if_neg (show ¬ (false = true) by decide)] at H
  obtain rfl := Option.some.inj H
  go_enter Tryz.func120, Tryz.ntmps120
  go_wp2_with (first | (refine gL (some 4) rfl Tryz.func144 #[.string a0, .string (⟨#[97, 98, 99, 100, 101, 102, 103, 104, 105, 106, 107, 108, 109, 110, 111, 112, 113, 114, 115, 116, 117, 118, 119, 120, 121, 122, 48, 49, 50, 51, 52, 53, 54, 55, 56, 57, 95]⟩ : ByteArray)] ?_; (with_reducible refine (word_made.calls a0 (⟨#[97, 98, 99, 100, 101, 102, 103, 104, 105, 106, 107, 108, 109, 110, 111, 112, 113, 114, 115, 116, 117, 118, 119, 120, 121, 122, 48, 49, 50, 51, 52, 53, 54, 55, 56, 57, 95]⟩ : ByteArray) false _ A2.out).mono ?_); rintro e w8 ⟨rfl, hb⟩; refine ⟨_, rfl, ?_⟩; replace HB := cW HB hb; (try clear hb)))
  go_ret
  exact ⟨re_, uW HB.out⟩
def word_Value.f (a0 : ByteArray) : Option (Bool) := (word_made.f a0 (⟨#[97, 98, 99, 100, 101, 102, 103, 104, 105, 106, 107, 108, 109, 110, 111, 112, 113, 114, 115, 116, 117, 118, 119, 120, 121, 122, 48, 49, 50, 51, 52, 53, 54, 55, 56, 57, 95, 45, 46]⟩ : ByteArray)).bind fun t137 => (some t137)
theorem word_Value.calls (a0 : ByteArray) (r : Bool) (w : World) (h : word_Value.f a0 = some r) :
 Calls Tryz.prog 121 #[.string a0] w fun e w' => e = .returned (.bool r) ∧ Below w.heap.size w w' := by
 have HB := Aside0.mk (Below.refl w.heap.size w)
 have H : ((word_made.f a0 (⟨#[97, 98, 99, 100, 101, 102, 103, 104, 105, 106, 107, 108, 109, 110, 111, 112, 113, 114, 115, 116, 117, 118, 119, 120, 121, 122, 48, 49, 50, 51, 52, 53, 54, 55, 56, 57, 95, 45, 46]⟩ : ByteArray)).bind fun t137 => (some t137)) = some r := h
 clear h
 obtain ⟨t137, A2, H⟩ := bs H
 try dsimp only at H
 obtain rfl := Option.some.inj H
 go_enter Tryz.func121, Tryz.ntmps121
 go_wp2_with (first | (refine gL (some 4) rfl Tryz.func144 #[.string a0, .string (⟨#[97, 98, 99, 100, 101, 102, 103, 104, 105, 106, 107, 108, 109, 110, 111, 112, 113, 114, 115, 116, 117, 118, 119, 120, 121, 122, 48, 49, 50, 51, 52, 53, 54, 55, 56, 57, 95, 45, 46]⟩ : ByteArray)] ?_; (with_reducible refine (word_made.calls a0 (⟨#[97, 98, 99, 100, 101, 102, 103, 104, 105, 106, 107, 108, 109, 110, 111, 112, 113, 114, 115, 116, 117, 118, 119, 120, 121, 122, 48, 49, 50, 51, 52, 53, 54, 55, 56, 57, 95, 45, 46]⟩ : ByteArray) t137 _ A2.out).mono ?_); rintro e w3 ⟨rfl, hb⟩; refine ⟨_, rfl, ?_⟩; replace HB := cW HB hb; (try clear hb)))
 go_ret
 exact ⟨re_, uW HB.out⟩
def tag_may.f (a0_0 : ByteArray) (a0_1 : ByteArray) : Option (Bool) := (word_Name.f a0_0).bind fun t139 => (if t139 = true then ((word_Value.f a0_1).bind fun t140 => (some t140)) else (some false))
theorem tag_may.calls (a0_0 : ByteArray) (a0_1 : ByteArray) (r : Bool) (w : World) (h : tag_may.f a0_0 a0_1 = some r) :
 Calls Tryz.prog 99 #[.agg #[.string a0_0, .string a0_1]] w fun e w' => e = .returned (.bool r) ∧ Below w.heap.size w w' := by
 have hu98 := Tryz.underlying98
 have HB := Aside0.mk (Below.refl w.heap.size w)
 have H : ((word_Name.f a0_0).bind fun t139 => (if t139 = true then ((word_Value.f a0_1).bind fun t140 => (some t140)) else (some false))) = some r := h
 clear h
 obtain ⟨t139, A2, H⟩ := bs H
 try dsimp only at H
 by_cases c3 : t139 = true
 ·
  subst c3
  rw [if_pos rfl] at H
  obtain ⟨t140, A4, H⟩ := bs H
  try dsimp only at H
  obtain rfl := Option.some.inj H
  go_enter Tryz.func99, Tryz.ntmps99
  go_wp2_with (first | ((with_reducible refine gate_dst (N := 1) rfl ?_); refine bx (N := 1) #[.string a0_0, .string a0_1] 98 ?_; intro gb138 hg w5 hbox hb; have BK138 := Aside0.mk (hbox); have GW138 := gw hg (uW HB.out); have GE138 := GW138; replace HB := cW HB hb; clear hb hbox hg; obtain ⟨hcz6_0, hcz6_1, hfz6_0, hfz6_1⟩ := z2 BK138) | (refine gL (some 5) rfl Tryz.func120 #[.string a0_0] ?_; (with_reducible refine (word_Name.calls a0_0 true _ A2.out).mono ?_); rintro e w7 ⟨rfl, hb⟩; refine ⟨_, rfl, ?_⟩; replace BK138 := cB BK138 hb; replace HB := Aside0.mk (below_step bl hb); (try clear hb); obtain ⟨hcz8_0, hcz8_1, hfz8_0, hfz8_1⟩ := z2 BK138) | (go_at_call 121; (with_reducible refine (word_Value.calls a0_1 t140 _ A4.out).mono ?_); rintro e w9 ⟨rfl, hb⟩; replace BK138 := cB BK138 hb; replace HB := Aside0.mk (below_step bl hb); (try clear hb)))
  go_ret
  exact ⟨re_, bl⟩
 ·
  replace c3 := Bool.eq_false_iff.mpr c3
  subst c3
  rw [if_neg (show ¬ (false = true) by decide)] at H
  obtain rfl := Option.some.inj H
  go_enter Tryz.func99, Tryz.ntmps99
  go_wp2_with (first | ((with_reducible refine gate_dst (N := 1) rfl ?_); refine bx (N := 1) #[.string a0_0, .string a0_1] 98 ?_; intro gb138 hg w10 hbox hb; have BK138 := Aside0.mk (hbox); have GW138 := gw hg (uW HB.out); have GE138 := GW138; replace HB := cW HB hb; clear hb hbox hg; obtain ⟨hcz11_0, hcz11_1, hfz11_0, hfz11_1⟩ := z2 BK138) | (refine gL (some 5) rfl Tryz.func120 #[.string a0_0] ?_; (with_reducible refine (word_Name.calls a0_0 false _ A2.out).mono ?_); rintro e w12 ⟨rfl, hb⟩; refine ⟨_, rfl, ?_⟩; replace BK138 := cB BK138 hb; replace HB := Aside0.mk (below_step bl hb); (try clear hb)))
  go_ret
  exact ⟨re_, bl⟩
def tag_Canon_1.f (a0_0 : ByteArray) (a0_1 : ByteArray) : Option (Bool) := (tag_may.f a0_0 a0_1).bind fun t142 => (some (!t142))
theorem tag_Canon_1.calls (a0_0 : ByteArray) (a0_1 : ByteArray) (r : Bool) (w : World) (h : tag_Canon_1.f a0_0 a0_1 = some r) :
 Calls Tryz.prog 98 #[.agg #[.string a0_0, .string a0_1]] w fun e w' => e = .returned (.bool r) ∧ Below w.heap.size w w' := by
 have hu98 := Tryz.underlying98
 have HB := Aside0.mk (Below.refl w.heap.size w)
 have H : ((tag_may.f a0_0 a0_1).bind fun t142 => (some (!t142))) = some r := h
 clear h
 obtain ⟨t142, A2, H⟩ := bs H
 try dsimp only at H
 obtain rfl := Option.some.inj H
 go_enter Tryz.func98, Tryz.ntmps98
 go_wp2_with (first | ((with_reducible refine gate_dst (N := 1) rfl ?_); refine bx (N := 1) #[.string a0_0, .string a0_1] 98 ?_; intro gb141 hg w3 hbox hb; have BK141 := Aside0.mk (hbox); have GW141 := gw hg (uW HB.out); have GE141 := GW141; replace HB := cW HB hb; clear hb hbox hg; obtain ⟨hcz4_0, hcz4_1, hfz4_0, hfz4_1⟩ := z2 BK141) | (refine gL (some 4) rfl Tryz.func99 #[.agg #[.string a0_0, .string a0_1]] ?_; (with_reducible refine (tag_may.calls a0_0 a0_1 t142 _ A2.out).mono ?_); rintro e w5 ⟨rfl, hb⟩; refine ⟨_, rfl, ?_⟩; replace BK141 := cB BK141 hb; replace HB := Aside0.mk (below_step bl hb); (try clear hb)))
 go_ret
 exact ⟨re_, bl⟩
theorem api_Tag_with_98_119.goesV_ {P : Program} {ops : Array Oper} {Q : Exit → Act → World → Prop} {oi : Oper} {N : Option Tmp} {a : Act} {w : World} {K : Act → World → Prop} {f : FuncId} {fn : Func} {cal : Operand} {as_ : Array Operand} {ts : Array TypeId} (hf : P.funcs[f]? = some fn) (hname : (fn.name == "runtime.NumGoroutine") = false) (hb : fn.body.isSome = true) (args : Array Value)
 (hw : Region.wanted oi (yielded ops a.tmps) = true) (hN : oi.dst = N) (hop : oi.op = .call { callee := .value cal, args := as_, argTypes := ts }) (hev : a.eval cal = .func (.func f) #[] #[]) (hargs : as_.map a.eval = args)
 (h : Calls P f args w fun e w' => ∃ v, e = .returned v ∧ K (a.put N v) w') : if Region.wanted oi (yielded ops a.tmps) = true then Oper.wp P oi a w K Q else K (a.put N undef) w := by
 refine call_ f args hw hN ?_ h
 have he := enters_ hf hname hb args w
 unfold execOp
 simp [hop, resolve, Deferred.ofValue, invoke, hev, hargs, he]
theorem api_Tag_with_98_119.goesVL_ {P : Program} {ops : Array Oper} {Q : Exit → Act → World → Prop} {rest : List Oper} {oi : Oper} {a : Act} {w : World} (N : Option Tmp) (hd : oi.dst = N) (hg : oi.guard = none) {f : FuncId} {fn : Func} {cal : Operand} {as_ : Array Operand} {ts : Array TypeId} (hf : P.funcs[f]? = some fn) (hname : (fn.name == "runtime.NumGoroutine") = false) (hb : fn.body.isSome = true) (args : Array Value)
 (hop : oi.op = .call { callee := .value cal, args := as_, argTypes := ts }) (hev : a.eval cal = .func (.func f) #[] #[]) (hargs : as_.map a.eval = args)
 (h : Calls P f args w fun e w' => ∃ v, e = .returned v ∧ wpList P ops Q rest (a.put N v) w') : wpList P ops Q (oi :: rest) a w := by
 refine wpList_plain hg fun K hK => ?_
 have he := enters_ hf hname hb args w
 have hrun : (execOp a.eval oi).run P w = .ok (.enter f args) w := by
  unfold execOp
  simp [hop, resolve, Deferred.ofValue, invoke, hev, hargs, he]
 unfold Oper.wp
 rw [hrun, Oper.upon_enter]
 refine h.mono fun e w'' hh => ?_
 obtain ⟨v, rfl, hk⟩ := hh
 subst hd
 exact hK _ _ hk
def api_Tag_with_98_119.l0 : Nat → List (S98) → Int → Int → Option (Int)
 | 0, _, _, _ => none
 | k + 1, x0, x7, x8 => if x8 < x7 then (if 0 ≤ x8 then (if x8 < (x0.length : Int) then ((tag_Canon_1.f ((rd_T98 x0 x8).f0) ((rd_T98 x0 x8).f1)).bind fun t144 => (if t144 = true then (some x8) else (api_Tag_with_98_119.l0 k x0 x7 (wrap64 (x8 + 1))))) else (none)) else (none)) else (some (-1))
def api_Tag_with_98_119.f (k : Nat) (l0 : List (S98)) : Option (Int) := api_Tag_with_98_119.l0 k l0 (l0.length : Int) 0
theorem api_Tag_with_98_119.mono_l : ∀ k, (∀ y0 y1 y2, LeC (api_Tag_with_98_119.l0 k y0 y1 y2) (api_Tag_with_98_119.l0 (k + 1) y0 y1 y2))
 | 0 => fun _ _ _ => ⟨fun r h => by simp [api_Tag_with_98_119.l0] at h⟩
 | k + 1 => by have ih0 := api_Tag_with_98_119.mono_l k; exact fun _ _ _ => by unfold api_Tag_with_98_119.l0; exact lm
theorem api_Tag_with_98_119.mono : ∀ a0 k, LeO (api_Tag_with_98_119.f k a0) (api_Tag_with_98_119.f (k + 1) a0) := by
 intro a0 k
 have ih0 := api_Tag_with_98_119.mono_l k
 unfold api_Tag_with_98_119.f
 exact lo
instance api_Tag_with_98_119.mI {a0 k} : LeC (api_Tag_with_98_119.f k a0) (api_Tag_with_98_119.f (k + 1) a0) := ⟨api_Tag_with_98_119.mono _ _⟩
theorem api_Tag_with_98_119.calls (k : Nat) (A0 : Option Addr) (c0 : Nat) (l0 : List (S98)) (r : Int) (w : World) (hr0 : Kd.C k98 w A0 l0.length l0) (hc0 : l0.length ≤ c0) (h : api_Tag_with_98_119.f k l0 = some r) :
 Calls Tryz.prog 119 #[.slice A0 l0.length c0, .func (.func 98) #[] #[]] w fun e w' => e = .returned (.int .i64 r) ∧ Below w.heap.size w w' := by
 have hu98 := Tryz.underlying98
 have HR0 := Aside0.mk hr0
 have HC0 := Aside0.mk hc0
 clear hr0 hc0
 have HB := Aside0.mk (Below.refl w.heap.size w)
 have H : (api_Tag_with_98_119.l0 k l0 (l0.length : Int) 0) = some r := h
 clear h
 have H' := Aside0.mk H
 clear H
 have eg98 : ∀ args w, (callFunc 98 args).run Tryz.prog w = .ok (.enter 98 args) w := enters_of Tryz.func98 (by kernel_rfl) rfl
 go_enter Tryz.func119, Tryz.ntmps119
 go_wp2
 go_loopg [8] k (fun kq v8 w' => ∃ (x8_1 : Int), v8 = .int .i64 x8_1 ∧ Aside0 (api_Tag_with_98_119.l0 kq l0 (l0.length : Int) x8_1 = some r) ∧ Aside0 (kq ≤ k) ∧ Aside0 (Below w.heap.size w w'))
 case atStart => exact ⟨(0), rs_, H', ⟨Nat.le_refl _⟩, ⟨uW HB.out⟩⟩
 case round =>
  clear H'
  obtain ⟨x8_1, rfl, HA, HK1, HB⟩ := hrel
  cases gk with
  | zero => exact absurd HA.out (by simp [api_Tag_with_98_119.l0])
  | succ k1 =>
   have H := HA.out
   clear HA
   simp only [api_Tag_with_98_119.l0] at H
   by_cases c2 : x8_1 < (l0.length : Int)
   ·
    rw [if_pos c2] at H
    have c2b0 : decide (x8_1 < (l0.length : Int)) = true := decide_eq_true c2
    clear c2
    obtain ⟨c3b0, H⟩ := gdd H
    obtain ⟨c4b0, H⟩ := gdd H
    obtain ⟨t144, A5, H⟩ := bs H
    try dsimp only at H
    by_cases c6 : t144 = true
    ·
     subst c6
     rw [if_pos rfl] at H
     obtain rfl := Option.some.inj H
     have p143 : 0 ≤ (x8_1 : Int) := od
     have q143 : x8_1 < (l0.length : Int) := od
     obtain ⟨ad143, e143, hx143_0, hx143_1⟩ := at_T98 HR0.out x8_1 p143 q143
     cases e143
     replace hx143_0 := kc HB hx143_0
     replace hx143_1 := kc HB hx143_1
     replace p143 := eq_true p143
     replace q143 := eq_true q143
     go_wp2_with (first | (refine api_Tag_with_98_119.goesVL_ (some 16) rfl rfl Tryz.func98 (by kernel_rfl) rfl #[.agg #[.string ((rd_T98 l0 x8_1).f0), .string ((rd_T98 l0 x8_1).f1)]] rfl (by rfl) (by (try simp only [List.map_toArray, List.map_cons, List.map_nil]); first | done | rfl | (simp only [List.length_drop, List.length_take]; rfl)) ?_; (with_reducible refine (tag_Canon_1.calls ((rd_T98 l0 x8_1).f0) ((rd_T98 l0 x8_1).f1) true _ A5.out).mono ?_); rintro e w7 ⟨rfl, hb⟩; refine ⟨_, rfl, ?_⟩; replace HB := cW HB hb; (try clear hb)))
     go_ret
     exact ⟨re_, uW HB.out⟩
    ·
     replace c6 := Bool.eq_false_iff.mpr c6
     subst c6
     rw [if_neg (show ¬ (false = true) by decide)] at H
     have H' := Aside0.mk H
     clear H
     have p143 : 0 ≤ (x8_1 : Int) := od
     have q143 : x8_1 < (l0.length : Int) := od
     obtain ⟨ad143, e143, hx143_0, hx143_1⟩ := at_T98 HR0.out x8_1 p143 q143
     cases e143
     replace hx143_0 := kc HB hx143_0
     replace hx143_1 := kc HB hx143_1
     replace p143 := eq_true p143
     replace q143 := eq_true q143
     go_wp2_with (first | (refine api_Tag_with_98_119.goesVL_ (some 16) rfl rfl Tryz.func98 (by kernel_rfl) rfl #[.agg #[.string ((rd_T98 l0 x8_1).f0), .string ((rd_T98 l0 x8_1).f1)]] rfl (by rfl) (by (try simp only [List.map_toArray, List.map_cons, List.map_nil]); first | done | rfl | (simp only [List.length_drop, List.length_take]; rfl)) ?_; (with_reducible refine (tag_Canon_1.calls ((rd_T98 l0 x8_1).f0) ((rd_T98 l0 x8_1).f1) false _ A5.out).mono ?_); rintro e w8 ⟨rfl, hb⟩; refine ⟨_, rfl, ?_⟩; replace HB := cW HB hb; (try clear hb)))
     go_roundg k1
     case measure => have := HK1.out; omega
     case rel => exact ⟨(wrap64 (x8_1 + 1)), rs_, H', ⟨by have := HK1.out; omega⟩, ⟨uW HB.out⟩⟩
   ·
    rw [if_neg c2] at H
    have c2b0 : decide (x8_1 < (l0.length : Int)) = false := decide_eq_false c2
    clear c2
    obtain rfl := Option.some.inj H
    go_wp2
    go_ret
    exact ⟨re_, uW HB.out⟩
def api_Tag_with_98_97.f (k : Nat) (l0 : List (S98)) : Option (Bool) := (api_Tag_with_98_119.f k l0).bind fun t145 => (some (decide (t145 ≥ 0)))
theorem api_Tag_with_98_97.mono : ∀ a0 k, LeO (api_Tag_with_98_97.f k a0) (api_Tag_with_98_97.f (k + 1) a0) := by
 intro a0 k
 unfold api_Tag_with_98_97.f
 exact lo
instance api_Tag_with_98_97.mI {a0 k} : LeC (api_Tag_with_98_97.f k a0) (api_Tag_with_98_97.f (k + 1) a0) := ⟨api_Tag_with_98_97.mono _ _⟩
theorem api_Tag_with_98_97.calls (k : Nat) (A0 : Option Addr) (c0 : Nat) (l0 : List (S98)) (r : Bool) (w : World) (hr0 : Kd.C k98 w A0 l0.length l0) (hc0 : l0.length ≤ c0) (h : api_Tag_with_98_97.f k l0 = some r) :
 Calls Tryz.prog 97 #[.slice A0 l0.length c0, .func (.func 98) #[] #[]] w fun e w' => e = .returned (.bool r) ∧ Below w.heap.size w w' := by
 have HR0 := Aside0.mk hr0
 have HC0 := Aside0.mk hc0
 clear hr0 hc0
 have HB := Aside0.mk (Below.refl w.heap.size w)
 have H : ((api_Tag_with_98_119.f k l0).bind fun t145 => (some (decide (t145 ≥ 0)))) = some r := h
 clear h
 obtain ⟨t145, A2, H⟩ := bs H
 try dsimp only at H
 obtain rfl := Option.some.inj H
 go_enter Tryz.func97, Tryz.ntmps97
 go_wp2_with (first | (refine gL (some 7) rfl Tryz.func119 #[.slice A0 l0.length c0, (.func (.func 98) #[] #[])] ?_; (with_reducible refine (api_Tag_with_98_119.calls k _ _ l0 t145 _ ?side1 ?side2 A2.out).mono ?_); (case side1 => exact uC <| HR0.out); (case side2 => exact HC0.out); rintro e w3 ⟨rfl, hb⟩; refine ⟨_, rfl, ?_⟩; replace HB := cW HB hb; (try clear hb)))
 go_ret
 exact ⟨re_, uW HB.out⟩
theorem api_Tag_with_102_145.goesV_ {P : Program} {ops : Array Oper} {Q : Exit → Act → World → Prop} {oi : Oper} {N : Option Tmp} {a : Act} {w : World} {K : Act → World → Prop} {f : FuncId} {fn : Func} {cal : Operand} {as_ : Array Operand} {ts : Array TypeId} (hf : P.funcs[f]? = some fn) (hname : (fn.name == "runtime.NumGoroutine") = false) (hb : fn.body.isSome = true) (args : Array Value)
 (hw : Region.wanted oi (yielded ops a.tmps) = true) (hN : oi.dst = N) (hop : oi.op = .call { callee := .value cal, args := as_, argTypes := ts }) (hev : a.eval cal = .func (.func f) #[] #[]) (hargs : as_.map a.eval = args)
 (h : Calls P f args w fun e w' => ∃ v, e = .returned v ∧ K (a.put N v) w') : if Region.wanted oi (yielded ops a.tmps) = true then Oper.wp P oi a w K Q else K (a.put N undef) w := by
 refine call_ f args hw hN ?_ h
 have he := enters_ hf hname hb args w
 unfold execOp
 simp [hop, resolve, Deferred.ofValue, invoke, hev, hargs, he]
theorem api_Tag_with_102_145.goesVL_ {P : Program} {ops : Array Oper} {Q : Exit → Act → World → Prop} {rest : List Oper} {oi : Oper} {a : Act} {w : World} (N : Option Tmp) (hd : oi.dst = N) (hg : oi.guard = none) {f : FuncId} {fn : Func} {cal : Operand} {as_ : Array Operand} {ts : Array TypeId} (hf : P.funcs[f]? = some fn) (hname : (fn.name == "runtime.NumGoroutine") = false) (hb : fn.body.isSome = true) (args : Array Value)
 (hop : oi.op = .call { callee := .value cal, args := as_, argTypes := ts }) (hev : a.eval cal = .func (.func f) #[] #[]) (hargs : as_.map a.eval = args)
 (h : Calls P f args w fun e w' => ∃ v, e = .returned v ∧ wpList P ops Q rest (a.put N v) w') : wpList P ops Q (oi :: rest) a w := by
 refine wpList_plain hg fun K hK => ?_
 have he := enters_ hf hname hb args w
 have hrun : (execOp a.eval oi).run P w = .ok (.enter f args) w := by
  unfold execOp
  simp [hop, resolve, Deferred.ofValue, invoke, hev, hargs, he]
 unfold Oper.wp
 rw [hrun, Oper.upon_enter]
 refine h.mono fun e w'' hh => ?_
 obtain ⟨v, rfl, hk⟩ := hh
 subst hd
 exact hK _ _ hk
mutual
def api_Tag_with_102_145.l0 : Nat → List (S98) → Int → Int → Int → Option ((List (S98)))
 | 0, _, _, _, _ => none
 | k + 1, x0, x1, x2, x8 => if x8 < x2 then (api_Tag_with_102_145.l1 k x0 x1 x2 x8 x8) else (some x0)
def api_Tag_with_102_145.l1 : Nat → List (S98) → Int → Int → Int → Int → Option ((List (S98)))
 | 0, _, _, _, _, _ => none
 | k + 1, x0, x1, x2, x8, x9 => if x9 > x1 then (if 0 ≤ x9 then (if x9 < (x0.length : Int) then (if 0 ≤ (wrap64 (x9 - 1)) then (if (wrap64 (x9 - 1)) < (x0.length : Int) then ((tag_order.f ((rd_T98 x0 x9).f0) ((rd_T98 x0 x9).f1) ((rd_T98 x0 (wrap64 (x9 - 1))).f0) ((rd_T98 x0 (wrap64 (x9 - 1))).f1)).bind fun t148 => (if t148 < 0 then (api_Tag_with_102_145.l1 k ((x0.set (x9 : Int).toNat (⟨(rd_T98 x0 (wrap64 (x9 - 1))).f0, (rd_T98 x0 (wrap64 (x9 - 1))).f1⟩ : S98)).set ((wrap64 (x9 - 1)) : Int).toNat (⟨(rd_T98 x0 x9).f0, (rd_T98 x0 x9).f1⟩ : S98)) x1 x2 x8 (wrap64 (x9 - 1))) else (api_Tag_with_102_145.l0 k x0 x1 x2 (wrap64 (x8 + 1))))) else (none)) else (none)) else (none)) else (none)) else (api_Tag_with_102_145.l0 k x0 x1 x2 (wrap64 (x8 + 1)))
end
def api_Tag_with_102_145.f (k : Nat) (l0 : List (S98)) (a1 : Int) (a2 : Int) : Option ((List (S98))) := api_Tag_with_102_145.l0 k l0 a1 a2 (wrap64 (a1 + 1))
theorem api_Tag_with_102_145.mono_l : ∀ k, (∀ y0 y1 y2 y3, LeC (api_Tag_with_102_145.l0 k y0 y1 y2 y3) (api_Tag_with_102_145.l0 (k + 1) y0 y1 y2 y3)) ∧ (∀ y0 y1 y2 y3 y4, LeC (api_Tag_with_102_145.l1 k y0 y1 y2 y3 y4) (api_Tag_with_102_145.l1 (k + 1) y0 y1 y2 y3 y4))
 | 0 => ⟨fun _ _ _ _ => ⟨fun r h => by simp [api_Tag_with_102_145.l0] at h⟩, fun _ _ _ _ _ => ⟨fun r h => by simp [api_Tag_with_102_145.l1] at h⟩⟩
 | k + 1 => by obtain ⟨ih0, ih1⟩ := api_Tag_with_102_145.mono_l k; exact ⟨fun _ _ _ _ => by unfold api_Tag_with_102_145.l0; exact lm, fun _ _ _ _ _ => by unfold api_Tag_with_102_145.l1; exact lm⟩
theorem api_Tag_with_102_145.mono : ∀ a0 a1 a2 k, LeO (api_Tag_with_102_145.f k a0 a1 a2) (api_Tag_with_102_145.f (k + 1) a0 a1 a2) := by
 intro a0 a1 a2 k
 obtain ⟨ih0, ih1⟩ := api_Tag_with_102_145.mono_l k
 unfold api_Tag_with_102_145.f
 exact lo
instance api_Tag_with_102_145.mI {a0 a1 a2 k} : LeC (api_Tag_with_102_145.f k a0 a1 a2) (api_Tag_with_102_145.f (k + 1) a0 a1 a2) := ⟨api_Tag_with_102_145.mono _ _ _ _⟩
def api_Tag_with_102_145.T4 : Bool × List (List Nat × List Nat) := (true, [([], []), ([], []), ([0, 1], [0, 1]), ([2], [2]), ([3], [3]), ([3], [3]), ([3], [3]), ([5, 6, 3], [3, 5, 6]), ([7, 3], [3, 7]), ([3], [3]), ([3], [3]), ([10, 3], [3, 10]), ([9, 11, 3], [3, 9, 11]), ([12, 3], [3, 12]), ([4, 8, 13, 3, 3], [3, 4, 8, 13]), ([14, 3], [3, 14]), ([3, 15], [3, 15])])
def api_Tag_with_102_145.B4 : List Nat := [0, 0, 3, 7, 15, 15, 15, 111, 239, 15, 15, 1039, 3599, 7695, 16383, 32767, 65535]
theorem api_Tag_with_102_145.tab4 : rtab .any (opsOf Tryz.f145 4) = api_Tag_with_102_145.T4 := by kernel_rfl
theorem api_Tag_with_102_145.bits4 : waitsOk api_Tag_with_102_145.T4.2 api_Tag_with_102_145.B4 = true := by kernel_rfl
def api_Tag_with_102_145.T6 : Bool × List (List Nat × List Nat) := (true, [([], []), ([], []), ([], []), ([], []), ([3], [3]), ([], []), ([], []), ([6], [6]), ([5, 7], [5, 7]), ([8], [8]), ([], []), ([], []), ([10, 11], [10, 11]), ([12], [12]), ([0, 1, 0, 1, 5, 6, 7, 8, 9, 13], [0, 1]), ([14, 9, 0, 1, 5, 6, 7, 8, 9, 13], [9, 14]), ([2, 4, 0, 1, 2, 3, 4, 5, 6, 7, 8, 9, 10, 11, 12, 13, 14, 15], [2, 4]), ([16, 13, 15, 0, 1, 2, 3, 4, 5, 6, 7, 8, 9, 10, 11, 12, 13, 14, 15], [13, 16])])
def api_Tag_with_102_145.B6 : List Nat := [0, 0, 0, 0, 8, 0, 0, 64, 224, 480, 0, 0, 3072, 7168, 16355, 32739, 65535, 131071]
theorem api_Tag_with_102_145.tab6 : rtab .any (opsOf Tryz.f145 6) = api_Tag_with_102_145.T6 := by kernel_rfl
theorem api_Tag_with_102_145.bits6 : waitsOk api_Tag_with_102_145.T6.2 api_Tag_with_102_145.B6 = true := by kernel_rfl
theorem api_Tag_with_102_145.calls (k : Nat) (P0_ : Nat → Prop) (u9000_ : Value) (l0 : List (S98)) (a1 : Int) (a2 : Int) (r : List (S98)) (w0 w : World) (hB : Below w0.heap.size w0 w) (ho0 : Kd.R k98 98 w w0.heap.size P0_ u9000_ l0) (h : api_Tag_with_102_145.f k l0 a1 a2 = some r) :
 Calls Tryz.prog 145 #[u9000_, .int .i64 a1, .int .i64 a2, .func (.func 102) #[] #[]] w fun e w' => e = .returned (.tuple #[]) ∧ Kd.R k98 98 w' w0.heap.size (fun k_ => (P0_ k_ ∨ w.heap.size ≤ k_)) u9000_ r ∧ Below w0.heap.size w0 w' ∧ Kept w w' (fun k_ => P0_ k_) := by
 have hu98 := Tryz.underlying98
 have HO0 := Aside0.mk (show Kd.R k98 98 w w0.heap.size (fun k_ => (P0_ k_ ∨ w.heap.size ≤ k_)) u9000_ l0 from Kd.R_mono ho0 (fun k_ hk => (.inl hk)))
 have HK := Aside0.mk (Kept.refl w (fun k_ => P0_ k_))
 have HW0 := Aside0.mk hB.size
 have HB := Aside0.mk hB
 clear hB
 have H : (api_Tag_with_102_145.l0 k l0 a1 a2 (wrap64 (a1 + 1))) = some r := h
 clear h
 have H' := Aside0.mk H
 clear H
 have eg102 : ∀ args w, (callFunc 102 args).run Tryz.prog w = .ok (.enter 102 args) w := enters_of Tryz.func102 (by kernel_rfl) rfl
 go_enter Tryz.func145, Tryz.ntmps145
 go_wp2
 go_loopg [8] k (fun kq v8 w' => ∃ (x0_1 : List (S98)) (x8_1 : Int), v8 = .int .i64 x8_1 ∧ Aside0 (api_Tag_with_102_145.l0 kq x0_1 a1 a2 x8_1 = some r) ∧ Aside0 (kq ≤ k) ∧ Aside0 (Kd.R k98 98 w' w0.heap.size (fun k_ => (P0_ k_ ∨ w.heap.size ≤ k_)) u9000_ x0_1) ∧ Aside0 (Kept w w' (fun k_ => P0_ k_)) ∧ Aside0 (Below w0.heap.size w0 w'))
 case atStart => exact ⟨(l0), (wrap64 (a1 + 1)), rs_, H', ⟨Nat.le_refl _⟩, ⟨uR HO0.out⟩, ⟨by repeat (first | (with_reducible first | exact HK.out | apply Kept.alloc | apply Kept.drewN | apply Kept.drew) | exact HK.out)⟩, ⟨uW HB.out⟩⟩
 case round =>
  clear H'
  try clear p2
  obtain ⟨x0_1, x8_1, rfl, HA, HK1, HO_0, HK, HB⟩ := hrel
  cases gk with
  | zero => exact absurd HA.out (by simp [api_Tag_with_102_145.l0])
  | succ k1 =>
   have H := HA.out
   clear HA
   simp only [api_Tag_with_102_145.l0] at H
   by_cases c4 : x8_1 < a2
   ·
    rw [if_pos c4] at H
    have c4b0 : decide (x8_1 < a2) = true := decide_eq_true c4
    clear c4
    have H' := Aside0.mk H
    clear H
    go_wp2
    go_loopg [9] k1 (fun kq v9 w' => ∃ (x0_2 : List (S98)) (x9_2 : Int), v9 = .int .i64 x9_2 ∧ Aside0 (api_Tag_with_102_145.l1 kq x0_2 a1 a2 x8_1 x9_2 = some r) ∧ Aside0 (kq ≤ k1) ∧ Aside0 (Kd.R k98 98 w' w0.heap.size (fun k_ => (P0_ k_ ∨ w.heap.size ≤ k_)) u9000_ x0_2) ∧ Aside0 (Kept w w' (fun k_ => P0_ k_)) ∧ Aside0 (Below w0.heap.size w0 w'))
    case atStart => exact ⟨(x0_1), (x8_1), rs_, H', ⟨Nat.le_refl _⟩, ⟨uR HO_0.out⟩, ⟨by repeat (first | (with_reducible first | exact HK.out | apply Kept.alloc | apply Kept.drewN | apply Kept.drew) | exact HK.out)⟩, ⟨uW HB.out⟩⟩
    case round =>
     clear H'
     try clear p2
     try clear c4
     try clear c4b0
     try clear p2
     obtain ⟨x0_2, x9_2, rfl, HA, HK2, HO_0, HK, HB⟩ := hrel
     cases gk with
     | zero => exact absurd HA.out (by simp [api_Tag_with_102_145.l1])
     | succ k2 =>
      have H := HA.out
      clear HA
      simp only [api_Tag_with_102_145.l1] at H
      by_cases c5 : x9_2 > a1
      ·
       rw [if_pos c5] at H
       have c5b0 : decide (a1 < x9_2) = true := decide_eq_true c5
       clear c5
       obtain ⟨c6b0, H⟩ := gdd H
       obtain ⟨c7b0, H⟩ := gdd H
       obtain ⟨ji8, hji8⟩ : ∃ j_ : Int, (wrap64 (x9_2 - 1)) = j_ := ⟨_, rfl⟩
       (first | rw [hji8] at H | simp only [hji8] at H)
       have hji8w : (IntKind.i64.wrap (x9_2 - 1)) = ji8 := (i64_w _).trans hji8
       obtain ⟨c9b0, H⟩ := gdd H
       obtain ⟨c10b0, H⟩ := gdd H
       obtain ⟨t148, A11, H⟩ := bs H
       try dsimp only at H
       by_cases c12 : t148 < 0
       ·
        rw [if_pos c12] at H
        have c12b0 : decide (t148 < 0) = true := decide_eq_true c12
        clear c12
        obtain ⟨y151, hy151⟩ : ∃ y_ : List (S98), y_ = (x0_2.set (x9_2 : Int).toNat (⟨(rd_T98 x0_2 (ji8)).f0, (rd_T98 x0_2 (ji8)).f1⟩ : S98)) := ⟨_, rfl⟩
        replace H : (api_Tag_with_102_145.l1 k2 (y151.set ((ji8) : Int).toNat (⟨(rd_T98 x0_2 x9_2).f0, (rd_T98 x0_2 x9_2).f1⟩ : S98)) a1 a2 x8_1 ji8) = some r := by first | (rw [hy151]; with_reducible exact H) | (have H2_ := (Option.bind_some _ _).symm.trans H; rw [hy151]; with_reducible exact H2_) | (have H2_ := (Option.bind_some _ _).symm.trans H; with_reducible exact H2_) | with_reducible exact H | (rw [hy151]; exact H) | exact H
        have Ny151 := Aside0.mk hy151
        clear hy151
        obtain ⟨y152, hy152⟩ : ∃ y_ : List (S98), y_ = (y151.set ((ji8) : Int).toNat (⟨(rd_T98 x0_2 x9_2).f0, (rd_T98 x0_2 x9_2).f1⟩ : S98)) := ⟨_, rfl⟩
        replace H : (api_Tag_with_102_145.l1 k2 y152 a1 a2 x8_1 ji8) = some r := by first | (rw [hy152]; with_reducible exact H) | (have H2_ := (Option.bind_some _ _).symm.trans H; rw [hy152]; with_reducible exact H2_) | (have H2_ := (Option.bind_some _ _).symm.trans H; with_reducible exact H2_) | with_reducible exact H | (rw [hy152]; exact H) | exact H
        have Ny152 := Aside0.mk hy152
        clear hy152
        have H' := Aside0.mk H
        clear H
        try go_wp2
        replace HO_0 := Aside0.mk (Kd.R_drew HO_0.out)
        replace HK := Aside0.mk (Kept.drew HK.out)
        replace HB := Aside0.mk (below_drew1 HB.out)
        obtain ⟨Ao16, co16, eo16⟩ := Kd.R_slice HO_0.out
        (first | subst eo16 | (injection eo16 with f1_ f2_ f3_; have f4_ := f1_.symm; have f5_ := f3_.symm; clear f1_ f2_ f3_; subst f4_; subst f5_))
        have p146 : 0 ≤ (x9_2 : Int) := od
        have q146 : x9_2 < (x0_2.length : Int) := od
        obtain ⟨ad146, e146, hx146_0, hx146_1⟩ := at_T98 (Kd.R_reads' HO_0.out).2.2 x9_2 p146 q146
        cases e146
        replace p146 := eq_true p146
        replace q146 := eq_true q146
        have p147 : 0 ≤ ((ji8) : Int) := od
        have q147 : (ji8) < (x0_2.length : Int) := od
        obtain ⟨ad147, e147, hx147_0, hx147_1⟩ := at_T98 (Kd.R_reads' HO_0.out).2.2 (ji8) p147 q147
        obtain rfl : ad146 = ad147 := (by injection e147)
        replace p147 := eq_true p147
        replace q147 := eq_true q147
        refine start_ (n := 17) (S := fun w' => w'.cell? (ad146.add ((x9_2).toNat * 2)) = some (.string ((rd_T98 x0_2 x9_2).f0)) ∧ w'.cell? ⟨(ad146.add ((x9_2).toNat * 2)).block, (ad146.add ((x9_2).toNat * 2)).off + 1, none⟩ = some (.string ((rd_T98 x0_2 x9_2).f1)) ∧ w'.cell? (ad146.add (((ji8)).toNat * 2)) = some (.string ((rd_T98 x0_2 (ji8)).f0)) ∧ w'.cell? ⟨(ad146.add (((ji8)).toNat * 2)).block, (ad146.add (((ji8)).toNat * 2)).off + 1, none⟩ = some (.string ((rd_T98 x0_2 (ji8)).f1))) (ds := []) _ (by kernel_rfl) rfl rfl ⟨hx146_0, hx146_1, hx147_0, hx147_1⟩ (fun hHeld => ?_); refine with_tabW api_Tag_with_102_145.tab4 api_Tag_with_102_145.bits4 (fun HT_ HW_ => ?_)
        generalize wr.drew = w15 at HO_0 HK HB hx146_0 hx146_1 hx147_0 hx147_1 hHeld ⊢
        refine p1 0 (some 18) ?_
        refine p1 1 (some 19) ?_
        refine p1 2 (some 20) ?_
        refine p1 3 (some 21) ?_
        refine p1 4 (some 22) ?_
        refine p1 5 (some 23) ?_
        refine p1 6 (some 24) ?_
        refine p1 7 (some 25) ?_
        refine p1 9 (some 27) ?_
        refine p1 10 (some 28) ?_
        refine p1 11 (some 29) ?_
        refine p1 12 (some 30) ?_
        refine t1 8 (some 26) rfl rfl hHeld (Or.inl ⟨by rfl, by rintro w' ⟨s0, s1, s2, s3⟩; go_simp; with_reducible rfl⟩) ?_
        refine t1 13 (some 31) rfl rfl hHeld (Or.inl ⟨by rfl, by rintro w' ⟨s0, s1, s2, s3⟩; go_simp; with_reducible rfl⟩) ?_
        refine o1 14 (some 32) rfl rfl (fun K hK => ?_)
        refine api_Tag_with_102_145.goesV_ Tryz.func102 (by kernel_rfl) rfl #[.agg #[.string ((rd_T98 x0_2 x9_2).f0), .string ((rd_T98 x0_2 x9_2).f1)], .agg #[.string ((rd_T98 x0_2 (ji8)).f0), .string ((rd_T98 x0_2 (ji8)).f1)]] (by rfl) rfl rfl (by rfl) (by (try simp only [List.map_toArray, List.map_cons, List.map_nil]); first | done | (simp only [hji8]; rfl) | rfl | (simp only [List.length_drop, List.length_take]; rfl)) ?_
        with_reducible refine (tag_order.calls ((rd_T98 x0_2 x9_2).f0) ((rd_T98 x0_2 x9_2).f1) ((rd_T98 x0_2 (ji8)).f0) ((rd_T98 x0_2 (ji8)).f1) t148 _ A11.out).mono ?_
        rintro e w17 ⟨rfl, hb⟩
        have HS0_ := (hb.cell (World.block_lt_of_cell? _ _ (hHeld.1))).trans (hHeld.1)
        have HS1_ := (hb.cell (World.block_lt_of_cell? _ _ (hHeld.2.1))).trans (hHeld.2.1)
        have HS2_ := (hb.cell (World.block_lt_of_cell? _ _ (hHeld.2.2.1))).trans (hHeld.2.2.1)
        have HS3_ := (hb.cell (World.block_lt_of_cell? _ _ (hHeld.2.2.2))).trans (hHeld.2.2.2)
        refine ⟨_, rfl, ?_⟩
        replace HO_0 := cR HO_0 hb
        replace HK := Aside0.mk (Kept.below (S := (fun k_ => P0_ k_)) (by repeat (first | (with_reducible first | exact HK.out | apply Kept.alloc | apply Kept.drewN | apply Kept.drew) | exact HK.out)) hb)
        replace HB := cW HB hb
        (try clear hb)
        refine hK.out _ _ ⟨HS0_, HS1_, HS2_, HS3_⟩ (fun hHeld => ?_)
        clear hK K
        refine norm_ (a' := ?_) ?_ ?_
        rotate_left
        ·
         show Act.put _ (some 32) _ = _
         simp only [Act.put, List.setIfInBounds_toArray, List.set_cons_zero, List.set_cons_succ, i64_w, i32_w]
         rfl
        refine p1 15 (some 33) ?_
        refine p1 16 (some 34) ?_
        refine done_ (done_of HT_.out (by kernel_rfl)) ?_
        try go_wp2
        replace HO_0 := Aside0.mk (Kd.R_drew HO_0.out)
        replace HK := Aside0.mk (Kept.drew HK.out)
        replace HB := Aside0.mk (below_drew1 HB.out)
        have p149 : 0 ≤ ((ji8) : Int) := od
        have q149 : (ji8) < (x0_2.length : Int) := od
        obtain ⟨ad149, e149, hx149_0, hx149_1⟩ := at_T98 (Kd.R_reads' HO_0.out).2.2 (ji8) p149 q149
        obtain rfl : ad146 = ad149 := (by injection e149)
        replace p149 := eq_true p149
        replace q149 := eq_true q149
        have p150 : 0 ≤ (x9_2 : Int) := od
        have q150 : x9_2 < (x0_2.length : Int) := od
        obtain ⟨ad150, e150, hx150_0, hx150_1⟩ := at_T98 (Kd.R_reads' HO_0.out).2.2 x9_2 p150 q150
        obtain rfl : ad146 = ad150 := (by injection e150)
        replace p150 := eq_true p150
        replace q150 := eq_true q150
        have p13 : 0 ≤ (x9_2 : Int) := od
        have q13 : (x9_2 : Int) < ((x0_2.length : Int) : Int) := od
        obtain ⟨go13, co13, eo13, gb13, gl13, cl13, HG13⟩ := Kd.R_form HO_0.out (by omega)
        (first | cases eo13 | (injection eo13 with ea_ en_ ec_; (first | subst ea_ | (injection ea_ with ea_; subst ea_)); subst ec_; clear en_))
        have GB13 := Aside0.mk gb13
        have GG13 := Aside0.mk HG13
        clear gb13 gl13 HG13
        have HMgo13 := Aside0.mk (show (P0_ go13 ∨ w.heap.size ≤ go13) from (HO_0.out.1 _ rfl))
        (first | simp only [add_plain] at hx146_0 | skip)
        (first | simp only [add_plain] at hx146_1 | skip)
        (first | simp only [add_plain] at hx147_0 | skip)
        (first | simp only [add_plain] at hx147_1 | skip)
        (first | simp only [add_plain] at hx149_0 | skip)
        (first | simp only [add_plain] at hx149_1 | skip)
        (first | simp only [add_plain] at hx150_0 | skip)
        (first | simp only [add_plain] at hx150_1 | skip)
        obtain ⟨ce13, hcl13, hM13, hcc13, hfr13⟩ := Kd.R_elem HO_0.out z98 (x9_2 : Int) p13 q13
        obtain rfl := k98_openM hM13
        have hx13_0 : World.cell? _ ⟨go13, (x9_2 : Int).toNat * 2, none⟩ = some (.string ((rd_T98 x0_2 x9_2).f0)) := hcc13 0 _ rfl
        have hx13_1 : World.cell? _ ⟨go13, (x9_2 : Int).toNat * 2 + 1, none⟩ = some (.string ((rd_T98 x0_2 x9_2).f1)) := hcc13 1 _ rfl
        have hf13_0 : World.frozen? _ ⟨go13, (x9_2 : Int).toNat * 2, none⟩ = false := hfr13 0
        have hf13_1 : World.frozen? _ ⟨go13, (x9_2 : Int).toNat * 2 + 1, none⟩ = false := hfr13 1
        clear hcl13 hcc13 hfr13 hM13
        replace p13 := eq_true p13
        replace q13 := eq_true q13
        obtain ⟨ce19, hcl19, hM19, hcc19, hfr19⟩ := Kd.R_elem HO_0.out z98 (x9_2 : Int) (od) (by have h_ : (x9_2 : Int) < ((x0_2.length : Int) : Int) := od; first | exact h_ | (have e_ := (Kd.R_reads' HO_0.out).1; omega) | simpa using h_)
        obtain rfl := k98_openM hM19
        have HP19 := (Kd.R_seg HO_0.out (x9_2 : Int) (od) (by have h_ : (x9_2 : Int) < ((x0_2.length : Int) : Int) := od; first | exact h_ | (have e_ := (Kd.R_reads' HO_0.out).1; omega) | simpa using h_) (seg := [.string ((rd_T98 x0_2 (ji8)).f0), .string ((rd_T98 x0_2 (ji8)).f1)]) (j := 0) hcl19 hcc19 (show 2 ≤ 2 from by decide) (x' := (⟨(rd_T98 x0_2 (ji8)).f0, (rd_T98 x0_2 (ji8)).f1⟩ : S98)) (k98_mkM _ _ _ (⟨(rd_T98 x0_2 (ji8)).f0, (rd_T98 x0_2 (ji8)).f1⟩ : S98) ) (fun _ hk => hk)).1
        rw [← Ny151.out] at HP19
        have HQ19 := Aside0.mk HP19
        clear hcl19 hcc19 hfr19 hM19 HP19
        have p14 : 0 ≤ ((ji8) : Int) := od
        have q14 : ((ji8) : Int) < ((x0_2.length : Int) : Int) := od
        obtain ⟨ce14, hcl14, hM14, hcc14, hfr14⟩ := Kd.R_elem HQ19.out z98 ((ji8) : Int) p14 q14
        obtain rfl := k98_openM hM14
        have hx14_0 : World.cell? _ ⟨go13, ((ji8) : Int).toNat * 2, none⟩ = some (.string ((rd_T98 y151 (ji8)).f0)) := hcc14 0 _ rfl
        have hx14_1 : World.cell? _ ⟨go13, ((ji8) : Int).toNat * 2 + 1, none⟩ = some (.string ((rd_T98 y151 (ji8)).f1)) := hcc14 1 _ rfl
        have hf14_0 : World.frozen? _ ⟨go13, ((ji8) : Int).toNat * 2, none⟩ = false := hfr14 0
        have hf14_1 : World.frozen? _ ⟨go13, ((ji8) : Int).toNat * 2 + 1, none⟩ = false := hfr14 1
        clear hcl14 hcc14 hfr14 hM14
        replace p14 := eq_true p14
        replace q14 := eq_true q14
        obtain ⟨ce20, hcl20, hM20, hcc20, hfr20⟩ := Kd.R_elem HQ19.out z98 ((ji8) : Int) (od) (by have h_ : ((ji8) : Int) < ((x0_2.length : Int) : Int) := od; first | exact h_ | (have e_ := (Kd.R_reads' HO_0.out).1; omega) | simpa using h_)
        obtain rfl := k98_openM hM20
        have HP20 := (Kd.R_seg HQ19.out ((ji8) : Int) (od) (by have h_ : ((ji8) : Int) < ((x0_2.length : Int) : Int) := od; first | exact h_ | (have e_ := (Kd.R_reads' HO_0.out).1; omega) | simpa using h_) (seg := [.string ((rd_T98 x0_2 x9_2).f0), .string ((rd_T98 x0_2 x9_2).f1)]) (j := 0) hcl20 hcc20 (show 2 ≤ 2 from by decide) (x' := (⟨(rd_T98 x0_2 x9_2).f0, (rd_T98 x0_2 x9_2).f1⟩ : S98)) (k98_mkM _ _ _ (⟨(rd_T98 x0_2 x9_2).f0, (rd_T98 x0_2 x9_2).f1⟩ : S98) ) (fun _ hk => hk)).1
        rw [← Ny152.out] at HP20
        have HQ20 := Aside0.mk HP20
        clear hcl20 hcc20 hfr20 hM20 HP20
        have hnq_ : ji8.toNat ≠ x9_2.toNat := by have a_ := of_eq_true p14; have b_ := of_eq_true p13; have c_ := hji8; unfold wrap64 at c_; omega
        have hnq1_ : (ji8.toNat * 2 = x9_2.toNat * 2) = False := eq_false (by omega)
        have hnq2_ : (x9_2.toNat * 2 = ji8.toNat * 2) = False := eq_false (by omega)
        have hnq3_ : (ji8.toNat = x9_2.toNat) = False := eq_false hnq_
        have hnq4_ : (x9_2.toNat = ji8.toNat) = False := eq_false (Ne.symm hnq_)
        obtain ⟨_, _, _, _, hfrq_⟩ := Kd.R_elem HO_0.out z98 ((ji8) : Int) (of_eq_true p14) (of_eq_true q14)
        have hfq_0 : World.frozen? _ ⟨go13, ((ji8) : Int).toNat * 2, none⟩ = false := hfrq_ 0
        have hfq_1 : World.frozen? _ ⟨go13, ((ji8) : Int).toNat * 2 + 1, none⟩ = false := hfrq_ 1
        clear hfrq_
        refine start_ (n := 18) (S := fun w' => w'.cell? ⟨go13, (((ji8)).toNat * 2), none⟩ = some (.string ((rd_T98 x0_2 (ji8)).f0)) ∧ w'.cell? ⟨go13, (((ji8)).toNat * 2) + 1, none⟩ = some (.string ((rd_T98 x0_2 (ji8)).f1)) ∧ w'.cell? ⟨go13, ((x9_2).toNat * 2), none⟩ = some (.string ((rd_T98 x0_2 x9_2).f0)) ∧ w'.cell? ⟨go13, ((x9_2).toNat * 2) + 1, none⟩ = some (.string ((rd_T98 x0_2 x9_2).f1))) (ds := [15, 17]) _ (by kernel_rfl) rfl rfl ⟨hx149_0, hx149_1, hx150_0, hx150_1⟩ (fun hHeld => ?_); refine with_tabW api_Tag_with_102_145.tab6 api_Tag_with_102_145.bits6 (fun HT_ HW_ => ?_)
        generalize w17.drew = w18 at HO_0 HK HB GG13 HQ19 HQ20 hf13_0 hf13_1 hf14_0 hf14_1 hx13_0 hx13_1 hx146_0 hx146_1 hx147_0 hx147_1 hx149_0 hx149_1 hx14_0 hx14_1 hx150_0 hx150_1 hfq_0 hfq_1 hHeld ⊢
        refine p1 0 (some 37) ?_
        refine p1 1 (some 38) ?_
        refine p1 2 (some 39) ?_
        refine p1 3 (some 40) ?_
        refine p1 4 (some 41) ?_
        refine p1 5 (some 42) ?_
        refine p1 6 (some 43) ?_
        refine p1 7 (some 44) ?_
        refine p1 8 (some 45) ?_
        refine p1 10 (some 47) ?_
        refine p1 11 (some 48) ?_
        refine p1 12 (some 49) ?_
        refine t1 9 (some 46) rfl rfl hHeld (Or.inl ⟨by rfl, by rintro w' ⟨s0, s1, s2, s3⟩; go_simp; with_reducible rfl⟩) ?_
        refine t1 13 (some 50) rfl rfl hHeld (Or.inl ⟨by rfl, by rintro w' ⟨s0, s1, s2, s3⟩; go_simp; with_reducible rfl⟩) ?_
        refine p1 14 (some 51) ?_
        refine l1_ 15 none rfl rfl (fun K hK => ?_)
        refine skip_ (w1 := ?_) (by rfl) rfl ?_ ?_
        rotate_left
        ·
         go_simp
         rfl
        refine hK.out _ _ ?_
        clear hK K
        refine p1 16 (some 52) ?_
        refine l1_ 17 none rfl rfl (fun K hK => ?_)
        refine skip_ (w1 := ?_) (by rfl) rfl ?_ ?_
        rotate_left
        ·
         go_simp
         rfl
        refine hK.out _ _ ?_
        clear hK K
        refine done_ (done_of HT_.out (by kernel_rfl)) ?_
        try go_wp2
        go_roundg k2
        case measure => have := HK1.out; have := HK2.out; omega
        case rel => exact ⟨(y152), (ji8), (by first | rfl | (simp; done) | (simp only [← hji8] <;> (first | rfl | simp)) | (simp [*]; done)), H', ⟨by have := HK1.out; have := HK2.out; omega⟩, ⟨by (with_reducible repeat (first | apply Kd.R_alloc | apply Kd.R_drewN | apply Kd.R_drew)); exact HQ20.out⟩, ⟨by repeat (first | (with_reducible first | exact HK.out | apply Kept.alloc | apply Kept.drewN | apply Kept.drew | refine Kept.setCell ?_ HMgo13.out _ | refine Kept.setCell ?_ HMgo13.out _ | refine Kept.setCell ?_ HMgo13.out _ | refine Kept.setCell ?_ HMgo13.out _) | exact HK.out)⟩, ⟨by repeat (first | (with_reducible first | exact HB.out | apply below_alloc | apply pw_below_drewN | apply below_drew1 | refine below_set ?_ GB13.out | refine below_set ?_ GB13.out | refine below_set ?_ GB13.out | refine below_set ?_ GB13.out) | exact HB.out)⟩⟩
       ·
        rw [if_neg c12] at H
        have c12b0 : decide (t148 < 0) = false := decide_eq_false c12
        clear c12
        have H' := Aside0.mk H
        clear H
        try go_wp2
        replace HO_0 := Aside0.mk (Kd.R_drew HO_0.out)
        replace HK := Aside0.mk (Kept.drew HK.out)
        replace HB := Aside0.mk (below_drew1 HB.out)
        obtain ⟨Ao22, co22, eo22⟩ := Kd.R_slice HO_0.out
        (first | subst eo22 | (injection eo22 with f1_ f2_ f3_; have f4_ := f1_.symm; have f5_ := f3_.symm; clear f1_ f2_ f3_; subst f4_; subst f5_))
        have p146 : 0 ≤ (x9_2 : Int) := od
        have q146 : x9_2 < (x0_2.length : Int) := od
        obtain ⟨ad146, e146, hx146_0, hx146_1⟩ := at_T98 (Kd.R_reads' HO_0.out).2.2 x9_2 p146 q146
        cases e146
        replace p146 := eq_true p146
        replace q146 := eq_true q146
        have p147 : 0 ≤ ((ji8) : Int) := od
        have q147 : (ji8) < (x0_2.length : Int) := od
        obtain ⟨ad147, e147, hx147_0, hx147_1⟩ := at_T98 (Kd.R_reads' HO_0.out).2.2 (ji8) p147 q147
        obtain rfl : ad146 = ad147 := (by injection e147)
        replace p147 := eq_true p147
        replace q147 := eq_true q147
        refine start_ (n := 17) (S := fun w' => w'.cell? (ad146.add ((x9_2).toNat * 2)) = some (.string ((rd_T98 x0_2 x9_2).f0)) ∧ w'.cell? ⟨(ad146.add ((x9_2).toNat * 2)).block, (ad146.add ((x9_2).toNat * 2)).off + 1, none⟩ = some (.string ((rd_T98 x0_2 x9_2).f1)) ∧ w'.cell? (ad146.add (((ji8)).toNat * 2)) = some (.string ((rd_T98 x0_2 (ji8)).f0)) ∧ w'.cell? ⟨(ad146.add (((ji8)).toNat * 2)).block, (ad146.add (((ji8)).toNat * 2)).off + 1, none⟩ = some (.string ((rd_T98 x0_2 (ji8)).f1))) (ds := []) _ (by kernel_rfl) rfl rfl ⟨hx146_0, hx146_1, hx147_0, hx147_1⟩ (fun hHeld => ?_); refine with_tabW api_Tag_with_102_145.tab4 api_Tag_with_102_145.bits4 (fun HT_ HW_ => ?_)
        generalize wr.drew = w21 at HO_0 HK HB hx146_0 hx146_1 hx147_0 hx147_1 hHeld ⊢
        refine p1 0 (some 18) ?_
        refine p1 1 (some 19) ?_
        refine p1 2 (some 20) ?_
        refine p1 3 (some 21) ?_
        refine p1 4 (some 22) ?_
        refine p1 5 (some 23) ?_
        refine p1 6 (some 24) ?_
        refine p1 7 (some 25) ?_
        refine p1 9 (some 27) ?_
        refine p1 10 (some 28) ?_
        refine p1 11 (some 29) ?_
        refine p1 12 (some 30) ?_
        refine t1 8 (some 26) rfl rfl hHeld (Or.inl ⟨by rfl, by rintro w' ⟨s0, s1, s2, s3⟩; go_simp; with_reducible rfl⟩) ?_
        refine t1 13 (some 31) rfl rfl hHeld (Or.inl ⟨by rfl, by rintro w' ⟨s0, s1, s2, s3⟩; go_simp; with_reducible rfl⟩) ?_
        refine o1 14 (some 32) rfl rfl (fun K hK => ?_)
        refine api_Tag_with_102_145.goesV_ Tryz.func102 (by kernel_rfl) rfl #[.agg #[.string ((rd_T98 x0_2 x9_2).f0), .string ((rd_T98 x0_2 x9_2).f1)], .agg #[.string ((rd_T98 x0_2 (ji8)).f0), .string ((rd_T98 x0_2 (ji8)).f1)]] (by rfl) rfl rfl (by rfl) (by (try simp only [List.map_toArray, List.map_cons, List.map_nil]); first | done | (simp only [hji8]; rfl) | rfl | (simp only [List.length_drop, List.length_take]; rfl)) ?_
        with_reducible refine (tag_order.calls ((rd_T98 x0_2 x9_2).f0) ((rd_T98 x0_2 x9_2).f1) ((rd_T98 x0_2 (ji8)).f0) ((rd_T98 x0_2 (ji8)).f1) t148 _ A11.out).mono ?_
        rintro e w23 ⟨rfl, hb⟩
        have HS0_ := (hb.cell (World.block_lt_of_cell? _ _ (hHeld.1))).trans (hHeld.1)
        have HS1_ := (hb.cell (World.block_lt_of_cell? _ _ (hHeld.2.1))).trans (hHeld.2.1)
        have HS2_ := (hb.cell (World.block_lt_of_cell? _ _ (hHeld.2.2.1))).trans (hHeld.2.2.1)
        have HS3_ := (hb.cell (World.block_lt_of_cell? _ _ (hHeld.2.2.2))).trans (hHeld.2.2.2)
        refine ⟨_, rfl, ?_⟩
        replace HO_0 := cR HO_0 hb
        replace HK := Aside0.mk (Kept.below (S := (fun k_ => P0_ k_)) (by repeat (first | (with_reducible first | exact HK.out | apply Kept.alloc | apply Kept.drewN | apply Kept.drew) | exact HK.out)) hb)
        replace HB := cW HB hb
        (try clear hb)
        refine hK.out _ _ ⟨HS0_, HS1_, HS2_, HS3_⟩ (fun hHeld => ?_)
        clear hK K
        refine norm_ (a' := ?_) ?_ ?_
        rotate_left
        ·
         show Act.put _ (some 32) _ = _
         simp only [Act.put, List.setIfInBounds_toArray, List.set_cons_zero, List.set_cons_succ, i64_w, i32_w]
         rfl
        refine p1 15 (some 33) ?_
        refine p1 16 (some 34) ?_
        refine done_ (done_of HT_.out (by kernel_rfl)) ?_
        try go_wp2
        go_roundg k2
        case measure => have := HK1.out; have := HK2.out; omega
        case rel => exact ⟨(x0_2), (wrap64 (x8_1 + 1)), rs_, H', ⟨by have := HK1.out; have := HK2.out; omega⟩, ⟨uR HO_0.out⟩, ⟨by repeat (first | (with_reducible first | exact HK.out | apply Kept.alloc | apply Kept.drewN | apply Kept.drew) | exact HK.out)⟩, ⟨uW HB.out⟩⟩
      ·
       rw [if_neg c5] at H
       have c5b0 : decide (a1 < x9_2) = false := decide_eq_false c5
       clear c5
       have H' := Aside0.mk H
       clear H
       try go_wp2
       replace HO_0 := Aside0.mk (Kd.R_drew HO_0.out)
       replace HK := Aside0.mk (Kept.drew HK.out)
       replace HB := Aside0.mk (below_drew1 HB.out)
       refine start_ (n := 17) (S := fun w' => True) (ds := []) _ (by kernel_rfl) rfl rfl trivial (fun hHeld => ?_); refine with_tabW api_Tag_with_102_145.tab4 api_Tag_with_102_145.bits4 (fun HT_ HW_ => ?_)
       generalize wr.drew = w24 at HO_0 HK HB hHeld ⊢
       refine p1 0 (some 18) ?_
       refine p1 1 (some 19) ?_
       refine p1 2 (some 20) ?_
       refine p1 3 (some 21) ?_
       refine p2 4 (some 22) ?_
       refine p2 5 (some 23) ?_
       refine p2 6 (some 24) ?_
       refine p2 7 (some 25) ?_
       refine p2 8 (some 26) ?_
       refine p2 9 (some 27) ?_
       refine p2 10 (some 28) ?_
       refine p2 11 (some 29) ?_
       refine p2 12 (some 30) ?_
       refine p2 13 (some 31) ?_
       refine p2 14 (some 32) ?_
       refine p2 15 (some 33) ?_
       refine p1 16 (some 34) ?_
       refine done_ (done_of HT_.out (by kernel_rfl)) ?_
       try go_wp2
       go_roundg k2
       case measure => have := HK1.out; have := HK2.out; omega
       case rel => exact ⟨(x0_2), (wrap64 (x8_1 + 1)), rs_, H', ⟨by have := HK1.out; have := HK2.out; omega⟩, ⟨uR HO_0.out⟩, ⟨by repeat (first | (with_reducible first | exact HK.out | apply Kept.alloc | apply Kept.drewN | apply Kept.drew) | exact HK.out)⟩, ⟨uW HB.out⟩⟩
   ·
    rw [if_neg c4] at H
    have c4b0 : decide (x8_1 < a2) = false := decide_eq_false c4
    clear c4
    obtain rfl := Option.some.inj H
    go_wp2
    first | go_end0 | ((try simp only [Exit.inBlock, Exit.then]); refine bodyPost_ret (results_none rfl _ _ _) rfl ?_)
    exact ⟨re_, uR HO_0.out, uW HB.out, by repeat (first | (with_reducible first | exact HK.out | apply Kept.alloc | apply Kept.drewN | apply Kept.drew) | exact HK.out)⟩
end Go.Proofs.YtgcbejidponoaaaGreatDoor.X
