/- Printed by a program of this session's own: what functions of the program compute, and that the machine computes it. No condition of its own. -/
import Derived.Test.YtofaindjbhmopaaM3
namespace Go.Proofs.Ytofaindjbhmopaa.X
open Go.RowKit Go.Proofs.YtofaindjbhmopaaW.PrintWords Go.Proofs.YtofaindjbhmopaaW.PrintLast Go.Proofs.YtofaindjbhmopaaW.PrintMore
attribute [local go_sem] max2_int min2_int max_two min_two max_three min_three max_four min_four
set_option linter.unusedVariables false
set_option linter.unusedSimpArgs false
set_option maxHeartbeats 8000000
set_option maxRecDepth 100000
theorem eqA50 (d : Nat) (w : World) (x0 y0 : Int) (x1 y1 : Bool) :
 (Op.equalIn (d + 2) 50 (.agg #[.int .i64 x0, .bool x1]) (.agg #[.int .i64 y0, .bool y1])).run Try.prog w = .ok (x0 == y0 && (x1 == y1)) w := by
 refine eqA_of Try.underlying50 (by kernel_rfl) ?_
 refine eqf_cons (by rfl) (by go_simp; rfl) (by go_simp; rfl) (by go_simp) ?_
 exact eqf_last (by rfl) (by go_simp; rfl) (by go_simp; rfl) (by go_simp)
theorem eqA52 (d : Nat) (w : World) (x0 y0 : Int) (x1 y1 : Int) (x2 y2 : Bool) (x3 y3 : Int) (x4 y4 : Int) :
 (Op.equalIn (d + 3) 52 (.agg #[.int .i64 x0, .int .i64 x1, .bool x2, .int .i64 x3, .int .i64 x4]) (.agg #[.int .i64 y0, .int .i64 y1, .bool y2, .int .i64 y3, .int .i64 y4])).run Try.prog w = .ok (x0 == y0 && ((x1 == y1 && (x2 == y2)) && (x3 == y3 && (x4 == y4)))) w := by
 refine eqA_of Try.underlying52 (by kernel_rfl) ?_
 refine eqf_cons (by rfl) (by go_simp; rfl) (by go_simp; rfl) (by go_simp) ?_
 refine eqf_cons (by rfl) (by go_simp) (by go_simp) (eqA50 (d + 0) w _ _ _ _) ?_
 refine eqf_cons (by rfl) (by go_simp; rfl) (by go_simp; rfl) (by go_simp) ?_
 exact eqf_last (by rfl) (by go_simp; rfl) (by go_simp; rfl) (by go_simp)
def cmp_Or_int.l0 : Nat → Int → List Int → Int → Int → Option (Int)
 | 0, _, _, _, _ => none
 | k + 1, x3, x6, x7, x8 => if x8 < x7 then (if 0 ≤ x8 then (if x8 < (x6.length : Int) then (if (rd x6 x8) = x3 then (cmp_Or_int.l0 k x3 x6 x7 (wrap64 (x8 + 1))) else (some (rd x6 x8))) else (none)) else (none)) else (some x3)
def cmp_Or_int.f (k : Nat) (l0 : List Int) : Option (Int) := cmp_Or_int.l0 k 0 l0 (l0.length : Int) 0
theorem cmp_Or_int.mono_l : ∀ k, (∀ y0 y1 y2 y3, LeC (cmp_Or_int.l0 k y0 y1 y2 y3) (cmp_Or_int.l0 (k + 1) y0 y1 y2 y3))
 | 0 => fun _ _ _ _ => ⟨fun r h => by simp [cmp_Or_int.l0] at h⟩
 | k + 1 => by have ih0 := cmp_Or_int.mono_l k; exact fun _ _ _ _ => by unfold cmp_Or_int.l0; exact lm
theorem cmp_Or_int.mono : ∀ a0 k, LeO (cmp_Or_int.f k a0) (cmp_Or_int.f (k + 1) a0) := by
 intro a0 k
 have ih0 := cmp_Or_int.mono_l k
 unfold cmp_Or_int.f
 exact lo
instance cmp_Or_int.mI {a0 k} : LeC (cmp_Or_int.f k a0) (cmp_Or_int.f (k + 1) a0) := ⟨cmp_Or_int.mono _ _⟩
theorem cmp_Or_int.calls (k : Nat) (A0 : Option Addr) (c0 : Nat) (l0 : List Int) (r : Int) (w : World) (hr0 : Kd.C (Kd.int .i64) w A0 l0.length l0) (hc0 : l0.length ≤ c0) (h : cmp_Or_int.f k l0 = some r) :
 Calls Try.prog 46 #[.slice A0 l0.length c0] w fun e w' => e = .returned (.int .i64 r) ∧ Drawn0 w w' := by
 have HR0 := Aside0.mk hr0
 have HC0 := Aside0.mk hc0
 clear hr0 hc0
 have H : (cmp_Or_int.l0 k 0 l0 (l0.length : Int) 0) = some r := h
 clear h
 have H' := Aside0.mk H
 clear H
 go_enter Try.func46, Try.ntmps46
 go_wp2
 go_loopg [8] k (fun kq v8 w' => ∃ (x8_1 : Int), v8 = .int .i64 x8_1 ∧ Aside0 (cmp_Or_int.l0 kq 0 l0 (l0.length : Int) x8_1 = some r) ∧ Aside0 (kq ≤ k) ∧ Drawn0 w w')
 case atStart => exact ⟨(0), rs_, H', ⟨Nat.le_refl _⟩, dr_⟩
 case round =>
  clear H'
  obtain ⟨x8_1, rfl, HA, HK1, ⟨m1, rfl⟩⟩ := hrel
  cases gk with
  | zero => exact absurd HA.out (by simp [cmp_Or_int.l0])
  | succ k1 =>
   have H := HA.out
   clear HA
   simp only [cmp_Or_int.l0] at H
   by_cases c2 : x8_1 < (l0.length : Int)
   ·
    rw [if_pos c2] at H
    have c2b0 : decide (x8_1 < (l0.length : Int)) = true := decide_eq_true c2
    clear c2
    obtain ⟨c3b0, H⟩ := gdd H
    obtain ⟨c4b0, H⟩ := gdd H
    by_cases c5 : (rd l0 x8_1) = 0
    ·
     rw [if_pos c5] at H
     have c5b0 : ((rd l0 x8_1) == 0) = true := beq_iff_eq.mpr c5
     have c5b1 : ((rd l0 x8_1) != 0) = false := bne_eq_false_iff_eq.mpr c5
     clear c5
     have H' := Aside0.mk H
     clear H
     have p101 : 0 ≤ (x8_1 : Int) := od
     have q101 : x8_1 < (l0.length : Int) := od
     obtain ⟨ad101, e101, hx101_0⟩ := Kd.at_int HR0.out x8_1 p101 q101
     cases e101
     replace p101 := eq_true p101
     replace q101 := eq_true q101
     go_wp2
     go_roundg k1
     case measure => have := HK1.out; omega
     case rel => exact ⟨(wrap64 (x8_1 + 1)), rs_, H', ⟨by have := HK1.out; omega⟩, dr_⟩
    ·
     rw [if_neg c5] at H
     have c5b0 : ((rd l0 x8_1) == 0) = false := beq_eq_false_iff_ne.mpr c5
     have c5b1 : ((rd l0 x8_1) != 0) = true := bne_iff_ne.mpr c5
     obtain rfl := Option.some.inj H
     have p101 : 0 ≤ (x8_1 : Int) := od
     have q101 : x8_1 < (l0.length : Int) := od
     obtain ⟨ad101, e101, hx101_0⟩ := Kd.at_int HR0.out x8_1 p101 q101
     cases e101
     replace p101 := eq_true p101
     replace q101 := eq_true q101
     go_wp2
     go_ret
     exact ⟨rs_, dr_⟩
   ·
    rw [if_neg c2] at H
    have c2b0 : decide (x8_1 < (l0.length : Int)) = false := decide_eq_false c2
    clear c2
    obtain rfl := Option.some.inj H
    go_wp2
    go_ret
    exact ⟨rs_, dr_⟩
def cmp_isNaN_int64.f (a0 : Int) : Option (Bool) := some (a0 != a0)
theorem cmp_isNaN_int64.calls (a0 : Int) (r : Bool) (w : World) (h : cmp_isNaN_int64.f a0 = some r) :
 Calls Try.prog 58 #[.int .i64 a0] w fun e w' => e = .returned (.bool r) ∧ Drawn0 w w' := by
 have H : (some (a0 != a0)) = some r := h
 clear h
 obtain rfl := Option.some.inj H
 go_enter Try.func58, Try.ntmps58
 go_wp2
 go_ret
 exact ⟨rs_, dr_⟩
def cmp_Compare_int64.f (a0 : Int) (a1 : Int) : Option (Int) := (cmp_isNaN_int64.f a0).bind fun t102 => ((cmp_isNaN_int64.f a1).bind fun t103 => (if t102 = true then (if t103 = true then (some 0) else (some (-1))) else (if t103 = true then (some 1) else (if a0 < a1 then (some (-1)) else (if a0 > a1 then (some 1) else (some 0))))))
theorem cmp_Compare_int64.calls (a0 : Int) (a1 : Int) (r : Int) (w : World) (h : cmp_Compare_int64.f a0 a1 = some r) :
 Calls Try.prog 47 #[.int .i64 a0, .int .i64 a1] w fun e w' => e = .returned (.int .i64 r) ∧ Drawn0 w w' := by
 have H : ((cmp_isNaN_int64.f a0).bind fun t102 => ((cmp_isNaN_int64.f a1).bind fun t103 => (if t102 = true then (if t103 = true then (some 0) else (some (-1))) else (if t103 = true then (some 1) else (if a0 < a1 then (some (-1)) else (if a0 > a1 then (some 1) else (some 0))))))) = some r := h
 clear h
 obtain ⟨t102, A3, H⟩ := bs H
 try dsimp only at H
 obtain ⟨t103, A4, H⟩ := bs H
 try dsimp only at H
 by_cases c5 : t102 = true
 ·
  subst c5
  rw [if_pos rfl] at H
  by_cases c6 : t103 = true
  ·
   subst c6
   rw [if_pos rfl] at H
   obtain rfl := Option.some.inj H
   go_enter Try.func47, Try.ntmps47
   go_wp2_with (first | (refine gL (some 8) rfl Try.func58 #[.int .i64 a0] ?_; (with_reducible refine (cmp_isNaN_int64.calls a0 true _ A3.out).mono ?_); rintro e w' ⟨rfl, ⟨nd, rfl⟩⟩; refine ⟨_, rfl, ?_⟩) | (refine gL (some 10) rfl Try.func58 #[.int .i64 a1] ?_; (with_reducible refine (cmp_isNaN_int64.calls a1 true _ A4.out).mono ?_); rintro e w' ⟨rfl, ⟨nd, rfl⟩⟩; refine ⟨_, rfl, ?_⟩))
   go_ret
   exact ⟨rs_, dr_⟩
  ·
   replace c6 := Bool.eq_false_iff.mpr c6
   subst c6
   rw [if_neg (show ¬ (false = true) by decide)] at H
   obtain rfl := Option.some.inj H
   go_enter Try.func47, Try.ntmps47
   go_wp2_with (first | (refine gL (some 8) rfl Try.func58 #[.int .i64 a0] ?_; (with_reducible refine (cmp_isNaN_int64.calls a0 true _ A3.out).mono ?_); rintro e w' ⟨rfl, ⟨nd, rfl⟩⟩; refine ⟨_, rfl, ?_⟩) | (refine gL (some 10) rfl Try.func58 #[.int .i64 a1] ?_; (with_reducible refine (cmp_isNaN_int64.calls a1 false _ A4.out).mono ?_); rintro e w' ⟨rfl, ⟨nd, rfl⟩⟩; refine ⟨_, rfl, ?_⟩))
   go_ret
   exact ⟨rs_, dr_⟩
 ·
  replace c5 := Bool.eq_false_iff.mpr c5
  subst c5
  rw [if_neg (show ¬ (false = true) by decide)] at H
  by_cases c7 : t103 = true
  ·
   subst c7
   rw [if_pos rfl] at H
   obtain rfl := Option.some.inj H
   go_enter Try.func47, Try.ntmps47
   go_wp2_with (first | (refine gL (some 8) rfl Try.func58 #[.int .i64 a0] ?_; (with_reducible refine (cmp_isNaN_int64.calls a0 false _ A3.out).mono ?_); rintro e w' ⟨rfl, ⟨nd, rfl⟩⟩; refine ⟨_, rfl, ?_⟩) | (refine gL (some 10) rfl Try.func58 #[.int .i64 a1] ?_; (with_reducible refine (cmp_isNaN_int64.calls a1 true _ A4.out).mono ?_); rintro e w' ⟨rfl, ⟨nd, rfl⟩⟩; refine ⟨_, rfl, ?_⟩))
   go_ret
   exact ⟨rs_, dr_⟩
  ·
   replace c7 := Bool.eq_false_iff.mpr c7
   subst c7
   rw [if_neg (show ¬ (false = true) by decide)] at H
   by_cases c8 : a0 < a1
   ·
    rw [if_pos c8] at H
    have c8b0 : decide (a0 < a1) = true := decide_eq_true c8
    clear c8
    obtain rfl := Option.some.inj H
    go_enter Try.func47, Try.ntmps47
    go_wp2_with (first | (refine gL (some 8) rfl Try.func58 #[.int .i64 a0] ?_; (with_reducible refine (cmp_isNaN_int64.calls a0 false _ A3.out).mono ?_); rintro e w' ⟨rfl, ⟨nd, rfl⟩⟩; refine ⟨_, rfl, ?_⟩) | (refine gL (some 10) rfl Try.func58 #[.int .i64 a1] ?_; (with_reducible refine (cmp_isNaN_int64.calls a1 false _ A4.out).mono ?_); rintro e w' ⟨rfl, ⟨nd, rfl⟩⟩; refine ⟨_, rfl, ?_⟩))
    go_ret
    exact ⟨rs_, dr_⟩
   ·
    rw [if_neg c8] at H
    have c8b0 : decide (a0 < a1) = false := decide_eq_false c8
    clear c8
    by_cases c9 : a0 > a1
    ·
     rw [if_pos c9] at H
     have c9b0 : decide (a1 < a0) = true := decide_eq_true c9
     clear c9
     obtain rfl := Option.some.inj H
     go_enter Try.func47, Try.ntmps47
     go_wp2_with (first | (refine gL (some 8) rfl Try.func58 #[.int .i64 a0] ?_; (with_reducible refine (cmp_isNaN_int64.calls a0 false _ A3.out).mono ?_); rintro e w' ⟨rfl, ⟨nd, rfl⟩⟩; refine ⟨_, rfl, ?_⟩) | (refine gL (some 10) rfl Try.func58 #[.int .i64 a1] ?_; (with_reducible refine (cmp_isNaN_int64.calls a1 false _ A4.out).mono ?_); rintro e w' ⟨rfl, ⟨nd, rfl⟩⟩; refine ⟨_, rfl, ?_⟩))
     go_ret
     exact ⟨rs_, dr_⟩
    ·
     rw [if_neg c9] at H
     have c9b0 : decide (a1 < a0) = false := decide_eq_false c9
     clear c9
     obtain rfl := Option.some.inj H
     go_enter Try.func47, Try.ntmps47
     go_wp2_with (first | (refine gL (some 8) rfl Try.func58 #[.int .i64 a0] ?_; (with_reducible refine (cmp_isNaN_int64.calls a0 false _ A3.out).mono ?_); rintro e w' ⟨rfl, ⟨nd, rfl⟩⟩; refine ⟨_, rfl, ?_⟩) | (refine gL (some 10) rfl Try.func58 #[.int .i64 a1] ?_; (with_reducible refine (cmp_isNaN_int64.calls a1 false _ A4.out).mono ?_); rintro e w' ⟨rfl, ⟨nd, rfl⟩⟩; refine ⟨_, rfl, ?_⟩))
     go_ret
     exact ⟨rs_, dr_⟩
def strings_Compare.f (a0 : ByteArray) (a1 : ByteArray) : Option (Int) := some (Lib.compareBytes a0.data.toList a1.data.toList)
theorem strings_Compare.calls (a0 : ByteArray) (a1 : ByteArray) (r : Int) (w : World) (h : strings_Compare.f a0 a1 = some r) :
 Calls Try.prog 48 #[.string a0, .string a1] w fun e w' => e = .returned (.int .i64 r) ∧ Drawn0 w w' := by
 obtain rfl := Option.some.inj h
 exact (Try.strings_Compare a0 a1 w).mono fun e w' hh => ⟨hh.1, hh.2 ▸ Drawn0.refl _⟩
def shard_order.f (k : Nat) (a0_0 : Int) (a0_1 : ByteArray) (l0_2 : List (S82)) (a1_0 : Int) (a1_1 : ByteArray) (l1_2 : List (S82)) : Option (Int) := (cmp_Compare_int64.f a0_0 a1_0).bind fun t106 => ((strings_Compare.f a0_1 a1_1).bind fun t107 => ((cmp_Or_int.f k (([t106, t107] : List Int))).bind fun t111 => (some t111)))
theorem shard_order.mono : ∀ a0 a1 a2 a3 a4 a5 k, LeO (shard_order.f k a0 a1 a2 a3 a4 a5) (shard_order.f (k + 1) a0 a1 a2 a3 a4 a5) := by
 intro a0 a1 a2 a3 a4 a5 k
 unfold shard_order.f
 exact lo
instance shard_order.mI {a0 a1 a2 a3 a4 a5 k} : LeC (shard_order.f k a0 a1 a2 a3 a4 a5) (shard_order.f (k + 1) a0 a1 a2 a3 a4 a5) := ⟨shard_order.mono _ _ _ _ _ _ _⟩
def shard_order.T1 : Bool × List (List Nat × List Nat) := (true, [([], []), ([0], [0]), ([], []), ([2], [2]), ([1, 3], [1, 3]), ([], []), ([5], [5]), ([], []), ([7], [7]), ([6, 8, 4], [6, 8]), ([4, 9], [4, 9]), ([10, 9], [10]), ([11, 11, 0, 1, 2, 3, 4, 5, 6, 7, 8, 9, 10, 11], [11])])
def shard_order.B1 : List Nat := [0, 1, 0, 4, 15, 0, 32, 0, 128, 511, 1023, 2047, 4095]
theorem shard_order.tab1 : rtab .any (opsOf Try.f26 1) = shard_order.T1 := by kernel_rfl
theorem shard_order.bits1 : waitsOk shard_order.T1.2 shard_order.B1 = true := by kernel_rfl
theorem shard_order.calls (k : Nat) (a0_0 : Int) (a0_1 : ByteArray) (A0_2 : Option Addr) (c0_2 : Nat) (l0_2 : List (S82)) (a1_0 : Int) (a1_1 : ByteArray) (A1_2 : Option Addr) (c1_2 : Nat) (l1_2 : List (S82)) (r : Int) (w : World) (hr0_2 : Kd.C k82 w A0_2 l0_2.length l0_2) (hc0_2 : l0_2.length ≤ c0_2) (hr1_2 : Kd.C k82 w A1_2 l1_2.length l1_2) (hc1_2 : l1_2.length ≤ c1_2) (h : shard_order.f k a0_0 a0_1 l0_2 a1_0 a1_1 l1_2 = some r) :
 Calls Try.prog 26 #[.agg #[.int .i64 a0_0, .string a0_1, .slice A0_2 l0_2.length c0_2], .agg #[.int .i64 a1_0, .string a1_1, .slice A1_2 l1_2.length c1_2]] w fun e w' => e = .returned (.int .i64 r) ∧ Below w.heap.size w w' := by
 have hu59 := Try.underlying59
 have HR0_2 := Aside0.mk hr0_2
 have HC0_2 := Aside0.mk hc0_2
 clear hr0_2 hc0_2
 have HR1_2 := Aside0.mk hr1_2
 have HC1_2 := Aside0.mk hc1_2
 clear hr1_2 hc1_2
 have HB := Aside0.mk (Below.refl w.heap.size w)
 have H : ((cmp_Compare_int64.f a0_0 a1_0).bind fun t106 => ((strings_Compare.f a0_1 a1_1).bind fun t107 => ((cmp_Or_int.f k (([t106, t107] : List Int))).bind fun t111 => (some t111)))) = some r := h
 clear h
 obtain ⟨t106, A3, H⟩ := bs H
 try dsimp only at H
 obtain ⟨t107, A4, H⟩ := bs H
 try dsimp only at H
 obtain ⟨y108, hy108⟩ : ∃ y_ : List Int, y_ = (([t106, t107] : List Int)) := ⟨_, rfl⟩
 replace H : ((cmp_Or_int.f k y108).bind fun t111 => (some t111)) = some r := by first | (rw [hy108]; with_reducible exact H) | (have H2_ := (Option.bind_some _ _).symm.trans H; rw [hy108]; with_reducible exact H2_) | (have H2_ := (Option.bind_some _ _).symm.trans H; with_reducible exact H2_) | with_reducible exact H | (rw [hy108]; exact H) | exact H
 have Ny108 := Aside0.mk hy108
 clear hy108
 obtain ⟨t111, A5, H⟩ := bs H
 try dsimp only at H
 obtain rfl := Option.some.inj H
 go_enter Try.func26, Try.ntmps26
 try go_wp2_with (first | ((with_reducible refine gate_dst (N := 2) rfl ?_); refine bx (N := 2) #[.int .i64 a0_0, .string a0_1, .slice A0_2 l0_2.length c0_2] 59 ?_; intro gb104 hg w6 hbox hb; have BK104 := Aside0.mk (hbox); have GW104 := gw hg (uW HB.out); have GE104 := GW104; replace HB := cW HB hb; clear hb hbox hg) | ((with_reducible refine gate_dst (N := 3) rfl ?_); refine bx (N := 3) #[.int .i64 a1_0, .string a1_1, .slice A1_2 l1_2.length c1_2] 59 ?_; intro gb105 hg w7 hbox hb; have BK105 := Aside0.mk (hbox); have GW105 := gw hg bl; have GE105 := GW105; replace HB := Aside0.mk (below_step bl hb); have NB104_105 := Aside0.mk ((by rw [hg]; exact Nat.ne_of_lt (blk_lt (g := gb104) (o := .cells #[.int .i64 a0_0, .string a0_1, .slice A0_2 l0_2.length c0_2] 59 (0, 0)) (uB BK104.out)) : gb104 ≠ gb105)); have NB105_104 := Aside0.mk ((by rw [hg]; exact Nat.ne_of_gt (blk_lt (g := gb104) (o := .cells #[.int .i64 a0_0, .string a0_1, .slice A0_2 l0_2.length c0_2] 59 (0, 0)) (uB BK104.out)) : gb105 ≠ gb104)); replace BK104 := cB BK104 hb; clear hb hbox hg))
 replace BK104 := Aside0.mk (blk_drew BK104.out)
 replace BK105 := Aside0.mk (blk_drew BK105.out)
 replace HB := Aside0.mk (below_drew1 HB.out)
 refine start_ (n := 13) (S := fun w' => w'.cell? ⟨gb104, 0, none⟩ = some (.int .i64 a0_0) ∧ w'.cell? ⟨gb104, 1, none⟩ = some (.string a0_1) ∧ w'.cell? ⟨gb104, 2, none⟩ = some (.slice A0_2 l0_2.length c0_2) ∧ w'.cell? ⟨gb105, 0, none⟩ = some (.int .i64 a1_0) ∧ w'.cell? ⟨gb105, 1, none⟩ = some (.string a1_1) ∧ w'.cell? ⟨gb105, 2, none⟩ = some (.slice A1_2 l1_2.length c1_2)) (ds := []) _ (by kernel_rfl) rfl rfl ⟨(blk_cell BK104.out 0).trans rfl, (blk_cell BK104.out 1).trans rfl, (blk_cell BK104.out 2).trans rfl, (blk_cell BK105.out 0).trans rfl, (blk_cell BK105.out 1).trans rfl, (blk_cell BK105.out 2).trans rfl⟩ (fun hHeld => ?_); refine with_tabW shard_order.tab1 shard_order.bits1 (fun HT_ HW_ => ?_)
 generalize w7.drew = w8 at BK104 BK105 HB hHeld ⊢
 refine p1 0 (some 5) ?_
 refine p1 2 (some 7) ?_
 refine p1 5 (some 10) ?_
 refine p1 7 (some 12) ?_
 refine t1 1 (some 6) rfl rfl hHeld (Or.inl ⟨by rfl, by rintro w' ⟨s0, s1, s2, s3, s4, s5⟩; go_simp; with_reducible rfl⟩) ?_
 refine t1 3 (some 8) rfl rfl hHeld (Or.inl ⟨by rfl, by rintro w' ⟨s0, s1, s2, s3, s4, s5⟩; go_simp; with_reducible rfl⟩) ?_
 refine t1 6 (some 11) rfl rfl hHeld (Or.inl ⟨by rfl, by rintro w' ⟨s0, s1, s2, s3, s4, s5⟩; go_simp; with_reducible rfl⟩) ?_
 refine t1 8 (some 13) rfl rfl hHeld (Or.inl ⟨by rfl, by rintro w' ⟨s0, s1, s2, s3, s4, s5⟩; go_simp; with_reducible rfl⟩) ?_
 refine o1 4 (some 9) rfl rfl (fun K hK => ?_)
 refine gS Try.func47 #[.int .i64 a0_0, .int .i64 a1_0] ?_
 with_reducible refine (cmp_Compare_int64.calls a0_0 a1_0 t106 _ A3.out).mono ?_
 rintro e w' ⟨rfl, ⟨nd, rfl⟩⟩
 refine ⟨_, rfl, ?_⟩
 refine hK.out _ _ ⟨(blk_cell BK104.out 0).trans rfl, (blk_cell BK104.out 1).trans rfl, (blk_cell BK104.out 2).trans rfl, (blk_cell BK105.out 0).trans rfl, (blk_cell BK105.out 1).trans rfl, (blk_cell BK105.out 2).trans rfl⟩ (fun hHeld => ?_)
 clear hK K
 refine norm_ (a' := ?_) ?_ ?_
 rotate_left
 ·
  show Act.put _ (some 9) _ = _
  simp only [Act.put, List.setIfInBounds_toArray, List.set_cons_zero, List.set_cons_succ, i64_w, i32_w]
  rfl
 refine o1 9 (some 14) rfl rfl (fun K hK => ?_)
 refine gS Try.func48 #[.string a0_1, .string a1_1] ?_
 with_reducible refine (strings_Compare.calls a0_1 a1_1 t107 _ A4.out).mono ?_
 rintro e w' ⟨rfl, ⟨nd, rfl⟩⟩
 refine ⟨_, rfl, ?_⟩
 refine hK.out _ _ ⟨(blk_cell BK104.out 0).trans rfl, (blk_cell BK104.out 1).trans rfl, (blk_cell BK104.out 2).trans rfl, (blk_cell BK105.out 0).trans rfl, (blk_cell BK105.out 1).trans rfl, (blk_cell BK105.out 2).trans rfl⟩ (fun hHeld => ?_)
 clear hK K
 refine norm_ (a' := ?_) ?_ ?_
 rotate_left
 ·
  show Act.put _ (some 14) _ = _
  simp only [Act.put, List.setIfInBounds_toArray, List.set_cons_zero, List.set_cons_succ, i64_w, i32_w]
  rfl
 refine o1 10 (some 15) rfl rfl (fun K hK => ?_)
 refine Kd.R_lit_step (Kd.int .i64) _ 3 ?hg (N := 15) ?hd (xs := ([t106, t107] : List Int)) (inner := [.int .i64 t106, .int .i64 t107]) (ok := fun _ => True) (okp := fun _ => True) ?hr ?hp (fun _ hk => hk) trivial (Below.refl _ _) (Nat.le_refl _) (by simp) ?_; (case hd => rfl); (case hg => rfl); (case hr => first | (go_simp; done) | (go_simp; rfl)); (case hp => exact (Reps.one (show Kd.M (Kd.int .i64) _ _ _ t106 [.int .i64 t106] from rfl) (Reps.one (show Kd.M (Kd.int .i64) _ _ _ t107 [.int .i64 t107] from rfl) (Reps.none _ _))))
 intro v109 w9 ho10 hb hg_ hnew_
 clear hg_ hnew_
 (first | rw [← Ny108.out] at ho10 | (simp only [Int.reduceToNat] at ho10; rw [← Ny108.out] at ho10))
 have HO110 := Aside0.mk (Kd.R_lower ho10 (below_size bl))
 replace BK104 := cB BK104 hb
 replace BK105 := cB BK105 hb
 replace HB := Aside0.mk (below_step bl hb)
 clear hb ho10
 obtain ⟨Ao11, co11, eo11⟩ := Kd.R_slice HO110.out
 (first | subst eo11 | (injection eo11 with f1_ f2_ f3_; have f4_ := f1_.symm; have f5_ := f3_.symm; clear f1_ f2_ f3_; subst f4_; subst f5_))
 refine hK.out _ _ ⟨(blk_cell BK104.out 0).trans rfl, (blk_cell BK104.out 1).trans rfl, (blk_cell BK104.out 2).trans rfl, (blk_cell BK105.out 0).trans rfl, (blk_cell BK105.out 1).trans rfl, (blk_cell BK105.out 2).trans rfl⟩ (fun hHeld => ?_)
 clear hK K
 refine norm_ (a' := ?_) ?_ ?_
 rotate_left
 ·
  show Act.put _ (some 15) _ = _
  simp only [Act.put, List.setIfInBounds_toArray, List.set_cons_zero, List.set_cons_succ, i64_w, i32_w]
  rfl
 refine o1 11 (some 16) rfl rfl (fun K hK => ?_)
 refine gS Try.func46 #[.slice Ao11 y108.length co11] ?_
 with_reducible refine (cmp_Or_int.calls k _ _ y108 t111 _ ?side1 ?side2 A5.out).mono ?_
 (case side1 => exact uC <| (Kd.R_reads' HO110.out).2.2)
 (case side2 => exact (Kd.R_reads' HO110.out).2.1)
 rintro e w' ⟨rfl, ⟨nd, rfl⟩⟩
 refine ⟨_, rfl, ?_⟩
 refine hK.out _ _ ⟨(blk_cell BK104.out 0).trans rfl, (blk_cell BK104.out 1).trans rfl, (blk_cell BK104.out 2).trans rfl, (blk_cell BK105.out 0).trans rfl, (blk_cell BK105.out 1).trans rfl, (blk_cell BK105.out 2).trans rfl⟩ (fun hHeld => ?_)
 clear hK K
 refine norm_ (a' := ?_) ?_ ?_
 rotate_left
 ·
  show Act.put _ (some 16) _ = _
  simp only [Act.put, List.setIfInBounds_toArray, List.set_cons_zero, List.set_cons_succ, i64_w, i32_w]
  rfl
 refine p1 12 (some 4) ?_
 refine done_ (done_of HT_.out (by kernel_rfl)) ?_
 try go_wp2
 go_ret
 exact ⟨re_, bl⟩
def chain_Right.l0 : Nat → Int → List (S82) → Int → Int → Option (Bool)
 | 0, _, _, _, _ => none
 | k + 1, x3, x6, x7, x8 => if x8 < x7 then (if 0 ≤ x8 then (if x8 < (x6.length : Int) then (if ((rd_T82 x6 x8).f0) ≤ x3 then (some false) else (if ((rd_T82 x6 x8).f0) > 1000000000000000 then (some false) else (chain_Right.l0 k ((rd_T82 x6 x8).f0) x6 x7 (wrap64 (x8 + 1))))) else (none)) else (none)) else (some true)
def chain_Right.f (k : Nat) (l0 : List (S82)) : Option (Bool) := chain_Right.l0 k 0 l0 (l0.length : Int) 0
theorem chain_Right.mono_l : ∀ k, (∀ y0 y1 y2 y3, LeC (chain_Right.l0 k y0 y1 y2 y3) (chain_Right.l0 (k + 1) y0 y1 y2 y3))
 | 0 => fun _ _ _ _ => ⟨fun r h => by simp [chain_Right.l0] at h⟩
 | k + 1 => by have ih0 := chain_Right.mono_l k; exact fun _ _ _ _ => by unfold chain_Right.l0; exact lm
theorem chain_Right.mono : ∀ a0 k, LeO (chain_Right.f k a0) (chain_Right.f (k + 1) a0) := by
 intro a0 k
 have ih0 := chain_Right.mono_l k
 unfold chain_Right.f
 exact lo
instance chain_Right.mI {a0 k} : LeC (chain_Right.f k a0) (chain_Right.f (k + 1) a0) := ⟨chain_Right.mono _ _⟩
theorem chain_Right.calls (k : Nat) (A0 : Option Addr) (c0 : Nat) (l0 : List (S82)) (r : Bool) (w : World) (hr0 : Kd.C k82 w A0 l0.length l0) (hc0 : l0.length ≤ c0) (h : chain_Right.f k l0 = some r) :
 Calls Try.prog 33 #[.slice A0 l0.length c0] w fun e w' => e = .returned (.bool r) ∧ Below w.heap.size w w' := by
 have hu82 := Try.underlying82
 have HR0 := Aside0.mk hr0
 have HC0 := Aside0.mk hc0
 clear hr0 hc0
 have HB := Aside0.mk (Below.refl w.heap.size w)
 have H : (chain_Right.l0 k 0 l0 (l0.length : Int) 0) = some r := h
 clear h
 have H' := Aside0.mk H
 clear H
 go_enter Try.func33, Try.ntmps33
 go_wp2
 go_loopg [3, 8] k (fun kq v3 v8 w' => ∃ (x3_1 : Int) (x8_1 : Int), v3 = .int .i64 x3_1 ∧ v8 = .int .i64 x8_1 ∧ Aside0 (chain_Right.l0 kq x3_1 l0 (l0.length : Int) x8_1 = some r) ∧ Aside0 (kq ≤ k) ∧ Aside0 (Below w.heap.size w w'))
 case atStart => exact ⟨(0), (0), rs_, rs_, H', ⟨Nat.le_refl _⟩, ⟨uW HB.out⟩⟩
 case round =>
  clear H'
  obtain ⟨x3_1, x8_1, rfl, rfl, HA, HK1, HB⟩ := hrel
  cases gk with
  | zero => exact absurd HA.out (by simp [chain_Right.l0])
  | succ k1 =>
   have H := HA.out
   clear HA
   simp only [chain_Right.l0] at H
   by_cases c2 : x8_1 < (l0.length : Int)
   ·
    rw [if_pos c2] at H
    have c2b0 : decide (x8_1 < (l0.length : Int)) = true := decide_eq_true c2
    clear c2
    obtain ⟨c3b0, H⟩ := gdd H
    obtain ⟨c4b0, H⟩ := gdd H
    by_cases c5 : ((rd_T82 l0 x8_1).f0) ≤ x3_1
    ·
     rw [if_pos c5] at H
     have c5b0 : decide (((rd_T82 l0 x8_1).f0) ≤ x3_1) = true := decide_eq_true c5
     clear c5
     obtain rfl := Option.some.inj H
     have p112 : 0 ≤ (x8_1 : Int) := od
     have q112 : x8_1 < (l0.length : Int) := od
     obtain ⟨ad112, e112, hx112_0, hx112_1, hx112_2, hx112_3, hx112_4, hx112_5⟩ := at_T82 HR0.out x8_1 p112 q112
     cases e112
     replace hx112_0 := kc HB hx112_0
     replace hx112_1 := kc HB hx112_1
     replace hx112_2 := kc HB hx112_2
     replace hx112_3 := kc HB hx112_3
     replace hx112_4 := kc HB hx112_4
     replace hx112_5 := kc HB hx112_5
     replace p112 := eq_true p112
     replace q112 := eq_true q112
     go_wp2_with (first | ((with_reducible refine gate_dst (N := 5) rfl ?_); refine bx (N := 5) #[.int .i64 0, .int .i64 0, .int .i64 0, .bool false, .int .i64 0, .int .i64 0] 82 ?_; intro gb113 hg w6 hbox hb; have BK113 := Aside0.mk (hbox); have GW113 := gw hg (uW HB.out); have GE113 := GW113; replace HB := cW HB hb; clear hb hbox hg; obtain ⟨hcz7_0, hcz7_1, hcz7_2, hcz7_3, hcz7_4, hcz7_5, hfz7_0, hfz7_1, hfz7_2, hfz7_3, hfz7_4, hfz7_5⟩ := z6 BK113) | ((with_reducible refine gate_store (t := 82) (p := 5) rfl ?_); refine store_event (t := 82) (p := 5) (v := ?vo_w8) (w1 := ((((((w6.setCell ⟨gb113, 0, none⟩ (.int .i64 ((rd_T82 l0 x8_1).f0))).setCell ⟨gb113, 1, none⟩ (.int .i64 ((rd_T82 l0 x8_1).f1.f0))).setCell ⟨gb113, 2, none⟩ (.int .i64 ((rd_T82 l0 x8_1).f1.f1.f0))).setCell ⟨gb113, 3, none⟩ (.bool ((rd_T82 l0 x8_1).f1.f1.f1))).setCell ⟨gb113, 4, none⟩ (.int .i64 ((rd_T82 l0 x8_1).f1.f2))).setCell ⟨gb113, 5, none⟩ (.int .i64 ((rd_T82 l0 x8_1).f1.f3)))) ?hg ?ho ?hn ?hr ?_; (case ho => rfl); (case hg => rfl); (case hn => rfl); (case hr => first | (go_simp; done) | (go_simp; rfl)); intro w8 hw; have n0_ : Aside0 (w8.heap[gb113]? = some (.cells #[.int .i64 ((rd_T82 l0 x8_1).f0), .int .i64 ((rd_T82 l0 x8_1).f1.f0), .int .i64 ((rd_T82 l0 x8_1).f1.f1.f0), .bool ((rd_T82 l0 x8_1).f1.f1.f1), .int .i64 ((rd_T82 l0 x8_1).f1.f2), .int .i64 ((rd_T82 l0 x8_1).f1.f3)] 82 (0, 0))) := ⟨(by rw [hw]; exact (by (with_reducible repeat (first | refine blk_drewN ?_ _ | refine blk_drew ?_ | refine blk_alloc ?_ _)); refine blk_put (cs := #[.int .i64 ((rd_T82 l0 x8_1).f0), .int .i64 ((rd_T82 l0 x8_1).f1.f0), .int .i64 ((rd_T82 l0 x8_1).f1.f1.f0), .bool ((rd_T82 l0 x8_1).f1.f1.f1), .int .i64 ((rd_T82 l0 x8_1).f1.f2), .int .i64 0]) ?_ 5 _ rfl; (with_reducible repeat (first | refine blk_drewN ?_ _ | refine blk_drew ?_ | refine blk_alloc ?_ _)); refine blk_put (cs := #[.int .i64 ((rd_T82 l0 x8_1).f0), .int .i64 ((rd_T82 l0 x8_1).f1.f0), .int .i64 ((rd_T82 l0 x8_1).f1.f1.f0), .bool ((rd_T82 l0 x8_1).f1.f1.f1), .int .i64 0, .int .i64 0]) ?_ 4 _ rfl; (with_reducible repeat (first | refine blk_drewN ?_ _ | refine blk_drew ?_ | refine blk_alloc ?_ _)); refine blk_put (cs := #[.int .i64 ((rd_T82 l0 x8_1).f0), .int .i64 ((rd_T82 l0 x8_1).f1.f0), .int .i64 ((rd_T82 l0 x8_1).f1.f1.f0), .bool false, .int .i64 0, .int .i64 0]) ?_ 3 _ rfl; (with_reducible repeat (first | refine blk_drewN ?_ _ | refine blk_drew ?_ | refine blk_alloc ?_ _)); refine blk_put (cs := #[.int .i64 ((rd_T82 l0 x8_1).f0), .int .i64 ((rd_T82 l0 x8_1).f1.f0), .int .i64 0, .bool false, .int .i64 0, .int .i64 0]) ?_ 2 _ rfl; (with_reducible repeat (first | refine blk_drewN ?_ _ | refine blk_drew ?_ | refine blk_alloc ?_ _)); refine blk_put (cs := #[.int .i64 ((rd_T82 l0 x8_1).f0), .int .i64 0, .int .i64 0, .bool false, .int .i64 0, .int .i64 0]) ?_ 1 _ rfl; (with_reducible repeat (first | refine blk_drewN ?_ _ | refine blk_drew ?_ | refine blk_alloc ?_ _)); refine blk_put (cs := #[.int .i64 0, .int .i64 0, .int .i64 0, .bool false, .int .i64 0, .int .i64 0]) ?_ 0 _ rfl; exact uB <| BK113.out))⟩; have n1_ : Aside0 (Below w.heap.size w w8) := ⟨(by rw [hw]; exact bl)⟩; clear hw; clear BK113; clear HB; have BK113 := n0_; have HB := n1_; clear n0_ n1_; obtain ⟨hcz9_0, hcz9_1, hcz9_2, hcz9_3, hcz9_4, hcz9_5, hfz9_0, hfz9_1, hfz9_2, hfz9_3, hfz9_4, hfz9_5⟩ := z6 BK113))
     go_ret
     exact ⟨re_, bl⟩
    ·
     rw [if_neg c5] at H
     have c5b0 : decide (((rd_T82 l0 x8_1).f0) ≤ x3_1) = false := decide_eq_false c5
     clear c5
     by_cases c10 : ((rd_T82 l0 x8_1).f0) > 1000000000000000
     ·
      rw [if_pos c10] at H
      have c10b0 : decide (1000000000000000 < ((rd_T82 l0 x8_1).f0)) = true := decide_eq_true c10
      clear c10
      obtain rfl := Option.some.inj H
      have p112 : 0 ≤ (x8_1 : Int) := od
      have q112 : x8_1 < (l0.length : Int) := od
      obtain ⟨ad112, e112, hx112_0, hx112_1, hx112_2, hx112_3, hx112_4, hx112_5⟩ := at_T82 HR0.out x8_1 p112 q112
      cases e112
      replace hx112_0 := kc HB hx112_0
      replace hx112_1 := kc HB hx112_1
      replace hx112_2 := kc HB hx112_2
      replace hx112_3 := kc HB hx112_3
      replace hx112_4 := kc HB hx112_4
      replace hx112_5 := kc HB hx112_5
      replace p112 := eq_true p112
      replace q112 := eq_true q112
      go_wp2_with (first | ((with_reducible refine gate_dst (N := 5) rfl ?_); refine bx (N := 5) #[.int .i64 0, .int .i64 0, .int .i64 0, .bool false, .int .i64 0, .int .i64 0] 82 ?_; intro gb113 hg w11 hbox hb; have BK113 := Aside0.mk (hbox); have GW113 := gw hg (uW HB.out); have GE113 := GW113; replace HB := cW HB hb; clear hb hbox hg; obtain ⟨hcz12_0, hcz12_1, hcz12_2, hcz12_3, hcz12_4, hcz12_5, hfz12_0, hfz12_1, hfz12_2, hfz12_3, hfz12_4, hfz12_5⟩ := z6 BK113) | ((with_reducible refine gate_store (t := 82) (p := 5) rfl ?_); refine store_event (t := 82) (p := 5) (v := ?vo_w13) (w1 := ((((((w11.setCell ⟨gb113, 0, none⟩ (.int .i64 ((rd_T82 l0 x8_1).f0))).setCell ⟨gb113, 1, none⟩ (.int .i64 ((rd_T82 l0 x8_1).f1.f0))).setCell ⟨gb113, 2, none⟩ (.int .i64 ((rd_T82 l0 x8_1).f1.f1.f0))).setCell ⟨gb113, 3, none⟩ (.bool ((rd_T82 l0 x8_1).f1.f1.f1))).setCell ⟨gb113, 4, none⟩ (.int .i64 ((rd_T82 l0 x8_1).f1.f2))).setCell ⟨gb113, 5, none⟩ (.int .i64 ((rd_T82 l0 x8_1).f1.f3)))) ?hg ?ho ?hn ?hr ?_; (case ho => rfl); (case hg => rfl); (case hn => rfl); (case hr => first | (go_simp; done) | (go_simp; rfl)); intro w13 hw; have n0_ : Aside0 (w13.heap[gb113]? = some (.cells #[.int .i64 ((rd_T82 l0 x8_1).f0), .int .i64 ((rd_T82 l0 x8_1).f1.f0), .int .i64 ((rd_T82 l0 x8_1).f1.f1.f0), .bool ((rd_T82 l0 x8_1).f1.f1.f1), .int .i64 ((rd_T82 l0 x8_1).f1.f2), .int .i64 ((rd_T82 l0 x8_1).f1.f3)] 82 (0, 0))) := ⟨(by rw [hw]; exact (by (with_reducible repeat (first | refine blk_drewN ?_ _ | refine blk_drew ?_ | refine blk_alloc ?_ _)); refine blk_put (cs := #[.int .i64 ((rd_T82 l0 x8_1).f0), .int .i64 ((rd_T82 l0 x8_1).f1.f0), .int .i64 ((rd_T82 l0 x8_1).f1.f1.f0), .bool ((rd_T82 l0 x8_1).f1.f1.f1), .int .i64 ((rd_T82 l0 x8_1).f1.f2), .int .i64 0]) ?_ 5 _ rfl; (with_reducible repeat (first | refine blk_drewN ?_ _ | refine blk_drew ?_ | refine blk_alloc ?_ _)); refine blk_put (cs := #[.int .i64 ((rd_T82 l0 x8_1).f0), .int .i64 ((rd_T82 l0 x8_1).f1.f0), .int .i64 ((rd_T82 l0 x8_1).f1.f1.f0), .bool ((rd_T82 l0 x8_1).f1.f1.f1), .int .i64 0, .int .i64 0]) ?_ 4 _ rfl; (with_reducible repeat (first | refine blk_drewN ?_ _ | refine blk_drew ?_ | refine blk_alloc ?_ _)); refine blk_put (cs := #[.int .i64 ((rd_T82 l0 x8_1).f0), .int .i64 ((rd_T82 l0 x8_1).f1.f0), .int .i64 ((rd_T82 l0 x8_1).f1.f1.f0), .bool false, .int .i64 0, .int .i64 0]) ?_ 3 _ rfl; (with_reducible repeat (first | refine blk_drewN ?_ _ | refine blk_drew ?_ | refine blk_alloc ?_ _)); refine blk_put (cs := #[.int .i64 ((rd_T82 l0 x8_1).f0), .int .i64 ((rd_T82 l0 x8_1).f1.f0), .int .i64 0, .bool false, .int .i64 0, .int .i64 0]) ?_ 2 _ rfl; (with_reducible repeat (first | refine blk_drewN ?_ _ | refine blk_drew ?_ | refine blk_alloc ?_ _)); refine blk_put (cs := #[.int .i64 ((rd_T82 l0 x8_1).f0), .int .i64 0, .int .i64 0, .bool false, .int .i64 0, .int .i64 0]) ?_ 1 _ rfl; (with_reducible repeat (first | refine blk_drewN ?_ _ | refine blk_drew ?_ | refine blk_alloc ?_ _)); refine blk_put (cs := #[.int .i64 0, .int .i64 0, .int .i64 0, .bool false, .int .i64 0, .int .i64 0]) ?_ 0 _ rfl; exact uB <| BK113.out))⟩; have n1_ : Aside0 (Below w.heap.size w w13) := ⟨(by rw [hw]; exact bl)⟩; clear hw; clear BK113; clear HB; have BK113 := n0_; have HB := n1_; clear n0_ n1_; obtain ⟨hcz14_0, hcz14_1, hcz14_2, hcz14_3, hcz14_4, hcz14_5, hfz14_0, hfz14_1, hfz14_2, hfz14_3, hfz14_4, hfz14_5⟩ := z6 BK113))
      go_ret
      exact ⟨re_, bl⟩
     ·
      rw [if_neg c10] at H
      have c10b0 : decide (1000000000000000 < ((rd_T82 l0 x8_1).f0)) = false := decide_eq_false c10
      clear c10
      have H' := Aside0.mk H
      clear H
      have p112 : 0 ≤ (x8_1 : Int) := od
      have q112 : x8_1 < (l0.length : Int) := od
      obtain ⟨ad112, e112, hx112_0, hx112_1, hx112_2, hx112_3, hx112_4, hx112_5⟩ := at_T82 HR0.out x8_1 p112 q112
      cases e112
      replace hx112_0 := kc HB hx112_0
      replace hx112_1 := kc HB hx112_1
      replace hx112_2 := kc HB hx112_2
      replace hx112_3 := kc HB hx112_3
      replace hx112_4 := kc HB hx112_4
      replace hx112_5 := kc HB hx112_5
      replace p112 := eq_true p112
      replace q112 := eq_true q112
      go_wp2_with (first | ((with_reducible refine gate_dst (N := 5) rfl ?_); refine bx (N := 5) #[.int .i64 0, .int .i64 0, .int .i64 0, .bool false, .int .i64 0, .int .i64 0] 82 ?_; intro gb113 hg w15 hbox hb; have BK113 := Aside0.mk (hbox); have GW113 := gw hg (uW HB.out); have GE113 := GW113; replace HB := cW HB hb; clear hb hbox hg; obtain ⟨hcz16_0, hcz16_1, hcz16_2, hcz16_3, hcz16_4, hcz16_5, hfz16_0, hfz16_1, hfz16_2, hfz16_3, hfz16_4, hfz16_5⟩ := z6 BK113) | ((with_reducible refine gate_store (t := 82) (p := 5) rfl ?_); refine store_event (t := 82) (p := 5) (v := ?vo_w17) (w1 := ((((((w15.setCell ⟨gb113, 0, none⟩ (.int .i64 ((rd_T82 l0 x8_1).f0))).setCell ⟨gb113, 1, none⟩ (.int .i64 ((rd_T82 l0 x8_1).f1.f0))).setCell ⟨gb113, 2, none⟩ (.int .i64 ((rd_T82 l0 x8_1).f1.f1.f0))).setCell ⟨gb113, 3, none⟩ (.bool ((rd_T82 l0 x8_1).f1.f1.f1))).setCell ⟨gb113, 4, none⟩ (.int .i64 ((rd_T82 l0 x8_1).f1.f2))).setCell ⟨gb113, 5, none⟩ (.int .i64 ((rd_T82 l0 x8_1).f1.f3)))) ?hg ?ho ?hn ?hr ?_; (case ho => rfl); (case hg => rfl); (case hn => rfl); (case hr => first | (go_simp; done) | (go_simp; rfl)); intro w17 hw; have n0_ : Aside0 (w17.heap[gb113]? = some (.cells #[.int .i64 ((rd_T82 l0 x8_1).f0), .int .i64 ((rd_T82 l0 x8_1).f1.f0), .int .i64 ((rd_T82 l0 x8_1).f1.f1.f0), .bool ((rd_T82 l0 x8_1).f1.f1.f1), .int .i64 ((rd_T82 l0 x8_1).f1.f2), .int .i64 ((rd_T82 l0 x8_1).f1.f3)] 82 (0, 0))) := ⟨(by rw [hw]; exact (by (with_reducible repeat (first | refine blk_drewN ?_ _ | refine blk_drew ?_ | refine blk_alloc ?_ _)); refine blk_put (cs := #[.int .i64 ((rd_T82 l0 x8_1).f0), .int .i64 ((rd_T82 l0 x8_1).f1.f0), .int .i64 ((rd_T82 l0 x8_1).f1.f1.f0), .bool ((rd_T82 l0 x8_1).f1.f1.f1), .int .i64 ((rd_T82 l0 x8_1).f1.f2), .int .i64 0]) ?_ 5 _ rfl; (with_reducible repeat (first | refine blk_drewN ?_ _ | refine blk_drew ?_ | refine blk_alloc ?_ _)); refine blk_put (cs := #[.int .i64 ((rd_T82 l0 x8_1).f0), .int .i64 ((rd_T82 l0 x8_1).f1.f0), .int .i64 ((rd_T82 l0 x8_1).f1.f1.f0), .bool ((rd_T82 l0 x8_1).f1.f1.f1), .int .i64 0, .int .i64 0]) ?_ 4 _ rfl; (with_reducible repeat (first | refine blk_drewN ?_ _ | refine blk_drew ?_ | refine blk_alloc ?_ _)); refine blk_put (cs := #[.int .i64 ((rd_T82 l0 x8_1).f0), .int .i64 ((rd_T82 l0 x8_1).f1.f0), .int .i64 ((rd_T82 l0 x8_1).f1.f1.f0), .bool false, .int .i64 0, .int .i64 0]) ?_ 3 _ rfl; (with_reducible repeat (first | refine blk_drewN ?_ _ | refine blk_drew ?_ | refine blk_alloc ?_ _)); refine blk_put (cs := #[.int .i64 ((rd_T82 l0 x8_1).f0), .int .i64 ((rd_T82 l0 x8_1).f1.f0), .int .i64 0, .bool false, .int .i64 0, .int .i64 0]) ?_ 2 _ rfl; (with_reducible repeat (first | refine blk_drewN ?_ _ | refine blk_drew ?_ | refine blk_alloc ?_ _)); refine blk_put (cs := #[.int .i64 ((rd_T82 l0 x8_1).f0), .int .i64 0, .int .i64 0, .bool false, .int .i64 0, .int .i64 0]) ?_ 1 _ rfl; (with_reducible repeat (first | refine blk_drewN ?_ _ | refine blk_drew ?_ | refine blk_alloc ?_ _)); refine blk_put (cs := #[.int .i64 0, .int .i64 0, .int .i64 0, .bool false, .int .i64 0, .int .i64 0]) ?_ 0 _ rfl; exact uB <| BK113.out))⟩; have n1_ : Aside0 (Below w.heap.size w w17) := ⟨(by rw [hw]; exact bl)⟩; clear hw; clear BK113; clear HB; have BK113 := n0_; have HB := n1_; clear n0_ n1_; obtain ⟨hcz18_0, hcz18_1, hcz18_2, hcz18_3, hcz18_4, hcz18_5, hfz18_0, hfz18_1, hfz18_2, hfz18_3, hfz18_4, hfz18_5⟩ := z6 BK113))
      go_roundg k1
      case measure => have := HK1.out; omega
      case rel => exact ⟨((rd_T82 l0 x8_1).f0), (wrap64 (x8_1 + 1)), rs_, rs_, H', ⟨by have := HK1.out; omega⟩, ⟨bl⟩⟩
   ·
    rw [if_neg c2] at H
    have c2b0 : decide (x8_1 < (l0.length : Int)) = false := decide_eq_false c2
    clear c2
    obtain rfl := Option.some.inj H
    go_wp2
    go_ret
    exact ⟨re_, uW HB.out⟩
def shard_Right.l0 : Nat → List (S59) → Int → Int → List (S59) → Option (Bool)
 | 0, _, _, _, _ => none
 | k + 1, x6, x7, x8, x115000 => if x8 < x7 then (if 0 ≤ x8 then (if x8 < (x6.length : Int) then (if (((rd_T59 x6 x8).f2).length : Int) = 0 then (some false) else ((chain_Right.f k ((rd_T59 x6 x8).f2)).bind fun t117 => (if t117 = true then (if x8 > 0 then (if 0 ≤ (wrap64 (x8 - 1)) then (if (wrap64 (x8 - 1)) < (x115000.length : Int) then ((shard_order.f k ((rd_T59 x115000 (wrap64 (x8 - 1))).f0) ((rd_T59 x115000 (wrap64 (x8 - 1))).f1) ((rd_T59 x115000 (wrap64 (x8 - 1))).f2) ((rd_T59 x6 x8).f0) ((rd_T59 x6 x8).f1) ((rd_T59 x6 x8).f2)).bind fun t119 => (if t119 ≥ 0 then (some false) else (shard_Right.l0 k x6 x7 (wrap64 (x8 + 1)) x115000))) else (none)) else (none)) else (shard_Right.l0 k x6 x7 (wrap64 (x8 + 1)) x115000)) else (some false)))) else (none)) else (none)) else (some true)
def shard_Right.f (k : Nat) (l0_0 : List (S59)) : Option (Bool) := shard_Right.l0 k l0_0 (l0_0.length : Int) 0 l0_0
theorem shard_Right.mono_l : ∀ k, (∀ y0 y1 y2 y3, LeC (shard_Right.l0 k y0 y1 y2 y3) (shard_Right.l0 (k + 1) y0 y1 y2 y3))
 | 0 => fun _ _ _ _ => ⟨fun r h => by simp [shard_Right.l0] at h⟩
 | k + 1 => by have ih0 := shard_Right.mono_l k; exact fun _ _ _ _ => by unfold shard_Right.l0; exact lm
theorem shard_Right.mono : ∀ a0 k, LeO (shard_Right.f k a0) (shard_Right.f (k + 1) a0) := by
 intro a0 k
 have ih0 := shard_Right.mono_l k
 unfold shard_Right.f
 exact lo
instance shard_Right.mI {a0 k} : LeC (shard_Right.f k a0) (shard_Right.f (k + 1) a0) := ⟨shard_Right.mono _ _⟩
def shard_Right.T4 : Bool × List (List Nat × List Nat) := (true, [([], []), ([0], [0]), ([1], [1]), ([2], [2]), ([3], [3]), ([4], [4]), ([5, 4], [4, 5]), ([6, 4, 4], [4, 6]), ([7, 4], [4, 7]), ([4, 8], [4, 8]), ([9, 7], [9]), ([10], [10]), ([11, 10], [10, 11]), ([12, 10, 10], [10, 12]), ([13], [13]), ([14, 13], [13, 14]), ([13], [13]), ([16, 13], [13, 16]), ([15, 17, 13], [13, 15, 17]), ([18, 13], [13, 18]), ([13], [13]), ([19, 20, 13, 13], [13, 19, 20]), ([21, 13], [13, 21]), ([13, 22, 10], [10, 13, 22]), ([10, 23], [10, 23])])
def shard_Right.B4 : List Nat := [0, 1, 3, 7, 15, 31, 63, 127, 255, 511, 1023, 2047, 4095, 8191, 16383, 32767, 16383, 81919, 262143, 524287, 16383, 2097151, 4194303, 8388607, 16777215]
theorem shard_Right.tab4 : rtab .any (opsOf Try.f14 4) = shard_Right.T4 := by kernel_rfl
theorem shard_Right.bits4 : waitsOk shard_Right.T4.2 shard_Right.B4 = true := by kernel_rfl
theorem shard_Right.calls (k : Nat) (A0_0 : Option Addr) (c0_0 : Nat) (l0_0 : List (S59)) (r : Bool) (w : World) (hr0_0 : Kd.C k59 w A0_0 l0_0.length l0_0) (hc0_0 : l0_0.length ≤ c0_0) (h : shard_Right.f k l0_0 = some r) :
 Calls Try.prog 14 #[.agg #[.slice A0_0 l0_0.length c0_0]] w fun e w' => e = .returned (.bool r) ∧ Below w.heap.size w w' := by
 have hu24 := Try.underlying24
 have hu59 := Try.underlying59
 have HR0_0 := Aside0.mk hr0_0
 have HC0_0 := Aside0.mk hc0_0
 clear hr0_0 hc0_0
 have HB := Aside0.mk (Below.refl w.heap.size w)
 have H : (shard_Right.l0 k l0_0 (l0_0.length : Int) 0 l0_0) = some r := h
 clear h
 have H' := Aside0.mk H
 clear H
 go_enter Try.func14, Try.ntmps14
 go_wp2_with (first | ((with_reducible refine gate_dst (N := 1) rfl ?_); refine bx (N := 1) #[.slice A0_0 l0_0.length c0_0] 24 ?_; intro gb114 hg w2 hbox hb; have BK114 := Aside0.mk (hbox); have GW114 := gw hg (uW HB.out); have GE114 := GW114; replace HB := cW HB hb; clear hb hbox hg; obtain ⟨hcz3_0, hfz3_0⟩ := z1 BK114))
 go_loopg [8] k (fun kq v8 w' => ∃ (x8_1 : Int), v8 = .int .i64 x8_1 ∧ Aside0 (shard_Right.l0 kq l0_0 (l0_0.length : Int) x8_1 l0_0 = some r) ∧ Aside0 (kq ≤ k) ∧ Aside0 (w'.heap[gb114]? = some (.cells #[(.slice A0_0 l0_0.length c0_0)] 24 (0, 0))) ∧ Aside0 (Below w.heap.size w w'))
 case atStart => exact ⟨(0), rs_, H', ⟨Nat.le_refl _⟩, ⟨uB BK114.out⟩, ⟨bl⟩⟩
 case round =>
  clear H'
  try clear c1
  try clear p2
  try clear hcz3_0
  try clear hfz3_0
  obtain ⟨x8_1, rfl, HA, HK1, BK114, HB⟩ := hrel
  cases gk with
  | zero => exact absurd HA.out (by simp [shard_Right.l0])
  | succ k1 =>
   have H := HA.out
   clear HA
   simp only [shard_Right.l0] at H
   by_cases c4 : x8_1 < (l0_0.length : Int)
   ·
    rw [if_pos c4] at H
    have c4b0 : decide (x8_1 < (l0_0.length : Int)) = true := decide_eq_true c4
    clear c4
    obtain ⟨c5b0, H⟩ := gdd H
    obtain ⟨c6b0, H⟩ := gdd H
    by_cases c7 : (((rd_T59 l0_0 x8_1).f2).length : Int) = 0
    ·
     rw [if_pos c7] at H
     have c7b0 : ((((rd_T59 l0_0 x8_1).f2).length : Int) == 0) = true := beq_iff_eq.mpr c7
     have c7b1 : ((((rd_T59 l0_0 x8_1).f2).length : Int) != 0) = false := bne_eq_false_iff_eq.mpr c7
     clear c7
     obtain rfl := Option.some.inj H
     have p115 : 0 ≤ (x8_1 : Int) := od
     have q115 : x8_1 < (l0_0.length : Int) := od
     obtain ⟨ad115, A115_2, c115_2, e115, hx115_0, hx115_1, hx115_2, hl115_2, hi115_2⟩ := at_T59 HR0_0.out x8_1 p115 q115
     cases e115
     replace hx115_0 := kc HB hx115_0
     replace hx115_1 := kc HB hx115_1
     replace hx115_2 := kc HB hx115_2
     have HR115_2 := Aside0.mk hi115_2
     have HC115_2 := Aside0.mk hl115_2
     clear hi115_2 hl115_2
     replace p115 := eq_true p115
     replace q115 := eq_true q115
     try go_wp2_with (first | ((with_reducible refine gate_dst (N := 4) rfl ?_); refine bx (N := 4) #[.int .i64 0, .string (⟨#[]⟩ : ByteArray), .slice none 0 0] 59 ?_; intro gb116 hg w8 hbox hb; have BK116 := Aside0.mk (hbox); have GW116 := gw hg bl; have GE116 := GW116; replace HB := Aside0.mk (below_step bl hb); have NB114_116 := Aside0.mk ((by rw [hg]; exact Nat.ne_of_lt (blk_lt (g := gb114) (o := .cells #[.slice (some ad115) l0_0.length c0_0] 24 (0, 0)) (uB BK114.out)) : gb114 ≠ gb116)); have NB116_114 := Aside0.mk ((by rw [hg]; exact Nat.ne_of_gt (blk_lt (g := gb114) (o := .cells #[.slice (some ad115) l0_0.length c0_0] 24 (0, 0)) (uB BK114.out)) : gb116 ≠ gb114)); replace BK114 := cB BK114 hb; clear hb hbox hg; have hnb9 := NB116_114.out; have hnc9 := NB114_116.out; obtain ⟨hcz10_0, hcz10_1, hcz10_2, hfz10_0, hfz10_1, hfz10_2⟩ := z3 BK116))
     have n0_ : Aside0 ((((w8.setCell ⟨gb116, 0, none⟩ (.int .i64 ((rd_T59 l0_0 x8_1).f0))).setCell ⟨gb116, 1, none⟩ (.string ((rd_T59 l0_0 x8_1).f1))).setCell ⟨gb116, 2, none⟩ (.slice A115_2 ((rd_T59 l0_0 x8_1).f2).length c115_2)).heap[gb114]? = some (.cells #[.slice (some ad115) l0_0.length c0_0] 24 (0, 0))) := ⟨by (with_reducible repeat (first | refine blk_drewN ?_ _ | refine blk_drew ?_ | refine blk_alloc ?_ _)); refine blk_far ?_ NB114_116.out _; (with_reducible repeat (first | refine blk_drewN ?_ _ | refine blk_drew ?_ | refine blk_alloc ?_ _)); refine blk_far ?_ NB114_116.out _; (with_reducible repeat (first | refine blk_drewN ?_ _ | refine blk_drew ?_ | refine blk_alloc ?_ _)); refine blk_far ?_ NB114_116.out _; exact uB <| BK114.out⟩
     have n1_ : Aside0 ((((w8.setCell ⟨gb116, 0, none⟩ (.int .i64 ((rd_T59 l0_0 x8_1).f0))).setCell ⟨gb116, 1, none⟩ (.string ((rd_T59 l0_0 x8_1).f1))).setCell ⟨gb116, 2, none⟩ (.slice A115_2 ((rd_T59 l0_0 x8_1).f2).length c115_2)).heap[gb116]? = some (.cells #[.int .i64 ((rd_T59 l0_0 x8_1).f0), .string ((rd_T59 l0_0 x8_1).f1), .slice A115_2 ((rd_T59 l0_0 x8_1).f2).length c115_2] 59 (0, 0))) := ⟨by (with_reducible repeat (first | refine blk_drewN ?_ _ | refine blk_drew ?_ | refine blk_alloc ?_ _)); refine blk_put (cs := #[.int .i64 ((rd_T59 l0_0 x8_1).f0), .string ((rd_T59 l0_0 x8_1).f1), .slice none 0 0]) ?_ 2 _ rfl; (with_reducible repeat (first | refine blk_drewN ?_ _ | refine blk_drew ?_ | refine blk_alloc ?_ _)); refine blk_put (cs := #[.int .i64 ((rd_T59 l0_0 x8_1).f0), .string (⟨#[]⟩ : ByteArray), .slice none 0 0]) ?_ 1 _ rfl; (with_reducible repeat (first | refine blk_drewN ?_ _ | refine blk_drew ?_ | refine blk_alloc ?_ _)); refine blk_put (cs := #[.int .i64 0, .string (⟨#[]⟩ : ByteArray), .slice none 0 0]) ?_ 0 _ rfl; exact uB <| BK116.out⟩
     have n2_ : Aside0 (Below w.heap.size w (((w8.setCell ⟨gb116, 0, none⟩ (.int .i64 ((rd_T59 l0_0 x8_1).f0))).setCell ⟨gb116, 1, none⟩ (.string ((rd_T59 l0_0 x8_1).f1))).setCell ⟨gb116, 2, none⟩ (.slice A115_2 ((rd_T59 l0_0 x8_1).f2).length c115_2))) := ⟨bl⟩
     (try clear BK114)
     (try clear BK116)
     (try clear HB)
     generalize (((w8.setCell ⟨gb116, 0, none⟩ (.int .i64 ((rd_T59 l0_0 x8_1).f0))).setCell ⟨gb116, 1, none⟩ (.string ((rd_T59 l0_0 x8_1).f1))).setCell ⟨gb116, 2, none⟩ (.slice A115_2 ((rd_T59 l0_0 x8_1).f2).length c115_2)) = w11 at n0_ n1_ n2_ ⊢
     have BK114 := n0_
     have BK116 := n1_
     have HB := n2_
     clear n0_ n1_ n2_
     replace BK114 := Aside0.mk (blk_drew BK114.out)
     replace BK116 := Aside0.mk (blk_drew BK116.out)
     replace HB := Aside0.mk (below_drew1 HB.out)
     refine start_ (n := 25) (S := fun w' => w'.cell? ⟨gb116, 0, none⟩ = some (.int .i64 ((rd_T59 l0_0 x8_1).f0)) ∧ w'.cell? ⟨gb116, 1, none⟩ = some (.string ((rd_T59 l0_0 x8_1).f1)) ∧ w'.cell? ⟨gb116, 2, none⟩ = some (.slice A115_2 ((rd_T59 l0_0 x8_1).f2).length c115_2)) (ds := []) _ (by kernel_rfl) rfl rfl ⟨(blk_cell BK116.out 0).trans rfl, (blk_cell BK116.out 1).trans rfl, (blk_cell BK116.out 2).trans rfl⟩ (fun hHeld => ?_); refine with_tabW shard_Right.tab4 shard_Right.bits4 (fun HT_ HW_ => ?_)
     generalize w11.drew = w12 at BK114 BK116 HB hHeld ⊢
     refine p1 0 (some 13) ?_
     refine t1 1 (some 14) rfl rfl hHeld (Or.inl ⟨by rfl, by rintro w' ⟨s0, s1, s2⟩; go_simp; with_reducible rfl⟩) ?_
     refine p1 2 (some 15) ?_
     refine p1 3 (some 16) ?_
     refine p1 4 (some 17) ?_
     refine p2 5 (some 18) ?_
     refine p2 6 (some 19) ?_
     refine p2 7 (some 20) ?_
     refine p2 8 (some 21) ?_
     refine p1 9 (some 22) ?_
     refine p1 10 (some 23) ?_
     refine p2 11 (some 24) ?_
     refine p2 12 (some 25) ?_
     refine p2 13 (some 26) ?_
     refine p2 14 (some 27) ?_
     refine p2 15 (some 28) ?_
     refine p2 16 (some 29) ?_
     refine p2 17 (some 30) ?_
     refine p2 18 (some 31) ?_
     refine p2 19 (some 32) ?_
     refine p2 20 (some 33) ?_
     refine p2 21 (some 34) ?_
     refine p2 22 (some 35) ?_
     refine p2 23 (some 36) ?_
     refine p1 24 (some 37) ?_
     refine done_ (done_of HT_.out (by kernel_rfl)) ?_
     try go_wp2
     go_ret
     exact ⟨re_, bl⟩
    ·
     rw [if_neg c7] at H
     have c7b0 : ((((rd_T59 l0_0 x8_1).f2).length : Int) == 0) = false := beq_eq_false_iff_ne.mpr c7
     have c7b1 : ((((rd_T59 l0_0 x8_1).f2).length : Int) != 0) = true := bne_iff_ne.mpr c7
     have c7b2 : ¬ (((rd_T59 l0_0 x8_1).f2) = []) := fun h_ => c7 (by rw [h_]; rfl)
     obtain ⟨t117, A13, H⟩ := bs H
     try dsimp only at H
     by_cases c14 : t117 = true
     ·
      subst c14
      rw [if_pos rfl] at H
      by_cases c15 : x8_1 > 0
      ·
       rw [if_pos c15] at H
       have c15b0 : decide (0 < x8_1) = true := decide_eq_true c15
       clear c15
       obtain ⟨ji16, hji16⟩ : ∃ j_ : Int, (wrap64 (x8_1 - 1)) = j_ := ⟨_, rfl⟩
       (first | rw [hji16] at H | simp only [hji16] at H)
       (try rw [hji16] at A13)
       have hji16w : (IntKind.i64.wrap (x8_1 - 1)) = ji16 := (i64_w _).trans hji16
       obtain ⟨c17b0, H⟩ := gdd H
       obtain ⟨c18b0, H⟩ := gdd H
       obtain ⟨t119, A19, H⟩ := bs H
       try dsimp only at H
       by_cases c20 : t119 ≥ 0
       ·
        rw [if_pos c20] at H
        have c20b0 : decide (0 ≤ t119) = true := decide_eq_true c20
        clear c20
        obtain rfl := Option.some.inj H
        have p115 : 0 ≤ (x8_1 : Int) := od
        have q115 : x8_1 < (l0_0.length : Int) := od
        obtain ⟨ad115, A115_2, c115_2, e115, hx115_0, hx115_1, hx115_2, hl115_2, hi115_2⟩ := at_T59 HR0_0.out x8_1 p115 q115
        cases e115
        replace hx115_0 := kc HB hx115_0
        replace hx115_1 := kc HB hx115_1
        replace hx115_2 := kc HB hx115_2
        have HR115_2 := Aside0.mk hi115_2
        have HC115_2 := Aside0.mk hl115_2
        clear hi115_2 hl115_2
        replace p115 := eq_true p115
        replace q115 := eq_true q115
        try go_wp2_with (first | ((with_reducible refine gate_dst (N := 4) rfl ?_); refine bx (N := 4) #[.int .i64 0, .string (⟨#[]⟩ : ByteArray), .slice none 0 0] 59 ?_; intro gb116 hg w21 hbox hb; have BK116 := Aside0.mk (hbox); have GW116 := gw hg bl; have GE116 := GW116; replace HB := Aside0.mk (below_step bl hb); have NB114_116 := Aside0.mk ((by rw [hg]; exact Nat.ne_of_lt (blk_lt (g := gb114) (o := .cells #[.slice (some ad115) l0_0.length c0_0] 24 (0, 0)) (uB BK114.out)) : gb114 ≠ gb116)); have NB116_114 := Aside0.mk ((by rw [hg]; exact Nat.ne_of_gt (blk_lt (g := gb114) (o := .cells #[.slice (some ad115) l0_0.length c0_0] 24 (0, 0)) (uB BK114.out)) : gb116 ≠ gb114)); replace BK114 := cB BK114 hb; clear hb hbox hg; have hnb22 := NB116_114.out; have hnc22 := NB114_116.out; obtain ⟨hcz23_0, hcz23_1, hcz23_2, hfz23_0, hfz23_1, hfz23_2⟩ := z3 BK116))
        have n0_ : Aside0 ((((w21.setCell ⟨gb116, 0, none⟩ (.int .i64 ((rd_T59 l0_0 x8_1).f0))).setCell ⟨gb116, 1, none⟩ (.string ((rd_T59 l0_0 x8_1).f1))).setCell ⟨gb116, 2, none⟩ (.slice A115_2 ((rd_T59 l0_0 x8_1).f2).length c115_2)).heap[gb114]? = some (.cells #[.slice (some ad115) l0_0.length c0_0] 24 (0, 0))) := ⟨by (with_reducible repeat (first | refine blk_drewN ?_ _ | refine blk_drew ?_ | refine blk_alloc ?_ _)); refine blk_far ?_ NB114_116.out _; (with_reducible repeat (first | refine blk_drewN ?_ _ | refine blk_drew ?_ | refine blk_alloc ?_ _)); refine blk_far ?_ NB114_116.out _; (with_reducible repeat (first | refine blk_drewN ?_ _ | refine blk_drew ?_ | refine blk_alloc ?_ _)); refine blk_far ?_ NB114_116.out _; exact uB <| BK114.out⟩
        have n1_ : Aside0 ((((w21.setCell ⟨gb116, 0, none⟩ (.int .i64 ((rd_T59 l0_0 x8_1).f0))).setCell ⟨gb116, 1, none⟩ (.string ((rd_T59 l0_0 x8_1).f1))).setCell ⟨gb116, 2, none⟩ (.slice A115_2 ((rd_T59 l0_0 x8_1).f2).length c115_2)).heap[gb116]? = some (.cells #[.int .i64 ((rd_T59 l0_0 x8_1).f0), .string ((rd_T59 l0_0 x8_1).f1), .slice A115_2 ((rd_T59 l0_0 x8_1).f2).length c115_2] 59 (0, 0))) := ⟨by (with_reducible repeat (first | refine blk_drewN ?_ _ | refine blk_drew ?_ | refine blk_alloc ?_ _)); refine blk_put (cs := #[.int .i64 ((rd_T59 l0_0 x8_1).f0), .string ((rd_T59 l0_0 x8_1).f1), .slice none 0 0]) ?_ 2 _ rfl; (with_reducible repeat (first | refine blk_drewN ?_ _ | refine blk_drew ?_ | refine blk_alloc ?_ _)); refine blk_put (cs := #[.int .i64 ((rd_T59 l0_0 x8_1).f0), .string (⟨#[]⟩ : ByteArray), .slice none 0 0]) ?_ 1 _ rfl; (with_reducible repeat (first | refine blk_drewN ?_ _ | refine blk_drew ?_ | refine blk_alloc ?_ _)); refine blk_put (cs := #[.int .i64 0, .string (⟨#[]⟩ : ByteArray), .slice none 0 0]) ?_ 0 _ rfl; exact uB <| BK116.out⟩
        have n2_ : Aside0 (Below w.heap.size w (((w21.setCell ⟨gb116, 0, none⟩ (.int .i64 ((rd_T59 l0_0 x8_1).f0))).setCell ⟨gb116, 1, none⟩ (.string ((rd_T59 l0_0 x8_1).f1))).setCell ⟨gb116, 2, none⟩ (.slice A115_2 ((rd_T59 l0_0 x8_1).f2).length c115_2))) := ⟨bl⟩
        (try clear BK114)
        (try clear BK116)
        (try clear HB)
        generalize (((w21.setCell ⟨gb116, 0, none⟩ (.int .i64 ((rd_T59 l0_0 x8_1).f0))).setCell ⟨gb116, 1, none⟩ (.string ((rd_T59 l0_0 x8_1).f1))).setCell ⟨gb116, 2, none⟩ (.slice A115_2 ((rd_T59 l0_0 x8_1).f2).length c115_2)) = w24 at n0_ n1_ n2_ ⊢
        have BK114 := n0_
        have BK116 := n1_
        have HB := n2_
        clear n0_ n1_ n2_
        replace BK114 := Aside0.mk (blk_drew BK114.out)
        replace BK116 := Aside0.mk (blk_drew BK116.out)
        replace HB := Aside0.mk (below_drew1 HB.out)
        have p118 : 0 ≤ ((ji16) : Int) := od
        have q118 : (ji16) < (l0_0.length : Int) := od
        obtain ⟨ad118, A118_2, c118_2, e118, hx118_0, hx118_1, hx118_2, hl118_2, hi118_2⟩ := at_T59 HR0_0.out (ji16) p118 q118
        have hw118_2 := hx118_2
        have hw118_1 := hx118_1
        have hw118_0 := hx118_0
        obtain rfl : ad115 = ad118 := (by injection e118)
        replace hx118_0 := kc HB hx118_0
        replace hx118_1 := kc HB hx118_1
        replace hx118_2 := kc HB hx118_2
        have HR118_2 := Aside0.mk hi118_2
        have HC118_2 := Aside0.mk hl118_2
        clear hi118_2 hl118_2
        replace p118 := eq_true p118
        replace q118 := eq_true q118
        refine start_ (n := 25) (S := fun w' => w'.cell? ⟨gb116, 0, none⟩ = some (.int .i64 ((rd_T59 l0_0 x8_1).f0)) ∧ w'.cell? ⟨gb116, 1, none⟩ = some (.string ((rd_T59 l0_0 x8_1).f1)) ∧ w'.cell? ⟨gb116, 2, none⟩ = some (.slice A115_2 ((rd_T59 l0_0 x8_1).f2).length c115_2) ∧ w'.cell? ⟨gb114, 0, none⟩ = some (.slice (some ad115) l0_0.length c0_0) ∧ w'.cell? (ad115.add (((ji16)).toNat * 3)) = some (.int .i64 ((rd_T59 l0_0 (ji16)).f0)) ∧ w'.cell? ⟨(ad115.add (((ji16)).toNat * 3)).block, (ad115.add (((ji16)).toNat * 3)).off + 1, none⟩ = some (.string ((rd_T59 l0_0 (ji16)).f1)) ∧ w'.cell? ⟨(ad115.add (((ji16)).toNat * 3)).block, (ad115.add (((ji16)).toNat * 3)).off + 2, none⟩ = some (.slice A118_2 ((rd_T59 l0_0 (ji16)).f2).length c118_2)) (ds := []) _ (by kernel_rfl) rfl rfl ⟨(blk_cell BK116.out 0).trans rfl, (blk_cell BK116.out 1).trans rfl, (blk_cell BK116.out 2).trans rfl, (blk_cell BK114.out 0).trans rfl, (kc HB hw118_0), (kc HB hw118_1), (kc HB hw118_2)⟩ (fun hHeld => ?_); refine with_tabW shard_Right.tab4 shard_Right.bits4 (fun HT_ HW_ => ?_)
        generalize w24.drew = w25 at BK114 BK116 HB HR118_2 hx118_0 hx118_1 hx118_2 hHeld ⊢
        refine p1 0 (some 13) ?_
        refine t1 1 (some 14) rfl rfl hHeld (Or.inl ⟨by rfl, by rintro w' ⟨s0, s1, s2, s3, s4, s5, s6⟩; go_simp; with_reducible rfl⟩) ?_
        refine p1 2 (some 15) ?_
        refine p1 3 (some 16) ?_
        refine p1 4 (some 17) ?_
        refine p1 5 (some 18) ?_
        refine t1 6 (some 19) rfl rfl hHeld (Or.inl ⟨by rfl, by rintro w' ⟨s0, s1, s2, s3, s4, s5, s6⟩; go_simp; with_reducible rfl⟩) ?_
        refine o1 7 (some 20) rfl rfl (fun K hK => ?_)
        refine gS Try.func33 #[.slice A115_2 ((rd_T59 l0_0 x8_1).f2).length c115_2] ?_
        with_reducible refine (chain_Right.calls k1 _ _ ((rd_T59 l0_0 x8_1).f2) true _ ?side1 ?side2 A13.out).mono ?_
        (case side1 => exact uC <| (Kd.C_below HR115_2.out HB.out))
        (case side2 => exact HC115_2.out)
        rintro e w26 ⟨rfl, hb⟩
        refine ⟨_, rfl, ?_⟩
        replace BK114 := cB BK114 hb
        replace BK116 := cB BK116 hb
        replace HB := Aside0.mk (below_step bl hb)
        (try clear hb)
        refine hK.out _ _ ⟨(blk_cell BK116.out 0).trans rfl, (blk_cell BK116.out 1).trans rfl, (blk_cell BK116.out 2).trans rfl, (blk_cell BK114.out 0).trans rfl, (kc HB hw118_0), (kc HB hw118_1), (kc HB hw118_2)⟩ (fun hHeld => ?_)
        clear hK K
        refine norm_ (a' := ?_) ?_ ?_
        rotate_left
        ·
         show Act.put _ (some 20) _ = _
         simp only [Act.put, List.setIfInBounds_toArray, List.set_cons_zero, List.set_cons_succ, i64_w, i32_w]
         rfl
        refine p1 8 (some 21) ?_
        refine p1 9 (some 22) ?_
        refine p1 10 (some 23) ?_
        refine p1 11 (some 24) ?_
        refine p1 12 (some 25) ?_
        refine p1 13 (some 26) ?_
        refine p1 14 (some 27) ?_
        refine p1 16 (some 29) ?_
        refine p1 17 (some 30) ?_
        refine t1 15 (some 28) rfl rfl hHeld (Or.inl ⟨by rfl, by rintro w' ⟨s0, s1, s2, s3, s4, s5, s6⟩; go_simp; with_reducible rfl⟩) ?_
        refine p1 18 (some 31) ?_
        refine t1 19 (some 32) rfl rfl hHeld (Or.inl ⟨by rfl, by rintro w' ⟨s0, s1, s2, s3, s4, s5, s6⟩; go_simp; with_reducible rfl⟩) ?_
        refine t1 20 (some 33) rfl rfl hHeld (Or.inl ⟨by rfl, by rintro w' ⟨s0, s1, s2, s3, s4, s5, s6⟩; go_simp; with_reducible rfl⟩) ?_
        refine o1 21 (some 34) rfl rfl (fun K hK => ?_)
        refine goes_ Try.func26 (by kernel_rfl) rfl #[.agg #[.int .i64 ((rd_T59 l0_0 (ji16)).f0), .string ((rd_T59 l0_0 (ji16)).f1), .slice A118_2 ((rd_T59 l0_0 (ji16)).f2).length c118_2], .agg #[.int .i64 ((rd_T59 l0_0 x8_1).f0), .string ((rd_T59 l0_0 x8_1).f1), .slice A115_2 ((rd_T59 l0_0 x8_1).f2).length c115_2]] (by rfl) rfl rfl (by (try simp only [List.map_toArray, List.map_cons, List.map_nil]); first | done | (simp only [hji16]; rfl) | rfl | (simp only [List.length_drop, List.length_take]; rfl)) ?_
        with_reducible refine (shard_order.calls k1 ((rd_T59 l0_0 (ji16)).f0) ((rd_T59 l0_0 (ji16)).f1) _ _ ((rd_T59 l0_0 (ji16)).f2) ((rd_T59 l0_0 x8_1).f0) ((rd_T59 l0_0 x8_1).f1) _ _ ((rd_T59 l0_0 x8_1).f2) t119 _ ?side1 ?side2 ?side3 ?side4 A19.out).mono ?_
        (case side1 => exact uC <| (Kd.C_below HR118_2.out HB.out))
        (case side2 => exact HC118_2.out)
        (case side3 => exact uC <| (Kd.C_below HR115_2.out HB.out))
        (case side4 => exact HC115_2.out)
        rintro e w27 ⟨rfl, hb⟩
        refine ⟨_, rfl, ?_⟩
        replace BK114 := cB BK114 hb
        replace BK116 := cB BK116 hb
        replace HB := Aside0.mk (below_step bl hb)
        (try clear hb)
        refine hK.out _ _ ⟨(blk_cell BK116.out 0).trans rfl, (blk_cell BK116.out 1).trans rfl, (blk_cell BK116.out 2).trans rfl, (blk_cell BK114.out 0).trans rfl, (kc HB hw118_0), (kc HB hw118_1), (kc HB hw118_2)⟩ (fun hHeld => ?_)
        clear hK K
        refine norm_ (a' := ?_) ?_ ?_
        rotate_left
        ·
         show Act.put _ (some 34) _ = _
         simp only [Act.put, List.setIfInBounds_toArray, List.set_cons_zero, List.set_cons_succ, i64_w, i32_w]
         rfl
        refine p1 22 (some 35) ?_
        refine p1 23 (some 36) ?_
        refine p1 24 (some 37) ?_
        refine done_ (done_of HT_.out (by kernel_rfl)) ?_
        try go_wp2
        go_ret
        exact ⟨by first | rfl | (simp [errW_none, errW_some] <;> rfl) | (simp only [← hji16]; first | rfl | (simp [errW_none, errW_some] <;> rfl)) | (simp [*, errW_none, errW_some] <;> rfl), bl⟩
       ·
        rw [if_neg c20] at H
        have c20b0 : decide (0 ≤ t119) = false := decide_eq_false c20
        clear c20
        have H' := Aside0.mk H
        clear H
        have p115 : 0 ≤ (x8_1 : Int) := od
        have q115 : x8_1 < (l0_0.length : Int) := od
        obtain ⟨ad115, A115_2, c115_2, e115, hx115_0, hx115_1, hx115_2, hl115_2, hi115_2⟩ := at_T59 HR0_0.out x8_1 p115 q115
        cases e115
        replace hx115_0 := kc HB hx115_0
        replace hx115_1 := kc HB hx115_1
        replace hx115_2 := kc HB hx115_2
        have HR115_2 := Aside0.mk hi115_2
        have HC115_2 := Aside0.mk hl115_2
        clear hi115_2 hl115_2
        replace p115 := eq_true p115
        replace q115 := eq_true q115
        try go_wp2_with (first | ((with_reducible refine gate_dst (N := 4) rfl ?_); refine bx (N := 4) #[.int .i64 0, .string (⟨#[]⟩ : ByteArray), .slice none 0 0] 59 ?_; intro gb116 hg w28 hbox hb; have BK116 := Aside0.mk (hbox); have GW116 := gw hg bl; have GE116 := GW116; replace HB := Aside0.mk (below_step bl hb); have NB114_116 := Aside0.mk ((by rw [hg]; exact Nat.ne_of_lt (blk_lt (g := gb114) (o := .cells #[.slice (some ad115) l0_0.length c0_0] 24 (0, 0)) (uB BK114.out)) : gb114 ≠ gb116)); have NB116_114 := Aside0.mk ((by rw [hg]; exact Nat.ne_of_gt (blk_lt (g := gb114) (o := .cells #[.slice (some ad115) l0_0.length c0_0] 24 (0, 0)) (uB BK114.out)) : gb116 ≠ gb114)); replace BK114 := cB BK114 hb; clear hb hbox hg; have hnb29 := NB116_114.out; have hnc29 := NB114_116.out; obtain ⟨hcz30_0, hcz30_1, hcz30_2, hfz30_0, hfz30_1, hfz30_2⟩ := z3 BK116))
        have n0_ : Aside0 ((((w28.setCell ⟨gb116, 0, none⟩ (.int .i64 ((rd_T59 l0_0 x8_1).f0))).setCell ⟨gb116, 1, none⟩ (.string ((rd_T59 l0_0 x8_1).f1))).setCell ⟨gb116, 2, none⟩ (.slice A115_2 ((rd_T59 l0_0 x8_1).f2).length c115_2)).heap[gb114]? = some (.cells #[.slice (some ad115) l0_0.length c0_0] 24 (0, 0))) := ⟨by (with_reducible repeat (first | refine blk_drewN ?_ _ | refine blk_drew ?_ | refine blk_alloc ?_ _)); refine blk_far ?_ NB114_116.out _; (with_reducible repeat (first | refine blk_drewN ?_ _ | refine blk_drew ?_ | refine blk_alloc ?_ _)); refine blk_far ?_ NB114_116.out _; (with_reducible repeat (first | refine blk_drewN ?_ _ | refine blk_drew ?_ | refine blk_alloc ?_ _)); refine blk_far ?_ NB114_116.out _; exact uB <| BK114.out⟩
        have n1_ : Aside0 ((((w28.setCell ⟨gb116, 0, none⟩ (.int .i64 ((rd_T59 l0_0 x8_1).f0))).setCell ⟨gb116, 1, none⟩ (.string ((rd_T59 l0_0 x8_1).f1))).setCell ⟨gb116, 2, none⟩ (.slice A115_2 ((rd_T59 l0_0 x8_1).f2).length c115_2)).heap[gb116]? = some (.cells #[.int .i64 ((rd_T59 l0_0 x8_1).f0), .string ((rd_T59 l0_0 x8_1).f1), .slice A115_2 ((rd_T59 l0_0 x8_1).f2).length c115_2] 59 (0, 0))) := ⟨by (with_reducible repeat (first | refine blk_drewN ?_ _ | refine blk_drew ?_ | refine blk_alloc ?_ _)); refine blk_put (cs := #[.int .i64 ((rd_T59 l0_0 x8_1).f0), .string ((rd_T59 l0_0 x8_1).f1), .slice none 0 0]) ?_ 2 _ rfl; (with_reducible repeat (first | refine blk_drewN ?_ _ | refine blk_drew ?_ | refine blk_alloc ?_ _)); refine blk_put (cs := #[.int .i64 ((rd_T59 l0_0 x8_1).f0), .string (⟨#[]⟩ : ByteArray), .slice none 0 0]) ?_ 1 _ rfl; (with_reducible repeat (first | refine blk_drewN ?_ _ | refine blk_drew ?_ | refine blk_alloc ?_ _)); refine blk_put (cs := #[.int .i64 0, .string (⟨#[]⟩ : ByteArray), .slice none 0 0]) ?_ 0 _ rfl; exact uB <| BK116.out⟩
        have n2_ : Aside0 (Below w.heap.size w (((w28.setCell ⟨gb116, 0, none⟩ (.int .i64 ((rd_T59 l0_0 x8_1).f0))).setCell ⟨gb116, 1, none⟩ (.string ((rd_T59 l0_0 x8_1).f1))).setCell ⟨gb116, 2, none⟩ (.slice A115_2 ((rd_T59 l0_0 x8_1).f2).length c115_2))) := ⟨bl⟩
        (try clear BK114)
        (try clear BK116)
        (try clear HB)
        generalize (((w28.setCell ⟨gb116, 0, none⟩ (.int .i64 ((rd_T59 l0_0 x8_1).f0))).setCell ⟨gb116, 1, none⟩ (.string ((rd_T59 l0_0 x8_1).f1))).setCell ⟨gb116, 2, none⟩ (.slice A115_2 ((rd_T59 l0_0 x8_1).f2).length c115_2)) = w31 at n0_ n1_ n2_ ⊢
        have BK114 := n0_
        have BK116 := n1_
        have HB := n2_
        clear n0_ n1_ n2_
        replace BK114 := Aside0.mk (blk_drew BK114.out)
        replace BK116 := Aside0.mk (blk_drew BK116.out)
        replace HB := Aside0.mk (below_drew1 HB.out)
        have p118 : 0 ≤ ((ji16) : Int) := od
        have q118 : (ji16) < (l0_0.length : Int) := od
        obtain ⟨ad118, A118_2, c118_2, e118, hx118_0, hx118_1, hx118_2, hl118_2, hi118_2⟩ := at_T59 HR0_0.out (ji16) p118 q118
        have hw118_2 := hx118_2
        have hw118_1 := hx118_1
        have hw118_0 := hx118_0
        obtain rfl : ad115 = ad118 := (by injection e118)
        replace hx118_0 := kc HB hx118_0
        replace hx118_1 := kc HB hx118_1
        replace hx118_2 := kc HB hx118_2
        have HR118_2 := Aside0.mk hi118_2
        have HC118_2 := Aside0.mk hl118_2
        clear hi118_2 hl118_2
        replace p118 := eq_true p118
        replace q118 := eq_true q118
        refine start_ (n := 25) (S := fun w' => w'.cell? ⟨gb116, 0, none⟩ = some (.int .i64 ((rd_T59 l0_0 x8_1).f0)) ∧ w'.cell? ⟨gb116, 1, none⟩ = some (.string ((rd_T59 l0_0 x8_1).f1)) ∧ w'.cell? ⟨gb116, 2, none⟩ = some (.slice A115_2 ((rd_T59 l0_0 x8_1).f2).length c115_2) ∧ w'.cell? ⟨gb114, 0, none⟩ = some (.slice (some ad115) l0_0.length c0_0) ∧ w'.cell? (ad115.add (((ji16)).toNat * 3)) = some (.int .i64 ((rd_T59 l0_0 (ji16)).f0)) ∧ w'.cell? ⟨(ad115.add (((ji16)).toNat * 3)).block, (ad115.add (((ji16)).toNat * 3)).off + 1, none⟩ = some (.string ((rd_T59 l0_0 (ji16)).f1)) ∧ w'.cell? ⟨(ad115.add (((ji16)).toNat * 3)).block, (ad115.add (((ji16)).toNat * 3)).off + 2, none⟩ = some (.slice A118_2 ((rd_T59 l0_0 (ji16)).f2).length c118_2)) (ds := []) _ (by kernel_rfl) rfl rfl ⟨(blk_cell BK116.out 0).trans rfl, (blk_cell BK116.out 1).trans rfl, (blk_cell BK116.out 2).trans rfl, (blk_cell BK114.out 0).trans rfl, (kc HB hw118_0), (kc HB hw118_1), (kc HB hw118_2)⟩ (fun hHeld => ?_); refine with_tabW shard_Right.tab4 shard_Right.bits4 (fun HT_ HW_ => ?_)
        generalize w31.drew = w32 at BK114 BK116 HB HR118_2 hx118_0 hx118_1 hx118_2 hHeld ⊢
        refine p1 0 (some 13) ?_
        refine t1 1 (some 14) rfl rfl hHeld (Or.inl ⟨by rfl, by rintro w' ⟨s0, s1, s2, s3, s4, s5, s6⟩; go_simp; with_reducible rfl⟩) ?_
        refine p1 2 (some 15) ?_
        refine p1 3 (some 16) ?_
        refine p1 4 (some 17) ?_
        refine p1 5 (some 18) ?_
        refine t1 6 (some 19) rfl rfl hHeld (Or.inl ⟨by rfl, by rintro w' ⟨s0, s1, s2, s3, s4, s5, s6⟩; go_simp; with_reducible rfl⟩) ?_
        refine o1 7 (some 20) rfl rfl (fun K hK => ?_)
        refine gS Try.func33 #[.slice A115_2 ((rd_T59 l0_0 x8_1).f2).length c115_2] ?_
        with_reducible refine (chain_Right.calls k1 _ _ ((rd_T59 l0_0 x8_1).f2) true _ ?side1 ?side2 A13.out).mono ?_
        (case side1 => exact uC <| (Kd.C_below HR115_2.out HB.out))
        (case side2 => exact HC115_2.out)
        rintro e w33 ⟨rfl, hb⟩
        refine ⟨_, rfl, ?_⟩
        replace BK114 := cB BK114 hb
        replace BK116 := cB BK116 hb
        replace HB := Aside0.mk (below_step bl hb)
        (try clear hb)
        refine hK.out _ _ ⟨(blk_cell BK116.out 0).trans rfl, (blk_cell BK116.out 1).trans rfl, (blk_cell BK116.out 2).trans rfl, (blk_cell BK114.out 0).trans rfl, (kc HB hw118_0), (kc HB hw118_1), (kc HB hw118_2)⟩ (fun hHeld => ?_)
        clear hK K
        refine norm_ (a' := ?_) ?_ ?_
        rotate_left
        ·
         show Act.put _ (some 20) _ = _
         simp only [Act.put, List.setIfInBounds_toArray, List.set_cons_zero, List.set_cons_succ, i64_w, i32_w]
         rfl
        refine p1 8 (some 21) ?_
        refine p1 9 (some 22) ?_
        refine p1 10 (some 23) ?_
        refine p1 11 (some 24) ?_
        refine p1 12 (some 25) ?_
        refine p1 13 (some 26) ?_
        refine p1 14 (some 27) ?_
        refine p1 16 (some 29) ?_
        refine p1 17 (some 30) ?_
        refine t1 15 (some 28) rfl rfl hHeld (Or.inl ⟨by rfl, by rintro w' ⟨s0, s1, s2, s3, s4, s5, s6⟩; go_simp; with_reducible rfl⟩) ?_
        refine p1 18 (some 31) ?_
        refine t1 19 (some 32) rfl rfl hHeld (Or.inl ⟨by rfl, by rintro w' ⟨s0, s1, s2, s3, s4, s5, s6⟩; go_simp; with_reducible rfl⟩) ?_
        refine t1 20 (some 33) rfl rfl hHeld (Or.inl ⟨by rfl, by rintro w' ⟨s0, s1, s2, s3, s4, s5, s6⟩; go_simp; with_reducible rfl⟩) ?_
        refine o1 21 (some 34) rfl rfl (fun K hK => ?_)
        refine goes_ Try.func26 (by kernel_rfl) rfl #[.agg #[.int .i64 ((rd_T59 l0_0 (ji16)).f0), .string ((rd_T59 l0_0 (ji16)).f1), .slice A118_2 ((rd_T59 l0_0 (ji16)).f2).length c118_2], .agg #[.int .i64 ((rd_T59 l0_0 x8_1).f0), .string ((rd_T59 l0_0 x8_1).f1), .slice A115_2 ((rd_T59 l0_0 x8_1).f2).length c115_2]] (by rfl) rfl rfl (by (try simp only [List.map_toArray, List.map_cons, List.map_nil]); first | done | (simp only [hji16]; rfl) | rfl | (simp only [List.length_drop, List.length_take]; rfl)) ?_
        with_reducible refine (shard_order.calls k1 ((rd_T59 l0_0 (ji16)).f0) ((rd_T59 l0_0 (ji16)).f1) _ _ ((rd_T59 l0_0 (ji16)).f2) ((rd_T59 l0_0 x8_1).f0) ((rd_T59 l0_0 x8_1).f1) _ _ ((rd_T59 l0_0 x8_1).f2) t119 _ ?side1 ?side2 ?side3 ?side4 A19.out).mono ?_
        (case side1 => exact uC <| (Kd.C_below HR118_2.out HB.out))
        (case side2 => exact HC118_2.out)
        (case side3 => exact uC <| (Kd.C_below HR115_2.out HB.out))
        (case side4 => exact HC115_2.out)
        rintro e w34 ⟨rfl, hb⟩
        refine ⟨_, rfl, ?_⟩
        replace BK114 := cB BK114 hb
        replace BK116 := cB BK116 hb
        replace HB := Aside0.mk (below_step bl hb)
        (try clear hb)
        refine hK.out _ _ ⟨(blk_cell BK116.out 0).trans rfl, (blk_cell BK116.out 1).trans rfl, (blk_cell BK116.out 2).trans rfl, (blk_cell BK114.out 0).trans rfl, (kc HB hw118_0), (kc HB hw118_1), (kc HB hw118_2)⟩ (fun hHeld => ?_)
        clear hK K
        refine norm_ (a' := ?_) ?_ ?_
        rotate_left
        ·
         show Act.put _ (some 34) _ = _
         simp only [Act.put, List.setIfInBounds_toArray, List.set_cons_zero, List.set_cons_succ, i64_w, i32_w]
         rfl
        refine p1 22 (some 35) ?_
        refine p1 23 (some 36) ?_
        refine p1 24 (some 37) ?_
        refine done_ (done_of HT_.out (by kernel_rfl)) ?_
        try go_wp2
        go_roundg k1
        case measure => have := HK1.out; omega
        case rel => exact ⟨(wrap64 (x8_1 + 1)), rs_, H', ⟨by have := HK1.out; omega⟩, ⟨uB BK114.out⟩, ⟨bl⟩⟩
      ·
       rw [if_neg c15] at H
       have c15b0 : decide (0 < x8_1) = false := decide_eq_false c15
       clear c15
       have H' := Aside0.mk H
       clear H
       have p115 : 0 ≤ (x8_1 : Int) := od
       have q115 : x8_1 < (l0_0.length : Int) := od
       obtain ⟨ad115, A115_2, c115_2, e115, hx115_0, hx115_1, hx115_2, hl115_2, hi115_2⟩ := at_T59 HR0_0.out x8_1 p115 q115
       cases e115
       replace hx115_0 := kc HB hx115_0
       replace hx115_1 := kc HB hx115_1
       replace hx115_2 := kc HB hx115_2
       have HR115_2 := Aside0.mk hi115_2
       have HC115_2 := Aside0.mk hl115_2
       clear hi115_2 hl115_2
       replace p115 := eq_true p115
       replace q115 := eq_true q115
       try go_wp2_with (first | ((with_reducible refine gate_dst (N := 4) rfl ?_); refine bx (N := 4) #[.int .i64 0, .string (⟨#[]⟩ : ByteArray), .slice none 0 0] 59 ?_; intro gb116 hg w35 hbox hb; have BK116 := Aside0.mk (hbox); have GW116 := gw hg bl; have GE116 := GW116; replace HB := Aside0.mk (below_step bl hb); have NB114_116 := Aside0.mk ((by rw [hg]; exact Nat.ne_of_lt (blk_lt (g := gb114) (o := .cells #[.slice (some ad115) l0_0.length c0_0] 24 (0, 0)) (uB BK114.out)) : gb114 ≠ gb116)); have NB116_114 := Aside0.mk ((by rw [hg]; exact Nat.ne_of_gt (blk_lt (g := gb114) (o := .cells #[.slice (some ad115) l0_0.length c0_0] 24 (0, 0)) (uB BK114.out)) : gb116 ≠ gb114)); replace BK114 := cB BK114 hb; clear hb hbox hg; have hnb36 := NB116_114.out; have hnc36 := NB114_116.out; obtain ⟨hcz37_0, hcz37_1, hcz37_2, hfz37_0, hfz37_1, hfz37_2⟩ := z3 BK116))
       have n0_ : Aside0 ((((w35.setCell ⟨gb116, 0, none⟩ (.int .i64 ((rd_T59 l0_0 x8_1).f0))).setCell ⟨gb116, 1, none⟩ (.string ((rd_T59 l0_0 x8_1).f1))).setCell ⟨gb116, 2, none⟩ (.slice A115_2 ((rd_T59 l0_0 x8_1).f2).length c115_2)).heap[gb114]? = some (.cells #[.slice (some ad115) l0_0.length c0_0] 24 (0, 0))) := ⟨by (with_reducible repeat (first | refine blk_drewN ?_ _ | refine blk_drew ?_ | refine blk_alloc ?_ _)); refine blk_far ?_ NB114_116.out _; (with_reducible repeat (first | refine blk_drewN ?_ _ | refine blk_drew ?_ | refine blk_alloc ?_ _)); refine blk_far ?_ NB114_116.out _; (with_reducible repeat (first | refine blk_drewN ?_ _ | refine blk_drew ?_ | refine blk_alloc ?_ _)); refine blk_far ?_ NB114_116.out _; exact uB <| BK114.out⟩
       have n1_ : Aside0 ((((w35.setCell ⟨gb116, 0, none⟩ (.int .i64 ((rd_T59 l0_0 x8_1).f0))).setCell ⟨gb116, 1, none⟩ (.string ((rd_T59 l0_0 x8_1).f1))).setCell ⟨gb116, 2, none⟩ (.slice A115_2 ((rd_T59 l0_0 x8_1).f2).length c115_2)).heap[gb116]? = some (.cells #[.int .i64 ((rd_T59 l0_0 x8_1).f0), .string ((rd_T59 l0_0 x8_1).f1), .slice A115_2 ((rd_T59 l0_0 x8_1).f2).length c115_2] 59 (0, 0))) := ⟨by (with_reducible repeat (first | refine blk_drewN ?_ _ | refine blk_drew ?_ | refine blk_alloc ?_ _)); refine blk_put (cs := #[.int .i64 ((rd_T59 l0_0 x8_1).f0), .string ((rd_T59 l0_0 x8_1).f1), .slice none 0 0]) ?_ 2 _ rfl; (with_reducible repeat (first | refine blk_drewN ?_ _ | refine blk_drew ?_ | refine blk_alloc ?_ _)); refine blk_put (cs := #[.int .i64 ((rd_T59 l0_0 x8_1).f0), .string (⟨#[]⟩ : ByteArray), .slice none 0 0]) ?_ 1 _ rfl; (with_reducible repeat (first | refine blk_drewN ?_ _ | refine blk_drew ?_ | refine blk_alloc ?_ _)); refine blk_put (cs := #[.int .i64 0, .string (⟨#[]⟩ : ByteArray), .slice none 0 0]) ?_ 0 _ rfl; exact uB <| BK116.out⟩
       have n2_ : Aside0 (Below w.heap.size w (((w35.setCell ⟨gb116, 0, none⟩ (.int .i64 ((rd_T59 l0_0 x8_1).f0))).setCell ⟨gb116, 1, none⟩ (.string ((rd_T59 l0_0 x8_1).f1))).setCell ⟨gb116, 2, none⟩ (.slice A115_2 ((rd_T59 l0_0 x8_1).f2).length c115_2))) := ⟨bl⟩
       (try clear BK114)
       (try clear BK116)
       (try clear HB)
       generalize (((w35.setCell ⟨gb116, 0, none⟩ (.int .i64 ((rd_T59 l0_0 x8_1).f0))).setCell ⟨gb116, 1, none⟩ (.string ((rd_T59 l0_0 x8_1).f1))).setCell ⟨gb116, 2, none⟩ (.slice A115_2 ((rd_T59 l0_0 x8_1).f2).length c115_2)) = w38 at n0_ n1_ n2_ ⊢
       have BK114 := n0_
       have BK116 := n1_
       have HB := n2_
       clear n0_ n1_ n2_
       replace BK114 := Aside0.mk (blk_drew BK114.out)
       replace BK116 := Aside0.mk (blk_drew BK116.out)
       replace HB := Aside0.mk (below_drew1 HB.out)
       refine start_ (n := 25) (S := fun w' => w'.cell? ⟨gb116, 0, none⟩ = some (.int .i64 ((rd_T59 l0_0 x8_1).f0)) ∧ w'.cell? ⟨gb116, 1, none⟩ = some (.string ((rd_T59 l0_0 x8_1).f1)) ∧ w'.cell? ⟨gb116, 2, none⟩ = some (.slice A115_2 ((rd_T59 l0_0 x8_1).f2).length c115_2)) (ds := []) _ (by kernel_rfl) rfl rfl ⟨(blk_cell BK116.out 0).trans rfl, (blk_cell BK116.out 1).trans rfl, (blk_cell BK116.out 2).trans rfl⟩ (fun hHeld => ?_); refine with_tabW shard_Right.tab4 shard_Right.bits4 (fun HT_ HW_ => ?_)
       generalize w38.drew = w39 at BK114 BK116 HB hHeld ⊢
       refine p1 0 (some 13) ?_
       refine t1 1 (some 14) rfl rfl hHeld (Or.inl ⟨by rfl, by rintro w' ⟨s0, s1, s2⟩; go_simp; with_reducible rfl⟩) ?_
       refine p1 2 (some 15) ?_
       refine p1 3 (some 16) ?_
       refine p1 4 (some 17) ?_
       refine p1 5 (some 18) ?_
       refine t1 6 (some 19) rfl rfl hHeld (Or.inl ⟨by rfl, by rintro w' ⟨s0, s1, s2⟩; go_simp; with_reducible rfl⟩) ?_
       refine o1 7 (some 20) rfl rfl (fun K hK => ?_)
       refine gS Try.func33 #[.slice A115_2 ((rd_T59 l0_0 x8_1).f2).length c115_2] ?_
       with_reducible refine (chain_Right.calls k1 _ _ ((rd_T59 l0_0 x8_1).f2) true _ ?side1 ?side2 A13.out).mono ?_
       (case side1 => exact uC <| (Kd.C_below HR115_2.out HB.out))
       (case side2 => exact HC115_2.out)
       rintro e w40 ⟨rfl, hb⟩
       refine ⟨_, rfl, ?_⟩
       replace BK114 := cB BK114 hb
       replace BK116 := cB BK116 hb
       replace HB := Aside0.mk (below_step bl hb)
       (try clear hb)
       refine hK.out _ _ ⟨(blk_cell BK116.out 0).trans rfl, (blk_cell BK116.out 1).trans rfl, (blk_cell BK116.out 2).trans rfl⟩ (fun hHeld => ?_)
       clear hK K
       refine norm_ (a' := ?_) ?_ ?_
       rotate_left
       ·
        show Act.put _ (some 20) _ = _
        simp only [Act.put, List.setIfInBounds_toArray, List.set_cons_zero, List.set_cons_succ, i64_w, i32_w]
        rfl
       refine p1 8 (some 21) ?_
       refine p1 9 (some 22) ?_
       refine p1 10 (some 23) ?_
       refine p1 11 (some 24) ?_
       refine p1 12 (some 25) ?_
       refine p1 13 (some 26) ?_
       refine p2 14 (some 27) ?_
       refine p2 15 (some 28) ?_
       refine p2 16 (some 29) ?_
       refine p2 17 (some 30) ?_
       refine p2 18 (some 31) ?_
       refine p2 19 (some 32) ?_
       refine p2 20 (some 33) ?_
       refine p2 21 (some 34) ?_
       refine p2 22 (some 35) ?_
       refine p1 23 (some 36) ?_
       refine p1 24 (some 37) ?_
       refine done_ (done_of HT_.out (by kernel_rfl)) ?_
       try go_wp2
       go_roundg k1
       case measure => have := HK1.out; omega
       case rel => exact ⟨(wrap64 (x8_1 + 1)), rs_, H', ⟨by have := HK1.out; omega⟩, ⟨uB BK114.out⟩, ⟨bl⟩⟩
     ·
      replace c14 := Bool.eq_false_iff.mpr c14
      subst c14
      rw [if_neg (show ¬ (false = true) by decide)] at H
      obtain rfl := Option.some.inj H
      have p115 : 0 ≤ (x8_1 : Int) := od
      have q115 : x8_1 < (l0_0.length : Int) := od
      obtain ⟨ad115, A115_2, c115_2, e115, hx115_0, hx115_1, hx115_2, hl115_2, hi115_2⟩ := at_T59 HR0_0.out x8_1 p115 q115
      cases e115
      replace hx115_0 := kc HB hx115_0
      replace hx115_1 := kc HB hx115_1
      replace hx115_2 := kc HB hx115_2
      have HR115_2 := Aside0.mk hi115_2
      have HC115_2 := Aside0.mk hl115_2
      clear hi115_2 hl115_2
      replace p115 := eq_true p115
      replace q115 := eq_true q115
      try go_wp2_with (first | ((with_reducible refine gate_dst (N := 4) rfl ?_); refine bx (N := 4) #[.int .i64 0, .string (⟨#[]⟩ : ByteArray), .slice none 0 0] 59 ?_; intro gb116 hg w41 hbox hb; have BK116 := Aside0.mk (hbox); have GW116 := gw hg bl; have GE116 := GW116; replace HB := Aside0.mk (below_step bl hb); have NB114_116 := Aside0.mk ((by rw [hg]; exact Nat.ne_of_lt (blk_lt (g := gb114) (o := .cells #[.slice (some ad115) l0_0.length c0_0] 24 (0, 0)) (uB BK114.out)) : gb114 ≠ gb116)); have NB116_114 := Aside0.mk ((by rw [hg]; exact Nat.ne_of_gt (blk_lt (g := gb114) (o := .cells #[.slice (some ad115) l0_0.length c0_0] 24 (0, 0)) (uB BK114.out)) : gb116 ≠ gb114)); replace BK114 := cB BK114 hb; clear hb hbox hg; have hnb42 := NB116_114.out; have hnc42 := NB114_116.out; obtain ⟨hcz43_0, hcz43_1, hcz43_2, hfz43_0, hfz43_1, hfz43_2⟩ := z3 BK116))
      have n0_ : Aside0 ((((w41.setCell ⟨gb116, 0, none⟩ (.int .i64 ((rd_T59 l0_0 x8_1).f0))).setCell ⟨gb116, 1, none⟩ (.string ((rd_T59 l0_0 x8_1).f1))).setCell ⟨gb116, 2, none⟩ (.slice A115_2 ((rd_T59 l0_0 x8_1).f2).length c115_2)).heap[gb114]? = some (.cells #[.slice (some ad115) l0_0.length c0_0] 24 (0, 0))) := ⟨by (with_reducible repeat (first | refine blk_drewN ?_ _ | refine blk_drew ?_ | refine blk_alloc ?_ _)); refine blk_far ?_ NB114_116.out _; (with_reducible repeat (first | refine blk_drewN ?_ _ | refine blk_drew ?_ | refine blk_alloc ?_ _)); refine blk_far ?_ NB114_116.out _; (with_reducible repeat (first | refine blk_drewN ?_ _ | refine blk_drew ?_ | refine blk_alloc ?_ _)); refine blk_far ?_ NB114_116.out _; exact uB <| BK114.out⟩
      have n1_ : Aside0 ((((w41.setCell ⟨gb116, 0, none⟩ (.int .i64 ((rd_T59 l0_0 x8_1).f0))).setCell ⟨gb116, 1, none⟩ (.string ((rd_T59 l0_0 x8_1).f1))).setCell ⟨gb116, 2, none⟩ (.slice A115_2 ((rd_T59 l0_0 x8_1).f2).length c115_2)).heap[gb116]? = some (.cells #[.int .i64 ((rd_T59 l0_0 x8_1).f0), .string ((rd_T59 l0_0 x8_1).f1), .slice A115_2 ((rd_T59 l0_0 x8_1).f2).length c115_2] 59 (0, 0))) := ⟨by (with_reducible repeat (first | refine blk_drewN ?_ _ | refine blk_drew ?_ | refine blk_alloc ?_ _)); refine blk_put (cs := #[.int .i64 ((rd_T59 l0_0 x8_1).f0), .string ((rd_T59 l0_0 x8_1).f1), .slice none 0 0]) ?_ 2 _ rfl; (with_reducible repeat (first | refine blk_drewN ?_ _ | refine blk_drew ?_ | refine blk_alloc ?_ _)); refine blk_put (cs := #[.int .i64 ((rd_T59 l0_0 x8_1).f0), .string (⟨#[]⟩ : ByteArray), .slice none 0 0]) ?_ 1 _ rfl; (with_reducible repeat (first | refine blk_drewN ?_ _ | refine blk_drew ?_ | refine blk_alloc ?_ _)); refine blk_put (cs := #[.int .i64 0, .string (⟨#[]⟩ : ByteArray), .slice none 0 0]) ?_ 0 _ rfl; exact uB <| BK116.out⟩
      have n2_ : Aside0 (Below w.heap.size w (((w41.setCell ⟨gb116, 0, none⟩ (.int .i64 ((rd_T59 l0_0 x8_1).f0))).setCell ⟨gb116, 1, none⟩ (.string ((rd_T59 l0_0 x8_1).f1))).setCell ⟨gb116, 2, none⟩ (.slice A115_2 ((rd_T59 l0_0 x8_1).f2).length c115_2))) := ⟨bl⟩
      (try clear BK114)
      (try clear BK116)
      (try clear HB)
      generalize (((w41.setCell ⟨gb116, 0, none⟩ (.int .i64 ((rd_T59 l0_0 x8_1).f0))).setCell ⟨gb116, 1, none⟩ (.string ((rd_T59 l0_0 x8_1).f1))).setCell ⟨gb116, 2, none⟩ (.slice A115_2 ((rd_T59 l0_0 x8_1).f2).length c115_2)) = w44 at n0_ n1_ n2_ ⊢
      have BK114 := n0_
      have BK116 := n1_
      have HB := n2_
      clear n0_ n1_ n2_
      replace BK114 := Aside0.mk (blk_drew BK114.out)
      replace BK116 := Aside0.mk (blk_drew BK116.out)
      replace HB := Aside0.mk (below_drew1 HB.out)
      refine start_ (n := 25) (S := fun w' => w'.cell? ⟨gb116, 0, none⟩ = some (.int .i64 ((rd_T59 l0_0 x8_1).f0)) ∧ w'.cell? ⟨gb116, 1, none⟩ = some (.string ((rd_T59 l0_0 x8_1).f1)) ∧ w'.cell? ⟨gb116, 2, none⟩ = some (.slice A115_2 ((rd_T59 l0_0 x8_1).f2).length c115_2)) (ds := []) _ (by kernel_rfl) rfl rfl ⟨(blk_cell BK116.out 0).trans rfl, (blk_cell BK116.out 1).trans rfl, (blk_cell BK116.out 2).trans rfl⟩ (fun hHeld => ?_); refine with_tabW shard_Right.tab4 shard_Right.bits4 (fun HT_ HW_ => ?_)
      generalize w44.drew = w45 at BK114 BK116 HB hHeld ⊢
      refine p1 0 (some 13) ?_
      refine t1 1 (some 14) rfl rfl hHeld (Or.inl ⟨by rfl, by rintro w' ⟨s0, s1, s2⟩; go_simp; with_reducible rfl⟩) ?_
      refine p1 2 (some 15) ?_
      refine p1 3 (some 16) ?_
      refine p1 4 (some 17) ?_
      refine p1 5 (some 18) ?_
      refine t1 6 (some 19) rfl rfl hHeld (Or.inl ⟨by rfl, by rintro w' ⟨s0, s1, s2⟩; go_simp; with_reducible rfl⟩) ?_
      refine o1 7 (some 20) rfl rfl (fun K hK => ?_)
      refine gS Try.func33 #[.slice A115_2 ((rd_T59 l0_0 x8_1).f2).length c115_2] ?_
      with_reducible refine (chain_Right.calls k1 _ _ ((rd_T59 l0_0 x8_1).f2) false _ ?side1 ?side2 A13.out).mono ?_
      (case side1 => exact uC <| (Kd.C_below HR115_2.out HB.out))
      (case side2 => exact HC115_2.out)
      rintro e w46 ⟨rfl, hb⟩
      refine ⟨_, rfl, ?_⟩
      replace BK114 := cB BK114 hb
      replace BK116 := cB BK116 hb
      replace HB := Aside0.mk (below_step bl hb)
      (try clear hb)
      refine hK.out _ _ ⟨(blk_cell BK116.out 0).trans rfl, (blk_cell BK116.out 1).trans rfl, (blk_cell BK116.out 2).trans rfl⟩ (fun hHeld => ?_)
      clear hK K
      refine norm_ (a' := ?_) ?_ ?_
      rotate_left
      ·
       show Act.put _ (some 20) _ = _
       simp only [Act.put, List.setIfInBounds_toArray, List.set_cons_zero, List.set_cons_succ, i64_w, i32_w]
       rfl
      refine p1 8 (some 21) ?_
      refine p1 9 (some 22) ?_
      refine p1 10 (some 23) ?_
      refine p2 11 (some 24) ?_
      refine p2 12 (some 25) ?_
      refine p2 13 (some 26) ?_
      refine p2 14 (some 27) ?_
      refine p2 15 (some 28) ?_
      refine p2 16 (some 29) ?_
      refine p2 17 (some 30) ?_
      refine p2 18 (some 31) ?_
      refine p2 19 (some 32) ?_
      refine p2 20 (some 33) ?_
      refine p2 21 (some 34) ?_
      refine p2 22 (some 35) ?_
      refine p2 23 (some 36) ?_
      refine p1 24 (some 37) ?_
      refine done_ (done_of HT_.out (by kernel_rfl)) ?_
      try go_wp2
      go_ret
      exact ⟨re_, bl⟩
   ·
    rw [if_neg c4] at H
    have c4b0 : decide (x8_1 < (l0_0.length : Int)) = false := decide_eq_false c4
    clear c4
    obtain rfl := Option.some.inj H
    go_wp2
    go_ret
    exact ⟨re_, bl⟩
end Go.Proofs.Ytofaindjbhmopaa.X
