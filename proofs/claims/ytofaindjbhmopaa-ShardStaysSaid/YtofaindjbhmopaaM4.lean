/- Printed by a program of this session's own: what functions of the program compute, and that the machine computes it. No condition of its own. -/
import Derived.Test.YtofaindjbhmopaaM3
namespace Go.Proofs.Ytofaindjbhmopaa.X
open Go.RowKit Go.Proofs.YtofaindjbhmopaaW.PrintWords Go.Proofs.YtofaindjbhmopaaW.PrintLast Go.Proofs.YtofaindjbhmopaaW.PrintMore
attribute [local go_sem] max2_int min2_int max_two min_two max_three min_three max_four min_four
set_option linter.unusedVariables false
set_option linter.unusedSimpArgs false
set_option maxHeartbeats 8000000
set_option maxRecDepth 100000
def cmp_Or_int.l0 : Nat → Int → List Int → Int → Int → Option (Int)
 | 0, _, _, _, _ => none
 | k + 1, x3, x6, x7, x8 => if x8 < x7 then (if 0 ≤ x8 then (if x8 < (x6.length : Int) then (if (rd x6 x8) = x3 then (cmp_Or_int.l0 k x3 x6 x7 (wrap64 (x8 + 1))) else (some (rd x6 x8))) else (none)) else (none)) else (some x3)
def cmp_Or_int.f (k : Nat) (l0 : List Int) : Option (Int) := cmp_Or_int.l0 k 0 l0 (l0.length : Int) 0
theorem cmp_Or_int.mono_l : ∀ k, (∀ y0 y1 y2 y3, LeC (cmp_Or_int.l0 k y0 y1 y2 y3) (cmp_Or_int.l0 (k + 1) y0 y1 y2 y3))
 | 0 => fun _ _ _ _ => ⟨fun r h => by simp [cmp_Or_int.l0] at h⟩
 | k + 1 => by have ih0 := cmp_Or_int.mono_l k; exact fun _ _ _ _ => by unfold cmp_Or_int.l0; exact lm
theorem cmp_Or_int.mono : ∀ a0 k, LeO (cmp_Or_int.f k a0) (cmp_Or_int.f (k + 1) a0) := by
 intro a0 k
 have ih0 := cmp_Or_int.mono_l k
 unfold cmp_Or_int.f
 exact lo
instance cmp_Or_int.mI {a0 k} : LeC (cmp_Or_int.f k a0) (cmp_Or_int.f (k + 1) a0) := ⟨cmp_Or_int.mono _ _⟩
theorem cmp_Or_int.calls (k : Nat) (A0 : Option Addr) (c0 : Nat) (l0 : List Int) (r : Int) (w : World) (hr0 : Kd.C (Kd.int .i64) w A0 l0.length l0) (hc0 : l0.length ≤ c0) (h : cmp_Or_int.f k l0 = some r) :
 Calls Try.prog 46 #[.slice A0 l0.length c0] w fun e w' => e = .returned (.int .i64 r) ∧ Drawn0 w w' := by
 have HR0 := Aside0.mk hr0
 have HC0 := Aside0.mk hc0
 clear hr0 hc0
 have H : (cmp_Or_int.l0 k 0 l0 (l0.length : Int) 0) = some r := h
 clear h
 have H' := Aside0.mk H
 clear H
 go_enter Try.func46, Try.ntmps46
 go_wp2
 go_loopg [8] k (fun kq v8 w' => ∃ (x8_1 : Int), v8 = .int .i64 x8_1 ∧ Aside0 (cmp_Or_int.l0 kq 0 l0 (l0.length : Int) x8_1 = some r) ∧ Aside0 (kq ≤ k) ∧ Drawn0 w w')
 case atStart => exact ⟨(0), rs_, H', ⟨Nat.le_refl _⟩, dr_⟩
 case round =>
  clear H'
  obtain ⟨x8_1, rfl, HA, HK1, ⟨m1, rfl⟩⟩ := hrel
  cases gk with
  | zero => exact absurd HA.out (by simp [cmp_Or_int.l0])
  | succ k1 =>
   have H := HA.out
   clear HA
   simp only [cmp_Or_int.l0] at H
   by_cases c2 : x8_1 < (l0.length : Int)
   ·
    rw [if_pos c2] at H
    have c2b0 : decide (x8_1 < (l0.length : Int)) = true := decide_eq_true c2
    clear c2
    obtain ⟨c3b0, H⟩ := gdd H
    obtain ⟨c4b0, H⟩ := gdd H
    by_cases c5 : (rd l0 x8_1) = 0
    ·
     rw [if_pos c5] at H
     have c5b0 : ((rd l0 x8_1) == 0) = true := beq_iff_eq.mpr c5
     have c5b1 : ((rd l0 x8_1) != 0) = false := bne_eq_false_iff_eq.mpr c5
     clear c5
     have H' := Aside0.mk H
     clear H
     have p101 : 0 ≤ (x8_1 : Int) := od
     have q101 : x8_1 < (l0.length : Int) := od
     obtain ⟨ad101, e101, hx101_0⟩ := Kd.at_int HR0.out x8_1 p101 q101
     cases e101
     replace p101 := eq_true p101
     replace q101 := eq_true q101
     go_wp2
     go_roundg k1
     case measure => have := HK1.out; omega
     case rel => exact ⟨(wrap64 (x8_1 + 1)), rs_, H', ⟨by have := HK1.out; omega⟩, dr_⟩
    ·
     rw [if_neg c5] at H
     have c5b0 : ((rd l0 x8_1) == 0) = false := beq_eq_false_iff_ne.mpr c5
     have c5b1 : ((rd l0 x8_1) != 0) = true := bne_iff_ne.mpr c5
     obtain rfl := Option.some.inj H
     have p101 : 0 ≤ (x8_1 : Int) := od
     have q101 : x8_1 < (l0.length : Int) := od
     obtain ⟨ad101, e101, hx101_0⟩ := Kd.at_int HR0.out x8_1 p101 q101
     cases e101
     replace p101 := eq_true p101
     replace q101 := eq_true q101
     go_wp2
     go_ret
     exact ⟨rs_, dr_⟩
   ·
    rw [if_neg c2] at H
    have c2b0 : decide (x8_1 < (l0.length : Int)) = false := decide_eq_false c2
    clear c2
    obtain rfl := Option.some.inj H
    go_wp2
    go_ret
    exact ⟨rs_, dr_⟩
def cmp_isNaN_int64.f (a0 : Int) : Option (Bool) := some (a0 != a0)
theorem cmp_isNaN_int64.calls (a0 : Int) (r : Bool) (w : World) (h : cmp_isNaN_int64.f a0 = some r) :
 Calls Try.prog 58 #[.int .i64 a0] w fun e w' => e = .returned (.bool r) ∧ Drawn0 w w' := by
 have H : (some (a0 != a0)) = some r := h
 clear h
 obtain rfl := Option.some.inj H
 go_enter Try.func58, Try.ntmps58
 go_wp2
 go_ret
 exact ⟨rs_, dr_⟩
def cmp_Compare_int64.f (a0 : Int) (a1 : Int) : Option (Int) := (cmp_isNaN_int64.f a0).bind fun t102 => ((cmp_isNaN_int64.f a1).bind fun t103 => (if t102 = true then (if t103 = true then (some 0) else (some (-1))) else (if t103 = true then (some 1) else (if a0 < a1 then (some (-1)) else (if a0 > a1 then (some 1) else (some 0))))))
theorem cmp_Compare_int64.calls (a0 : Int) (a1 : Int) (r : Int) (w : World) (h : cmp_Compare_int64.f a0 a1 = some r) :
 Calls Try.prog 47 #[.int .i64 a0, .int .i64 a1] w fun e w' => e = .returned (.int .i64 r) ∧ Drawn0 w w' := by
 have H : ((cmp_isNaN_int64.f a0).bind fun t102 => ((cmp_isNaN_int64.f a1).bind fun t103 => (if t102 = true then (if t103 = true then (some 0) else (some (-1))) else (if t103 = true then (some 1) else (if a0 < a1 then (some (-1)) else (if a0 > a1 then (some 1) else (some 0))))))) = some r := h
 clear h
 obtain ⟨t102, A3, H⟩ := bs H
 try dsimp only at H
 obtain ⟨t103, A4, H⟩ := bs H
 try dsimp only at H
 by_cases c5 : t102 = true
 ·
  subst c5
  rw [if_pos rfl] at H
  by_cases c6 : t103 = true
  ·
   subst c6
   rw [if_pos rfl] at H
   obtain rfl := Option.some.inj H
   go_enter Try.func47, Try.ntmps47
   go_wp2_with (first | (refine gL (some 8) rfl Try.func58 #[.int .i64 a0] ?_; (with_reducible refine (cmp_isNaN_int64.calls a0 true _ A3.out).mono ?_); rintro e w' ⟨rfl, ⟨nd, rfl⟩⟩; refine ⟨_, rfl, ?_⟩) | (refine gL (some 10) rfl Try.func58 #[.int .i64 a1] ?_; (with_reducible refine (cmp_isNaN_int64.calls a1 true _ A4.out).mono ?_); rintro e w' ⟨rfl, ⟨nd, rfl⟩⟩; refine ⟨_, rfl, ?_⟩))
   go_ret
   exact ⟨rs_, dr_⟩
  ·
   replace c6 := Bool.eq_false_iff.mpr c6
   subst c6
   rw [if_neg (show ¬ (false = true) by decide)] at H
   obtain rfl := Option.some.inj H
   go_enter Try.func47, Try.ntmps47
   go_wp2_with (first | (refine gL (some 8) rfl Try.func58 #[.int .i64 a0] ?_; (with_reducible refine (cmp_isNaN_int64.calls a0 true _ A3.out).mono ?_); rintro e w' ⟨rfl, ⟨nd, rfl⟩⟩; refine ⟨_, rfl, ?_⟩) | (refine gL (some 10) rfl Try.func58 #[.int .i64 a1] ?_; (with_reducible refine (cmp_isNaN_int64.calls a1 false _ A4.out).mono ?_); rintro e w' ⟨rfl, ⟨nd, rfl⟩⟩; refine ⟨_, rfl, ?_⟩))
   go_ret
   exact ⟨rs_, dr_⟩
 ·
  replace c5 := Bool.eq_false_iff.mpr c5
  subst c5
  rw [if_neg (show ¬ (false = true) by decide)] at H
  by_cases c7 : t103 = true
  ·
   subst c7
   rw [if_pos rfl] at H
   obtain rfl := Option.some.inj H
   go_enter Try.func47, Try.ntmps47
   go_wp2_with (first | (refine gL (some 8) rfl Try.func58 #[.int .i64 a0] ?_; (with_reducible refine (cmp_isNaN_int64.calls a0 false _ A3.out).mono ?_); rintro e w' ⟨rfl, ⟨nd, rfl⟩⟩; refine ⟨_, rfl, ?_⟩) | (refine gL (some 10) rfl Try.func58 #[.int .i64 a1] ?_; (with_reducible refine (cmp_isNaN_int64.calls a1 true _ A4.out).mono ?_); rintro e w' ⟨rfl, ⟨nd, rfl⟩⟩; refine ⟨_, rfl, ?_⟩))
   go_ret
   exact ⟨rs_, dr_⟩
  ·
   replace c7 := Bool.eq_false_iff.mpr c7
   subst c7
   rw [if_neg (show ¬ (false = true) by decide)] at H
   by_cases c8 : a0 < a1
   ·
    rw [if_pos c8] at H
    have c8b0 : decide (a0 < a1) = true := decide_eq_true c8
    clear c8
    obtain rfl := Option.some.inj H
    go_enter Try.func47, Try.ntmps47
    go_wp2_with (first | (refine gL (some 8) rfl Try.func58 #[.int .i64 a0] ?_; (with_reducible refine (cmp_isNaN_int64.calls a0 false _ A3.out).mono ?_); rintro e w' ⟨rfl, ⟨nd, rfl⟩⟩; refine ⟨_, rfl, ?_⟩) | (refine gL (some 10) rfl Try.func58 #[.int .i64 a1] ?_; (with_reducible refine (cmp_isNaN_int64.calls a1 false _ A4.out).mono ?_); rintro e w' ⟨rfl, ⟨nd, rfl⟩⟩; refine ⟨_, rfl, ?_⟩))
    go_ret
    exact ⟨rs_, dr_⟩
   ·
    rw [if_neg c8] at H
    have c8b0 : decide (a0 < a1) = false := decide_eq_false c8
    clear c8
    by_cases c9 : a0 > a1
    ·
     rw [if_pos c9] at H
     have c9b0 : decide (a1 < a0) = true := decide_eq_true c9
     clear c9
     obtain rfl := Option.some.inj H
     go_enter Try.func47, Try.ntmps47
     go_wp2_with (first | (refine gL (some 8) rfl Try.func58 #[.int .i64 a0] ?_; (with_reducible refine (cmp_isNaN_int64.calls a0 false _ A3.out).mono ?_); rintro e w' ⟨rfl, ⟨nd, rfl⟩⟩; refine ⟨_, rfl, ?_⟩) | (refine gL (some 10) rfl Try.func58 #[.int .i64 a1] ?_; (with_reducible refine (cmp_isNaN_int64.calls a1 false _ A4.out).mono ?_); rintro e w' ⟨rfl, ⟨nd, rfl⟩⟩; refine ⟨_, rfl, ?_⟩))
     go_ret
     exact ⟨rs_, dr_⟩
    ·
     rw [if_neg c9] at H
     have c9b0 : decide (a1 < a0) = false := decide_eq_false c9
     clear c9
     obtain rfl := Option.some.inj H
     go_enter Try.func47, Try.ntmps47
     go_wp2_with (first | (refine gL (some 8) rfl Try.func58 #[.int .i64 a0] ?_; (with_reducible refine (cmp_isNaN_int64.calls a0 false _ A3.out).mono ?_); rintro e w' ⟨rfl, ⟨nd, rfl⟩⟩; refine ⟨_, rfl, ?_⟩) | (refine gL (some 10) rfl Try.func58 #[.int .i64 a1] ?_; (with_reducible refine (cmp_isNaN_int64.calls a1 false _ A4.out).mono ?_); rintro e w' ⟨rfl, ⟨nd, rfl⟩⟩; refine ⟨_, rfl, ?_⟩))
     go_ret
     exact ⟨rs_, dr_⟩
def strings_Compare.f (a0 : ByteArray) (a1 : ByteArray) : Option (Int) := some (Lib.compareBytes a0.data.toList a1.data.toList)
theorem strings_Compare.calls (a0 : ByteArray) (a1 : ByteArray) (r : Int) (w : World) (h : strings_Compare.f a0 a1 = some r) :
 Calls Try.prog 48 #[.string a0, .string a1] w fun e w' => e = .returned (.int .i64 r) ∧ Drawn0 w w' := by
 obtain rfl := Option.some.inj h
 exact (Try.strings_Compare a0 a1 w).mono fun e w' hh => ⟨hh.1, hh.2 ▸ Drawn0.refl _⟩
def shard_order.f (k : Nat) (a0_0 : Int) (a0_1 : ByteArray) (l0_2 : List (S82)) (a1_0 : Int) (a1_1 : ByteArray) (l1_2 : List (S82)) : Option (Int) := (cmp_Compare_int64.f a0_0 a1_0).bind fun t106 => ((strings_Compare.f a0_1 a1_1).bind fun t107 => ((cmp_Or_int.f k (([t106, t107] : List Int))).bind fun t111 => (some t111)))
theorem shard_order.mono : ∀ a0 a1 a2 a3 a4 a5 k, LeO (shard_order.f k a0 a1 a2 a3 a4 a5) (shard_order.f (k + 1) a0 a1 a2 a3 a4 a5) := by
 intro a0 a1 a2 a3 a4 a5 k
 unfold shard_order.f
 exact lo
instance shard_order.mI {a0 a1 a2 a3 a4 a5 k} : LeC (shard_order.f k a0 a1 a2 a3 a4 a5) (shard_order.f (k + 1) a0 a1 a2 a3 a4 a5) := ⟨shard_order.mono _ _ _ _ _ _ _⟩
def shard_order.T1 : Bool × List (List Nat × List Nat) := (true, [([], []), ([0], [0]), ([], []), ([2], [2]), ([1, 3], [1, 3]), ([], []), ([5], [5]), ([], []), ([7], [7]), ([6, 8, 4], [6, 8]), ([4, 9], [4, 9]), ([10, 9], [10]), ([11, 11, 0, 1, 2, 3, 4, 5, 6, 7, 8, 9, 10, 11], [11])])
def shard_order.B1 : List Nat := [0, 1, 0, 4, 15, 0, 32, 0, 128, 511, 1023, 2047, 4095]
theorem shard_order.tab1 : rtab .any (opsOf Try.f26 1) = shard_order.T1 := by kernel_rfl
theorem shard_order.bits1 : waitsOk shard_order.T1.2 shard_order.B1 = true := by kernel_rfl
theorem shard_order.calls (k : Nat) (a0_0 : Int) (a0_1 : ByteArray) (A0_2 : Option Addr) (c0_2 : Nat) (l0_2 : List (S82)) (a1_0 : Int) (a1_1 : ByteArray) (A1_2 : Option Addr) (c1_2 : Nat) (l1_2 : List (S82)) (r : Int) (w : World) (hr0_2 : Kd.C k82 w A0_2 l0_2.length l0_2) (hc0_2 : l0_2.length ≤ c0_2) (hr1_2 : Kd.C k82 w A1_2 l1_2.length l1_2) (hc1_2 : l1_2.length ≤ c1_2) (h : shard_order.f k a0_0 a0_1 l0_2 a1_0 a1_1 l1_2 = some r) :
 Calls Try.prog 26 #[.agg #[.int .i64 a0_0, .string a0_1, .slice A0_2 l0_2.length c0_2], .agg #[.int .i64 a1_0, .string a1_1, .slice A1_2 l1_2.length c1_2]] w fun e w' => e = .returned (.int .i64 r) ∧ Below w.heap.size w w' := by
 have hu59 := Try.underlying59
 have HR0_2 := Aside0.mk hr0_2
 have HC0_2 := Aside0.mk hc0_2
 clear hr0_2 hc0_2
 have HR1_2 := Aside0.mk hr1_2
 have HC1_2 := Aside0.mk hc1_2
 clear hr1_2 hc1_2
 have HB := Aside0.mk (Below.refl w.heap.size w)
 have H : ((cmp_Compare_int64.f a0_0 a1_0).bind fun t106 => ((strings_Compare.f a0_1 a1_1).bind fun t107 => ((cmp_Or_int.f k (([t106, t107] : List Int))).bind fun t111 => (some t111)))) = some r := h
 clear h
 obtain ⟨t106, A3, H⟩ := bs H
 try dsimp only at H
 obtain ⟨t107, A4, H⟩ := bs H
 try dsimp only at H
 obtain ⟨y108, hy108⟩ : ∃ y_ : List Int, y_ = (([t106, t107] : List Int)) := ⟨_, rfl⟩
 replace H : ((cmp_Or_int.f k y108).bind fun t111 => (some t111)) = some r := by first | (rw [hy108]; with_reducible exact H) | (have H2_ := (Option.bind_some _ _).symm.trans H; rw [hy108]; with_reducible exact H2_) | (have H2_ := (Option.bind_some _ _).symm.trans H; with_reducible exact H2_) | with_reducible exact H | (rw [hy108]; exact H) | exact H
 have Ny108 := Aside0.mk hy108
 clear hy108
 obtain ⟨t111, A5, H⟩ := bs H
 try dsimp only at H
 obtain rfl := Option.some.inj H
 go_enter Try.func26, Try.ntmps26
 try go_wp2_with (first | ((with_reducible refine gate_dst (N := 2) rfl ?_); refine bx (N := 2) #[.int .i64 a0_0, .string a0_1, .slice A0_2 l0_2.length c0_2] 59 ?_; intro gb104 hg w6 hbox hb; have BK104 := Aside0.mk (hbox); have GW104 := gw hg (uW HB.out); have GE104 := GW104; replace HB := cW HB hb; clear hb hbox hg) | ((with_reducible refine gate_dst (N := 3) rfl ?_); refine bx (N := 3) #[.int .i64 a1_0, .string a1_1, .slice A1_2 l1_2.length c1_2] 59 ?_; intro gb105 hg w7 hbox hb; have BK105 := Aside0.mk (hbox); have GW105 := gw hg bl; have GE105 := GW105; replace HB := Aside0.mk (below_step bl hb); have NB104_105 := Aside0.mk ((by rw [hg]; exact Nat.ne_of_lt (blk_lt (g := gb104) (o := .cells #[.int .i64 a0_0, .string a0_1, .slice A0_2 l0_2.length c0_2] 59 (0, 0)) (uB BK104.out)) : gb104 ≠ gb105)); have NB105_104 := Aside0.mk ((by rw [hg]; exact Nat.ne_of_gt (blk_lt (g := gb104) (o := .cells #[.int .i64 a0_0, .string a0_1, .slice A0_2 l0_2.length c0_2] 59 (0, 0)) (uB BK104.out)) : gb105 ≠ gb104)); replace BK104 := cB BK104 hb; clear hb hbox hg))
 replace BK104 := Aside0.mk (blk_drew BK104.out)
 replace BK105 := Aside0.mk (blk_drew BK105.out)
 replace HB := Aside0.mk (below_drew1 HB.out)
 refine start_ (n := 13) (S := fun w' => w'.cell? ⟨gb104, 0, none⟩ = some (.int .i64 a0_0) ∧ w'.cell? ⟨gb104, 1, none⟩ = some (.string a0_1) ∧ w'.cell? ⟨gb104, 2, none⟩ = some (.slice A0_2 l0_2.length c0_2) ∧ w'.cell? ⟨gb105, 0, none⟩ = some (.int .i64 a1_0) ∧ w'.cell? ⟨gb105, 1, none⟩ = some (.string a1_1) ∧ w'.cell? ⟨gb105, 2, none⟩ = some (.slice A1_2 l1_2.length c1_2)) (ds := []) _ (by kernel_rfl) rfl rfl ⟨(blk_cell BK104.out 0).trans rfl, (blk_cell BK104.out 1).trans rfl, (blk_cell BK104.out 2).trans rfl, (blk_cell BK105.out 0).trans rfl, (blk_cell BK105.out 1).trans rfl, (blk_cell BK105.out 2).trans rfl⟩ (fun hHeld => ?_); refine with_tabW shard_order.tab1 shard_order.bits1 (fun HT_ HW_ => ?_)
 generalize w7.drew = w8 at BK104 BK105 HB hHeld ⊢
 refine p1 0 (some 5) ?_
 refine p1 2 (some 7) ?_
 refine p1 5 (some 10) ?_
 refine p1 7 (some 12) ?_
 refine t1 1 (some 6) rfl rfl hHeld (Or.inl ⟨by rfl, by rintro w' ⟨s0, s1, s2, s3, s4, s5⟩; go_simp; with_reducible rfl⟩) ?_
 refine t1 3 (some 8) rfl rfl hHeld (Or.inl ⟨by rfl, by rintro w' ⟨s0, s1, s2, s3, s4, s5⟩; go_simp; with_reducible rfl⟩) ?_
 refine t1 6 (some 11) rfl rfl hHeld (Or.inl ⟨by rfl, by rintro w' ⟨s0, s1, s2, s3, s4, s5⟩; go_simp; with_reducible rfl⟩) ?_
 refine t1 8 (some 13) rfl rfl hHeld (Or.inl ⟨by rfl, by rintro w' ⟨s0, s1, s2, s3, s4, s5⟩; go_simp; with_reducible rfl⟩) ?_
 refine o1 4 (some 9) rfl rfl (fun K hK => ?_)
 refine gS Try.func47 #[.int .i64 a0_0, .int .i64 a1_0] ?_
 with_reducible refine (cmp_Compare_int64.calls a0_0 a1_0 t106 _ A3.out).mono ?_
 rintro e w' ⟨rfl, ⟨nd, rfl⟩⟩
 refine ⟨_, rfl, ?_⟩
 refine hK.out _ _ ⟨(blk_cell BK104.out 0).trans rfl, (blk_cell BK104.out 1).trans rfl, (blk_cell BK104.out 2).trans rfl, (blk_cell BK105.out 0).trans rfl, (blk_cell BK105.out 1).trans rfl, (blk_cell BK105.out 2).trans rfl⟩ (fun hHeld => ?_)
 clear hK K
 refine norm_ (a' := ?_) ?_ ?_
 rotate_left
 ·
  show Act.put _ (some 9) _ = _
  simp only [Act.put, List.setIfInBounds_toArray, List.set_cons_zero, List.set_cons_succ, i64_w, i32_w]
  rfl
 refine o1 9 (some 14) rfl rfl (fun K hK => ?_)
 refine gS Try.func48 #[.string a0_1, .string a1_1] ?_
 with_reducible refine (strings_Compare.calls a0_1 a1_1 t107 _ A4.out).mono ?_
 rintro e w' ⟨rfl, ⟨nd, rfl⟩⟩
 refine ⟨_, rfl, ?_⟩
 refine hK.out _ _ ⟨(blk_cell BK104.out 0).trans rfl, (blk_cell BK104.out 1).trans rfl, (blk_cell BK104.out 2).trans rfl, (blk_cell BK105.out 0).trans rfl, (blk_cell BK105.out 1).trans rfl, (blk_cell BK105.out 2).trans rfl⟩ (fun hHeld => ?_)
 clear hK K
 refine norm_ (a' := ?_) ?_ ?_
 rotate_left
 ·
  show Act.put _ (some 14) _ = _
  simp only [Act.put, List.setIfInBounds_toArray, List.set_cons_zero, List.set_cons_succ, i64_w, i32_w]
  rfl
 refine o1 10 (some 15) rfl rfl (fun K hK => ?_)
 refine Kd.R_lit_step (Kd.int .i64) _ 3 ?hg (N := 15) ?hd (xs := ([t106, t107] : List Int)) (inner := [.int .i64 t106, .int .i64 t107]) (ok := fun _ => True) (okp := fun _ => True) ?hr ?hp (fun _ hk => hk) trivial (Below.refl _ _) (Nat.le_refl _) (by simp) ?_; (case hd => rfl); (case hg => rfl); (case hr => first | (go_simp; done) | (go_simp; rfl)); (case hp => exact (Reps.one (show Kd.M (Kd.int .i64) _ _ _ t106 [.int .i64 t106] from rfl) (Reps.one (show Kd.M (Kd.int .i64) _ _ _ t107 [.int .i64 t107] from rfl) (Reps.none _ _))))
 intro v109 w9 ho10 hb hg_ hnew_
 clear hg_ hnew_
 (first | rw [← Ny108.out] at ho10 | (simp only [Int.reduceToNat] at ho10; rw [← Ny108.out] at ho10))
 have HO110 := Aside0.mk (Kd.R_lower ho10 (below_size bl))
 replace BK104 := cB BK104 hb
 replace BK105 := cB BK105 hb
 replace HB := Aside0.mk (below_step bl hb)
 clear hb ho10
 obtain ⟨Ao11, co11, eo11⟩ := Kd.R_slice HO110.out
 (first | subst eo11 | (injection eo11 with f1_ f2_ f3_; have f4_ := f1_.symm; have f5_ := f3_.symm; clear f1_ f2_ f3_; subst f4_; subst f5_))
 refine hK.out _ _ ⟨(blk_cell BK104.out 0).trans rfl, (blk_cell BK104.out 1).trans rfl, (blk_cell BK104.out 2).trans rfl, (blk_cell BK105.out 0).trans rfl, (blk_cell BK105.out 1).trans rfl, (blk_cell BK105.out 2).trans rfl⟩ (fun hHeld => ?_)
 clear hK K
 refine norm_ (a' := ?_) ?_ ?_
 rotate_left
 ·
  show Act.put _ (some 15) _ = _
  simp only [Act.put, List.setIfInBounds_toArray, List.set_cons_zero, List.set_cons_succ, i64_w, i32_w]
  rfl
 refine o1 11 (some 16) rfl rfl (fun K hK => ?_)
 refine gS Try.func46 #[.slice Ao11 y108.length co11] ?_
 with_reducible refine (cmp_Or_int.calls k _ _ y108 t111 _ ?side1 ?side2 A5.out).mono ?_
 (case side1 => exact uC <| (Kd.R_reads' HO110.out).2.2)
 (case side2 => exact (Kd.R_reads' HO110.out).2.1)
 rintro e w' ⟨rfl, ⟨nd, rfl⟩⟩
 refine ⟨_, rfl, ?_⟩
 refine hK.out _ _ ⟨(blk_cell BK104.out 0).trans rfl, (blk_cell BK104.out 1).trans rfl, (blk_cell BK104.out 2).trans rfl, (blk_cell BK105.out 0).trans rfl, (blk_cell BK105.out 1).trans rfl, (blk_cell BK105.out 2).trans rfl⟩ (fun hHeld => ?_)
 clear hK K
 refine norm_ (a' := ?_) ?_ ?_
 rotate_left
 ·
  show Act.put _ (some 16) _ = _
  simp only [Act.put, List.setIfInBounds_toArray, List.set_cons_zero, List.set_cons_succ, i64_w, i32_w]
  rfl
 refine p1 12 (some 4) ?_
 refine done_ (done_of HT_.out (by kernel_rfl)) ?_
 try go_wp2
 go_ret
 exact ⟨re_, bl⟩
def chain_Right.l0 : Nat → Int → List (S82) → Int → Int → Option (Bool)
 | 0, _, _, _, _ => none
 | k + 1, x3, x6, x7, x8 => if x8 < x7 then (if 0 ≤ x8 then (if x8 < (x6.length : Int) then (if ((rd_T82 x6 x8).f0) ≤ x3 then (some false) else (if ((rd_T82 x6 x8).f0) > 1000000000000000 then (some false) else (chain_Right.l0 k ((rd_T82 x6 x8).f0) x6 x7 (wrap64 (x8 + 1))))) else (none)) else (none)) else (some true)
def chain_Right.f (k : Nat) (l0 : List (S82)) : Option (Bool) := chain_Right.l0 k 0 l0 (l0.length : Int) 0
theorem chain_Right.mono_l : ∀ k, (∀ y0 y1 y2 y3, LeC (chain_Right.l0 k y0 y1 y2 y3) (chain_Right.l0 (k + 1) y0 y1 y2 y3))
 | 0 => fun _ _ _ _ => ⟨fun r h => by simp [chain_Right.l0] at h⟩
 | k + 1 => by have ih0 := chain_Right.mono_l k; exact fun _ _ _ _ => by unfold chain_Right.l0; exact lm
theorem chain_Right.mono : ∀ a0 k, LeO (chain_Right.f k a0) (chain_Right.f (k + 1) a0) := by
 intro a0 k
 have ih0 := chain_Right.mono_l k
 unfold chain_Right.f
 exact lo
instance chain_Right.mI {a0 k} : LeC (chain_Right.f k a0) (chain_Right.f (k + 1) a0) := ⟨chain_Right.mono _ _⟩
theorem chain_Right.calls (k : Nat) (A0 : Option Addr) (c0 : Nat) (l0 : List (S82)) (r : Bool) (w : World) (hr0 : Kd.C k82 w A0 l0.length l0) (hc0 : l0.length ≤ c0) (h : chain_Right.f k l0 = some r) :
 Calls Try.prog 33 #[.slice A0 l0.length c0] w fun e w' => e = .returned (.bool r) ∧ Below w.heap.size w w' := by
 have hu82 := Try.underlying82
 have HR0 := Aside0.mk hr0
 have HC0 := Aside0.mk hc0
 clear hr0 hc0
 have HB := Aside0.mk (Below.refl w.heap.size w)
 have H : (chain_Right.l0 k 0 l0 (l0.length : Int) 0) = some r := h
 clear h
 have H' := Aside0.mk H
 clear H
 go_enter Try.func33, Try.ntmps33
 go_wp2
 go_loopg [3, 8] k (fun kq v3 v8 w' => ∃ (x3_1 : Int) (x8_1 : Int), v3 = .int .i64 x3_1 ∧ v8 = .int .i64 x8_1 ∧ Aside0 (chain_Right.l0 kq x3_1 l0 (l0.length : Int) x8_1 = some r) ∧ Aside0 (kq ≤ k) ∧ Aside0 (Below w.heap.size w w'))
 case atStart => exact ⟨(0), (0), rs_, rs_, H', ⟨Nat.le_refl _⟩, ⟨uW HB.out⟩⟩
 case round =>
  clear H'
  obtain ⟨x3_1, x8_1, rfl, rfl, HA, HK1, HB⟩ := hrel
  cases gk with
  | zero => exact absurd HA.out (by simp [chain_Right.l0])
  | succ k1 =>
   have H := HA.out
   clear HA
   simp only [chain_Right.l0] at H
   by_cases c2 : x8_1 < (l0.length : Int)
   ·
    rw [if_pos c2] at H
    have c2b0 : decide (x8_1 < (l0.length : Int)) = true := decide_eq_true c2
    clear c2
    obtain ⟨c3b0, H⟩ := gdd H
    obtain ⟨c4b0, H⟩ := gdd H
    by_cases c5 : ((rd_T82 l0 x8_1).f0) ≤ x3_1
    ·
     rw [if_pos c5] at H
     have c5b0 : decide (((rd_T82 l0 x8_1).f0) ≤ x3_1) = true := decide_eq_true c5
     clear c5
     obtain rfl := Option.some.inj H
     have p112 : 0 ≤ (x8_1 : Int) := od
     have q112 : x8_1 < (l0.length : Int) := od
     obtain ⟨ad112, e112, hx112_0, hx112_1, hx112_2, hx112_3, hx112_4, hx112_5⟩ := at_T82 HR0.out x8_1 p112 q112
     cases e112
     replace hx112_0 := kc HB hx112_0
     replace hx112_1 := kc HB hx112_1
     replace hx112_2 := kc HB hx112_2
     replace hx112_3 := kc HB hx112_3
     replace hx112_4 := kc HB hx112_4
     replace hx112_5 := kc HB hx112_5
     replace p112 := eq_true p112
     replace q112 := eq_true q112
     go_wp2_with (first | ((with_reducible refine gate_dst (N := 5) rfl ?_); refine bx (N := 5) #[.int .i64 0, .int .i64 0, .int .i64 0, .bool false, .int .i64 0, .int .i64 0] 82 ?_; intro gb113 hg w6 hbox hb; have BK113 := Aside0.mk (hbox); have GW113 := gw hg (uW HB.out); have GE113 := GW113; replace HB := cW HB hb; clear hb hbox hg; obtain ⟨hcz7_0, hcz7_1, hcz7_2, hcz7_3, hcz7_4, hcz7_5, hfz7_0, hfz7_1, hfz7_2, hfz7_3, hfz7_4, hfz7_5⟩ := z6 BK113) | ((with_reducible refine gate_store (t := 82) (p := 5) rfl ?_); refine store_event (t := 82) (p := 5) (v := ?vo_w8) (w1 := ((((((w6.setCell ⟨gb113, 0, none⟩ (.int .i64 ((rd_T82 l0 x8_1).f0))).setCell ⟨gb113, 1, none⟩ (.int .i64 ((rd_T82 l0 x8_1).f1.f0))).setCell ⟨gb113, 2, none⟩ (.int .i64 ((rd_T82 l0 x8_1).f1.f1.f0))).setCell ⟨gb113, 3, none⟩ (.bool ((rd_T82 l0 x8_1).f1.f1.f1))).setCell ⟨gb113, 4, none⟩ (.int .i64 ((rd_T82 l0 x8_1).f1.f2))).setCell ⟨gb113, 5, none⟩ (.int .i64 ((rd_T82 l0 x8_1).f1.f3)))) ?hg ?ho ?hn ?hr ?_; (case ho => rfl); (case hg => rfl); (case hn => rfl); (case hr => first | (go_simp; done) | (go_simp; rfl)); intro w8 hw; have n0_ : Aside0 (w8.heap[gb113]? = some (.cells #[.int .i64 ((rd_T82 l0 x8_1).f0), .int .i64 ((rd_T82 l0 x8_1).f1.f0), .int .i64 ((rd_T82 l0 x8_1).f1.f1.f0), .bool ((rd_T82 l0 x8_1).f1.f1.f1), .int .i64 ((rd_T82 l0 x8_1).f1.f2), .int .i64 ((rd_T82 l0 x8_1).f1.f3)] 82 (0, 0))) := ⟨(by rw [hw]; exact (by (with_reducible repeat (first | refine blk_drewN ?_ _ | refine blk_drew ?_ | refine blk_alloc ?_ _)); refine blk_put (cs := #[.int .i64 ((rd_T82 l0 x8_1).f0), .int .i64 ((rd_T82 l0 x8_1).f1.f0), .int .i64 ((rd_T82 l0 x8_1).f1.f1.f0), .bool ((rd_T82 l0 x8_1).f1.f1.f1), .int .i64 ((rd_T82 l0 x8_1).f1.f2), .int .i64 0]) ?_ 5 _ rfl; (with_reducible repeat (first | refine blk_drewN ?_ _ | refine blk_drew ?_ | refine blk_alloc ?_ _)); refine blk_put (cs := #[.int .i64 ((rd_T82 l0 x8_1).f0), .int .i64 ((rd_T82 l0 x8_1).f1.f0), .int .i64 ((rd_T82 l0 x8_1).f1.f1.f0), .bool ((rd_T82 l0 x8_1).f1.f1.f1), .int .i64 0, .int .i64 0]) ?_ 4 _ rfl; (with_reducible repeat (first | refine blk_drewN ?_ _ | refine blk_drew ?_ | refine blk_alloc ?_ _)); refine blk_put (cs := #[.int .i64 ((rd_T82 l0 x8_1).f0), .int .i64 ((rd_T82 l0 x8_1).f1.f0), .int .i64 ((rd_T82 l0 x8_1).f1.f1.f0), .bool false, .int .i64 0, .int .i64 0]) ?_ 3 _ rfl; (with_reducible repeat (first | refine blk_drewN ?_ _ | refine blk_drew ?_ | refine blk_alloc ?_ _)); refine blk_put (cs := #[.int .i64 ((rd_T82 l0 x8_1).f0), .int .i64 ((rd_T82 l0 x8_1).f1.f0), .int .i64 0, .bool false, .int .i64 0, .int .i64 0]) ?_ 2 _ rfl; (with_reducible repeat (first | refine blk_drewN ?_ _ | refine blk_drew ?_ | refine blk_alloc ?_ _)); refine blk_put (cs := #[.int .i64 ((rd_T82 l0 x8_1).f0), .int .i64 0, .int .i64 0, .bool false, .int .i64 0, .int .i64 0]) ?_ 1 _ rfl; (with_reducible repeat (first | refine blk_drewN ?_ _ | refine blk_drew ?_ | refine blk_alloc ?_ _)); refine blk_put (cs := #[.int .i64 0, .int .i64 0, .int .i64 0, .bool false, .int .i64 0, .int .i64 0]) ?_ 0 _ rfl; exact uB <| BK113.out))⟩; have n1_ : Aside0 (Below w.heap.size w w8) := ⟨(by rw [hw]; exact bl)⟩; clear hw; clear BK113; clear HB; have BK113 := n0_; have HB := n1_; clear n0_ n1_; obtain ⟨hcz9_0, hcz9_1, hcz9_2, hcz9_3, hcz9_4, hcz9_5, hfz9_0, hfz9_1, hfz9_2, hfz9_3, hfz9_4, hfz9_5⟩ := z6 BK113))
     go_ret
     exact ⟨re_, bl⟩
    ·
     rw [if_neg c5] at H
     have c5b0 : decide (((rd_T82 l0 x8_1).f0) ≤ x3_1) = false := decide_eq_false c5
     clear c5
     by_cases c10 : ((rd_T82 l0 x8_1).f0) > 1000000000000000
     ·
      rw [if_pos c10] at H
      have c10b0 : decide (1000000000000000 < ((rd_T82 l0 x8_1).f0)) = true := decide_eq_true c10
      clear c10
      obtain rfl := Option.some.inj H
      have p112 : 0 ≤ (x8_1 : Int) := od
      have q112 : x8_1 < (l0.length : Int) := od
      obtain ⟨ad112, e112, hx112_0, hx112_1, hx112_2, hx112_3, hx112_4, hx112_5⟩ := at_T82 HR0.out x8_1 p112 q112
      cases e112
      replace hx112_0 := kc HB hx112_0
      replace hx112_1 := kc HB hx112_1
      replace hx112_2 := kc HB hx112_2
      replace hx112_3 := kc HB hx112_3
      replace hx112_4 := kc HB hx112_4
      replace hx112_5 := kc HB hx112_5
      replace p112 := eq_true p112
      replace q112 := eq_true q112
      go_wp2_with (first | ((with_reducible refine gate_dst (N := 5) rfl ?_); refine bx (N := 5) #[.int .i64 0, .int .i64 0, .int .i64 0, .bool false, .int .i64 0, .int .i64 0] 82 ?_; intro gb113 hg w11 hbox hb; have BK113 := Aside0.mk (hbox); have GW113 := gw hg (uW HB.out); have GE113 := GW113; replace HB := cW HB hb; clear hb hbox hg; obtain ⟨hcz12_0, hcz12_1, hcz12_2, hcz12_3, hcz12_4, hcz12_5, hfz12_0, hfz12_1, hfz12_2, hfz12_3, hfz12_4, hfz12_5⟩ := z6 BK113) | ((with_reducible refine gate_store (t := 82) (p := 5) rfl ?_); refine store_event (t := 82) (p := 5) (v := ?vo_w13) (w1 := ((((((w11.setCell ⟨gb113, 0, none⟩ (.int .i64 ((rd_T82 l0 x8_1).f0))).setCell ⟨gb113, 1, none⟩ (.int .i64 ((rd_T82 l0 x8_1).f1.f0))).setCell ⟨gb113, 2, none⟩ (.int .i64 ((rd_T82 l0 x8_1).f1.f1.f0))).setCell ⟨gb113, 3, none⟩ (.bool ((rd_T82 l0 x8_1).f1.f1.f1))).setCell ⟨gb113, 4, none⟩ (.int .i64 ((rd_T82 l0 x8_1).f1.f2))).setCell ⟨gb113, 5, none⟩ (.int .i64 ((rd_T82 l0 x8_1).f1.f3)))) ?hg ?ho ?hn ?hr ?_; (case ho => rfl); (case hg => rfl); (case hn => rfl); (case hr => first | (go_simp; done) | (go_simp; rfl)); intro w13 hw; have n0_ : Aside0 (w13.heap[gb113]? = some (.cells #[.int .i64 ((rd_T82 l0 x8_1).f0), .int .i64 ((rd_T82 l0 x8_1).f1.f0), .int .i64 ((rd_T82 l0 x8_1).f1.f1.f0), .bool ((rd_T82 l0 x8_1).f1.f1.f1), .int .i64 ((rd_T82 l0 x8_1).f1.f2), .int .i64 ((rd_T82 l0 x8_1).f1.f3)] 82 (0, 0))) := ⟨(by rw [hw]; exact (by (with_reducible repeat (first | refine blk_drewN ?_ _ | refine blk_drew ?_ | refine blk_alloc ?_ _)); refine blk_put (cs := #[.int .i64 ((rd_T82 l0 x8_1).f0), .int .i64 ((rd_T82 l0 x8_1).f1.f0), .int .i64 ((rd_T82 l0 x8_1).f1.f1.f0), .bool ((rd_T82 l0 x8_1).f1.f1.f1), .int .i64 ((rd_T82 l0 x8_1).f1.f2), .int .i64 0]) ?_ 5 _ rfl; (with_reducible repeat (first | refine blk_drewN ?_ _ | refine blk_drew ?_ | refine blk_alloc ?_ _)); refine blk_put (cs := #[.int .i64 ((rd_T82 l0 x8_1).f0), .int .i64 ((rd_T82 l0 x8_1).f1.f0), .int .i64 ((rd_T82 l0 x8_1).f1.f1.f0), .bool ((rd_T82 l0 x8_1).f1.f1.f1), .int .i64 0, .int .i64 0]) ?_ 4 _ rfl; (with_reducible repeat (first | refine blk_drewN ?_ _ | refine blk_drew ?_ | refine blk_alloc ?_ _)); refine blk_put (cs := #[.int .i64 ((rd_T82 l0 x8_1).f0), .int .i64 ((rd_T82 l0 x8_1).f1.f0), .int .i64 ((rd_T82 l0 x8_1).f1.f1.f0), .bool false, .int .i64 0, .int .i64 0]) ?_ 3 _ rfl; (with_reducible repeat (first | refine blk_drewN ?_ _ | refine blk_drew ?_ | refine blk_alloc ?_ _)); refine blk_put (cs := #[.int .i64 ((rd_T82 l0 x8_1).f0), .int .i64 ((rd_T82 l0 x8_1).f1.f0), .int .i64 0, .bool false, .int .i64 0, .int .i64 0]) ?_ 2 _ rfl; (with_reducible repeat (first | refine blk_drewN ?_ _ | refine blk_drew ?_ | refine blk_alloc ?_ _)); refine blk_put (cs := #[.int .i64 ((rd_T82 l0 x8_1).f0), .int .i64 0, .int .i64 0, .bool false, .int .i64 0, .int .i64 0]) ?_ 1 _ rfl; (with_reducible repeat (first | refine blk_drewN ?_ _ | refine blk_drew ?_ | refine blk_alloc ?_ _)); refine blk_put (cs := #[.int .i64 0, .int .i64 0, .int .i64 0, .bool false, .int .i64 0, .int .i64 0]) ?_ 0 _ rfl; exact uB <| BK113.out))⟩; have n1_ : Aside0 (Below w.heap.size w w13) := ⟨(by rw [hw]; exact bl)⟩; clear hw; clear BK113; clear HB; have BK113 := n0_; have HB := n1_; clear n0_ n1_; obtain ⟨hcz14_0, hcz14_1, hcz14_2, hcz14_3, hcz14_4, hcz14_5, hfz14_0, hfz14_1, hfz14_2, hfz14_3, hfz14_4, hfz14_5⟩ := z6 BK113))
      go_ret
      exact ⟨re_, bl⟩
     ·
      rw [if_neg c10] at H
      have c10b0 : decide (1000000000000000 < ((rd_T82 l0 x8_1).f0)) = false := decide_eq_false c10
      clear c10
      have H' := Aside0.mk H
      clear H
      have p112 : 0 ≤ (x8_1 : Int) := od
      have q112 : x8_1 < (l0.length : Int) := od
      obtain ⟨ad112, e112, hx112_0, hx112_1, hx112_2, hx112_3, hx112_4, hx112_5⟩ := at_T82 HR0.out x8_1 p112 q112
      cases e112
      replace hx112_0 := kc HB hx112_0
      replace hx112_1 := kc HB hx112_1
      replace hx112_2 := kc HB hx112_2
      replace hx112_3 := kc HB hx112_3
      replace hx112_4 := kc HB hx112_4
      replace hx112_5 := kc HB hx112_5
      replace p112 := eq_true p112
      replace q112 := eq_true q112
      go_wp2_with (first | ((with_reducible refine gate_dst (N := 5) rfl ?_); refine bx (N := 5) #[.int .i64 0, .int .i64 0, .int .i64 0, .bool false, .int .i64 0, .int .i64 0] 82 ?_; intro gb113 hg w15 hbox hb; have BK113 := Aside0.mk (hbox); have GW113 := gw hg (uW HB.out); have GE113 := GW113; replace HB := cW HB hb; clear hb hbox hg; obtain ⟨hcz16_0, hcz16_1, hcz16_2, hcz16_3, hcz16_4, hcz16_5, hfz16_0, hfz16_1, hfz16_2, hfz16_3, hfz16_4, hfz16_5⟩ := z6 BK113) | ((with_reducible refine gate_store (t := 82) (p := 5) rfl ?_); refine store_event (t := 82) (p := 5) (v := ?vo_w17) (w1 := ((((((w15.setCell ⟨gb113, 0, none⟩ (.int .i64 ((rd_T82 l0 x8_1).f0))).setCell ⟨gb113, 1, none⟩ (.int .i64 ((rd_T82 l0 x8_1).f1.f0))).setCell ⟨gb113, 2, none⟩ (.int .i64 ((rd_T82 l0 x8_1).f1.f1.f0))).setCell ⟨gb113, 3, none⟩ (.bool ((rd_T82 l0 x8_1).f1.f1.f1))).setCell ⟨gb113, 4, none⟩ (.int .i64 ((rd_T82 l0 x8_1).f1.f2))).setCell ⟨gb113, 5, none⟩ (.int .i64 ((rd_T82 l0 x8_1).f1.f3)))) ?hg ?ho ?hn ?hr ?_; (case ho => rfl); (case hg => rfl); (case hn => rfl); (case hr => first | (go_simp; done) | (go_simp; rfl)); intro w17 hw; have n0_ : Aside0 (w17.heap[gb113]? = some (.cells #[.int .i64 ((rd_T82 l0 x8_1).f0), .int .i64 ((rd_T82 l0 x8_1).f1.f0), .int .i64 ((rd_T82 l0 x8_1).f1.f1.f0), .bool ((rd_T82 l0 x8_1).f1.f1.f1), .int .i64 ((rd_T82 l0 x8_1).f1.f2), .int .i64 ((rd_T82 l0 x8_1).f1.f3)] 82 (0, 0))) := ⟨(by rw [hw]; exact (by (with_reducible repeat (first | refine blk_drewN ?_ _ | refine blk_drew ?_ | refine blk_alloc ?_ _)); refine blk_put (cs := #[.int .i64 ((rd_T82 l0 x8_1).f0), .int .i64 ((rd_T82 l0 x8_1).f1.f0), .int .i64 ((rd_T82 l0 x8_1).f1.f1.f0), .bool ((rd_T82 l0 x8_1).f1.f1.f1), .int .i64 ((rd_T82 l0 x8_1).f1.f2), .int .i64 0]) ?_ 5 _ rfl; (with_reducible repeat (first | refine blk_drewN ?_ _ | refine blk_drew ?_ | refine blk_alloc ?_ _)); refine blk_put (cs := #[.int .i64 ((rd_T82 l0 x8_1).f0), .int .i64 ((rd_T82 l0 x8_1).f1.f0), .int .i64 ((rd_T82 l0 x8_1).f1.f1.f0), .bool ((rd_T82 l0 x8_1).f1.f1.f1), .int .i64 0, .int .i64 0]) ?_ 4 _ rfl; (with_reducible repeat (first | refine blk_drewN ?_ _ | refine blk_drew ?_ | refine blk_alloc ?_ _)); refine blk_put (cs := #[.int .i64 ((rd_T82 l0 x8_1).f0), .int .i64 ((rd_T82 l0 x8_1).f1.f0), .int .i64 ((rd_T82 l0 x8_1).f1.f1.f0), .bool false, .int .i64 0, .int .i64 0]) ?_ 3 _ rfl; (with_reducible repeat (first | refine blk_drewN ?_ _ | refine blk_drew ?_ | refine blk_alloc ?_ _)); refine blk_put (cs := #[.int .i64 ((rd_T82 l0 x8_1).f0), .int .i64 ((rd_T82 l0 x8_1).f1.f0), .int .i64 0, .bool false, .int .i64 0, .int .i64 0]) ?_ 2 _ rfl; (with_reducible repeat (first | refine blk_drewN ?_ _ | refine blk_drew ?_ | refine blk_alloc ?_ _)); refine blk_put (cs := #[.int .i64 ((rd_T82 l0 x8_1).f0), .int .i64 0, .int .i64 0, .bool false, .int .i64 0, .int .i64 0]) ?_ 1 _ rfl; (with_reducible repeat (first | refine blk_drewN ?_ _ | refine blk_drew ?_ | refine blk_alloc ?_ _)); refine blk_put (cs := #[.int .i64 0, .int .i64 0, .int .i64 0, .bool false, .int .i64 0, .int .i64 0]) ?_ 0 _ rfl; exact uB <| BK113.out))⟩; have n1_ : Aside0 (Below w.heap.size w w17) := ⟨(by rw [hw]; exact bl)⟩; clear hw; clear BK113; clear HB; have BK113 := n0_; have HB := n1_; clear n0_ n1_; obtain ⟨hcz18_0, hcz18_1, hcz18_2, hcz18_3, hcz18_4, hcz18_5, hfz18_0, hfz18_1, hfz18_2, hfz18_3, hfz18_4, hfz18_5⟩ := z6 BK113))
      go_roundg k1
      case measure => have := HK1.out; omega
      case rel => exact ⟨((rd_T82 l0 x8_1).f0), (wrap64 (x8_1 + 1)), rs_, rs_, H', ⟨by have := HK1.out; omega⟩, ⟨bl⟩⟩
   ·
    rw [if_neg c2] at H
    have c2b0 : decide (x8_1 < (l0.length : Int)) = false := decide_eq_false c2
    clear c2
    obtain rfl := Option.some.inj H
    go_wp2
    go_ret
    exact ⟨re_, uW HB.out⟩
def shard_Right.l0 : Nat → List (S59) → Int → Int → List (S59) → Option (Bool)
 | 0, _, _, _, _ => none
 | k + 1, x6, x7, x8, x115000 => if x8 < x7 then (if 0 ≤ x8 then (if x8 < (x6.length : Int) then (if (((rd_T59 x6 x8).f2).length : Int) = 0 then (none) else ((chain_Right.f k ((rd_T59 x6 x8).f2)).bind fun t117 => (if t117 = true then (if x8 > 0 then (if 0 ≤ (wrap64 (x8 - 1)) then (if (wrap64 (x8 - 1)) < (x115000.length : Int) then ((shard_order.f k ((rd_T59 x115000 (wrap64 (x8 - 1))).f0) ((rd_T59 x115000 (wrap64 (x8 - 1))).f1) ((rd_T59 x115000 (wrap64 (x8 - 1))).f2) ((rd_T59 x6 x8).f0) ((rd_T59 x6 x8).f1) ((rd_T59 x6 x8).f2)).bind fun t119 => (if t119 ≥ 0 then (none) else (shard_Right.l0 k x6 x7 (wrap64 (x8 + 1)) x115000))) else (none)) else (none)) else (shard_Right.l0 k x6 x7 (wrap64 (x8 + 1)) x115000)) else (none)))) else (none)) else (none)) else (some true)
def shard_Right.f (k : Nat) (l0_0 : List (S59)) : Option (Bool) := shard_Right.l0 k l0_0 (l0_0.length : Int) 0 l0_0
theorem shard_Right.mono_l : ∀ k, (∀ y0 y1 y2 y3, LeC (shard_Right.l0 k y0 y1 y2 y3) (shard_Right.l0 (k + 1) y0 y1 y2 y3))
 | 0 => fun _ _ _ _ => ⟨fun r h => by simp [shard_Right.l0] at h⟩
 | k + 1 => by have ih0 := shard_Right.mono_l k; exact fun _ _ _ _ => by unfold shard_Right.l0; exact lm
theorem shard_Right.mono : ∀ a0 k, LeO (shard_Right.f k a0) (shard_Right.f (k + 1) a0) := by
 intro a0 k
 have ih0 := shard_Right.mono_l k
 unfold shard_Right.f
 exact lo
instance shard_Right.mI {a0 k} : LeC (shard_Right.f k a0) (shard_Right.f (k + 1) a0) := ⟨shard_Right.mono _ _⟩
def shard_Right.T4 : Bool × List (List Nat × List Nat) := (true, [([], []), ([0], [0]), ([1], [1]), ([2], [2]), ([3], [3]), ([4], [4]), ([5, 4], [4, 5]), ([6, 4, 4], [4, 6]), ([7, 4], [4, 7]), ([4, 8], [4, 8]), ([9, 7], [9]), ([10], [10]), ([11, 10], [10, 11]), ([12, 10, 10], [10, 12]), ([13], [13]), ([14, 13], [13, 14]), ([13], [13]), ([16, 13], [13, 16]), ([15, 17, 13], [13, 15, 17]), ([18, 13], [13, 18]), ([13], [13]), ([19, 20, 13, 13], [13, 19, 20]), ([21, 13], [13, 21]), ([13, 22, 10], [10, 13, 22]), ([10, 23], [10, 23])])
def shard_Right.B4 : List Nat := [0, 1, 3, 7, 15, 31, 63, 127, 255, 511, 1023, 2047, 4095, 8191, 16383, 32767, 16383, 81919, 262143, 524287, 16383, 2097151, 4194303, 8388607, 16777215]
theorem shard_Right.tab4 : rtab .any (opsOf Try.f14 4) = shard_Right.T4 := by kernel_rfl
theorem shard_Right.bits4 : waitsOk shard_Right.T4.2 shard_Right.B4 = true := by kernel_rfl
theorem shard_Right.calls (k : Nat) (A0_0 : Option Addr) (c0_0 : Nat) (l0_0 : List (S59)) (r : Bool) (w : World) (hr0_0 : Kd.C k59 w A0_0 l0_0.length l0_0) (hc0_0 : l0_0.length ≤ c0_0) (h : shard_Right.f k l0_0 = some r) :
 Calls Try.prog 14 #[.agg #[.slice A0_0 l0_0.length c0_0]] w fun e w' => e = .returned (.bool r) ∧ Below w.heap.size w w' := by
 have hu24 := Try.underlying24
 have hu59 := Try.underlying59
 have HR0_0 := Aside0.mk hr0_0
 have HC0_0 := Aside0.mk hc0_0
 clear hr0_0 hc0_0
 have HB := Aside0.mk (Below.refl w.heap.size w)
 have H : (shard_Right.l0 k l0_0 (l0_0.length : Int) 0 l0_0) = some r := h
 clear h
 have H' := Aside0.mk H
 clear H
 go_enter Try.func14, Try.ntmps14
 go_wp2_with (first | ((with_reducible refine gate_dst (N := 1) rfl ?_); refine bx (N := 1) #[.slice A0_0 l0_0.length c0_0] 24 ?_; intro gb114 hg w2 hbox hb; have BK114 := Aside0.mk (hbox); have GW114 := gw hg (uW HB.out); have GE114 := GW114; replace HB := cW HB hb; clear hb hbox hg; obtain ⟨hcz3_0, hfz3_0⟩ := z1 BK114))
 go_loopg [8] k (fun kq v8 w' => ∃ (x8_1 : Int), v8 = .int .i64 x8_1 ∧ Aside0 (shard_Right.l0 kq l0_0 (l0_0.length : Int) x8_1 l0_0 = some r) ∧ Aside0 (kq ≤ k) ∧ Aside0 (w'.heap[gb114]? = some (.cells #[(.slice A0_0 l0_0.length c0_0)] 24 (0, 0))) ∧ Aside0 (Below w.heap.size w w'))
 case atStart => exact ⟨(0), rs_, H', ⟨Nat.le_refl _⟩, ⟨uB BK114.out⟩, ⟨bl⟩⟩
 case round =>
  clear H'
  try clear c1
  try clear p2
  try clear hcz3_0
  try clear hfz3_0
  obtain ⟨x8_1, rfl, HA, HK1, BK114, HB⟩ := hrel
  cases gk with
  | zero => exact absurd HA.out (by simp [shard_Right.l0])
  | succ k1 =>
   have H := HA.out
   clear HA
   simp only [shard_Right.l0] at H
   by_cases c4 : x8_1 < (l0_0.length : Int)
   ·
    rw [if_pos c4] at H
    have c4b0 : decide (x8_1 < (l0_0.length : Int)) = true := decide_eq_true c4
    clear c4
    obtain ⟨c5b0, H⟩ := gdd H
    obtain ⟨c6b0, H⟩ := gdd H
    by_cases c7 : (((rd_T59 l0_0 x8_1).f2).length : Int) = 0
    ·
     rw [if_pos c7] at H
     have c7b0 : ((((rd_T59 l0_0 x8_1).f2).length : Int) == 0) = true := beq_iff_eq.mpr c7
     have c7b1 : ((((rd_T59 l0_0 x8_1).f2).length : Int) != 0) = false := bne_eq_false_iff_eq.mpr c7
     clear c7
     exact absurd H (by simp)
    ·
     rw [if_neg c7] at H
     have c7b0 : ((((rd_T59 l0_0 x8_1).f2).length : Int) == 0) = false := beq_eq_false_iff_ne.mpr c7
     have c7b1 : ((((rd_T59 l0_0 x8_1).f2).length : Int) != 0) = true := bne_iff_ne.mpr c7
     have c7b2 : ¬ (((rd_T59 l0_0 x8_1).f2) = []) := fun h_ => c7 (by rw [h_]; rfl)
     obtain ⟨t117, A8, H⟩ := bs H
     try dsimp only at H
     by_cases c9 : t117 = true
     ·
      subst c9
      rw [if_pos rfl] at H
      by_cases c10 : x8_1 > 0
      ·
       rw [if_pos c10] at H
       have c10b0 : decide (0 < x8_1) = true := decide_eq_true c10
       clear c10
       obtain ⟨ji11, hji11⟩ : ∃ j_ : Int, (wrap64 (x8_1 - 1)) = j_ := ⟨_, rfl⟩
       (first | rw [hji11] at H | simp only [hji11] at H)
       (try rw [hji11] at A8)
       have hji11w : (IntKind.i64.wrap (x8_1 - 1)) = ji11 := (i64_w _).trans hji11
       obtain ⟨c12b0, H⟩ := gdd H
       obtain ⟨c13b0, H⟩ := gdd H
       obtain ⟨t119, A14, H⟩ := bs H
       try dsimp only at H
       obtain ⟨c15b0, H⟩ := gnn H
       have H' := Aside0.mk H
       clear H
       have p115 : 0 ≤ (x8_1 : Int) := od
       have q115 : x8_1 < (l0_0.length : Int) := od
       obtain ⟨ad115, A115_2, c115_2, e115, hx115_0, hx115_1, hx115_2, hl115_2, hi115_2⟩ := at_T59 HR0_0.out x8_1 p115 q115
       cases e115
       replace hx115_0 := kc HB hx115_0
       replace hx115_1 := kc HB hx115_1
       replace hx115_2 := kc HB hx115_2
       have HR115_2 := Aside0.mk hi115_2
       have HC115_2 := Aside0.mk hl115_2
       clear hi115_2 hl115_2
       replace p115 := eq_true p115
       replace q115 := eq_true q115
       try go_wp2_with (first | ((with_reducible refine gate_dst (N := 4) rfl ?_); refine bx (N := 4) #[.int .i64 0, .string (⟨#[]⟩ : ByteArray), .slice none 0 0] 59 ?_; intro gb116 hg w16 hbox hb; have BK116 := Aside0.mk (hbox); have GW116 := gw hg bl; have GE116 := GW116; replace HB := Aside0.mk (below_step bl hb); have NB114_116 := Aside0.mk ((by rw [hg]; exact Nat.ne_of_lt (blk_lt (g := gb114) (o := .cells #[.slice (some ad115) l0_0.length c0_0] 24 (0, 0)) (uB BK114.out)) : gb114 ≠ gb116)); have NB116_114 := Aside0.mk ((by rw [hg]; exact Nat.ne_of_gt (blk_lt (g := gb114) (o := .cells #[.slice (some ad115) l0_0.length c0_0] 24 (0, 0)) (uB BK114.out)) : gb116 ≠ gb114)); replace BK114 := cB BK114 hb; clear hb hbox hg; have hnb17 := NB116_114.out; have hnc17 := NB114_116.out; obtain ⟨hcz18_0, hcz18_1, hcz18_2, hfz18_0, hfz18_1, hfz18_2⟩ := z3 BK116))
       have n0_ : Aside0 ((((w16.setCell ⟨gb116, 0, none⟩ (.int .i64 ((rd_T59 l0_0 x8_1).f0))).setCell ⟨gb116, 1, none⟩ (.string ((rd_T59 l0_0 x8_1).f1))).setCell ⟨gb116, 2, none⟩ (.slice A115_2 ((rd_T59 l0_0 x8_1).f2).length c115_2)).heap[gb114]? = some (.cells #[.slice (some ad115) l0_0.length c0_0] 24 (0, 0))) := ⟨by (with_reducible repeat (first | refine blk_drewN ?_ _ | refine blk_drew ?_ | refine blk_alloc ?_ _)); refine blk_far ?_ NB114_116.out _; (with_reducible repeat (first | refine blk_drewN ?_ _ | refine blk_drew ?_ | refine blk_alloc ?_ _)); refine blk_far ?_ NB114_116.out _; (with_reducible repeat (first | refine blk_drewN ?_ _ | refine blk_drew ?_ | refine blk_alloc ?_ _)); refine blk_far ?_ NB114_116.out _; exact uB <| BK114.out⟩
       have n1_ : Aside0 ((((w16.setCell ⟨gb116, 0, none⟩ (.int .i64 ((rd_T59 l0_0 x8_1).f0))).setCell ⟨gb116, 1, none⟩ (.string ((rd_T59 l0_0 x8_1).f1))).setCell ⟨gb116, 2, none⟩ (.slice A115_2 ((rd_T59 l0_0 x8_1).f2).length c115_2)).heap[gb116]? = some (.cells #[.int .i64 ((rd_T59 l0_0 x8_1).f0), .string ((rd_T59 l0_0 x8_1).f1), .slice A115_2 ((rd_T59 l0_0 x8_1).f2).length c115_2] 59 (0, 0))) := ⟨by (with_reducible repeat (first | refine blk_drewN ?_ _ | refine blk_drew ?_ | refine blk_alloc ?_ _)); refine blk_put (cs := #[.int .i64 ((rd_T59 l0_0 x8_1).f0), .string ((rd_T59 l0_0 x8_1).f1), .slice none 0 0]) ?_ 2 _ rfl; (with_reducible repeat (first | refine blk_drewN ?_ _ | refine blk_drew ?_ | refine blk_alloc ?_ _)); refine blk_put (cs := #[.int .i64 ((rd_T59 l0_0 x8_1).f0), .string (⟨#[]⟩ : ByteArray), .slice none 0 0]) ?_ 1 _ rfl; (with_reducible repeat (first | refine blk_drewN ?_ _ | refine blk_drew ?_ | refine blk_alloc ?_ _)); refine blk_put (cs := #[.int .i64 0, .string (⟨#[]⟩ : ByteArray), .slice none 0 0]) ?_ 0 _ rfl; exact uB <| BK116.out⟩
       have n2_ : Aside0 (Below w.heap.size w (((w16.setCell ⟨gb116, 0, none⟩ (.int .i64 ((rd_T59 l0_0 x8_1).f0))).setCell ⟨gb116, 1, none⟩ (.string ((rd_T59 l0_0 x8_1).f1))).setCell ⟨gb116, 2, none⟩ (.slice A115_2 ((rd_T59 l0_0 x8_1).f2).length c115_2))) := ⟨bl⟩
       (try clear BK114)
       (try clear BK116)
       (try clear HB)
       generalize (((w16.setCell ⟨gb116, 0, none⟩ (.int .i64 ((rd_T59 l0_0 x8_1).f0))).setCell ⟨gb116, 1, none⟩ (.string ((rd_T59 l0_0 x8_1).f1))).setCell ⟨gb116, 2, none⟩ (.slice A115_2 ((rd_T59 l0_0 x8_1).f2).length c115_2)) = w19 at n0_ n1_ n2_ ⊢
       have BK114 := n0_
       have BK116 := n1_
       have HB := n2_
       clear n0_ n1_ n2_
       replace BK114 := Aside0.mk (blk_drew BK114.out)
       replace BK116 := Aside0.mk (blk_drew BK116.out)
       replace HB := Aside0.mk (below_drew1 HB.out)
       have p118 : 0 ≤ ((ji11) : Int) := od
       have q118 : (ji11) < (l0_0.length : Int) := od
       obtain ⟨ad118, A118_2, c118_2, e118, hx118_0, hx118_1, hx118_2, hl118_2, hi118_2⟩ := at_T59 HR0_0.out (ji11) p118 q118
       have hw118_2 := hx118_2
       have hw118_1 := hx118_1
       have hw118_0 := hx118_0
       obtain rfl : ad115 = ad118 := (by injection e118)
       replace hx118_0 := kc HB hx118_0
       replace hx118_1 := kc HB hx118_1
       replace hx118_2 := kc HB hx118_2
       have HR118_2 := Aside0.mk hi118_2
       have HC118_2 := Aside0.mk hl118_2
       clear hi118_2 hl118_2
       replace p118 := eq_true p118
       replace q118 := eq_true q118
       refine start_ (n := 25) (S := fun w' => w'.cell? ⟨gb116, 0, none⟩ = some (.int .i64 ((rd_T59 l0_0 x8_1).f0)) ∧ w'.cell? ⟨gb116, 1, none⟩ = some (.string ((rd_T59 l0_0 x8_1).f1)) ∧ w'.cell? ⟨gb116, 2, none⟩ = some (.slice A115_2 ((rd_T59 l0_0 x8_1).f2).length c115_2) ∧ w'.cell? ⟨gb114, 0, none⟩ = some (.slice (some ad115) l0_0.length c0_0) ∧ w'.cell? (ad115.add (((ji11)).toNat * 3)) = some (.int .i64 ((rd_T59 l0_0 (ji11)).f0)) ∧ w'.cell? ⟨(ad115.add (((ji11)).toNat * 3)).block, (ad115.add (((ji11)).toNat * 3)).off + 1, none⟩ = some (.string ((rd_T59 l0_0 (ji11)).f1)) ∧ w'.cell? ⟨(ad115.add (((ji11)).toNat * 3)).block, (ad115.add (((ji11)).toNat * 3)).off + 2, none⟩ = some (.slice A118_2 ((rd_T59 l0_0 (ji11)).f2).length c118_2)) (ds := []) _ (by kernel_rfl) rfl rfl ⟨(blk_cell BK116.out 0).trans rfl, (blk_cell BK116.out 1).trans rfl, (blk_cell BK116.out 2).trans rfl, (blk_cell BK114.out 0).trans rfl, (kc HB hw118_0), (kc HB hw118_1), (kc HB hw118_2)⟩ (fun hHeld => ?_); refine with_tabW shard_Right.tab4 shard_Right.bits4 (fun HT_ HW_ => ?_)
       generalize w19.drew = w20 at BK114 BK116 HB HR118_2 hx118_0 hx118_1 hx118_2 hHeld ⊢
       refine p1 0 (some 13) ?_
       refine t1 1 (some 14) rfl rfl hHeld (Or.inl ⟨by rfl, by rintro w' ⟨s0, s1, s2, s3, s4, s5, s6⟩; go_simp; with_reducible rfl⟩) ?_
       refine p1 2 (some 15) ?_
       refine p1 3 (some 16) ?_
       refine p1 4 (some 17) ?_
       refine p1 5 (some 18) ?_
       refine t1 6 (some 19) rfl rfl hHeld (Or.inl ⟨by rfl, by rintro w' ⟨s0, s1, s2, s3, s4, s5, s6⟩; go_simp; with_reducible rfl⟩) ?_
       refine o1 7 (some 20) rfl rfl (fun K hK => ?_)
       refine gS Try.func33 #[.slice A115_2 ((rd_T59 l0_0 x8_1).f2).length c115_2] ?_
       with_reducible refine (chain_Right.calls k1 _ _ ((rd_T59 l0_0 x8_1).f2) true _ ?side1 ?side2 A8.out).mono ?_
       (case side1 => exact uC <| (Kd.C_below HR115_2.out HB.out))
       (case side2 => exact HC115_2.out)
       rintro e w21 ⟨rfl, hb⟩
       refine ⟨_, rfl, ?_⟩
       replace BK114 := cB BK114 hb
       replace BK116 := cB BK116 hb
       replace HB := Aside0.mk (below_step bl hb)
       (try clear hb)
       refine hK.out _ _ ⟨(blk_cell BK116.out 0).trans rfl, (blk_cell BK116.out 1).trans rfl, (blk_cell BK116.out 2).trans rfl, (blk_cell BK114.out 0).trans rfl, (kc HB hw118_0), (kc HB hw118_1), (kc HB hw118_2)⟩ (fun hHeld => ?_)
       clear hK K
       refine norm_ (a' := ?_) ?_ ?_
       rotate_left
       ·
        show Act.put _ (some 20) _ = _
        simp only [Act.put, List.setIfInBounds_toArray, List.set_cons_zero, List.set_cons_succ, i64_w, i32_w]
        rfl
       refine p1 8 (some 21) ?_
       refine p1 9 (some 22) ?_
       refine p1 10 (some 23) ?_
       refine p1 11 (some 24) ?_
       refine p1 12 (some 25) ?_
       refine p1 13 (some 26) ?_
       refine p1 14 (some 27) ?_
       refine p1 16 (some 29) ?_
       refine p1 17 (some 30) ?_
       refine t1 15 (some 28) rfl rfl hHeld (Or.inl ⟨by rfl, by rintro w' ⟨s0, s1, s2, s3, s4, s5, s6⟩; go_simp; with_reducible rfl⟩) ?_
       refine p1 18 (some 31) ?_
       refine t1 19 (some 32) rfl rfl hHeld (Or.inl ⟨by rfl, by rintro w' ⟨s0, s1, s2, s3, s4, s5, s6⟩; go_simp; with_reducible rfl⟩) ?_
       refine t1 20 (some 33) rfl rfl hHeld (Or.inl ⟨by rfl, by rintro w' ⟨s0, s1, s2, s3, s4, s5, s6⟩; go_simp; with_reducible rfl⟩) ?_
       refine o1 21 (some 34) rfl rfl (fun K hK => ?_)
       refine goes_ Try.func26 (by kernel_rfl) rfl #[.agg #[.int .i64 ((rd_T59 l0_0 (ji11)).f0), .string ((rd_T59 l0_0 (ji11)).f1), .slice A118_2 ((rd_T59 l0_0 (ji11)).f2).length c118_2], .agg #[.int .i64 ((rd_T59 l0_0 x8_1).f0), .string ((rd_T59 l0_0 x8_1).f1), .slice A115_2 ((rd_T59 l0_0 x8_1).f2).length c115_2]] (by rfl) rfl rfl (by (try simp only [List.map_toArray, List.map_cons, List.map_nil]); first | done | (simp only [hji11]; rfl) | rfl | (simp only [List.length_drop, List.length_take]; rfl)) ?_
       with_reducible refine (shard_order.calls k1 ((rd_T59 l0_0 (ji11)).f0) ((rd_T59 l0_0 (ji11)).f1) _ _ ((rd_T59 l0_0 (ji11)).f2) ((rd_T59 l0_0 x8_1).f0) ((rd_T59 l0_0 x8_1).f1) _ _ ((rd_T59 l0_0 x8_1).f2) t119 _ ?side1 ?side2 ?side3 ?side4 A14.out).mono ?_
       (case side1 => exact uC <| (Kd.C_below HR118_2.out HB.out))
       (case side2 => exact HC118_2.out)
       (case side3 => exact uC <| (Kd.C_below HR115_2.out HB.out))
       (case side4 => exact HC115_2.out)
       rintro e w22 ⟨rfl, hb⟩
       refine ⟨_, rfl, ?_⟩
       replace BK114 := cB BK114 hb
       replace BK116 := cB BK116 hb
       replace HB := Aside0.mk (below_step bl hb)
       (try clear hb)
       refine hK.out _ _ ⟨(blk_cell BK116.out 0).trans rfl, (blk_cell BK116.out 1).trans rfl, (blk_cell BK116.out 2).trans rfl, (blk_cell BK114.out 0).trans rfl, (kc HB hw118_0), (kc HB hw118_1), (kc HB hw118_2)⟩ (fun hHeld => ?_)
       clear hK K
       refine norm_ (a' := ?_) ?_ ?_
       rotate_left
       ·
        show Act.put _ (some 34) _ = _
        simp only [Act.put, List.setIfInBounds_toArray, List.set_cons_zero, List.set_cons_succ, i64_w, i32_w]
        rfl
       refine p1 22 (some 35) ?_
       refine p1 23 (some 36) ?_
       refine p1 24 (some 37) ?_
       refine done_ (done_of HT_.out (by kernel_rfl)) ?_
       try go_wp2
       go_roundg k1
       case measure => have := HK1.out; omega
       case rel => exact ⟨(wrap64 (x8_1 + 1)), rs_, H', ⟨by have := HK1.out; omega⟩, ⟨uB BK114.out⟩, ⟨bl⟩⟩
      ·
       rw [if_neg c10] at H
       have c10b0 : decide (0 < x8_1) = false := decide_eq_false c10
       clear c10
       have H' := Aside0.mk H
       clear H
       have p115 : 0 ≤ (x8_1 : Int) := od
       have q115 : x8_1 < (l0_0.length : Int) := od
       obtain ⟨ad115, A115_2, c115_2, e115, hx115_0, hx115_1, hx115_2, hl115_2, hi115_2⟩ := at_T59 HR0_0.out x8_1 p115 q115
       cases e115
       replace hx115_0 := kc HB hx115_0
       replace hx115_1 := kc HB hx115_1
       replace hx115_2 := kc HB hx115_2
       have HR115_2 := Aside0.mk hi115_2
       have HC115_2 := Aside0.mk hl115_2
       clear hi115_2 hl115_2
       replace p115 := eq_true p115
       replace q115 := eq_true q115
       try go_wp2_with (first | ((with_reducible refine gate_dst (N := 4) rfl ?_); refine bx (N := 4) #[.int .i64 0, .string (⟨#[]⟩ : ByteArray), .slice none 0 0] 59 ?_; intro gb116 hg w23 hbox hb; have BK116 := Aside0.mk (hbox); have GW116 := gw hg bl; have GE116 := GW116; replace HB := Aside0.mk (below_step bl hb); have NB114_116 := Aside0.mk ((by rw [hg]; exact Nat.ne_of_lt (blk_lt (g := gb114) (o := .cells #[.slice (some ad115) l0_0.length c0_0] 24 (0, 0)) (uB BK114.out)) : gb114 ≠ gb116)); have NB116_114 := Aside0.mk ((by rw [hg]; exact Nat.ne_of_gt (blk_lt (g := gb114) (o := .cells #[.slice (some ad115) l0_0.length c0_0] 24 (0, 0)) (uB BK114.out)) : gb116 ≠ gb114)); replace BK114 := cB BK114 hb; clear hb hbox hg; have hnb24 := NB116_114.out; have hnc24 := NB114_116.out; obtain ⟨hcz25_0, hcz25_1, hcz25_2, hfz25_0, hfz25_1, hfz25_2⟩ := z3 BK116))
       have n0_ : Aside0 ((((w23.setCell ⟨gb116, 0, none⟩ (.int .i64 ((rd_T59 l0_0 x8_1).f0))).setCell ⟨gb116, 1, none⟩ (.string ((rd_T59 l0_0 x8_1).f1))).setCell ⟨gb116, 2, none⟩ (.slice A115_2 ((rd_T59 l0_0 x8_1).f2).length c115_2)).heap[gb114]? = some (.cells #[.slice (some ad115) l0_0.length c0_0] 24 (0, 0))) := ⟨by (with_reducible repeat (first | refine blk_drewN ?_ _ | refine blk_drew ?_ | refine blk_alloc ?_ _)); refine blk_far ?_ NB114_116.out _; (with_reducible repeat (first | refine blk_drewN ?_ _ | refine blk_drew ?_ | refine blk_alloc ?_ _)); refine blk_far ?_ NB114_116.out _; (with_reducible repeat (first | refine blk_drewN ?_ _ | refine blk_drew ?_ | refine blk_alloc ?_ _)); refine blk_far ?_ NB114_116.out _; exact uB <| BK114.out⟩
       have n1_ : Aside0 ((((w23.setCell ⟨gb116, 0, none⟩ (.int .i64 ((rd_T59 l0_0 x8_1).f0))).setCell ⟨gb116, 1, none⟩ (.string ((rd_T59 l0_0 x8_1).f1))).setCell ⟨gb116, 2, none⟩ (.slice A115_2 ((rd_T59 l0_0 x8_1).f2).length c115_2)).heap[gb116]? = some (.cells #[.int .i64 ((rd_T59 l0_0 x8_1).f0), .string ((rd_T59 l0_0 x8_1).f1), .slice A115_2 ((rd_T59 l0_0 x8_1).f2).length c115_2] 59 (0, 0))) := ⟨by (with_reducible repeat (first | refine blk_drewN ?_ _ | refine blk_drew ?_ | refine blk_alloc ?_ _)); refine blk_put (cs := #[.int .i64 ((rd_T59 l0_0 x8_1).f0), .string ((rd_T59 l0_0 x8_1).f1), .slice none 0 0]) ?_ 2 _ rfl; (with_reducible repeat (first | refine blk_drewN ?_ _ | refine blk_drew ?_ | refine blk_alloc ?_ _)); refine blk_put (cs := #[.int .i64 ((rd_T59 l0_0 x8_1).f0), .string (⟨#[]⟩ : ByteArray), .slice none 0 0]) ?_ 1 _ rfl; (with_reducible repeat (first | refine blk_drewN ?_ _ | refine blk_drew ?_ | refine blk_alloc ?_ _)); refine blk_put (cs := #[.int .i64 0, .string (⟨#[]⟩ : ByteArray), .slice none 0 0]) ?_ 0 _ rfl; exact uB <| BK116.out⟩
       have n2_ : Aside0 (Below w.heap.size w (((w23.setCell ⟨gb116, 0, none⟩ (.int .i64 ((rd_T59 l0_0 x8_1).f0))).setCell ⟨gb116, 1, none⟩ (.string ((rd_T59 l0_0 x8_1).f1))).setCell ⟨gb116, 2, none⟩ (.slice A115_2 ((rd_T59 l0_0 x8_1).f2).length c115_2))) := ⟨bl⟩
       (try clear BK114)
       (try clear BK116)
       (try clear HB)
       generalize (((w23.setCell ⟨gb116, 0, none⟩ (.int .i64 ((rd_T59 l0_0 x8_1).f0))).setCell ⟨gb116, 1, none⟩ (.string ((rd_T59 l0_0 x8_1).f1))).setCell ⟨gb116, 2, none⟩ (.slice A115_2 ((rd_T59 l0_0 x8_1).f2).length c115_2)) = w26 at n0_ n1_ n2_ ⊢
       have BK114 := n0_
       have BK116 := n1_
       have HB := n2_
       clear n0_ n1_ n2_
       replace BK114 := Aside0.mk (blk_drew BK114.out)
       replace BK116 := Aside0.mk (blk_drew BK116.out)
       replace HB := Aside0.mk (below_drew1 HB.out)
       refine start_ (n := 25) (S := fun w' => w'.cell? ⟨gb116, 0, none⟩ = some (.int .i64 ((rd_T59 l0_0 x8_1).f0)) ∧ w'.cell? ⟨gb116, 1, none⟩ = some (.string ((rd_T59 l0_0 x8_1).f1)) ∧ w'.cell? ⟨gb116, 2, none⟩ = some (.slice A115_2 ((rd_T59 l0_0 x8_1).f2).length c115_2)) (ds := []) _ (by kernel_rfl) rfl rfl ⟨(blk_cell BK116.out 0).trans rfl, (blk_cell BK116.out 1).trans rfl, (blk_cell BK116.out 2).trans rfl⟩ (fun hHeld => ?_); refine with_tabW shard_Right.tab4 shard_Right.bits4 (fun HT_ HW_ => ?_)
       generalize w26.drew = w27 at BK114 BK116 HB hHeld ⊢
       refine p1 0 (some 13) ?_
       refine t1 1 (some 14) rfl rfl hHeld (Or.inl ⟨by rfl, by rintro w' ⟨s0, s1, s2⟩; go_simp; with_reducible rfl⟩) ?_
       refine p1 2 (some 15) ?_
       refine p1 3 (some 16) ?_
       refine p1 4 (some 17) ?_
       refine p1 5 (some 18) ?_
       refine t1 6 (some 19) rfl rfl hHeld (Or.inl ⟨by rfl, by rintro w' ⟨s0, s1, s2⟩; go_simp; with_reducible rfl⟩) ?_
       refine o1 7 (some 20) rfl rfl (fun K hK => ?_)
       refine gS Try.func33 #[.slice A115_2 ((rd_T59 l0_0 x8_1).f2).length c115_2] ?_
       with_reducible refine (chain_Right.calls k1 _ _ ((rd_T59 l0_0 x8_1).f2) true _ ?side1 ?side2 A8.out).mono ?_
       (case side1 => exact uC <| (Kd.C_below HR115_2.out HB.out))
       (case side2 => exact HC115_2.out)
       rintro e w28 ⟨rfl, hb⟩
       refine ⟨_, rfl, ?_⟩
       replace BK114 := cB BK114 hb
       replace BK116 := cB BK116 hb
       replace HB := Aside0.mk (below_step bl hb)
       (try clear hb)
       refine hK.out _ _ ⟨(blk_cell BK116.out 0).trans rfl, (blk_cell BK116.out 1).trans rfl, (blk_cell BK116.out 2).trans rfl⟩ (fun hHeld => ?_)
       clear hK K
       refine norm_ (a' := ?_) ?_ ?_
       rotate_left
       ·
        show Act.put _ (some 20) _ = _
        simp only [Act.put, List.setIfInBounds_toArray, List.set_cons_zero, List.set_cons_succ, i64_w, i32_w]
        rfl
       refine p1 8 (some 21) ?_
       refine p1 9 (some 22) ?_
       refine p1 10 (some 23) ?_
       refine p1 11 (some 24) ?_
       refine p1 12 (some 25) ?_
       refine p1 13 (some 26) ?_
       refine p2 14 (some 27) ?_
       refine p2 15 (some 28) ?_
       refine p2 16 (some 29) ?_
       refine p2 17 (some 30) ?_
       refine p2 18 (some 31) ?_
       refine p2 19 (some 32) ?_
       refine p2 20 (some 33) ?_
       refine p2 21 (some 34) ?_
       refine p2 22 (some 35) ?_
       refine p1 23 (some 36) ?_
       refine p1 24 (some 37) ?_
       refine done_ (done_of HT_.out (by kernel_rfl)) ?_
       try go_wp2
       go_roundg k1
       case measure => have := HK1.out; omega
       case rel => exact ⟨(wrap64 (x8_1 + 1)), rs_, H', ⟨by have := HK1.out; omega⟩, ⟨uB BK114.out⟩, ⟨bl⟩⟩
     ·
      replace c9 := Bool.eq_false_iff.mpr c9
      subst c9
      rw [if_neg (show ¬ (false = true) by decide)] at H
      exact absurd H (by simp)
   ·
    rw [if_neg c4] at H
    have c4b0 : decide (x8_1 < (l0_0.length : Int)) = false := decide_eq_false c4
    clear c4
    obtain rfl := Option.some.inj H
    go_wp2
    go_ret
    exact ⟨re_, bl⟩
def api_Version_66.f (a0 : Int) : Option ((List (S82))) := if 0 ≤ a0 then (if a0.toNat * 48 ≤ 140737488355328 then (some []) else (none)) else (none)
theorem api_Version_66.calls (a0 : Int) (r : List (S82)) (w : World) (h : api_Version_66.f a0 = some r) :
 Calls Try.prog 66 #[(.slice none 0 0), .int .i64 a0] w fun e w' => ∃ v0_ : Value, e = .returned (v0_) ∧ Kd.R k82 82 w' w.heap.size (fun _ => True) v0_ r ∧ Below w.heap.size w w' := by
 unfold api_Version_66.f at h
 by_cases h0 : 0 ≤ a0
 ·
  rw [if_pos h0] at h
  by_cases hl : a0.toNat * 48 ≤ 140737488355328
  ·
   rw [if_pos hl] at h
   obtain rfl := Option.some.inj h
   have HL := Aside0.mk hl
   clear h hl
   have hw0 : wrap64 a0 = a0 := by unfold wrap64; have := HL.out; omega
   have HZ := Aside0.mk h0
   clear h0
   by_cases hz : 0 < a0
   ·
    have hz1 : decide (a0 < 0) = false := decide_eq_false (by omega)
    have hz2 : decide (0 < a0) = true := decide_eq_true hz
    clear hz
    go_enter Try.func66, Try.ntmps66
    go_wp2_with (at_builtin; refine Kd.R_append_zeros k82 (w0 := w) w.heap.size rfl (.tmp 20) (.tmp 21) 57 3 82 (.agg #[(.int .i64 0), (.int .i64 0), (.int .i64 0), (.bool false), (.int .i64 0), (.int .i64 0)]) 48 rfl Try.underlying57 Try.underlying3 info82 rfl (by decide) (by decide) (.slice none 0 0) [] z82 _ (fun _ => True) rfl rfl (k82_mkM _ _ _ z82 ) (fun _ _ => trivial) (Kd.R_nil _ _ _ _ _) ?aZ (Below.refl _ _) (Nat.le_refl _) ?aL ?_; (case aZ => first | exact HZ.out | (rw [hw0]; exact HZ.out)); (case aL => have := HL.out; simp only [List.length_nil, Nat.zero_add]; first | exact this | (rw [hw0]; exact this)); intro v1 w1 ho hb hg hat; clear hg hat; obtain ⟨Ao1, co1, eo1⟩ := Kd.R_slice ho; subst eo1; have HO1 := Aside0.mk ho; have HB1 := Aside0.mk hb; clear ho hb)
    go_ret
    exact ⟨_, rfl, Kd.R_take HO1.out (Nat.zero_le _), HB1.out⟩
   ·
    have e : a0 = 0 := by have := HZ.out; omega
    subst e
    clear hz
    go_enter Try.func66, Try.ntmps66
    go_wp2
    go_ret
    exact ⟨_, rfl, Kd.R_nil _ _ _ _ _, Below.refl _ _⟩
  ·
   rw [if_neg hl] at h
   exact absurd h (by simp)
 ·
  rw [if_neg h0] at h
  exact absurd h (by simp)
mutual
def api_Version_60.l0 : Nat → List (List (S82)) → Int → List (List (S82)) → Int → Int → Option ((List (S82)))
 | 0, _, _, _, _, _ => none
 | k + 1, x0, x3, x9, x10, x11 => if x11 < x10 then (if 0 ≤ x11 then (if x11 < (x9.length : Int) then (if (wrap64 (x3 + ((rd_L6 x9 x11).length : Int))) < 0 then (none) else (api_Version_60.l0 k x0 (wrap64 (x3 + ((rd_L6 x9 x11).length : Int))) x9 x10 (wrap64 (x11 + 1)))) else (none)) else (none)) else ((api_Version_66.f x3).bind fun t121 => (api_Version_60.l1 k t121 x0 (x0.length : Int) 0))
def api_Version_60.l1 : Nat → List (S82) → List (List (S82)) → Int → Int → Option ((List (S82)))
 | 0, _, _, _, _ => none
 | k + 1, x6, x25, x26, x27 => if x27 < x26 then (if 0 ≤ x27 then (if x27 < (x25.length : Int) then (if x6.length + (rd_L6 x25 x27).length < 2932031007402 then (api_Version_60.l1 k (x6 ++ (rd_L6 x25 x27)) x25 x26 (wrap64 (x27 + 1))) else (none)) else (none)) else (none)) else (some x6)
end
def api_Version_60.f (k : Nat) (l0 : List (List (S82))) : Option ((List (S82))) := api_Version_60.l0 k l0 0 l0 (l0.length : Int) 0
theorem api_Version_60.mono_l : ∀ k, (∀ y0 y1 y2 y3 y4, LeC (api_Version_60.l0 k y0 y1 y2 y3 y4) (api_Version_60.l0 (k + 1) y0 y1 y2 y3 y4)) ∧ (∀ y0 y1 y2 y3, LeC (api_Version_60.l1 k y0 y1 y2 y3) (api_Version_60.l1 (k + 1) y0 y1 y2 y3))
 | 0 => ⟨fun _ _ _ _ _ => ⟨fun r h => by simp [api_Version_60.l0] at h⟩, fun _ _ _ _ => ⟨fun r h => by simp [api_Version_60.l1] at h⟩⟩
 | k + 1 => by obtain ⟨ih0, ih1⟩ := api_Version_60.mono_l k; exact ⟨fun _ _ _ _ _ => by unfold api_Version_60.l0; exact lm, fun _ _ _ _ => by unfold api_Version_60.l1; exact lm⟩
theorem api_Version_60.mono : ∀ a0 k, LeO (api_Version_60.f k a0) (api_Version_60.f (k + 1) a0) := by
 intro a0 k
 obtain ⟨ih0, ih1⟩ := api_Version_60.mono_l k
 unfold api_Version_60.f
 exact lo
instance api_Version_60.mI {a0 k} : LeC (api_Version_60.f k a0) (api_Version_60.f (k + 1) a0) := ⟨api_Version_60.mono _ _⟩
theorem api_Version_60.calls (k : Nat) (A0 : Option Addr) (c0 : Nat) (l0 : List (List (S82))) (r : List (S82)) (w : World) (hr0 : Kd.C (Kd.slice 82 k82) w A0 l0.length l0) (hc0 : l0.length ≤ c0) (h : api_Version_60.f k l0 = some r) :
 Calls Try.prog 60 #[.slice A0 l0.length c0] w fun e w' => ∃ v0_ : Value, e = .returned (v0_) ∧ Kd.R k82 82 w' w.heap.size (fun _ => True) v0_ r ∧ Below w.heap.size w w' := by
 have HR0 := Aside0.mk hr0
 have HC0 := Aside0.mk hc0
 clear hr0 hc0
 have HB := Aside0.mk (Below.refl w.heap.size w)
 have H : (api_Version_60.l0 k l0 0 l0 (l0.length : Int) 0) = some r := h
 clear h
 have H' := Aside0.mk H
 clear H
 go_enter Try.func60, Try.ntmps60
 go_wp2
 go_loopg [3, 11] k (fun kq v3 v11 w' => ∃ (x3_1 : Int) (x11_1 : Int), v3 = .int .i64 x3_1 ∧ v11 = .int .i64 x11_1 ∧ Aside0 (api_Version_60.l0 kq l0 x3_1 l0 (l0.length : Int) x11_1 = some r) ∧ Aside0 (kq ≤ k) ∧ Aside0 (Below w.heap.size w w'))
 case atStart => exact ⟨(0), (0), rs_, rs_, H', ⟨Nat.le_refl _⟩, ⟨uW HB.out⟩⟩
 case round =>
  clear H'
  obtain ⟨x3_1, x11_1, rfl, rfl, HA, HK1, HB⟩ := hrel
  cases gk with
  | zero => exact absurd HA.out (by simp [api_Version_60.l0])
  | succ k1 =>
   have H := HA.out
   clear HA
   simp only [api_Version_60.l0] at H
   by_cases c2 : x11_1 < (l0.length : Int)
   ·
    rw [if_pos c2] at H
    have c2b0 : decide (x11_1 < (l0.length : Int)) = true := decide_eq_true c2
    clear c2
    obtain ⟨c3b0, H⟩ := gdd H
    obtain ⟨c4b0, H⟩ := gdd H
    obtain ⟨c5b0, H⟩ := gnn H
    have H' := Aside0.mk H
    clear H
    have p120 : 0 ≤ (x11_1 : Int) := od
    have q120 : x11_1 < (l0.length : Int) := od
    obtain ⟨ad120, A120_0, c120_0, e120, hx120_0, hl120_0, hi120_0⟩ := at_L6 HR0.out x11_1 p120 q120
    cases e120
    replace hx120_0 := kc HB hx120_0
    have HR120_0 := Aside0.mk hi120_0
    have HC120_0 := Aside0.mk hl120_0
    clear hi120_0 hl120_0
    replace p120 := eq_true p120
    replace q120 := eq_true q120
    go_wp2
    go_roundg k1
    case measure => have := HK1.out; omega
    case rel => exact ⟨(wrap64 (x3_1 + ((rd_L6 l0 x11_1).length : Int))), (wrap64 (x11_1 + 1)), rs_, rs_, H', ⟨by have := HK1.out; omega⟩, ⟨uW HB.out⟩⟩
   ·
    rw [if_neg c2] at H
    have c2b0 : decide (x11_1 < (l0.length : Int)) = false := decide_eq_false c2
    clear c2
    obtain ⟨t121, A6, H⟩ := bs H
    try dsimp only at H
    have H' := Aside0.mk H
    clear H
    go_wp2_with (first | (refine gL (some 24) rfl Try.func66 #[(.slice none 0 0), .int .i64 x3_1] ?_; (with_reducible refine (api_Version_66.calls x3_1 t121 _ A6.out).mono ?_); rintro e w7 ⟨v122, rfl, ho0, hb⟩; refine ⟨_, rfl, ?_⟩; have HO123 := Aside0.mk (Kd.R_lower ho0 (below_size (uW HB.out))); replace HB := cW HB hb; (try clear hb); (try clear ho0)))
    (try simp only [Act.put, List.setIfInBounds_toArray, List.set_cons_zero, List.set_cons_succ])
    go_loopg [6, 27] k1 (fun kq v6 v27 w' => ∃ (x6_2 : List (S82)) (x27_2 : Int), v27 = .int .i64 x27_2 ∧ Aside0 (api_Version_60.l1 kq x6_2 l0 (l0.length : Int) x27_2 = some r) ∧ Aside0 (kq ≤ k1) ∧ Aside0 (Kd.R k82 82 w' w.heap.size (fun _ => True) v6 x6_2) ∧ Aside0 (Below w.heap.size w w'))
    case atStart => exact ⟨(t121), (0), rs_, H', ⟨Nat.le_refl _⟩, ⟨uR HO123.out⟩, ⟨uW HB.out⟩⟩
    case round =>
     clear H'
     try clear c1
     try clear p1
     try clear q1
     try clear hx1
     try clear c2
     try clear c2b0
     try clear p2
     try clear c3
     try clear c3b0
     try clear c4
     try clear c4b0
     try clear c5
     try clear c5b0
     try clear c6
     try clear p6
     try clear hx120_0
     try clear p120
     try clear q120
     obtain ⟨x6_2, x27_2, rfl, HA, HK2, HO_6, HB⟩ := hrel
     cases gk with
     | zero => exact absurd HA.out (by simp [api_Version_60.l1])
     | succ k2 =>
      have H := HA.out
      clear HA
      simp only [api_Version_60.l1] at H
      by_cases c8 : x27_2 < (l0.length : Int)
      ·
       rw [if_pos c8] at H
       have c8b0 : decide (x27_2 < (l0.length : Int)) = true := decide_eq_true c8
       clear c8
       obtain ⟨c9b0, H⟩ := gdd H
       obtain ⟨c10b0, H⟩ := gdd H
       obtain ⟨c11, H⟩ := gd H
       have LMc11 := Aside0.mk c11
       clear c11
       obtain ⟨y125, hy125⟩ : ∃ y_ : List (S82), y_ = (x6_2 ++ (rd_L6 l0 x27_2)) := ⟨_, rfl⟩
       replace H : (api_Version_60.l1 k2 y125 l0 (l0.length : Int) (wrap64 (x27_2 + 1))) = some r := by first | (rw [hy125]; with_reducible exact H) | (have H2_ := (Option.bind_some _ _).symm.trans H; rw [hy125]; with_reducible exact H2_) | (have H2_ := (Option.bind_some _ _).symm.trans H; with_reducible exact H2_) | with_reducible exact H | (rw [hy125]; exact H) | exact H
       have Ny125 := Aside0.mk hy125
       clear hy125
       have H' := Aside0.mk H
       clear H
       have p124 : 0 ≤ (x27_2 : Int) := od
       have q124 : x27_2 < (l0.length : Int) := od
       obtain ⟨ad124, A124_0, c124_0, e124, hx124_0, hl124_0, hi124_0⟩ := at_L6 HR0.out x27_2 p124 q124
       cases e124
       replace hx124_0 := kc HB hx124_0
       have HR124_0 := Aside0.mk hi124_0
       have HC124_0 := Aside0.mk hl124_0
       clear hi124_0 hl124_0
       replace p124 := eq_true p124
       replace q124 := eq_true q124
       go_wp2_with (first | ((with_reducible refine gate_builtin (b := .append) (xs := #[.tmp 31, .tmp 32]) rfl ?_); at_builtin; refine Kd.R_append_rows k82 (w0 := w) w.heap.size rfl (.tmp 31) (.tmp 32) 57 82 (.agg #[(.int .i64 0), (.int .i64 0), (.int .i64 0), (.bool false), (.int .i64 0), (.int .i64 0)]) 48 rfl Try.underlying57 info82 rfl (by decide) (by omega) u6 x6_2 (rd_L6 l0 x27_2) _ _ _ (fun _ => True) (fun _ => False) rfl rfl ?aO ?aR (fun _ _ h => h) (fun _ h => h.elim) ?aF ?aB ?aS ?aL ?_; (case aR => exact uC <| (Kd.C_below HR124_0.out HB.out)); (case aB => exact (uW HB.out)); (case aF => exact (fun _ _ => trivial)); (case aO => exact (uR HO_6.out)); (case aS => exact (below_size (uW HB.out))); (case aL => have := LMc11.out; omega); intro v126 w12 ho hb hg hat; rw [← Ny125.out] at ho; replace HB := Aside0.mk (hb); have HO127 := Aside0.mk (ho); clear HO_6; clear ho hb hg hat))
       go_roundg k2
       case measure => have := HK1.out; have := HK2.out; omega
       case rel => exact ⟨(y125), (wrap64 (x27_2 + 1)), rs_, H', ⟨by have := HK1.out; have := HK2.out; omega⟩, ⟨uR HO127.out⟩, ⟨uW HB.out⟩⟩
      ·
       rw [if_neg c8] at H
       have c8b0 : decide (x27_2 < (l0.length : Int)) = false := decide_eq_false c8
       clear c8
       obtain rfl := Option.some.inj H
       go_wp2
       go_ret
       exact ⟨_, re_, uR HO_6.out, uW HB.out⟩
def chain_Put.f (k : Nat) (l0 : List (S82)) (l1 : List (S82)) : Option ((List (S82)) × Int) := (api_Version_60.f k (([l0, l1] : List (List (S82))))).bind fun t131 => ((chain_Right.f k t131).bind fun t134 => (if t134 = true then (some (t131, 0)) else (some (([] : List (S82)), 9))))
theorem chain_Put.mono : ∀ a0 a1 k, LeO (chain_Put.f k a0 a1) (chain_Put.f (k + 1) a0 a1) := by
 intro a0 a1 k
 unfold chain_Put.f
 exact lo
instance chain_Put.mI {a0 a1 k} : LeC (chain_Put.f k a0 a1) (chain_Put.f (k + 1) a0 a1) := ⟨chain_Put.mono _ _ _⟩
theorem chain_Put.calls (k : Nat) (P0_ : Nat → Prop) (A0 : Option Addr) (c0 : Nat) (l0 : List (S82)) (P1_ : Nat → Prop) (A1 : Option Addr) (c1 : Nat) (l1 : List (S82)) (r1 : List (S82)) (r2 : Int) (w : World) (hs0 : Kd.V k82 82 w w.heap.size (fun k_ => P0_ k_) (.slice A0 l0.length c0) l0) (hs1 : Kd.V k82 82 w w.heap.size (fun k_ => P1_ k_) (.slice A1 l1.length c1) l1) (h : chain_Put.f k l0 l1 = some (r1, r2)) :
 Calls Try.prog 49 #[.slice A0 l0.length c0, .slice A1 l1.length c1] w fun e w' => ∃ v0_ : Value, e = .returned (.tuple #[v0_, .int .i64 r2]) ∧ Kd.R k82 82 w' w.heap.size (fun k_ => (w.heap.size ≤ k_)) v0_ r1 ∧ Below w.heap.size w w' := by
 have HO0 := Aside0.mk (show Kd.V k82 82 w w.heap.size (fun k_ => ((P0_ k_ ∨ P1_ k_) ∨ w.heap.size ≤ k_)) (.slice A0 l0.length c0) l0 from Kd.V_mono hs0 (fun k_ hk => .inl (.inl hk)))
 have HO1 := Aside0.mk (show Kd.V k82 82 w w.heap.size (fun k_ => ((P0_ k_ ∨ P1_ k_) ∨ w.heap.size ≤ k_)) (.slice A1 l1.length c1) l1 from Kd.V_mono hs1 (fun k_ hk => .inl (.inr hk)))
 have HB := Aside0.mk (Below.refl w.heap.size w)
 have H : ((api_Version_60.f k (([l0, l1] : List (List (S82))))).bind fun t131 => ((chain_Right.f k t131).bind fun t134 => (if t134 = true then (some (t131, 0)) else (some (([] : List (S82)), 9))))) = some (r1, r2) := h
 clear h
 obtain ⟨y128, hy128⟩ : ∃ y_ : List (List (S82)), y_ = (([l0, l1] : List (List (S82)))) := ⟨_, rfl⟩
 replace H : ((api_Version_60.f k y128).bind fun t131 => ((chain_Right.f k t131).bind fun t134 => (if t134 = true then (some (t131, 0)) else (some (([] : List (S82)), 9))))) = some (r1, r2) := by first | (rw [hy128]; with_reducible exact H) | (have H2_ := (Option.bind_some _ _).symm.trans H; rw [hy128]; with_reducible exact H2_) | (have H2_ := (Option.bind_some _ _).symm.trans H; with_reducible exact H2_) | with_reducible exact H | (rw [hy128]; exact H) | exact H
 have Ny128 := Aside0.mk hy128
 clear hy128
 obtain ⟨t131, A3, H⟩ := bs H
 try dsimp only at H
 obtain ⟨t134, A4, H⟩ := bs H
 try dsimp only at H
 by_cases c5 : t134 = true
 ·
  subst c5
  rw [if_pos rfl] at H
  simp only [Option.some.injEq, Prod.mk.injEq] at H
  obtain ⟨rfl, rfl⟩ := H
  go_enter Try.func49, Try.ntmps49
  go_wp2_with (first | ((with_reducible refine gate_dst (N := 9) rfl ?_); refine Kd.N_lit (Kd.slice 82 k82) _ 57 ?hg (N' := 9) ?hd (xs := ([l0, l1] : List (List (S82)))) (inner := [.slice A0 l0.length c0, .slice A1 l1.length c1]) (ok := (fun k_ => ((P0_ k_ ∨ P1_ k_) ∨ w.heap.size ≤ k_))) (okp := (fun k_ => ((P0_ k_ ∨ P1_ k_) ∨ w.heap.size ≤ k_))) ?hr ?hp (fun _ hk => hk) ((show ∀ k_, w.heap.size ≤ k_ → (fun k_ => ((P0_ k_ ∨ P1_ k_) ∨ w.heap.size ≤ k_)) k_ from fun k_ hk => (.inr (Nat.le_trans (below_size (uW HB.out)) hk))) _ (Nat.le_refl _)) (Below.refl _ _) (Nat.le_refl _) (by simp) ?_; (case hd => rfl); (case hg => rfl); (case hr => first | (go_simp; done) | (go_simp; rfl)); (case hp => exact (Reps.one (show Kd.FK (Kd.slice 82 k82) _ _ l0 [.slice A0 l0.length c0] from (Kd.FK_slice_mk (Kd.V_reads' (Kd.V_mono (ok' := (fun k_ => ((P0_ k_ ∨ P1_ k_) ∨ w.heap.size ≤ k_))) (HO0.out) (fun k_ hk => hk))).2.1 (Kd.V_F (Kd.V_mono (ok' := (fun k_ => ((P0_ k_ ∨ P1_ k_) ∨ w.heap.size ≤ k_))) (HO0.out) (fun k_ hk => hk))))) (Reps.one (show Kd.FK (Kd.slice 82 k82) _ _ l1 [.slice A1 l1.length c1] from (Kd.FK_slice_mk (Kd.V_reads' (Kd.V_mono (ok' := (fun k_ => ((P0_ k_ ∨ P1_ k_) ∨ w.heap.size ≤ k_))) (HO1.out) (fun k_ hk => hk))).2.1 (Kd.V_F (Kd.V_mono (ok' := (fun k_ => ((P0_ k_ ∨ P1_ k_) ∨ w.heap.size ≤ k_))) (HO1.out) (fun k_ hk => hk))))) (Reps.none _ _)))); intro v129 w6 ho7 hb hg_ hnew_; clear hg_ hnew_; (first | rw [← Ny128.out] at ho7 | (simp only [Int.reduceToNat] at ho7; rw [← Ny128.out] at ho7)); replace HO0 := Aside0.mk (Kd.V_elder' (uV HO0.out) (Kd.N_base ho7) hb); replace HO1 := Aside0.mk (Kd.V_elder' (uV HO1.out) (Kd.N_base ho7) hb); have HO130 := Aside0.mk (Kd.N_lower ho7 (below_size (uW HB.out))); replace HB := cW HB hb; clear hb ho7; obtain ⟨Ao8, co8, eo8⟩ := Kd.N_slice HO130.out; subst eo8) | (refine gL (some 10) rfl Try.func60 #[.slice Ao8 y128.length co8] ?_; (with_reducible refine (api_Version_60.calls k _ _ y128 t131 _ ?side1 ?side2 A3.out).mono ?_); (case side1 => exact uC <| (Kd.N_reads' HO130.out).2.2); (case side2 => exact (Kd.N_reads' HO130.out).2.1); rintro e w9 ⟨v132, rfl, ho0, hb⟩; refine ⟨_, rfl, ?_⟩; replace HO0 := Aside0.mk (Kd.V_elder' (uV HO0.out) (Kd.R_base ho0) hb); replace HO1 := Aside0.mk (Kd.V_elder' (uV HO1.out) (Kd.R_base ho0) hb); replace HO130 := Aside0.mk (Kd.N_elder' (by (with_reducible repeat (first | apply Kd.N_alloc | apply Kd.N_drewN | apply Kd.N_drew)); exact HO130.out) (Kd.R_base ho0) hb); have HO133 := Aside0.mk (Kd.R_lower (Kd.R_newM (M := fun k_ => (w.heap.size ≤ k_)) ho0 (below_size (uW HB.out)) (fun k_ h_ => h_)) (below_size (uW HB.out))); replace HB := cW HB hb; (try clear hb); (try clear ho0); obtain ⟨Ao10, co10, eo10⟩ := Kd.R_slice HO133.out; subst eo10) | (refine gL (some 12) rfl Try.func33 #[.slice Ao10 t131.length co10] ?_; (with_reducible refine (chain_Right.calls k _ _ t131 true _ ?side1 ?side2 A4.out).mono ?_); (case side1 => exact uC <| (Kd.R_reads' HO133.out).2.2); (case side2 => exact (Kd.R_reads' HO133.out).2.1); rintro e w11 ⟨rfl, hb⟩; refine ⟨_, rfl, ?_⟩; replace HO0 := cV HO0 hb; replace HO1 := cV HO1 hb; replace HO130 := Aside0.mk (Kd.N_below (by (with_reducible repeat (first | apply Kd.N_alloc | apply Kd.N_drewN | apply Kd.N_drew)); exact HO130.out) hb); replace HO133 := cR HO133 hb; replace HB := cW HB hb; (try clear hb)))
  go_ret2
  exact ⟨_, re_, by exact uR <| Kd.R_mono HO133.out (fun _ hk => hk.1), uW HB.out⟩
 ·
  replace c5 := Bool.eq_false_iff.mpr c5
  subst c5
  rw [if_neg (show ¬ (false = true) by decide)] at H
  simp only [Option.some.injEq, Prod.mk.injEq] at H
  obtain ⟨rfl, rfl⟩ := H
  go_enter Try.func49, Try.ntmps49
  go_wp2_with (first | ((with_reducible refine gate_dst (N := 9) rfl ?_); refine Kd.N_lit (Kd.slice 82 k82) _ 57 ?hg (N' := 9) ?hd (xs := ([l0, l1] : List (List (S82)))) (inner := [.slice A0 l0.length c0, .slice A1 l1.length c1]) (ok := (fun k_ => ((P0_ k_ ∨ P1_ k_) ∨ w.heap.size ≤ k_))) (okp := (fun k_ => ((P0_ k_ ∨ P1_ k_) ∨ w.heap.size ≤ k_))) ?hr ?hp (fun _ hk => hk) ((show ∀ k_, w.heap.size ≤ k_ → (fun k_ => ((P0_ k_ ∨ P1_ k_) ∨ w.heap.size ≤ k_)) k_ from fun k_ hk => (.inr (Nat.le_trans (below_size (uW HB.out)) hk))) _ (Nat.le_refl _)) (Below.refl _ _) (Nat.le_refl _) (by simp) ?_; (case hd => rfl); (case hg => rfl); (case hr => first | (go_simp; done) | (go_simp; rfl)); (case hp => exact (Reps.one (show Kd.FK (Kd.slice 82 k82) _ _ l0 [.slice A0 l0.length c0] from (Kd.FK_slice_mk (Kd.V_reads' (Kd.V_mono (ok' := (fun k_ => ((P0_ k_ ∨ P1_ k_) ∨ w.heap.size ≤ k_))) (HO0.out) (fun k_ hk => hk))).2.1 (Kd.V_F (Kd.V_mono (ok' := (fun k_ => ((P0_ k_ ∨ P1_ k_) ∨ w.heap.size ≤ k_))) (HO0.out) (fun k_ hk => hk))))) (Reps.one (show Kd.FK (Kd.slice 82 k82) _ _ l1 [.slice A1 l1.length c1] from (Kd.FK_slice_mk (Kd.V_reads' (Kd.V_mono (ok' := (fun k_ => ((P0_ k_ ∨ P1_ k_) ∨ w.heap.size ≤ k_))) (HO1.out) (fun k_ hk => hk))).2.1 (Kd.V_F (Kd.V_mono (ok' := (fun k_ => ((P0_ k_ ∨ P1_ k_) ∨ w.heap.size ≤ k_))) (HO1.out) (fun k_ hk => hk))))) (Reps.none _ _)))); intro v129 w12 ho13 hb hg_ hnew_; clear hg_ hnew_; (first | rw [← Ny128.out] at ho13 | (simp only [Int.reduceToNat] at ho13; rw [← Ny128.out] at ho13)); replace HO0 := Aside0.mk (Kd.V_elder' (uV HO0.out) (Kd.N_base ho13) hb); replace HO1 := Aside0.mk (Kd.V_elder' (uV HO1.out) (Kd.N_base ho13) hb); have HO130 := Aside0.mk (Kd.N_lower ho13 (below_size (uW HB.out))); replace HB := cW HB hb; clear hb ho13; obtain ⟨Ao14, co14, eo14⟩ := Kd.N_slice HO130.out; subst eo14) | (refine gL (some 10) rfl Try.func60 #[.slice Ao14 y128.length co14] ?_; (with_reducible refine (api_Version_60.calls k _ _ y128 t131 _ ?side1 ?side2 A3.out).mono ?_); (case side1 => exact uC <| (Kd.N_reads' HO130.out).2.2); (case side2 => exact (Kd.N_reads' HO130.out).2.1); rintro e w15 ⟨v132, rfl, ho0, hb⟩; refine ⟨_, rfl, ?_⟩; replace HO0 := Aside0.mk (Kd.V_elder' (uV HO0.out) (Kd.R_base ho0) hb); replace HO1 := Aside0.mk (Kd.V_elder' (uV HO1.out) (Kd.R_base ho0) hb); replace HO130 := Aside0.mk (Kd.N_elder' (by (with_reducible repeat (first | apply Kd.N_alloc | apply Kd.N_drewN | apply Kd.N_drew)); exact HO130.out) (Kd.R_base ho0) hb); have HO133 := Aside0.mk (Kd.R_lower (Kd.R_newM (M := fun k_ => (w.heap.size ≤ k_)) ho0 (below_size (uW HB.out)) (fun k_ h_ => h_)) (below_size (uW HB.out))); replace HB := cW HB hb; (try clear hb); (try clear ho0); obtain ⟨Ao16, co16, eo16⟩ := Kd.R_slice HO133.out; subst eo16) | (refine gL (some 12) rfl Try.func33 #[.slice Ao16 t131.length co16] ?_; (with_reducible refine (chain_Right.calls k _ _ t131 false _ ?side1 ?side2 A4.out).mono ?_); (case side1 => exact uC <| (Kd.R_reads' HO133.out).2.2); (case side2 => exact (Kd.R_reads' HO133.out).2.1); rintro e w17 ⟨rfl, hb⟩; refine ⟨_, rfl, ?_⟩; replace HO0 := cV HO0 hb; replace HO1 := cV HO1 hb; replace HO130 := Aside0.mk (Kd.N_below (by (with_reducible repeat (first | apply Kd.N_alloc | apply Kd.N_drewN | apply Kd.N_drew)); exact HO130.out) hb); replace HO133 := cR HO133 hb; replace HB := cW HB hb; (try clear hb)))
  go_ret2
  exact ⟨_, re_, nl_, uW HB.out⟩
def cell_Empty.f (a0_0 : Int) (a0_1 : Int) (a0_2 : Bool) (a0_3 : Int) (a0_4 : Int) : Option (Bool) := some (decide (a0_0 < 1))
theorem cell_Empty.calls (a0_0 : Int) (a0_1 : Int) (a0_2 : Bool) (a0_3 : Int) (a0_4 : Int) (r : Bool) (w : World) (h : cell_Empty.f a0_0 a0_1 a0_2 a0_3 a0_4 = some r) :
 Calls Try.prog 37 #[.agg #[.int .i64 a0_0, .int .i64 a0_1, .bool a0_2, .int .i64 a0_3, .int .i64 a0_4]] w fun e w' => e = .returned (.bool r) ∧ Below w.heap.size w w' := by
 have hu52 := Try.underlying52
 have HB := Aside0.mk (Below.refl w.heap.size w)
 have H : (some (decide (a0_0 < 1))) = some r := h
 clear h
 obtain rfl := Option.some.inj H
 go_enter Try.func37, Try.ntmps37
 go_wp2_with (first | ((with_reducible refine gate_dst (N := 1) rfl ?_); refine bx (N := 1) #[.int .i64 a0_0, .int .i64 a0_1, .bool a0_2, .int .i64 a0_3, .int .i64 a0_4] 52 ?_; intro gb135 hg w2 hbox hb; have BK135 := Aside0.mk (hbox); have GW135 := gw hg (uW HB.out); have GE135 := GW135; replace HB := cW HB hb; clear hb hbox hg; obtain ⟨hcz3_0, hcz3_1, hcz3_2, hcz3_3, hcz3_4, hfz3_0, hfz3_1, hfz3_2, hfz3_3, hfz3_4⟩ := z5 BK135))
 go_ret
 exact ⟨re_, bl⟩
def cell_counts.f (a0 : Int) (a1 : Int) : Option (Int) := if a0 > (wrap64 (9223372036854775807 - a1)) then (none) else (some (wrap64 (a0 + a1)))
theorem cell_counts.calls (a0 : Int) (a1 : Int) (r : Int) (w : World) (h : cell_counts.f a0 a1 = some r) :
 Calls Try.prog 67 #[.int .i64 a0, .int .i64 a1] w fun e w' => e = .returned (.int .i64 r) ∧ Drawn0 w w' := by
 have H : (if a0 > (wrap64 (9223372036854775807 - a1)) then (none) else (some (wrap64 (a0 + a1)))) = some r := h
 clear h
 obtain ⟨c3b0, H⟩ := gnn H
 obtain rfl := Option.some.inj H
 go_enter Try.func67, Try.ntmps67
 go_wp2
 go_ret
 exact ⟨rs_, dr_⟩
def sat_Of.f (a0 : Int) : Option (Int × Bool) := some (a0, false)
theorem sat_Of.calls (a0 : Int) (r1 : Int) (r2 : Bool) (w : World) (h : sat_Of.f a0 = some (r1, r2)) :
 Calls Try.prog 69 #[.int .i64 a0] w fun e w' => e = .returned (.agg #[.int .i64 r1, .bool r2]) ∧ Below w.heap.size w w' := by
 have hu50 := Try.underlying50
 have HB := Aside0.mk (Below.refl w.heap.size w)
 have H : (some (a0, false)) = some (r1, r2) := h
 clear h
 simp only [Option.some.injEq, Prod.mk.injEq] at H
 obtain ⟨rfl, rfl⟩ := H
 go_enter Try.func69, Try.ntmps69
 go_wp2_with (first | ((with_reducible refine gate_dst (N := 2) rfl ?_); refine bx (N := 2) #[.int .i64 0, .bool false] 50 ?_; intro gb136 hg w2 hbox hb; have BK136 := Aside0.mk (hbox); have GW136 := gw hg (uW HB.out); have GE136 := GW136; replace HB := cW HB hb; clear hb hbox hg; obtain ⟨hcz3_0, hcz3_1, hfz3_0, hfz3_1⟩ := z2 BK136))
 refine bodyPost_ret (results_cell_row rfl _ _ gb136 50 #[.int .i64 a0, .bool false] (0, 0) _ rfl (by (with_reducible repeat (first | refine blk_drewN ?_ _ | refine blk_drew ?_ | refine blk_alloc ?_ _)); refine blk_put (cs := #[.int .i64 a0, .bool false]) ?_ 1 _ rfl; (with_reducible repeat (first | refine blk_drewN ?_ _ | refine blk_drew ?_ | refine blk_alloc ?_ _)); refine blk_put (cs := #[.int .i64 0, .bool false]) ?_ 0 _ rfl; exact uB <| BK136.out) Try.underlying50 rfl (by kernel_rfl)) rfl ?_
 exact ⟨re_, bl⟩
def sat_Add.j0 : Nat → Int → Bool → Int → Bool → Int → Bool → Option (Int × Bool)
 | 0, _, _, _, _, _, _ => none
 | k + 1, x5, x17, x138000, x138001, x139000, x139001 => if x17 = true then (none) else (if x138000 < 0 then (if x139000 < 0 then (if x5 ≥ 0 then (none) else ((sat_Of.f x5).bind fun bt140 => (some (bt140.1, bt140.2)))) else ((sat_Of.f x5).bind fun bt142 => (some (bt142.1, bt142.2)))) else ((sat_Of.f x5).bind fun bt144 => (some (bt144.1, bt144.2))))
def sat_Add.f (k : Nat) (a0_0 : Int) (a0_1 : Bool) (a1_0 : Int) (a1_1 : Bool) : Option (Int × Bool) := if a0_1 = true then (none) else (if a1_1 = true then (none) else (if a0_0 > 0 then (if a1_0 > 0 then (sat_Add.j0 k (wrap64 (a0_0 + a1_0)) (decide ((wrap64 (a0_0 + a1_0)) < 0)) a0_0 a0_1 a1_0 a1_1) else (sat_Add.j0 k (wrap64 (a0_0 + a1_0)) false a0_0 a0_1 a1_0 a1_1)) else (sat_Add.j0 k (wrap64 (a0_0 + a1_0)) false a0_0 a0_1 a1_0 a1_1)))
theorem sat_Add.mono_l : ∀ k, (∀ y0 y1 y2 y3 y4 y5, LeC (sat_Add.j0 k y0 y1 y2 y3 y4 y5) (sat_Add.j0 (k + 1) y0 y1 y2 y3 y4 y5))
 | 0 => fun _ _ _ _ _ _ => ⟨fun r h => by simp [sat_Add.j0] at h⟩
 | k + 1 => by have ih0 := sat_Add.mono_l k; exact fun _ _ _ _ _ _ => by unfold sat_Add.j0; exact lm
theorem sat_Add.mono : ∀ a0 a1 a2 a3 k, LeO (sat_Add.f k a0 a1 a2 a3) (sat_Add.f (k + 1) a0 a1 a2 a3) := by
 intro a0 a1 a2 a3 k
 have ih0 := sat_Add.mono_l k
 unfold sat_Add.f
 exact lo
instance sat_Add.mI {a0 a1 a2 a3 k} : LeC (sat_Add.f k a0 a1 a2 a3) (sat_Add.f (k + 1) a0 a1 a2 a3) := ⟨sat_Add.mono _ _ _ _ _⟩
theorem sat_Add.calls (k : Nat) (a0_0 : Int) (a0_1 : Bool) (a1_0 : Int) (a1_1 : Bool) (r1 : Int) (r2 : Bool) (w : World) (h : sat_Add.f k a0_0 a0_1 a1_0 a1_1 = some (r1, r2)) :
 Calls Try.prog 68 #[.agg #[.int .i64 a0_0, .bool a0_1], .agg #[.int .i64 a1_0, .bool a1_1]] w fun e w' => e = .returned (.agg #[.int .i64 r1, .bool r2]) ∧ Below w.heap.size w w' := by
 have hu50 := Try.underlying50
 have HB := Aside0.mk (Below.refl w.heap.size w)
 have H : (if a0_1 = true then (none) else (if a1_1 = true then (none) else (if a0_0 > 0 then (if a1_0 > 0 then (sat_Add.j0 k (wrap64 (a0_0 + a1_0)) (decide ((wrap64 (a0_0 + a1_0)) < 0)) a0_0 a0_1 a1_0 a1_1) else (sat_Add.j0 k (wrap64 (a0_0 + a1_0)) false a0_0 a0_1 a1_0 a1_1)) else (sat_Add.j0 k (wrap64 (a0_0 + a1_0)) false a0_0 a0_1 a1_0 a1_1)))) = some (r1, r2) := h
 clear h
 by_cases c3 : a0_1 = true
 ·
  subst c3
  rw [if_pos rfl] at H
  exact absurd H (by simp)
 ·
  replace c3 := Bool.eq_false_iff.mpr c3
  subst c3
  rw [if_neg (show ¬ (false = true) by decide)] at H
  by_cases c4 : a1_1 = true
  ·
   subst c4
   rw [if_pos rfl] at H
   exact absurd H (by simp)
  ·
   replace c4 := Bool.eq_false_iff.mpr c4
   subst c4
   rw [if_neg (show ¬ (false = true) by decide)] at H
   have HC5 := Aside0.mk H
   clear H
   go_enter Try.func68, Try.ntmps68
   go_upto_region 6 with (first | ((with_reducible refine gate_dst (N := 2) rfl ?_); refine bx (N := 2) #[.int .i64 a0_0, .bool false] 50 ?_; intro gb137 hg w6 hbox hb; have BK137 := Aside0.mk (hbox); have GW137 := gw hg (uW HB.out); have GE137 := GW137; replace HB := cW HB hb; clear hb hbox hg) | ((with_reducible refine gate_dst (N := 3) rfl ?_); refine bx (N := 3) #[.int .i64 a1_0, .bool false] 50 ?_; intro gb138 hg w7 hbox hb; have BK138 := Aside0.mk (hbox); have GW138 := gw hg bl; have GE138 := GW138; replace HB := Aside0.mk (below_step bl hb); have NB137_138 := Aside0.mk ((by rw [hg]; exact Nat.ne_of_lt (blk_lt (g := gb137) (o := .cells #[.int .i64 a0_0, .bool false] 50 (0, 0)) (uB BK137.out)) : gb137 ≠ gb138)); have NB138_137 := Aside0.mk ((by rw [hg]; exact Nat.ne_of_gt (blk_lt (g := gb137) (o := .cells #[.int .i64 a0_0, .bool false] 50 (0, 0)) (uB BK137.out)) : gb138 ≠ gb137)); replace BK137 := cB BK137 hb; clear hb hbox hg) | ((with_reducible refine gate_dst (N := 4) rfl ?_); refine bx (N := 4) #[.int .i64 0, .bool false] 50 ?_; intro gb139 hg w8 hbox hb; have BK139 := Aside0.mk (hbox); have GW139 := gw hg bl; have GE139 := GW139; replace HB := Aside0.mk (below_step bl hb); have NB137_139 := Aside0.mk ((by rw [hg]; exact Nat.ne_of_lt (blk_lt (g := gb137) (o := .cells #[.int .i64 a0_0, .bool false] 50 (0, 0)) (uB BK137.out)) : gb137 ≠ gb139)); have NB139_137 := Aside0.mk ((by rw [hg]; exact Nat.ne_of_gt (blk_lt (g := gb137) (o := .cells #[.int .i64 a0_0, .bool false] 50 (0, 0)) (uB BK137.out)) : gb139 ≠ gb137)); replace BK137 := cB BK137 hb; have NB138_139 := Aside0.mk ((by rw [hg]; exact Nat.ne_of_lt (blk_lt (g := gb138) (o := .cells #[.int .i64 a1_0, .bool false] 50 (0, 0)) (uB BK138.out)) : gb138 ≠ gb139)); have NB139_138 := Aside0.mk ((by rw [hg]; exact Nat.ne_of_gt (blk_lt (g := gb138) (o := .cells #[.int .i64 a1_0, .bool false] 50 (0, 0)) (uB BK138.out)) : gb139 ≠ gb138)); replace BK138 := cB BK138 hb; clear hb hbox hg; have hnb9 := NB137_138.out; have hnc9 := NB138_137.out; have hnb10 := NB137_139.out; have hnc10 := NB139_137.out; obtain ⟨hcz11_0, hcz11_1, hfz11_0, hfz11_1⟩ := z2 BK137; have hnb12 := NB138_139.out; have hnc12 := NB139_138.out; obtain ⟨hcz13_0, hcz13_1, hfz13_0, hfz13_1⟩ := z2 BK138))
   (try simp only [Act.put, List.setIfInBounds_toArray, List.set_cons_zero, List.set_cons_succ])
   go_cut [17] (fun v17 wc => ∃ (kq : Nat) (x17_4 : Bool), v17 = .bool x17_4 ∧ Aside0 (sat_Add.j0 kq (wrap64 (a0_0 + a1_0)) x17_4 a0_0 false a1_0 false = some (r1, r2)) ∧ Aside0 (kq ≤ k) ∧ Aside0 (wc.heap[gb137]? = some (.cells #[.int .i64 a0_0, .bool false] 50 (0, 0))) ∧ Aside0 (wc.heap[gb138]? = some (.cells #[.int .i64 a1_0, .bool false] 50 (0, 0))) ∧ Aside0 (wc.heap[gb139]? = some (.cells #[.int .i64 0, .bool false] 50 (0, 0))) ∧ Aside0 (Below w.heap.size w wc))
   case first =>
    have H := HC5.out
    clear HC5
    by_cases c14 : a0_0 > 0
    ·
     rw [if_pos c14] at H
     have c14b0 : decide (0 < a0_0) = true := decide_eq_true c14
     clear c14
     (first | rw [c14b0] | (simp only [i64_w, i32_w]; rw [c14b0]) | skip)
     by_cases c15 : a1_0 > 0
     ·
      rw [if_pos c15] at H
      have c15b0 : decide (0 < a1_0) = true := decide_eq_true c15
      clear c15
      have H' := Aside0.mk H
      clear H
      have hnb16 := NB137_138.out
      have hnc16 := NB138_137.out
      have hnb17 := NB137_139.out
      have hnc17 := NB139_137.out
      obtain ⟨hcz18_0, hcz18_1, hfz18_0, hfz18_1⟩ := z2 BK137
      have hnb19 := NB138_139.out
      have hnc19 := NB139_138.out
      obtain ⟨hcz20_0, hcz20_1, hfz20_0, hfz20_1⟩ := z2 BK138
      go_wp2
      go_meet
      case rel => exact ⟨_, (decide ((wrap64 (a0_0 + a1_0)) < 0)), rs_, H', ⟨by first | omega | exact Nat.le_refl _⟩, ⟨uB BK137.out⟩, ⟨uB BK138.out⟩, ⟨uB BK139.out⟩, ⟨bl⟩⟩
     ·
      rw [if_neg c15] at H
      have c15b0 : decide (0 < a1_0) = false := decide_eq_false c15
      clear c15
      have H' := Aside0.mk H
      clear H
      have hnb21 := NB137_138.out
      have hnc21 := NB138_137.out
      have hnb22 := NB137_139.out
      have hnc22 := NB139_137.out
      obtain ⟨hcz23_0, hcz23_1, hfz23_0, hfz23_1⟩ := z2 BK137
      have hnb24 := NB138_139.out
      have hnc24 := NB139_138.out
      obtain ⟨hcz25_0, hcz25_1, hfz25_0, hfz25_1⟩ := z2 BK138
      go_wp2
      go_meet
      case rel => exact ⟨_, (false), rs_, H', ⟨by first | omega | exact Nat.le_refl _⟩, ⟨uB BK137.out⟩, ⟨uB BK138.out⟩, ⟨uB BK139.out⟩, ⟨bl⟩⟩
    ·
     rw [if_neg c14] at H
     have c14b0 : decide (0 < a0_0) = false := decide_eq_false c14
     clear c14
     (first | rw [c14b0] | (simp only [i64_w, i32_w]; rw [c14b0]) | skip)
     have H' := Aside0.mk H
     clear H
     have hnb26 := NB137_138.out
     have hnc26 := NB138_137.out
     have hnb27 := NB137_139.out
     have hnc27 := NB139_137.out
     obtain ⟨hcz28_0, hcz28_1, hfz28_0, hfz28_1⟩ := z2 BK137
     go_wp2
     go_meet
     case rel => exact ⟨_, (false), rs_, H', ⟨by first | omega | exact Nat.le_refl _⟩, ⟨uB BK137.out⟩, ⟨uB BK138.out⟩, ⟨uB BK139.out⟩, ⟨bl⟩⟩
   case rest =>
    clear HC5
    try clear c1
    try clear c2
    try clear p2
    try clear c3
    try clear c4
    try clear c6
    try clear p6
    try clear c9
    try clear c10
    try clear c12
    try clear c14
    try clear c14b0
    try clear c15
    try clear c15b0
    try clear c16
    try clear c17
    try clear c19
    try clear c21
    try clear c22
    try clear c24
    try clear c26
    try clear c27
    try clear hcz11_0
    try clear hcz11_1
    try clear hcz13_0
    try clear hcz13_1
    try clear hcz18_0
    try clear hcz18_1
    try clear hcz20_0
    try clear hcz20_1
    try clear hcz23_0
    try clear hcz23_1
    try clear hcz25_0
    try clear hcz25_1
    try clear hcz28_0
    try clear hcz28_1
    try clear hfz11_0
    try clear hfz11_1
    try clear hfz13_0
    try clear hfz13_1
    try clear hfz18_0
    try clear hfz18_1
    try clear hfz20_0
    try clear hfz20_1
    try clear hfz23_0
    try clear hfz23_1
    try clear hfz25_0
    try clear hfz25_1
    try clear hfz28_0
    try clear hfz28_1
    obtain ⟨kq, x17_4, rfl, HA, HJ4, BK137, BK138, BK139, HB⟩ := hcut
    cases kq with
    | zero => exact absurd HA.out (by simp [sat_Add.j0])
    | succ kj4 =>
     have H := HA.out
     clear HA
     simp only [sat_Add.j0] at H
     by_cases c29 : x17_4 = true
     ·
      subst c29
      rw [if_pos rfl] at H
      exact absurd H (by simp)
     ·
      replace c29 := Bool.eq_false_iff.mpr c29
      subst c29
      rw [if_neg (show ¬ (false = true) by decide)] at H
      by_cases c30 : a0_0 < 0
      ·
       rw [if_pos c30] at H
       have c30b0 : decide (a0_0 < 0) = true := decide_eq_true c30
       clear c30
       by_cases c31 : a1_0 < 0
       ·
        rw [if_pos c31] at H
        have c31b0 : decide (a1_0 < 0) = true := decide_eq_true c31
        clear c31
        obtain ⟨c32b0, H⟩ := gnn H
        obtain ⟨⟨t140, t141⟩, A33, H⟩ := bs H
        try dsimp only at H
        simp only [Option.some.injEq, Prod.mk.injEq] at H
        obtain ⟨rfl, rfl⟩ := H
        have hnb34 := NB137_138.out
        have hnc34 := NB138_137.out
        have hnb35 := NB137_139.out
        have hnc35 := NB139_137.out
        obtain ⟨hcz36_0, hcz36_1, hfz36_0, hfz36_1⟩ := z2 BK137
        have hnb37 := NB138_139.out
        have hnc37 := NB139_138.out
        obtain ⟨hcz38_0, hcz38_1, hfz38_0, hfz38_1⟩ := z2 BK138
        go_wp2_with (first | (refine gL (some 46) rfl Try.func69 #[.int .i64 (wrap64 (a0_0 + a1_0))] ?_; (with_reducible refine (sat_Of.calls (wrap64 (a0_0 + a1_0)) t140 t141 _ A33.out).mono ?_); rintro e w39 ⟨rfl, hb⟩; refine ⟨_, rfl, ?_⟩; replace BK137 := cB BK137 hb; replace BK138 := cB BK138 hb; replace BK139 := cB BK139 hb; replace HB := Aside0.mk (below_step bl hb); (try clear hb); obtain ⟨hcz40_0, hcz40_1, hfz40_0, hfz40_1⟩ := z2 BK139))
        refine bodyPost_ret (results_cell_row rfl _ _ gb139 50 #[.int .i64 t140, .bool t141] (0, 0) _ rfl (by (with_reducible repeat (first | refine blk_drewN ?_ _ | refine blk_drew ?_ | refine blk_alloc ?_ _)); refine blk_put (cs := #[.int .i64 t140, .bool false]) ?_ 1 _ rfl; (with_reducible repeat (first | refine blk_drewN ?_ _ | refine blk_drew ?_ | refine blk_alloc ?_ _)); refine blk_put (cs := #[.int .i64 0, .bool false]) ?_ 0 _ rfl; exact uB <| BK139.out) Try.underlying50 rfl (by kernel_rfl)) rfl ?_
        exact ⟨re_, bl⟩
       ·
        rw [if_neg c31] at H
        have c31b0 : decide (a1_0 < 0) = false := decide_eq_false c31
        clear c31
        obtain ⟨⟨t142, t143⟩, A41, H⟩ := bs H
        try dsimp only at H
        simp only [Option.some.injEq, Prod.mk.injEq] at H
        obtain ⟨rfl, rfl⟩ := H
        have hnb42 := NB137_138.out
        have hnc42 := NB138_137.out
        have hnb43 := NB137_139.out
        have hnc43 := NB139_137.out
        obtain ⟨hcz44_0, hcz44_1, hfz44_0, hfz44_1⟩ := z2 BK137
        have hnb45 := NB138_139.out
        have hnc45 := NB139_138.out
        obtain ⟨hcz46_0, hcz46_1, hfz46_0, hfz46_1⟩ := z2 BK138
        go_wp2_with (first | (refine gL (some 46) rfl Try.func69 #[.int .i64 (wrap64 (a0_0 + a1_0))] ?_; (with_reducible refine (sat_Of.calls (wrap64 (a0_0 + a1_0)) t142 t143 _ A41.out).mono ?_); rintro e w47 ⟨rfl, hb⟩; refine ⟨_, rfl, ?_⟩; replace BK137 := cB BK137 hb; replace BK138 := cB BK138 hb; replace BK139 := cB BK139 hb; replace HB := Aside0.mk (below_step bl hb); (try clear hb); obtain ⟨hcz48_0, hcz48_1, hfz48_0, hfz48_1⟩ := z2 BK139))
        refine bodyPost_ret (results_cell_row rfl _ _ gb139 50 #[.int .i64 t142, .bool t143] (0, 0) _ rfl (by (with_reducible repeat (first | refine blk_drewN ?_ _ | refine blk_drew ?_ | refine blk_alloc ?_ _)); refine blk_put (cs := #[.int .i64 t142, .bool false]) ?_ 1 _ rfl; (with_reducible repeat (first | refine blk_drewN ?_ _ | refine blk_drew ?_ | refine blk_alloc ?_ _)); refine blk_put (cs := #[.int .i64 0, .bool false]) ?_ 0 _ rfl; exact uB <| BK139.out) Try.underlying50 rfl (by kernel_rfl)) rfl ?_
        exact ⟨re_, bl⟩
      ·
       rw [if_neg c30] at H
       have c30b0 : decide (a0_0 < 0) = false := decide_eq_false c30
       clear c30
       obtain ⟨⟨t144, t145⟩, A49, H⟩ := bs H
       try dsimp only at H
       simp only [Option.some.injEq, Prod.mk.injEq] at H
       obtain ⟨rfl, rfl⟩ := H
       have hnb50 := NB137_138.out
       have hnc50 := NB138_137.out
       have hnb51 := NB137_139.out
       have hnc51 := NB139_137.out
       obtain ⟨hcz52_0, hcz52_1, hfz52_0, hfz52_1⟩ := z2 BK137
       go_wp2_with (first | (refine gL (some 46) rfl Try.func69 #[.int .i64 (wrap64 (a0_0 + a1_0))] ?_; (with_reducible refine (sat_Of.calls (wrap64 (a0_0 + a1_0)) t144 t145 _ A49.out).mono ?_); rintro e w53 ⟨rfl, hb⟩; refine ⟨_, rfl, ?_⟩; replace BK137 := cB BK137 hb; replace BK138 := cB BK138 hb; replace BK139 := cB BK139 hb; replace HB := Aside0.mk (below_step bl hb); (try clear hb); have hnb54 := NB139_138.out; have hnc54 := NB138_139.out; obtain ⟨hcz55_0, hcz55_1, hfz55_0, hfz55_1⟩ := z2 BK139))
       refine bodyPost_ret (results_cell_row rfl _ _ gb139 50 #[.int .i64 t144, .bool t145] (0, 0) _ rfl (by (with_reducible repeat (first | refine blk_drewN ?_ _ | refine blk_drew ?_ | refine blk_alloc ?_ _)); refine blk_put (cs := #[.int .i64 t144, .bool false]) ?_ 1 _ rfl; (with_reducible repeat (first | refine blk_drewN ?_ _ | refine blk_drew ?_ | refine blk_alloc ?_ _)); refine blk_put (cs := #[.int .i64 0, .bool false]) ?_ 0 _ rfl; exact uB <| BK139.out) Try.underlying50 rfl (by kernel_rfl)) rfl ?_
       exact ⟨re_, bl⟩
end Go.Proofs.Ytofaindjbhmopaa.X
