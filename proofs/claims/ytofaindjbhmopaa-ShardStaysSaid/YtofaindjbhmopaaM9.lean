/- Printed by a program of this session's own: what functions of the program compute, and that the machine computes it. No condition of its own. -/
import Derived.Test.YtofaindjbhmopaaM3
import Derived.Test.YtofaindjbhmopaaM5
namespace Go.Proofs.Ytofaindjbhmopaa.X
open Go.RowKit Go.Proofs.YtofaindjbhmopaaW.PrintWords Go.Proofs.YtofaindjbhmopaaW.PrintLast Go.Proofs.YtofaindjbhmopaaW.PrintMore
attribute [local go_sem] max2_int min2_int max_two min_two max_three min_three max_four min_four
set_option linter.unusedVariables false
set_option linter.unusedSimpArgs false
set_option maxHeartbeats 8000000
set_option maxRecDepth 100000
def r11_less.f (a0_0 : Int) (a0_1 : ByteArray) (l0_2 : List (S82)) (a1 : Int) (a2 : ByteArray) : Option (Bool) := if a0_0 < a1 then (some true) else (if a0_0 = a1 then (some (Op.bytesLess a0_1.toList a2.toList)) else (some false))
theorem r11_less.calls (a0_0 : Int) (a0_1 : ByteArray) (A0_2 : Option Addr) (c0_2 : Nat) (l0_2 : List (S82)) (a1 : Int) (a2 : ByteArray) (r : Bool) (w : World) (hr0_2 : Kd.C k82 w A0_2 l0_2.length l0_2) (hc0_2 : l0_2.length ≤ c0_2) (h : r11_less.f a0_0 a0_1 l0_2 a1 a2 = some r) :
 Calls Try.prog 30 #[.agg #[.int .i64 a0_0, .string a0_1, .slice A0_2 l0_2.length c0_2], .int .i64 a1, .string a2] w fun e w' => e = .returned (.bool r) ∧ Below w.heap.size w w' := by
 have hu59 := Try.underlying59
 have HR0_2 := Aside0.mk hr0_2
 have HC0_2 := Aside0.mk hc0_2
 clear hr0_2 hc0_2
 have HB := Aside0.mk (Below.refl w.heap.size w)
 have H : (if a0_0 < a1 then (some true) else (if a0_0 = a1 then (some (Op.bytesLess a0_1.toList a2.toList)) else (some false))) = some r := h
 clear h
 by_cases c4 : a0_0 < a1
 ·
  rw [if_pos c4] at H
  have c4b0 : decide (a0_0 < a1) = true := decide_eq_true c4
  clear c4
  obtain rfl := Option.some.inj H
  go_enter Try.func30, Try.ntmps30
  go_wp2_with (first | ((with_reducible refine gate_dst (N := 3) rfl ?_); refine bx (N := 3) #[.int .i64 a0_0, .string a0_1, .slice A0_2 l0_2.length c0_2] 59 ?_; intro gb345 hg w5 hbox hb; have BK345 := Aside0.mk (hbox); have GW345 := gw hg (uW HB.out); have GE345 := GW345; replace HB := cW HB hb; clear hb hbox hg; obtain ⟨hcz6_0, hcz6_1, hcz6_2, hfz6_0, hfz6_1, hfz6_2⟩ := z3 BK345))
  go_ret
  exact ⟨re_, bl⟩
 ·
  rw [if_neg c4] at H
  have c4b0 : decide (a0_0 < a1) = false := decide_eq_false c4
  clear c4
  by_cases c7 : a0_0 = a1
  ·
   rw [if_pos c7] at H
   have c7b0 : (a0_0 == a1) = true := beq_iff_eq.mpr c7
   have c7b1 : (a0_0 != a1) = false := bne_eq_false_iff_eq.mpr c7
   clear c7
   obtain rfl := Option.some.inj H
   go_enter Try.func30, Try.ntmps30
   go_wp2_with (first | ((with_reducible refine gate_dst (N := 3) rfl ?_); refine bx (N := 3) #[.int .i64 a0_0, .string a0_1, .slice A0_2 l0_2.length c0_2] 59 ?_; intro gb345 hg w8 hbox hb; have BK345 := Aside0.mk (hbox); have GW345 := gw hg (uW HB.out); have GE345 := GW345; replace HB := cW HB hb; clear hb hbox hg; obtain ⟨hcz9_0, hcz9_1, hcz9_2, hfz9_0, hfz9_1, hfz9_2⟩ := z3 BK345))
   go_ret
   exact ⟨re_, bl⟩
  ·
   rw [if_neg c7] at H
   have c7b0 : (a0_0 == a1) = false := beq_eq_false_iff_ne.mpr c7
   have c7b1 : (a0_0 != a1) = true := bne_iff_ne.mpr c7
   obtain rfl := Option.some.inj H
   go_enter Try.func30, Try.ntmps30
   go_wp2_with (first | ((with_reducible refine gate_dst (N := 3) rfl ?_); refine bx (N := 3) #[.int .i64 a0_0, .string a0_1, .slice A0_2 l0_2.length c0_2] 59 ?_; intro gb345 hg w10 hbox hb; have BK345 := Aside0.mk (hbox); have GW345 := gw hg (uW HB.out); have GE345 := GW345; replace HB := cW HB hb; clear hb hbox hg; obtain ⟨hcz11_0, hcz11_1, hcz11_2, hfz11_0, hfz11_1, hfz11_2⟩ := z3 BK345))
   go_ret
   exact ⟨re_, bl⟩
def r10_Right.l0 : Nat → List (S82) → Int → Option (Bool)
 | 0, _, _ => none
 | k + 1, x0, x3 => if x3 < (x0.length : Int) then (if 0 ≤ x3 then (if ((rd_T82 x0 x3).f0) < 1 then (some false) else (if ((rd_T82 x0 x3).f0) > 1000000000000000 then (some false) else (if x3 > 0 then (if 0 ≤ (wrap64 (x3 - 1)) then (if (wrap64 (x3 - 1)) < (x0.length : Int) then (if ((rd_T82 x0 (wrap64 (x3 - 1))).f0) ≥ ((rd_T82 x0 x3).f0) then (some false) else (r10_Right.l0 k x0 (wrap64 (x3 + 1)))) else (none)) else (none)) else (r10_Right.l0 k x0 (wrap64 (x3 + 1)))))) else (none)) else (some true)
def r10_Right.f (k : Nat) (l0 : List (S82)) : Option (Bool) := r10_Right.l0 k l0 0
theorem r10_Right.mono_l : ∀ k, (∀ y0 y1, LeC (r10_Right.l0 k y0 y1) (r10_Right.l0 (k + 1) y0 y1))
 | 0 => fun _ _ => ⟨fun r h => by simp [r10_Right.l0] at h⟩
 | k + 1 => by have ih0 := r10_Right.mono_l k; exact fun _ _ => by unfold r10_Right.l0; exact lm
theorem r10_Right.mono : ∀ a0 k, LeO (r10_Right.f k a0) (r10_Right.f (k + 1) a0) := by
 intro a0 k
 have ih0 := r10_Right.mono_l k
 unfold r10_Right.f
 exact lo
instance r10_Right.mI {a0 k} : LeC (r10_Right.f k a0) (r10_Right.f (k + 1) a0) := ⟨r10_Right.mono _ _⟩
theorem r10_Right.calls (k : Nat) (A0 : Option Addr) (c0 : Nat) (l0 : List (S82)) (r : Bool) (w : World) (hr0 : Kd.C k82 w A0 l0.length l0) (hc0 : l0.length ≤ c0) (h : r10_Right.f k l0 = some r) :
 Calls Try.prog 34 #[.slice A0 l0.length c0] w fun e w' => e = .returned (.bool r) ∧ Drawn0 w w' := by
 have HR0 := Aside0.mk hr0
 have HC0 := Aside0.mk hc0
 clear hr0 hc0
 have H : (r10_Right.l0 k l0 0) = some r := h
 clear h
 have H' := Aside0.mk H
 clear H
 go_enter Try.func34, Try.ntmps34
 go_wp2
 repeat (go_quiet (fail); try go_wp2)
 go_loopg [3] k (fun kq v3 w' => ∃ (x3_1 : Int), v3 = .int .i64 x3_1 ∧ Aside0 (r10_Right.l0 kq l0 x3_1 = some r) ∧ Aside0 (kq ≤ k) ∧ Drawn0 w w')
 case atStart => exact ⟨(0), rs_, H', ⟨Nat.le_refl _⟩, dr_⟩
 case round =>
  clear H'
  obtain ⟨x3_1, rfl, HA, HK1, ⟨m1, rfl⟩⟩ := hrel
  cases gk with
  | zero => exact absurd HA.out (by simp [r10_Right.l0])
  | succ k1 =>
   have H := HA.out
   clear HA
   simp only [r10_Right.l0] at H
   by_cases c2 : x3_1 < (l0.length : Int)
   ·
    rw [if_pos c2] at H
    have c2b0 : decide (x3_1 < (l0.length : Int)) = true := decide_eq_true c2
    clear c2
    obtain ⟨c3b0, H⟩ := gdd H
    by_cases c4 : ((rd_T82 l0 x3_1).f0) < 1
    ·
     rw [if_pos c4] at H
     have c4b0 : decide (((rd_T82 l0 x3_1).f0) < 1) = true := decide_eq_true c4
     clear c4
     obtain rfl := Option.some.inj H
     have p346 : 0 ≤ (x3_1 : Int) := od
     have q346 : x3_1 < (l0.length : Int) := od
     obtain ⟨ad346, e346, hx346_0, hx346_1, hx346_2, hx346_3, hx346_4, hx346_5⟩ := at_T82 HR0.out x3_1 p346 q346
     cases e346
     replace p346 := eq_true p346
     replace q346 := eq_true q346
     go_wp2
     repeat (go_quiet (fail); try go_wp2)
     go_ret
     exact ⟨rs_, dr_⟩
    ·
     rw [if_neg c4] at H
     have c4b0 : decide (((rd_T82 l0 x3_1).f0) < 1) = false := decide_eq_false c4
     clear c4
     by_cases c5 : ((rd_T82 l0 x3_1).f0) > 1000000000000000
     ·
      rw [if_pos c5] at H
      have c5b0 : decide (1000000000000000 < ((rd_T82 l0 x3_1).f0)) = true := decide_eq_true c5
      clear c5
      obtain rfl := Option.some.inj H
      have p346 : 0 ≤ (x3_1 : Int) := od
      have q346 : x3_1 < (l0.length : Int) := od
      obtain ⟨ad346, e346, hx346_0, hx346_1, hx346_2, hx346_3, hx346_4, hx346_5⟩ := at_T82 HR0.out x3_1 p346 q346
      cases e346
      replace p346 := eq_true p346
      replace q346 := eq_true q346
      have p347 : 0 ≤ (x3_1 : Int) := od
      have q347 : x3_1 < (l0.length : Int) := od
      obtain ⟨ad347, e347, hx347_0, hx347_1, hx347_2, hx347_3, hx347_4, hx347_5⟩ := at_T82 HR0.out x3_1 p347 q347
      obtain rfl : ad346 = ad347 := (by injection e347)
      replace p347 := eq_true p347
      replace q347 := eq_true q347
      go_wp2
      repeat (go_quiet (fail); try go_wp2)
      go_ret
      exact ⟨rs_, dr_⟩
     ·
      rw [if_neg c5] at H
      have c5b0 : decide (1000000000000000 < ((rd_T82 l0 x3_1).f0)) = false := decide_eq_false c5
      clear c5
      by_cases c6 : x3_1 > 0
      ·
       rw [if_pos c6] at H
       have c6b0 : decide (0 < x3_1) = true := decide_eq_true c6
       clear c6
       obtain ⟨ji7, hji7⟩ : ∃ j_ : Int, (wrap64 (x3_1 - 1)) = j_ := ⟨_, rfl⟩
       (first | rw [hji7] at H | simp only [hji7] at H)
       have hji7w : (IntKind.i64.wrap (x3_1 - 1)) = ji7 := (i64_w _).trans hji7
       obtain ⟨c8b0, H⟩ := gdd H
       obtain ⟨c9b0, H⟩ := gdd H
       by_cases c10 : ((rd_T82 l0 (ji7)).f0) ≥ ((rd_T82 l0 x3_1).f0)
       ·
        rw [if_pos c10] at H
        have c10b0 : decide (((rd_T82 l0 x3_1).f0) ≤ ((rd_T82 l0 (ji7)).f0)) = true := decide_eq_true c10
        clear c10
        obtain rfl := Option.some.inj H
        have p346 : 0 ≤ (x3_1 : Int) := od
        have q346 : x3_1 < (l0.length : Int) := od
        obtain ⟨ad346, e346, hx346_0, hx346_1, hx346_2, hx346_3, hx346_4, hx346_5⟩ := at_T82 HR0.out x3_1 p346 q346
        cases e346
        replace p346 := eq_true p346
        replace q346 := eq_true q346
        have p347 : 0 ≤ (x3_1 : Int) := od
        have q347 : x3_1 < (l0.length : Int) := od
        obtain ⟨ad347, e347, hx347_0, hx347_1, hx347_2, hx347_3, hx347_4, hx347_5⟩ := at_T82 HR0.out x3_1 p347 q347
        obtain rfl : ad346 = ad347 := (by injection e347)
        replace p347 := eq_true p347
        replace q347 := eq_true q347
        have p348 : 0 ≤ ((ji7) : Int) := od
        have q348 : (ji7) < (l0.length : Int) := od
        obtain ⟨ad348, e348, hx348_0, hx348_1, hx348_2, hx348_3, hx348_4, hx348_5⟩ := at_T82 HR0.out (ji7) p348 q348
        obtain rfl : ad346 = ad348 := (by injection e348)
        replace p348 := eq_true p348
        replace q348 := eq_true q348
        have p349 : 0 ≤ (x3_1 : Int) := od
        have q349 : x3_1 < (l0.length : Int) := od
        obtain ⟨ad349, e349, hx349_0, hx349_1, hx349_2, hx349_3, hx349_4, hx349_5⟩ := at_T82 HR0.out x3_1 p349 q349
        obtain rfl : ad346 = ad349 := (by injection e349)
        replace p349 := eq_true p349
        replace q349 := eq_true q349
        go_wp2
        repeat (go_quiet (fail); try go_wp2)
        go_ret
        exact ⟨by first | rfl | (simp; done) | (simp only [← hji7] <;> (first | rfl | simp)) | (simp [*]; done), dr_⟩
       ·
        rw [if_neg c10] at H
        have c10b0 : decide (((rd_T82 l0 x3_1).f0) ≤ ((rd_T82 l0 (ji7)).f0)) = false := decide_eq_false c10
        clear c10
        have H' := Aside0.mk H
        clear H
        have p346 : 0 ≤ (x3_1 : Int) := od
        have q346 : x3_1 < (l0.length : Int) := od
        obtain ⟨ad346, e346, hx346_0, hx346_1, hx346_2, hx346_3, hx346_4, hx346_5⟩ := at_T82 HR0.out x3_1 p346 q346
        cases e346
        replace p346 := eq_true p346
        replace q346 := eq_true q346
        have p347 : 0 ≤ (x3_1 : Int) := od
        have q347 : x3_1 < (l0.length : Int) := od
        obtain ⟨ad347, e347, hx347_0, hx347_1, hx347_2, hx347_3, hx347_4, hx347_5⟩ := at_T82 HR0.out x3_1 p347 q347
        obtain rfl : ad346 = ad347 := (by injection e347)
        replace p347 := eq_true p347
        replace q347 := eq_true q347
        have p348 : 0 ≤ ((ji7) : Int) := od
        have q348 : (ji7) < (l0.length : Int) := od
        obtain ⟨ad348, e348, hx348_0, hx348_1, hx348_2, hx348_3, hx348_4, hx348_5⟩ := at_T82 HR0.out (ji7) p348 q348
        obtain rfl : ad346 = ad348 := (by injection e348)
        replace p348 := eq_true p348
        replace q348 := eq_true q348
        have p349 : 0 ≤ (x3_1 : Int) := od
        have q349 : x3_1 < (l0.length : Int) := od
        obtain ⟨ad349, e349, hx349_0, hx349_1, hx349_2, hx349_3, hx349_4, hx349_5⟩ := at_T82 HR0.out x3_1 p349 q349
        obtain rfl : ad346 = ad349 := (by injection e349)
        replace p349 := eq_true p349
        replace q349 := eq_true q349
        go_wp2
        repeat (go_quiet (fail); try go_wp2)
        go_roundg k1
        case measure => have := HK1.out; omega
        case rel => exact ⟨(wrap64 (x3_1 + 1)), rs_, H', ⟨by have := HK1.out; omega⟩, dr_⟩
      ·
       rw [if_neg c6] at H
       have c6b0 : decide (0 < x3_1) = false := decide_eq_false c6
       clear c6
       have H' := Aside0.mk H
       clear H
       have p346 : 0 ≤ (x3_1 : Int) := od
       have q346 : x3_1 < (l0.length : Int) := od
       obtain ⟨ad346, e346, hx346_0, hx346_1, hx346_2, hx346_3, hx346_4, hx346_5⟩ := at_T82 HR0.out x3_1 p346 q346
       cases e346
       replace p346 := eq_true p346
       replace q346 := eq_true q346
       have p347 : 0 ≤ (x3_1 : Int) := od
       have q347 : x3_1 < (l0.length : Int) := od
       obtain ⟨ad347, e347, hx347_0, hx347_1, hx347_2, hx347_3, hx347_4, hx347_5⟩ := at_T82 HR0.out x3_1 p347 q347
       obtain rfl : ad346 = ad347 := (by injection e347)
       replace p347 := eq_true p347
       replace q347 := eq_true q347
       go_wp2
       repeat (go_quiet (fail); try go_wp2)
       go_roundg k1
       case measure => have := HK1.out; omega
       case rel => exact ⟨(wrap64 (x3_1 + 1)), rs_, H', ⟨by have := HK1.out; omega⟩, dr_⟩
   ·
    rw [if_neg c2] at H
    have c2b0 : decide (x3_1 < (l0.length : Int)) = false := decide_eq_false c2
    clear c2
    obtain rfl := Option.some.inj H
    go_wp2
    repeat (go_quiet (fail); try go_wp2)
    go_ret
    exact ⟨rs_, dr_⟩
def r11_Right.l0 : Nat → Int → List (S59) → Option (Bool)
 | 0, _, _ => none
 | k + 1, x3, x351000 => if x3 < (x351000.length : Int) then (if 0 ≤ x3 then (if (((rd_T59 x351000 x3).f2).length : Int) = 0 then (some false) else ((r10_Right.f k ((rd_T59 x351000 x3).f2)).bind fun t353 => (if t353 = true then (if x3 > 0 then (if 0 ≤ (wrap64 (x3 - 1)) then (if (wrap64 (x3 - 1)) < (x351000.length : Int) then ((r11_less.f ((rd_T59 x351000 (wrap64 (x3 - 1))).f0) ((rd_T59 x351000 (wrap64 (x3 - 1))).f1) ((rd_T59 x351000 (wrap64 (x3 - 1))).f2) ((rd_T59 x351000 x3).f0) ((rd_T59 x351000 x3).f1)).bind fun t355 => (if t355 = true then (r11_Right.l0 k (wrap64 (x3 + 1)) x351000) else (some false))) else (none)) else (none)) else (r11_Right.l0 k (wrap64 (x3 + 1)) x351000)) else (some false)))) else (none)) else (some true)
def r11_Right.f (k : Nat) (l0_0 : List (S59)) : Option (Bool) := r11_Right.l0 k 0 l0_0
theorem r11_Right.mono_l : ∀ k, (∀ y0 y1, LeC (r11_Right.l0 k y0 y1) (r11_Right.l0 (k + 1) y0 y1))
 | 0 => fun _ _ => ⟨fun r h => by simp [r11_Right.l0] at h⟩
 | k + 1 => by have ih0 := r11_Right.mono_l k; exact fun _ _ => by unfold r11_Right.l0; exact lm
theorem r11_Right.mono : ∀ a0 k, LeO (r11_Right.f k a0) (r11_Right.f (k + 1) a0) := by
 intro a0 k
 have ih0 := r11_Right.mono_l k
 unfold r11_Right.f
 exact lo
instance r11_Right.mI {a0 k} : LeC (r11_Right.f k a0) (r11_Right.f (k + 1) a0) := ⟨r11_Right.mono _ _⟩
def r11_Right.T5 : Bool × List (List Nat × List Nat) := (true, [([], []), ([0], [0]), ([1], [1]), ([2], [2]), ([3], [3]), ([4], [4]), ([5, 4], [4, 5]), ([6, 4, 4], [4, 6]), ([7, 4], [4, 7]), ([4, 8], [4, 8]), ([9, 7], [9]), ([10], [10]), ([11, 10], [10, 11]), ([12, 10, 10], [10, 12]), ([13], [13]), ([14, 13], [13, 14]), ([13], [13]), ([16, 13], [13, 16]), ([15, 17, 13], [13, 15, 17]), ([18, 13], [13, 18]), ([13], [13]), ([20, 13], [13, 20]), ([13], [13]), ([22, 13], [13, 22]), ([19, 21, 23, 13, 13], [13, 19, 21, 23]), ([24, 13], [13, 24]), ([13, 25, 10], [10, 13, 25]), ([10, 26], [10, 26])])
def r11_Right.B5 : List Nat := [0, 1, 3, 7, 15, 31, 63, 127, 255, 511, 1023, 2047, 4095, 8191, 16383, 32767, 16383, 81919, 262143, 524287, 16383, 1064959, 16383, 4210687, 16777215, 33554431, 67108863, 134217727]
theorem r11_Right.tab5 : rtab .any (opsOf Try.f15 5) = r11_Right.T5 := by kernel_rfl
theorem r11_Right.bits5 : waitsOk r11_Right.T5.2 r11_Right.B5 = true := by kernel_rfl
theorem r11_Right.calls (k : Nat) (A0_0 : Option Addr) (c0_0 : Nat) (l0_0 : List (S59)) (r : Bool) (w : World) (hr0_0 : Kd.C k59 w A0_0 l0_0.length l0_0) (hc0_0 : l0_0.length ≤ c0_0) (h : r11_Right.f k l0_0 = some r) :
 Calls Try.prog 15 #[.agg #[.slice A0_0 l0_0.length c0_0]] w fun e w' => e = .returned (.bool r) ∧ Below w.heap.size w w' := by
 have hu24 := Try.underlying24
 have hu59 := Try.underlying59
 have HR0_0 := Aside0.mk hr0_0
 have HC0_0 := Aside0.mk hc0_0
 clear hr0_0 hc0_0
 have HB := Aside0.mk (Below.refl w.heap.size w)
 have H : (r11_Right.l0 k 0 l0_0) = some r := h
 clear h
 have H' := Aside0.mk H
 clear H
 go_enter Try.func15, Try.ntmps15
 go_wp2_with (first | ((with_reducible refine gate_dst (N := 1) rfl ?_); refine bx (N := 1) #[.slice A0_0 l0_0.length c0_0] 24 ?_; intro gb350 hg w2 hbox hb; have BK350 := Aside0.mk (hbox); have GW350 := gw hg (uW HB.out); have GE350 := GW350; replace HB := cW HB hb; clear hb hbox hg))
 go_loopg [3] k (fun kq v3 w' => ∃ (x3_1 : Int), v3 = .int .i64 x3_1 ∧ Aside0 (r11_Right.l0 kq x3_1 l0_0 = some r) ∧ Aside0 (kq ≤ k) ∧ Aside0 (w'.heap[gb350]? = some (.cells #[(.slice A0_0 l0_0.length c0_0)] 24 (0, 0))) ∧ Aside0 (Below w.heap.size w w'))
 case atStart => exact ⟨(0), rs_, H', ⟨Nat.le_refl _⟩, ⟨uB BK350.out⟩, ⟨bl⟩⟩
 case round =>
  clear H'
  try clear c1
  try clear p2
  obtain ⟨x3_1, rfl, HA, HK1, BK350, HB⟩ := hrel
  cases gk with
  | zero => exact absurd HA.out (by simp [r11_Right.l0])
  | succ k1 =>
   have H := HA.out
   clear HA
   simp only [r11_Right.l0] at H
   by_cases c3 : x3_1 < (l0_0.length : Int)
   ·
    rw [if_pos c3] at H
    have c3b0 : decide (x3_1 < (l0_0.length : Int)) = true := decide_eq_true c3
    clear c3
    obtain ⟨c4b0, H⟩ := gdd H
    by_cases c5 : (((rd_T59 l0_0 x3_1).f2).length : Int) = 0
    ·
     rw [if_pos c5] at H
     have c5b0 : ((((rd_T59 l0_0 x3_1).f2).length : Int) == 0) = true := beq_iff_eq.mpr c5
     have c5b1 : ((((rd_T59 l0_0 x3_1).f2).length : Int) != 0) = false := bne_eq_false_iff_eq.mpr c5
     clear c5
     obtain rfl := Option.some.inj H
     obtain ⟨hcz6_0, hfz6_0⟩ := z1 BK350
     have p351 : 0 ≤ (x3_1 : Int) := od
     have q351 : x3_1 < (l0_0.length : Int) := od
     obtain ⟨ad351, A351_2, c351_2, e351, hx351_0, hx351_1, hx351_2, hl351_2, hi351_2⟩ := at_T59 HR0_0.out x3_1 p351 q351
     cases e351
     replace hx351_0 := kc HB hx351_0
     replace hx351_1 := kc HB hx351_1
     replace hx351_2 := kc HB hx351_2
     have HR351_2 := Aside0.mk hi351_2
     have HC351_2 := Aside0.mk hl351_2
     clear hi351_2 hl351_2
     replace p351 := eq_true p351
     replace q351 := eq_true q351
     try go_wp2_with (first | ((with_reducible refine gate_dst (N := 4) rfl ?_); refine bx (N := 4) #[.int .i64 0, .string (⟨#[]⟩ : ByteArray), .slice none 0 0] 59 ?_; intro gb352 hg w7 hbox hb; have BK352 := Aside0.mk (hbox); have GW352 := gw hg bl; have GE352 := GW352; replace HB := Aside0.mk (below_step bl hb); have NB350_352 := Aside0.mk ((by rw [hg]; exact Nat.ne_of_lt (blk_lt (g := gb350) (o := .cells #[.slice (some ad351) l0_0.length c0_0] 24 (0, 0)) (uB BK350.out)) : gb350 ≠ gb352)); have NB352_350 := Aside0.mk ((by rw [hg]; exact Nat.ne_of_gt (blk_lt (g := gb350) (o := .cells #[.slice (some ad351) l0_0.length c0_0] 24 (0, 0)) (uB BK350.out)) : gb352 ≠ gb350)); replace BK350 := cB BK350 hb; clear hb hbox hg; have hnb8 := NB352_350.out; have hnc8 := NB350_352.out; obtain ⟨hcz9_0, hcz9_1, hcz9_2, hfz9_0, hfz9_1, hfz9_2⟩ := z3 BK352))
     have n0_ : Aside0 ((((w7.setCell ⟨gb352, 0, none⟩ (.int .i64 ((rd_T59 l0_0 x3_1).f0))).setCell ⟨gb352, 1, none⟩ (.string ((rd_T59 l0_0 x3_1).f1))).setCell ⟨gb352, 2, none⟩ (.slice A351_2 ((rd_T59 l0_0 x3_1).f2).length c351_2)).heap[gb350]? = some (.cells #[.slice (some ad351) l0_0.length c0_0] 24 (0, 0))) := ⟨by (with_reducible repeat (first | refine blk_drewN ?_ _ | refine blk_drew ?_ | refine blk_alloc ?_ _)); refine blk_far ?_ NB350_352.out _; (with_reducible repeat (first | refine blk_drewN ?_ _ | refine blk_drew ?_ | refine blk_alloc ?_ _)); refine blk_far ?_ NB350_352.out _; (with_reducible repeat (first | refine blk_drewN ?_ _ | refine blk_drew ?_ | refine blk_alloc ?_ _)); refine blk_far ?_ NB350_352.out _; exact uB <| BK350.out⟩
     have n1_ : Aside0 ((((w7.setCell ⟨gb352, 0, none⟩ (.int .i64 ((rd_T59 l0_0 x3_1).f0))).setCell ⟨gb352, 1, none⟩ (.string ((rd_T59 l0_0 x3_1).f1))).setCell ⟨gb352, 2, none⟩ (.slice A351_2 ((rd_T59 l0_0 x3_1).f2).length c351_2)).heap[gb352]? = some (.cells #[.int .i64 ((rd_T59 l0_0 x3_1).f0), .string ((rd_T59 l0_0 x3_1).f1), .slice A351_2 ((rd_T59 l0_0 x3_1).f2).length c351_2] 59 (0, 0))) := ⟨by (with_reducible repeat (first | refine blk_drewN ?_ _ | refine blk_drew ?_ | refine blk_alloc ?_ _)); refine blk_put (cs := #[.int .i64 ((rd_T59 l0_0 x3_1).f0), .string ((rd_T59 l0_0 x3_1).f1), .slice none 0 0]) ?_ 2 _ rfl; (with_reducible repeat (first | refine blk_drewN ?_ _ | refine blk_drew ?_ | refine blk_alloc ?_ _)); refine blk_put (cs := #[.int .i64 ((rd_T59 l0_0 x3_1).f0), .string (⟨#[]⟩ : ByteArray), .slice none 0 0]) ?_ 1 _ rfl; (with_reducible repeat (first | refine blk_drewN ?_ _ | refine blk_drew ?_ | refine blk_alloc ?_ _)); refine blk_put (cs := #[.int .i64 0, .string (⟨#[]⟩ : ByteArray), .slice none 0 0]) ?_ 0 _ rfl; exact uB <| BK352.out⟩
     have n2_ : Aside0 (Below w.heap.size w (((w7.setCell ⟨gb352, 0, none⟩ (.int .i64 ((rd_T59 l0_0 x3_1).f0))).setCell ⟨gb352, 1, none⟩ (.string ((rd_T59 l0_0 x3_1).f1))).setCell ⟨gb352, 2, none⟩ (.slice A351_2 ((rd_T59 l0_0 x3_1).f2).length c351_2))) := ⟨bl⟩
     (try clear BK350)
     (try clear BK352)
     (try clear HB)
     generalize (((w7.setCell ⟨gb352, 0, none⟩ (.int .i64 ((rd_T59 l0_0 x3_1).f0))).setCell ⟨gb352, 1, none⟩ (.string ((rd_T59 l0_0 x3_1).f1))).setCell ⟨gb352, 2, none⟩ (.slice A351_2 ((rd_T59 l0_0 x3_1).f2).length c351_2)) = w10 at n0_ n1_ n2_ ⊢
     have BK350 := n0_
     have BK352 := n1_
     have HB := n2_
     clear n0_ n1_ n2_
     replace BK350 := Aside0.mk (blk_drew BK350.out)
     replace BK352 := Aside0.mk (blk_drew BK352.out)
     replace HB := Aside0.mk (below_drew1 HB.out)
     refine start_ (n := 28) (S := fun w' => w'.cell? ⟨gb352, 0, none⟩ = some (.int .i64 ((rd_T59 l0_0 x3_1).f0)) ∧ w'.cell? ⟨gb352, 1, none⟩ = some (.string ((rd_T59 l0_0 x3_1).f1)) ∧ w'.cell? ⟨gb352, 2, none⟩ = some (.slice A351_2 ((rd_T59 l0_0 x3_1).f2).length c351_2)) (ds := []) _ (by kernel_rfl) rfl rfl ⟨(blk_cell BK352.out 0).trans rfl, (blk_cell BK352.out 1).trans rfl, (blk_cell BK352.out 2).trans rfl⟩ (fun hHeld => ?_); refine with_tabW r11_Right.tab5 r11_Right.bits5 (fun HT_ HW_ => ?_)
     generalize w10.drew = w11 at BK350 BK352 HB hHeld ⊢
     refine p1 0 (some 17) ?_
     refine t1 1 (some 18) rfl rfl hHeld (Or.inl ⟨by rfl, by rintro w' ⟨s0, s1, s2⟩; go_simp; with_reducible rfl⟩) ?_
     refine p1 2 (some 19) ?_
     refine p1 3 (some 20) ?_
     refine p1 4 (some 21) ?_
     refine p2 5 (some 22) ?_
     refine p2 6 (some 23) ?_
     refine p2 7 (some 24) ?_
     refine p2 8 (some 25) ?_
     refine p1 9 (some 26) ?_
     refine p1 10 (some 27) ?_
     refine p2 11 (some 28) ?_
     refine p2 12 (some 29) ?_
     refine p2 13 (some 30) ?_
     refine p2 14 (some 31) ?_
     refine p2 15 (some 32) ?_
     refine p2 16 (some 33) ?_
     refine p2 17 (some 34) ?_
     refine p2 18 (some 35) ?_
     refine p2 19 (some 36) ?_
     refine p2 20 (some 37) ?_
     refine p2 21 (some 38) ?_
     refine p2 22 (some 39) ?_
     refine p2 23 (some 40) ?_
     refine p2 24 (some 41) ?_
     refine p2 25 (some 42) ?_
     refine p2 26 (some 43) ?_
     refine p1 27 (some 44) ?_
     refine done_ (done_of HT_.out (by kernel_rfl)) ?_
     try go_wp2
     go_ret
     exact ⟨re_, bl⟩
    ·
     rw [if_neg c5] at H
     have c5b0 : ((((rd_T59 l0_0 x3_1).f2).length : Int) == 0) = false := beq_eq_false_iff_ne.mpr c5
     have c5b1 : ((((rd_T59 l0_0 x3_1).f2).length : Int) != 0) = true := bne_iff_ne.mpr c5
     have c5b2 : ¬ (((rd_T59 l0_0 x3_1).f2) = []) := fun h_ => c5 (by rw [h_]; rfl)
     obtain ⟨t353, A12, H⟩ := bs H
     try dsimp only at H
     by_cases c13 : t353 = true
     ·
      subst c13
      rw [if_pos rfl] at H
      by_cases c14 : x3_1 > 0
      ·
       rw [if_pos c14] at H
       have c14b0 : decide (0 < x3_1) = true := decide_eq_true c14
       clear c14
       obtain ⟨ji15, hji15⟩ : ∃ j_ : Int, (wrap64 (x3_1 - 1)) = j_ := ⟨_, rfl⟩
       (first | rw [hji15] at H | simp only [hji15] at H)
       (try rw [hji15] at A12)
       have hji15w : (IntKind.i64.wrap (x3_1 - 1)) = ji15 := (i64_w _).trans hji15
       obtain ⟨c16b0, H⟩ := gdd H
       obtain ⟨c17b0, H⟩ := gdd H
       obtain ⟨t355, A18, H⟩ := bs H
       try dsimp only at H
       by_cases c19 : t355 = true
       ·
        subst c19
        rw [if_pos rfl] at H
        have H' := Aside0.mk H
        clear H
        obtain ⟨hcz20_0, hfz20_0⟩ := z1 BK350
        have p351 : 0 ≤ (x3_1 : Int) := od
        have q351 : x3_1 < (l0_0.length : Int) := od
        obtain ⟨ad351, A351_2, c351_2, e351, hx351_0, hx351_1, hx351_2, hl351_2, hi351_2⟩ := at_T59 HR0_0.out x3_1 p351 q351
        cases e351
        replace hx351_0 := kc HB hx351_0
        replace hx351_1 := kc HB hx351_1
        replace hx351_2 := kc HB hx351_2
        have HR351_2 := Aside0.mk hi351_2
        have HC351_2 := Aside0.mk hl351_2
        clear hi351_2 hl351_2
        replace p351 := eq_true p351
        replace q351 := eq_true q351
        try go_wp2_with (first | ((with_reducible refine gate_dst (N := 4) rfl ?_); refine bx (N := 4) #[.int .i64 0, .string (⟨#[]⟩ : ByteArray), .slice none 0 0] 59 ?_; intro gb352 hg w21 hbox hb; have BK352 := Aside0.mk (hbox); have GW352 := gw hg bl; have GE352 := GW352; replace HB := Aside0.mk (below_step bl hb); have NB350_352 := Aside0.mk ((by rw [hg]; exact Nat.ne_of_lt (blk_lt (g := gb350) (o := .cells #[.slice (some ad351) l0_0.length c0_0] 24 (0, 0)) (uB BK350.out)) : gb350 ≠ gb352)); have NB352_350 := Aside0.mk ((by rw [hg]; exact Nat.ne_of_gt (blk_lt (g := gb350) (o := .cells #[.slice (some ad351) l0_0.length c0_0] 24 (0, 0)) (uB BK350.out)) : gb352 ≠ gb350)); replace BK350 := cB BK350 hb; clear hb hbox hg; have hnb22 := NB352_350.out; have hnc22 := NB350_352.out; obtain ⟨hcz23_0, hcz23_1, hcz23_2, hfz23_0, hfz23_1, hfz23_2⟩ := z3 BK352))
        have n0_ : Aside0 ((((w21.setCell ⟨gb352, 0, none⟩ (.int .i64 ((rd_T59 l0_0 x3_1).f0))).setCell ⟨gb352, 1, none⟩ (.string ((rd_T59 l0_0 x3_1).f1))).setCell ⟨gb352, 2, none⟩ (.slice A351_2 ((rd_T59 l0_0 x3_1).f2).length c351_2)).heap[gb350]? = some (.cells #[.slice (some ad351) l0_0.length c0_0] 24 (0, 0))) := ⟨by (with_reducible repeat (first | refine blk_drewN ?_ _ | refine blk_drew ?_ | refine blk_alloc ?_ _)); refine blk_far ?_ NB350_352.out _; (with_reducible repeat (first | refine blk_drewN ?_ _ | refine blk_drew ?_ | refine blk_alloc ?_ _)); refine blk_far ?_ NB350_352.out _; (with_reducible repeat (first | refine blk_drewN ?_ _ | refine blk_drew ?_ | refine blk_alloc ?_ _)); refine blk_far ?_ NB350_352.out _; exact uB <| BK350.out⟩
        have n1_ : Aside0 ((((w21.setCell ⟨gb352, 0, none⟩ (.int .i64 ((rd_T59 l0_0 x3_1).f0))).setCell ⟨gb352, 1, none⟩ (.string ((rd_T59 l0_0 x3_1).f1))).setCell ⟨gb352, 2, none⟩ (.slice A351_2 ((rd_T59 l0_0 x3_1).f2).length c351_2)).heap[gb352]? = some (.cells #[.int .i64 ((rd_T59 l0_0 x3_1).f0), .string ((rd_T59 l0_0 x3_1).f1), .slice A351_2 ((rd_T59 l0_0 x3_1).f2).length c351_2] 59 (0, 0))) := ⟨by (with_reducible repeat (first | refine blk_drewN ?_ _ | refine blk_drew ?_ | refine blk_alloc ?_ _)); refine blk_put (cs := #[.int .i64 ((rd_T59 l0_0 x3_1).f0), .string ((rd_T59 l0_0 x3_1).f1), .slice none 0 0]) ?_ 2 _ rfl; (with_reducible repeat (first | refine blk_drewN ?_ _ | refine blk_drew ?_ | refine blk_alloc ?_ _)); refine blk_put (cs := #[.int .i64 ((rd_T59 l0_0 x3_1).f0), .string (⟨#[]⟩ : ByteArray), .slice none 0 0]) ?_ 1 _ rfl; (with_reducible repeat (first | refine blk_drewN ?_ _ | refine blk_drew ?_ | refine blk_alloc ?_ _)); refine blk_put (cs := #[.int .i64 0, .string (⟨#[]⟩ : ByteArray), .slice none 0 0]) ?_ 0 _ rfl; exact uB <| BK352.out⟩
        have n2_ : Aside0 (Below w.heap.size w (((w21.setCell ⟨gb352, 0, none⟩ (.int .i64 ((rd_T59 l0_0 x3_1).f0))).setCell ⟨gb352, 1, none⟩ (.string ((rd_T59 l0_0 x3_1).f1))).setCell ⟨gb352, 2, none⟩ (.slice A351_2 ((rd_T59 l0_0 x3_1).f2).length c351_2))) := ⟨bl⟩
        (try clear BK350)
        (try clear BK352)
        (try clear HB)
        generalize (((w21.setCell ⟨gb352, 0, none⟩ (.int .i64 ((rd_T59 l0_0 x3_1).f0))).setCell ⟨gb352, 1, none⟩ (.string ((rd_T59 l0_0 x3_1).f1))).setCell ⟨gb352, 2, none⟩ (.slice A351_2 ((rd_T59 l0_0 x3_1).f2).length c351_2)) = w24 at n0_ n1_ n2_ ⊢
        have BK350 := n0_
        have BK352 := n1_
        have HB := n2_
        clear n0_ n1_ n2_
        replace BK350 := Aside0.mk (blk_drew BK350.out)
        replace BK352 := Aside0.mk (blk_drew BK352.out)
        replace HB := Aside0.mk (below_drew1 HB.out)
        have p354 : 0 ≤ ((ji15) : Int) := od
        have q354 : (ji15) < (l0_0.length : Int) := od
        obtain ⟨ad354, A354_2, c354_2, e354, hx354_0, hx354_1, hx354_2, hl354_2, hi354_2⟩ := at_T59 HR0_0.out (ji15) p354 q354
        have hw354_2 := hx354_2
        have hw354_1 := hx354_1
        have hw354_0 := hx354_0
        obtain rfl : ad351 = ad354 := (by injection e354)
        replace hx354_0 := kc HB hx354_0
        replace hx354_1 := kc HB hx354_1
        replace hx354_2 := kc HB hx354_2
        have HR354_2 := Aside0.mk hi354_2
        have HC354_2 := Aside0.mk hl354_2
        clear hi354_2 hl354_2
        replace p354 := eq_true p354
        replace q354 := eq_true q354
        refine start_ (n := 28) (S := fun w' => w'.cell? ⟨gb352, 0, none⟩ = some (.int .i64 ((rd_T59 l0_0 x3_1).f0)) ∧ w'.cell? ⟨gb352, 1, none⟩ = some (.string ((rd_T59 l0_0 x3_1).f1)) ∧ w'.cell? ⟨gb352, 2, none⟩ = some (.slice A351_2 ((rd_T59 l0_0 x3_1).f2).length c351_2) ∧ w'.cell? ⟨gb350, 0, none⟩ = some (.slice (some ad351) l0_0.length c0_0) ∧ w'.cell? (ad351.add (((ji15)).toNat * 3)) = some (.int .i64 ((rd_T59 l0_0 (ji15)).f0)) ∧ w'.cell? ⟨(ad351.add (((ji15)).toNat * 3)).block, (ad351.add (((ji15)).toNat * 3)).off + 1, none⟩ = some (.string ((rd_T59 l0_0 (ji15)).f1)) ∧ w'.cell? ⟨(ad351.add (((ji15)).toNat * 3)).block, (ad351.add (((ji15)).toNat * 3)).off + 2, none⟩ = some (.slice A354_2 ((rd_T59 l0_0 (ji15)).f2).length c354_2)) (ds := []) _ (by kernel_rfl) rfl rfl ⟨(blk_cell BK352.out 0).trans rfl, (blk_cell BK352.out 1).trans rfl, (blk_cell BK352.out 2).trans rfl, (blk_cell BK350.out 0).trans rfl, (kc HB hw354_0), (kc HB hw354_1), (kc HB hw354_2)⟩ (fun hHeld => ?_); refine with_tabW r11_Right.tab5 r11_Right.bits5 (fun HT_ HW_ => ?_)
        generalize w24.drew = w25 at BK350 BK352 HB HR354_2 hx354_0 hx354_1 hx354_2 hHeld ⊢
        refine p1 0 (some 17) ?_
        refine t1 1 (some 18) rfl rfl hHeld (Or.inl ⟨by rfl, by rintro w' ⟨s0, s1, s2, s3, s4, s5, s6⟩; go_simp; with_reducible rfl⟩) ?_
        refine p1 2 (some 19) ?_
        refine p1 3 (some 20) ?_
        refine p1 4 (some 21) ?_
        refine p1 5 (some 22) ?_
        refine t1 6 (some 23) rfl rfl hHeld (Or.inl ⟨by rfl, by rintro w' ⟨s0, s1, s2, s3, s4, s5, s6⟩; go_simp; with_reducible rfl⟩) ?_
        refine o1 7 (some 24) rfl rfl (fun K hK => ?_)
        refine gS Try.func34 #[.slice A351_2 ((rd_T59 l0_0 x3_1).f2).length c351_2] ?_
        with_reducible refine (r10_Right.calls k1 _ _ ((rd_T59 l0_0 x3_1).f2) true _ ?side1 ?side2 A12.out).mono ?_
        (case side1 => exact uC <| (Kd.C_below HR351_2.out HB.out))
        (case side2 => exact HC351_2.out)
        rintro e w' ⟨rfl, ⟨nd, rfl⟩⟩
        refine ⟨_, rfl, ?_⟩
        refine hK.out _ _ ⟨(blk_cell BK352.out 0).trans rfl, (blk_cell BK352.out 1).trans rfl, (blk_cell BK352.out 2).trans rfl, (blk_cell BK350.out 0).trans rfl, (kc HB hw354_0), (kc HB hw354_1), (kc HB hw354_2)⟩ (fun hHeld => ?_)
        clear hK K
        refine norm_ (a' := ?_) ?_ ?_
        rotate_left
        ·
         show Act.put _ (some 24) _ = _
         simp only [Act.put, List.setIfInBounds_toArray, List.set_cons_zero, List.set_cons_succ, i64_w, i32_w]
         rfl
        refine p1 8 (some 25) ?_
        refine p1 9 (some 26) ?_
        refine p1 10 (some 27) ?_
        refine p1 11 (some 28) ?_
        refine p1 12 (some 29) ?_
        refine p1 13 (some 30) ?_
        refine p1 14 (some 31) ?_
        refine p1 16 (some 33) ?_
        refine p1 17 (some 34) ?_
        refine p1 20 (some 37) ?_
        refine p1 22 (some 39) ?_
        refine t1 15 (some 32) rfl rfl hHeld (Or.inl ⟨by rfl, by rintro w' ⟨s0, s1, s2, s3, s4, s5, s6⟩; go_simp; with_reducible rfl⟩) ?_
        refine p1 18 (some 35) ?_
        refine t1 19 (some 36) rfl rfl hHeld (Or.inl ⟨by rfl, by rintro w' ⟨s0, s1, s2, s3, s4, s5, s6⟩; go_simp; with_reducible rfl⟩) ?_
        refine t1 21 (some 38) rfl rfl hHeld (Or.inl ⟨by rfl, by rintro w' ⟨s0, s1, s2, s3, s4, s5, s6⟩; go_simp; with_reducible rfl⟩) ?_
        refine t1 23 (some 40) rfl rfl hHeld (Or.inl ⟨by rfl, by rintro w' ⟨s0, s1, s2, s3, s4, s5, s6⟩; go_simp; with_reducible rfl⟩) ?_
        refine o1 24 (some 41) rfl rfl (fun K hK => ?_)
        refine goes_ Try.func30 (by kernel_rfl) rfl #[.agg #[.int .i64 ((rd_T59 l0_0 (ji15)).f0), .string ((rd_T59 l0_0 (ji15)).f1), .slice A354_2 ((rd_T59 l0_0 (ji15)).f2).length c354_2], .int .i64 ((rd_T59 l0_0 x3_1).f0), .string ((rd_T59 l0_0 x3_1).f1)] (by rfl) rfl rfl (by (try simp only [List.map_toArray, List.map_cons, List.map_nil]); first | done | (simp only [hji15]; rfl) | rfl | (simp only [List.length_drop, List.length_take]; rfl)) ?_
        with_reducible refine (r11_less.calls ((rd_T59 l0_0 (ji15)).f0) ((rd_T59 l0_0 (ji15)).f1) _ _ ((rd_T59 l0_0 (ji15)).f2) ((rd_T59 l0_0 x3_1).f0) ((rd_T59 l0_0 x3_1).f1) true _ ?side1 ?side2 A18.out).mono ?_
        (case side1 => exact (Kd.C_below HR354_2.out bl))
        (case side2 => exact HC354_2.out)
        rintro e w26 ⟨rfl, hb⟩
        refine ⟨_, rfl, ?_⟩
        replace BK350 := cB BK350 hb
        replace BK352 := cB BK352 hb
        replace HB := Aside0.mk (below_step bl hb)
        (try clear hb)
        refine hK.out _ _ ⟨(blk_cell BK352.out 0).trans rfl, (blk_cell BK352.out 1).trans rfl, (blk_cell BK352.out 2).trans rfl, (blk_cell BK350.out 0).trans rfl, (kc HB hw354_0), (kc HB hw354_1), (kc HB hw354_2)⟩ (fun hHeld => ?_)
        clear hK K
        refine norm_ (a' := ?_) ?_ ?_
        rotate_left
        ·
         show Act.put _ (some 41) _ = _
         simp only [Act.put, List.setIfInBounds_toArray, List.set_cons_zero, List.set_cons_succ, i64_w, i32_w]
         rfl
        refine p1 25 (some 42) ?_
        refine p1 26 (some 43) ?_
        refine p1 27 (some 44) ?_
        refine done_ (done_of HT_.out (by kernel_rfl)) ?_
        try go_wp2
        go_roundg k1
        case measure => have := HK1.out; omega
        case rel => exact ⟨(wrap64 (x3_1 + 1)), rs_, H', ⟨by have := HK1.out; omega⟩, ⟨uB BK350.out⟩, ⟨bl⟩⟩
       ·
        replace c19 := Bool.eq_false_iff.mpr c19
        subst c19
        rw [if_neg (show ¬ (false = true) by decide)] at H
        obtain rfl := Option.some.inj H
        obtain ⟨hcz27_0, hfz27_0⟩ := z1 BK350
        have p351 : 0 ≤ (x3_1 : Int) := od
        have q351 : x3_1 < (l0_0.length : Int) := od
        obtain ⟨ad351, A351_2, c351_2, e351, hx351_0, hx351_1, hx351_2, hl351_2, hi351_2⟩ := at_T59 HR0_0.out x3_1 p351 q351
        cases e351
        replace hx351_0 := kc HB hx351_0
        replace hx351_1 := kc HB hx351_1
        replace hx351_2 := kc HB hx351_2
        have HR351_2 := Aside0.mk hi351_2
        have HC351_2 := Aside0.mk hl351_2
        clear hi351_2 hl351_2
        replace p351 := eq_true p351
        replace q351 := eq_true q351
        try go_wp2_with (first | ((with_reducible refine gate_dst (N := 4) rfl ?_); refine bx (N := 4) #[.int .i64 0, .string (⟨#[]⟩ : ByteArray), .slice none 0 0] 59 ?_; intro gb352 hg w28 hbox hb; have BK352 := Aside0.mk (hbox); have GW352 := gw hg bl; have GE352 := GW352; replace HB := Aside0.mk (below_step bl hb); have NB350_352 := Aside0.mk ((by rw [hg]; exact Nat.ne_of_lt (blk_lt (g := gb350) (o := .cells #[.slice (some ad351) l0_0.length c0_0] 24 (0, 0)) (uB BK350.out)) : gb350 ≠ gb352)); have NB352_350 := Aside0.mk ((by rw [hg]; exact Nat.ne_of_gt (blk_lt (g := gb350) (o := .cells #[.slice (some ad351) l0_0.length c0_0] 24 (0, 0)) (uB BK350.out)) : gb352 ≠ gb350)); replace BK350 := cB BK350 hb; clear hb hbox hg; have hnb29 := NB352_350.out; have hnc29 := NB350_352.out; obtain ⟨hcz30_0, hcz30_1, hcz30_2, hfz30_0, hfz30_1, hfz30_2⟩ := z3 BK352))
        have n0_ : Aside0 ((((w28.setCell ⟨gb352, 0, none⟩ (.int .i64 ((rd_T59 l0_0 x3_1).f0))).setCell ⟨gb352, 1, none⟩ (.string ((rd_T59 l0_0 x3_1).f1))).setCell ⟨gb352, 2, none⟩ (.slice A351_2 ((rd_T59 l0_0 x3_1).f2).length c351_2)).heap[gb350]? = some (.cells #[.slice (some ad351) l0_0.length c0_0] 24 (0, 0))) := ⟨by (with_reducible repeat (first | refine blk_drewN ?_ _ | refine blk_drew ?_ | refine blk_alloc ?_ _)); refine blk_far ?_ NB350_352.out _; (with_reducible repeat (first | refine blk_drewN ?_ _ | refine blk_drew ?_ | refine blk_alloc ?_ _)); refine blk_far ?_ NB350_352.out _; (with_reducible repeat (first | refine blk_drewN ?_ _ | refine blk_drew ?_ | refine blk_alloc ?_ _)); refine blk_far ?_ NB350_352.out _; exact uB <| BK350.out⟩
        have n1_ : Aside0 ((((w28.setCell ⟨gb352, 0, none⟩ (.int .i64 ((rd_T59 l0_0 x3_1).f0))).setCell ⟨gb352, 1, none⟩ (.string ((rd_T59 l0_0 x3_1).f1))).setCell ⟨gb352, 2, none⟩ (.slice A351_2 ((rd_T59 l0_0 x3_1).f2).length c351_2)).heap[gb352]? = some (.cells #[.int .i64 ((rd_T59 l0_0 x3_1).f0), .string ((rd_T59 l0_0 x3_1).f1), .slice A351_2 ((rd_T59 l0_0 x3_1).f2).length c351_2] 59 (0, 0))) := ⟨by (with_reducible repeat (first | refine blk_drewN ?_ _ | refine blk_drew ?_ | refine blk_alloc ?_ _)); refine blk_put (cs := #[.int .i64 ((rd_T59 l0_0 x3_1).f0), .string ((rd_T59 l0_0 x3_1).f1), .slice none 0 0]) ?_ 2 _ rfl; (with_reducible repeat (first | refine blk_drewN ?_ _ | refine blk_drew ?_ | refine blk_alloc ?_ _)); refine blk_put (cs := #[.int .i64 ((rd_T59 l0_0 x3_1).f0), .string (⟨#[]⟩ : ByteArray), .slice none 0 0]) ?_ 1 _ rfl; (with_reducible repeat (first | refine blk_drewN ?_ _ | refine blk_drew ?_ | refine blk_alloc ?_ _)); refine blk_put (cs := #[.int .i64 0, .string (⟨#[]⟩ : ByteArray), .slice none 0 0]) ?_ 0 _ rfl; exact uB <| BK352.out⟩
        have n2_ : Aside0 (Below w.heap.size w (((w28.setCell ⟨gb352, 0, none⟩ (.int .i64 ((rd_T59 l0_0 x3_1).f0))).setCell ⟨gb352, 1, none⟩ (.string ((rd_T59 l0_0 x3_1).f1))).setCell ⟨gb352, 2, none⟩ (.slice A351_2 ((rd_T59 l0_0 x3_1).f2).length c351_2))) := ⟨bl⟩
        (try clear BK350)
        (try clear BK352)
        (try clear HB)
        generalize (((w28.setCell ⟨gb352, 0, none⟩ (.int .i64 ((rd_T59 l0_0 x3_1).f0))).setCell ⟨gb352, 1, none⟩ (.string ((rd_T59 l0_0 x3_1).f1))).setCell ⟨gb352, 2, none⟩ (.slice A351_2 ((rd_T59 l0_0 x3_1).f2).length c351_2)) = w31 at n0_ n1_ n2_ ⊢
        have BK350 := n0_
        have BK352 := n1_
        have HB := n2_
        clear n0_ n1_ n2_
        replace BK350 := Aside0.mk (blk_drew BK350.out)
        replace BK352 := Aside0.mk (blk_drew BK352.out)
        replace HB := Aside0.mk (below_drew1 HB.out)
        have p354 : 0 ≤ ((ji15) : Int) := od
        have q354 : (ji15) < (l0_0.length : Int) := od
        obtain ⟨ad354, A354_2, c354_2, e354, hx354_0, hx354_1, hx354_2, hl354_2, hi354_2⟩ := at_T59 HR0_0.out (ji15) p354 q354
        have hw354_2 := hx354_2
        have hw354_1 := hx354_1
        have hw354_0 := hx354_0
        obtain rfl : ad351 = ad354 := (by injection e354)
        replace hx354_0 := kc HB hx354_0
        replace hx354_1 := kc HB hx354_1
        replace hx354_2 := kc HB hx354_2
        have HR354_2 := Aside0.mk hi354_2
        have HC354_2 := Aside0.mk hl354_2
        clear hi354_2 hl354_2
        replace p354 := eq_true p354
        replace q354 := eq_true q354
        refine start_ (n := 28) (S := fun w' => w'.cell? ⟨gb352, 0, none⟩ = some (.int .i64 ((rd_T59 l0_0 x3_1).f0)) ∧ w'.cell? ⟨gb352, 1, none⟩ = some (.string ((rd_T59 l0_0 x3_1).f1)) ∧ w'.cell? ⟨gb352, 2, none⟩ = some (.slice A351_2 ((rd_T59 l0_0 x3_1).f2).length c351_2) ∧ w'.cell? ⟨gb350, 0, none⟩ = some (.slice (some ad351) l0_0.length c0_0) ∧ w'.cell? (ad351.add (((ji15)).toNat * 3)) = some (.int .i64 ((rd_T59 l0_0 (ji15)).f0)) ∧ w'.cell? ⟨(ad351.add (((ji15)).toNat * 3)).block, (ad351.add (((ji15)).toNat * 3)).off + 1, none⟩ = some (.string ((rd_T59 l0_0 (ji15)).f1)) ∧ w'.cell? ⟨(ad351.add (((ji15)).toNat * 3)).block, (ad351.add (((ji15)).toNat * 3)).off + 2, none⟩ = some (.slice A354_2 ((rd_T59 l0_0 (ji15)).f2).length c354_2)) (ds := []) _ (by kernel_rfl) rfl rfl ⟨(blk_cell BK352.out 0).trans rfl, (blk_cell BK352.out 1).trans rfl, (blk_cell BK352.out 2).trans rfl, (blk_cell BK350.out 0).trans rfl, (kc HB hw354_0), (kc HB hw354_1), (kc HB hw354_2)⟩ (fun hHeld => ?_); refine with_tabW r11_Right.tab5 r11_Right.bits5 (fun HT_ HW_ => ?_)
        generalize w31.drew = w32 at BK350 BK352 HB HR354_2 hx354_0 hx354_1 hx354_2 hHeld ⊢
        refine p1 0 (some 17) ?_
        refine t1 1 (some 18) rfl rfl hHeld (Or.inl ⟨by rfl, by rintro w' ⟨s0, s1, s2, s3, s4, s5, s6⟩; go_simp; with_reducible rfl⟩) ?_
        refine p1 2 (some 19) ?_
        refine p1 3 (some 20) ?_
        refine p1 4 (some 21) ?_
        refine p1 5 (some 22) ?_
        refine t1 6 (some 23) rfl rfl hHeld (Or.inl ⟨by rfl, by rintro w' ⟨s0, s1, s2, s3, s4, s5, s6⟩; go_simp; with_reducible rfl⟩) ?_
        refine o1 7 (some 24) rfl rfl (fun K hK => ?_)
        refine gS Try.func34 #[.slice A351_2 ((rd_T59 l0_0 x3_1).f2).length c351_2] ?_
        with_reducible refine (r10_Right.calls k1 _ _ ((rd_T59 l0_0 x3_1).f2) true _ ?side1 ?side2 A12.out).mono ?_
        (case side1 => exact uC <| (Kd.C_below HR351_2.out HB.out))
        (case side2 => exact HC351_2.out)
        rintro e w' ⟨rfl, ⟨nd, rfl⟩⟩
        refine ⟨_, rfl, ?_⟩
        refine hK.out _ _ ⟨(blk_cell BK352.out 0).trans rfl, (blk_cell BK352.out 1).trans rfl, (blk_cell BK352.out 2).trans rfl, (blk_cell BK350.out 0).trans rfl, (kc HB hw354_0), (kc HB hw354_1), (kc HB hw354_2)⟩ (fun hHeld => ?_)
        clear hK K
        refine norm_ (a' := ?_) ?_ ?_
        rotate_left
        ·
         show Act.put _ (some 24) _ = _
         simp only [Act.put, List.setIfInBounds_toArray, List.set_cons_zero, List.set_cons_succ, i64_w, i32_w]
         rfl
        refine p1 8 (some 25) ?_
        refine p1 9 (some 26) ?_
        refine p1 10 (some 27) ?_
        refine p1 11 (some 28) ?_
        refine p1 12 (some 29) ?_
        refine p1 13 (some 30) ?_
        refine p1 14 (some 31) ?_
        refine p1 16 (some 33) ?_
        refine p1 17 (some 34) ?_
        refine p1 20 (some 37) ?_
        refine p1 22 (some 39) ?_
        refine t1 15 (some 32) rfl rfl hHeld (Or.inl ⟨by rfl, by rintro w' ⟨s0, s1, s2, s3, s4, s5, s6⟩; go_simp; with_reducible rfl⟩) ?_
        refine p1 18 (some 35) ?_
        refine t1 19 (some 36) rfl rfl hHeld (Or.inl ⟨by rfl, by rintro w' ⟨s0, s1, s2, s3, s4, s5, s6⟩; go_simp; with_reducible rfl⟩) ?_
        refine t1 21 (some 38) rfl rfl hHeld (Or.inl ⟨by rfl, by rintro w' ⟨s0, s1, s2, s3, s4, s5, s6⟩; go_simp; with_reducible rfl⟩) ?_
        refine t1 23 (some 40) rfl rfl hHeld (Or.inl ⟨by rfl, by rintro w' ⟨s0, s1, s2, s3, s4, s5, s6⟩; go_simp; with_reducible rfl⟩) ?_
        refine o1 24 (some 41) rfl rfl (fun K hK => ?_)
        refine goes_ Try.func30 (by kernel_rfl) rfl #[.agg #[.int .i64 ((rd_T59 l0_0 (ji15)).f0), .string ((rd_T59 l0_0 (ji15)).f1), .slice A354_2 ((rd_T59 l0_0 (ji15)).f2).length c354_2], .int .i64 ((rd_T59 l0_0 x3_1).f0), .string ((rd_T59 l0_0 x3_1).f1)] (by rfl) rfl rfl (by (try simp only [List.map_toArray, List.map_cons, List.map_nil]); first | done | (simp only [hji15]; rfl) | rfl | (simp only [List.length_drop, List.length_take]; rfl)) ?_
        with_reducible refine (r11_less.calls ((rd_T59 l0_0 (ji15)).f0) ((rd_T59 l0_0 (ji15)).f1) _ _ ((rd_T59 l0_0 (ji15)).f2) ((rd_T59 l0_0 x3_1).f0) ((rd_T59 l0_0 x3_1).f1) false _ ?side1 ?side2 A18.out).mono ?_
        (case side1 => exact (Kd.C_below HR354_2.out bl))
        (case side2 => exact HC354_2.out)
        rintro e w33 ⟨rfl, hb⟩
        refine ⟨_, rfl, ?_⟩
        replace BK350 := cB BK350 hb
        replace BK352 := cB BK352 hb
        replace HB := Aside0.mk (below_step bl hb)
        (try clear hb)
        refine hK.out _ _ ⟨(blk_cell BK352.out 0).trans rfl, (blk_cell BK352.out 1).trans rfl, (blk_cell BK352.out 2).trans rfl, (blk_cell BK350.out 0).trans rfl, (kc HB hw354_0), (kc HB hw354_1), (kc HB hw354_2)⟩ (fun hHeld => ?_)
        clear hK K
        refine norm_ (a' := ?_) ?_ ?_
        rotate_left
        ·
         show Act.put _ (some 41) _ = _
         simp only [Act.put, List.setIfInBounds_toArray, List.set_cons_zero, List.set_cons_succ, i64_w, i32_w]
         rfl
        refine p1 25 (some 42) ?_
        refine p1 26 (some 43) ?_
        refine p1 27 (some 44) ?_
        refine done_ (done_of HT_.out (by kernel_rfl)) ?_
        try go_wp2
        go_ret
        exact ⟨by first | rfl | (simp [errW_none, errW_some] <;> rfl) | (simp only [← hji15]; first | rfl | (simp [errW_none, errW_some] <;> rfl)) | (simp [*, errW_none, errW_some] <;> rfl), bl⟩
      ·
       rw [if_neg c14] at H
       have c14b0 : decide (0 < x3_1) = false := decide_eq_false c14
       clear c14
       have H' := Aside0.mk H
       clear H
       obtain ⟨hcz34_0, hfz34_0⟩ := z1 BK350
       have p351 : 0 ≤ (x3_1 : Int) := od
       have q351 : x3_1 < (l0_0.length : Int) := od
       obtain ⟨ad351, A351_2, c351_2, e351, hx351_0, hx351_1, hx351_2, hl351_2, hi351_2⟩ := at_T59 HR0_0.out x3_1 p351 q351
       cases e351
       replace hx351_0 := kc HB hx351_0
       replace hx351_1 := kc HB hx351_1
       replace hx351_2 := kc HB hx351_2
       have HR351_2 := Aside0.mk hi351_2
       have HC351_2 := Aside0.mk hl351_2
       clear hi351_2 hl351_2
       replace p351 := eq_true p351
       replace q351 := eq_true q351
       try go_wp2_with (first | ((with_reducible refine gate_dst (N := 4) rfl ?_); refine bx (N := 4) #[.int .i64 0, .string (⟨#[]⟩ : ByteArray), .slice none 0 0] 59 ?_; intro gb352 hg w35 hbox hb; have BK352 := Aside0.mk (hbox); have GW352 := gw hg bl; have GE352 := GW352; replace HB := Aside0.mk (below_step bl hb); have NB350_352 := Aside0.mk ((by rw [hg]; exact Nat.ne_of_lt (blk_lt (g := gb350) (o := .cells #[.slice (some ad351) l0_0.length c0_0] 24 (0, 0)) (uB BK350.out)) : gb350 ≠ gb352)); have NB352_350 := Aside0.mk ((by rw [hg]; exact Nat.ne_of_gt (blk_lt (g := gb350) (o := .cells #[.slice (some ad351) l0_0.length c0_0] 24 (0, 0)) (uB BK350.out)) : gb352 ≠ gb350)); replace BK350 := cB BK350 hb; clear hb hbox hg; have hnb36 := NB352_350.out; have hnc36 := NB350_352.out; obtain ⟨hcz37_0, hcz37_1, hcz37_2, hfz37_0, hfz37_1, hfz37_2⟩ := z3 BK352))
       have n0_ : Aside0 ((((w35.setCell ⟨gb352, 0, none⟩ (.int .i64 ((rd_T59 l0_0 x3_1).f0))).setCell ⟨gb352, 1, none⟩ (.string ((rd_T59 l0_0 x3_1).f1))).setCell ⟨gb352, 2, none⟩ (.slice A351_2 ((rd_T59 l0_0 x3_1).f2).length c351_2)).heap[gb350]? = some (.cells #[.slice (some ad351) l0_0.length c0_0] 24 (0, 0))) := ⟨by (with_reducible repeat (first | refine blk_drewN ?_ _ | refine blk_drew ?_ | refine blk_alloc ?_ _)); refine blk_far ?_ NB350_352.out _; (with_reducible repeat (first | refine blk_drewN ?_ _ | refine blk_drew ?_ | refine blk_alloc ?_ _)); refine blk_far ?_ NB350_352.out _; (with_reducible repeat (first | refine blk_drewN ?_ _ | refine blk_drew ?_ | refine blk_alloc ?_ _)); refine blk_far ?_ NB350_352.out _; exact uB <| BK350.out⟩
       have n1_ : Aside0 ((((w35.setCell ⟨gb352, 0, none⟩ (.int .i64 ((rd_T59 l0_0 x3_1).f0))).setCell ⟨gb352, 1, none⟩ (.string ((rd_T59 l0_0 x3_1).f1))).setCell ⟨gb352, 2, none⟩ (.slice A351_2 ((rd_T59 l0_0 x3_1).f2).length c351_2)).heap[gb352]? = some (.cells #[.int .i64 ((rd_T59 l0_0 x3_1).f0), .string ((rd_T59 l0_0 x3_1).f1), .slice A351_2 ((rd_T59 l0_0 x3_1).f2).length c351_2] 59 (0, 0))) := ⟨by (with_reducible repeat (first | refine blk_drewN ?_ _ | refine blk_drew ?_ | refine blk_alloc ?_ _)); refine blk_put (cs := #[.int .i64 ((rd_T59 l0_0 x3_1).f0), .string ((rd_T59 l0_0 x3_1).f1), .slice none 0 0]) ?_ 2 _ rfl; (with_reducible repeat (first | refine blk_drewN ?_ _ | refine blk_drew ?_ | refine blk_alloc ?_ _)); refine blk_put (cs := #[.int .i64 ((rd_T59 l0_0 x3_1).f0), .string (⟨#[]⟩ : ByteArray), .slice none 0 0]) ?_ 1 _ rfl; (with_reducible repeat (first | refine blk_drewN ?_ _ | refine blk_drew ?_ | refine blk_alloc ?_ _)); refine blk_put (cs := #[.int .i64 0, .string (⟨#[]⟩ : ByteArray), .slice none 0 0]) ?_ 0 _ rfl; exact uB <| BK352.out⟩
       have n2_ : Aside0 (Below w.heap.size w (((w35.setCell ⟨gb352, 0, none⟩ (.int .i64 ((rd_T59 l0_0 x3_1).f0))).setCell ⟨gb352, 1, none⟩ (.string ((rd_T59 l0_0 x3_1).f1))).setCell ⟨gb352, 2, none⟩ (.slice A351_2 ((rd_T59 l0_0 x3_1).f2).length c351_2))) := ⟨bl⟩
       (try clear BK350)
       (try clear BK352)
       (try clear HB)
       generalize (((w35.setCell ⟨gb352, 0, none⟩ (.int .i64 ((rd_T59 l0_0 x3_1).f0))).setCell ⟨gb352, 1, none⟩ (.string ((rd_T59 l0_0 x3_1).f1))).setCell ⟨gb352, 2, none⟩ (.slice A351_2 ((rd_T59 l0_0 x3_1).f2).length c351_2)) = w38 at n0_ n1_ n2_ ⊢
       have BK350 := n0_
       have BK352 := n1_
       have HB := n2_
       clear n0_ n1_ n2_
       replace BK350 := Aside0.mk (blk_drew BK350.out)
       replace BK352 := Aside0.mk (blk_drew BK352.out)
       replace HB := Aside0.mk (below_drew1 HB.out)
       refine start_ (n := 28) (S := fun w' => w'.cell? ⟨gb352, 0, none⟩ = some (.int .i64 ((rd_T59 l0_0 x3_1).f0)) ∧ w'.cell? ⟨gb352, 1, none⟩ = some (.string ((rd_T59 l0_0 x3_1).f1)) ∧ w'.cell? ⟨gb352, 2, none⟩ = some (.slice A351_2 ((rd_T59 l0_0 x3_1).f2).length c351_2)) (ds := []) _ (by kernel_rfl) rfl rfl ⟨(blk_cell BK352.out 0).trans rfl, (blk_cell BK352.out 1).trans rfl, (blk_cell BK352.out 2).trans rfl⟩ (fun hHeld => ?_); refine with_tabW r11_Right.tab5 r11_Right.bits5 (fun HT_ HW_ => ?_)
       generalize w38.drew = w39 at BK350 BK352 HB hHeld ⊢
       refine p1 0 (some 17) ?_
       refine t1 1 (some 18) rfl rfl hHeld (Or.inl ⟨by rfl, by rintro w' ⟨s0, s1, s2⟩; go_simp; with_reducible rfl⟩) ?_
       refine p1 2 (some 19) ?_
       refine p1 3 (some 20) ?_
       refine p1 4 (some 21) ?_
       refine p1 5 (some 22) ?_
       refine t1 6 (some 23) rfl rfl hHeld (Or.inl ⟨by rfl, by rintro w' ⟨s0, s1, s2⟩; go_simp; with_reducible rfl⟩) ?_
       refine o1 7 (some 24) rfl rfl (fun K hK => ?_)
       refine gS Try.func34 #[.slice A351_2 ((rd_T59 l0_0 x3_1).f2).length c351_2] ?_
       with_reducible refine (r10_Right.calls k1 _ _ ((rd_T59 l0_0 x3_1).f2) true _ ?side1 ?side2 A12.out).mono ?_
       (case side1 => exact uC <| (Kd.C_below HR351_2.out HB.out))
       (case side2 => exact HC351_2.out)
       rintro e w' ⟨rfl, ⟨nd, rfl⟩⟩
       refine ⟨_, rfl, ?_⟩
       refine hK.out _ _ ⟨(blk_cell BK352.out 0).trans rfl, (blk_cell BK352.out 1).trans rfl, (blk_cell BK352.out 2).trans rfl⟩ (fun hHeld => ?_)
       clear hK K
       refine norm_ (a' := ?_) ?_ ?_
       rotate_left
       ·
        show Act.put _ (some 24) _ = _
        simp only [Act.put, List.setIfInBounds_toArray, List.set_cons_zero, List.set_cons_succ, i64_w, i32_w]
        rfl
       refine p1 8 (some 25) ?_
       refine p1 9 (some 26) ?_
       refine p1 10 (some 27) ?_
       refine p1 11 (some 28) ?_
       refine p1 12 (some 29) ?_
       refine p1 13 (some 30) ?_
       refine p2 14 (some 31) ?_
       refine p2 15 (some 32) ?_
       refine p2 16 (some 33) ?_
       refine p2 17 (some 34) ?_
       refine p2 18 (some 35) ?_
       refine p2 19 (some 36) ?_
       refine p2 20 (some 37) ?_
       refine p2 21 (some 38) ?_
       refine p2 22 (some 39) ?_
       refine p2 23 (some 40) ?_
       refine p2 24 (some 41) ?_
       refine p2 25 (some 42) ?_
       refine p1 26 (some 43) ?_
       refine p1 27 (some 44) ?_
       refine done_ (done_of HT_.out (by kernel_rfl)) ?_
       try go_wp2
       go_roundg k1
       case measure => have := HK1.out; omega
       case rel => exact ⟨(wrap64 (x3_1 + 1)), rs_, H', ⟨by have := HK1.out; omega⟩, ⟨uB BK350.out⟩, ⟨bl⟩⟩
     ·
      replace c13 := Bool.eq_false_iff.mpr c13
      subst c13
      rw [if_neg (show ¬ (false = true) by decide)] at H
      obtain rfl := Option.some.inj H
      obtain ⟨hcz40_0, hfz40_0⟩ := z1 BK350
      have p351 : 0 ≤ (x3_1 : Int) := od
      have q351 : x3_1 < (l0_0.length : Int) := od
      obtain ⟨ad351, A351_2, c351_2, e351, hx351_0, hx351_1, hx351_2, hl351_2, hi351_2⟩ := at_T59 HR0_0.out x3_1 p351 q351
      cases e351
      replace hx351_0 := kc HB hx351_0
      replace hx351_1 := kc HB hx351_1
      replace hx351_2 := kc HB hx351_2
      have HR351_2 := Aside0.mk hi351_2
      have HC351_2 := Aside0.mk hl351_2
      clear hi351_2 hl351_2
      replace p351 := eq_true p351
      replace q351 := eq_true q351
      try go_wp2_with (first | ((with_reducible refine gate_dst (N := 4) rfl ?_); refine bx (N := 4) #[.int .i64 0, .string (⟨#[]⟩ : ByteArray), .slice none 0 0] 59 ?_; intro gb352 hg w41 hbox hb; have BK352 := Aside0.mk (hbox); have GW352 := gw hg bl; have GE352 := GW352; replace HB := Aside0.mk (below_step bl hb); have NB350_352 := Aside0.mk ((by rw [hg]; exact Nat.ne_of_lt (blk_lt (g := gb350) (o := .cells #[.slice (some ad351) l0_0.length c0_0] 24 (0, 0)) (uB BK350.out)) : gb350 ≠ gb352)); have NB352_350 := Aside0.mk ((by rw [hg]; exact Nat.ne_of_gt (blk_lt (g := gb350) (o := .cells #[.slice (some ad351) l0_0.length c0_0] 24 (0, 0)) (uB BK350.out)) : gb352 ≠ gb350)); replace BK350 := cB BK350 hb; clear hb hbox hg; have hnb42 := NB352_350.out; have hnc42 := NB350_352.out; obtain ⟨hcz43_0, hcz43_1, hcz43_2, hfz43_0, hfz43_1, hfz43_2⟩ := z3 BK352))
      have n0_ : Aside0 ((((w41.setCell ⟨gb352, 0, none⟩ (.int .i64 ((rd_T59 l0_0 x3_1).f0))).setCell ⟨gb352, 1, none⟩ (.string ((rd_T59 l0_0 x3_1).f1))).setCell ⟨gb352, 2, none⟩ (.slice A351_2 ((rd_T59 l0_0 x3_1).f2).length c351_2)).heap[gb350]? = some (.cells #[.slice (some ad351) l0_0.length c0_0] 24 (0, 0))) := ⟨by (with_reducible repeat (first | refine blk_drewN ?_ _ | refine blk_drew ?_ | refine blk_alloc ?_ _)); refine blk_far ?_ NB350_352.out _; (with_reducible repeat (first | refine blk_drewN ?_ _ | refine blk_drew ?_ | refine blk_alloc ?_ _)); refine blk_far ?_ NB350_352.out _; (with_reducible repeat (first | refine blk_drewN ?_ _ | refine blk_drew ?_ | refine blk_alloc ?_ _)); refine blk_far ?_ NB350_352.out _; exact uB <| BK350.out⟩
      have n1_ : Aside0 ((((w41.setCell ⟨gb352, 0, none⟩ (.int .i64 ((rd_T59 l0_0 x3_1).f0))).setCell ⟨gb352, 1, none⟩ (.string ((rd_T59 l0_0 x3_1).f1))).setCell ⟨gb352, 2, none⟩ (.slice A351_2 ((rd_T59 l0_0 x3_1).f2).length c351_2)).heap[gb352]? = some (.cells #[.int .i64 ((rd_T59 l0_0 x3_1).f0), .string ((rd_T59 l0_0 x3_1).f1), .slice A351_2 ((rd_T59 l0_0 x3_1).f2).length c351_2] 59 (0, 0))) := ⟨by (with_reducible repeat (first | refine blk_drewN ?_ _ | refine blk_drew ?_ | refine blk_alloc ?_ _)); refine blk_put (cs := #[.int .i64 ((rd_T59 l0_0 x3_1).f0), .string ((rd_T59 l0_0 x3_1).f1), .slice none 0 0]) ?_ 2 _ rfl; (with_reducible repeat (first | refine blk_drewN ?_ _ | refine blk_drew ?_ | refine blk_alloc ?_ _)); refine blk_put (cs := #[.int .i64 ((rd_T59 l0_0 x3_1).f0), .string (⟨#[]⟩ : ByteArray), .slice none 0 0]) ?_ 1 _ rfl; (with_reducible repeat (first | refine blk_drewN ?_ _ | refine blk_drew ?_ | refine blk_alloc ?_ _)); refine blk_put (cs := #[.int .i64 0, .string (⟨#[]⟩ : ByteArray), .slice none 0 0]) ?_ 0 _ rfl; exact uB <| BK352.out⟩
      have n2_ : Aside0 (Below w.heap.size w (((w41.setCell ⟨gb352, 0, none⟩ (.int .i64 ((rd_T59 l0_0 x3_1).f0))).setCell ⟨gb352, 1, none⟩ (.string ((rd_T59 l0_0 x3_1).f1))).setCell ⟨gb352, 2, none⟩ (.slice A351_2 ((rd_T59 l0_0 x3_1).f2).length c351_2))) := ⟨bl⟩
      (try clear BK350)
      (try clear BK352)
      (try clear HB)
      generalize (((w41.setCell ⟨gb352, 0, none⟩ (.int .i64 ((rd_T59 l0_0 x3_1).f0))).setCell ⟨gb352, 1, none⟩ (.string ((rd_T59 l0_0 x3_1).f1))).setCell ⟨gb352, 2, none⟩ (.slice A351_2 ((rd_T59 l0_0 x3_1).f2).length c351_2)) = w44 at n0_ n1_ n2_ ⊢
      have BK350 := n0_
      have BK352 := n1_
      have HB := n2_
      clear n0_ n1_ n2_
      replace BK350 := Aside0.mk (blk_drew BK350.out)
      replace BK352 := Aside0.mk (blk_drew BK352.out)
      replace HB := Aside0.mk (below_drew1 HB.out)
      refine start_ (n := 28) (S := fun w' => w'.cell? ⟨gb352, 0, none⟩ = some (.int .i64 ((rd_T59 l0_0 x3_1).f0)) ∧ w'.cell? ⟨gb352, 1, none⟩ = some (.string ((rd_T59 l0_0 x3_1).f1)) ∧ w'.cell? ⟨gb352, 2, none⟩ = some (.slice A351_2 ((rd_T59 l0_0 x3_1).f2).length c351_2)) (ds := []) _ (by kernel_rfl) rfl rfl ⟨(blk_cell BK352.out 0).trans rfl, (blk_cell BK352.out 1).trans rfl, (blk_cell BK352.out 2).trans rfl⟩ (fun hHeld => ?_); refine with_tabW r11_Right.tab5 r11_Right.bits5 (fun HT_ HW_ => ?_)
      generalize w44.drew = w45 at BK350 BK352 HB hHeld ⊢
      refine p1 0 (some 17) ?_
      refine t1 1 (some 18) rfl rfl hHeld (Or.inl ⟨by rfl, by rintro w' ⟨s0, s1, s2⟩; go_simp; with_reducible rfl⟩) ?_
      refine p1 2 (some 19) ?_
      refine p1 3 (some 20) ?_
      refine p1 4 (some 21) ?_
      refine p1 5 (some 22) ?_
      refine t1 6 (some 23) rfl rfl hHeld (Or.inl ⟨by rfl, by rintro w' ⟨s0, s1, s2⟩; go_simp; with_reducible rfl⟩) ?_
      refine o1 7 (some 24) rfl rfl (fun K hK => ?_)
      refine gS Try.func34 #[.slice A351_2 ((rd_T59 l0_0 x3_1).f2).length c351_2] ?_
      with_reducible refine (r10_Right.calls k1 _ _ ((rd_T59 l0_0 x3_1).f2) false _ ?side1 ?side2 A12.out).mono ?_
      (case side1 => exact uC <| (Kd.C_below HR351_2.out HB.out))
      (case side2 => exact HC351_2.out)
      rintro e w' ⟨rfl, ⟨nd, rfl⟩⟩
      refine ⟨_, rfl, ?_⟩
      refine hK.out _ _ ⟨(blk_cell BK352.out 0).trans rfl, (blk_cell BK352.out 1).trans rfl, (blk_cell BK352.out 2).trans rfl⟩ (fun hHeld => ?_)
      clear hK K
      refine norm_ (a' := ?_) ?_ ?_
      rotate_left
      ·
       show Act.put _ (some 24) _ = _
       simp only [Act.put, List.setIfInBounds_toArray, List.set_cons_zero, List.set_cons_succ, i64_w, i32_w]
       rfl
      refine p1 8 (some 25) ?_
      refine p1 9 (some 26) ?_
      refine p1 10 (some 27) ?_
      refine p2 11 (some 28) ?_
      refine p2 12 (some 29) ?_
      refine p2 13 (some 30) ?_
      refine p2 14 (some 31) ?_
      refine p2 15 (some 32) ?_
      refine p2 16 (some 33) ?_
      refine p2 17 (some 34) ?_
      refine p2 18 (some 35) ?_
      refine p2 19 (some 36) ?_
      refine p2 20 (some 37) ?_
      refine p2 21 (some 38) ?_
      refine p2 22 (some 39) ?_
      refine p2 23 (some 40) ?_
      refine p2 24 (some 41) ?_
      refine p2 25 (some 42) ?_
      refine p2 26 (some 43) ?_
      refine p1 27 (some 44) ?_
      refine done_ (done_of HT_.out (by kernel_rfl)) ?_
      try go_wp2
      go_ret
      exact ⟨re_, bl⟩
   ·
    rw [if_neg c3] at H
    have c3b0 : decide (x3_1 < (l0_0.length : Int)) = false := decide_eq_false c3
    clear c3
    obtain rfl := Option.some.inj H
    obtain ⟨hcz46_0, hfz46_0⟩ := z1 BK350
    go_wp2
    go_ret
    exact ⟨re_, bl⟩
attribute [local go_sem high] eqA54
def r08_Items.l0 : Nat → List (S54) → List (S54) → Int → Option (Bool)
 | 0, _, _, _ => none
 | k + 1, x0, x1, x5 => if x5 < (x0.length : Int) then (if 0 ≤ x5 then (if x5 < (x1.length : Int) then (if (!(((rd_T54 x0 x5).f0) == ((rd_T54 x1 x5).f0)) || (!((((rd_T54 x0 x5).f1).toList) == (((rd_T54 x1 x5).f1).toList)) || ((!(((rd_T54 x0 x5).f2.f0) == ((rd_T54 x1 x5).f2.f0)) || ((!(((rd_T54 x0 x5).f2.f1.f0) == ((rd_T54 x1 x5).f2.f1.f0)) || (!(((rd_T54 x0 x5).f2.f1.f1) == ((rd_T54 x1 x5).f2.f1.f1)))) || (!(((rd_T54 x0 x5).f2.f2) == ((rd_T54 x1 x5).f2.f2)) || (!(((rd_T54 x0 x5).f2.f3) == ((rd_T54 x1 x5).f2.f3))))))))) = true then (some false) else (r08_Items.l0 k x0 x1 (wrap64 (x5 + 1)))) else (none)) else (none)) else (some true)
def r08_Items.f (k : Nat) (l0 : List (S54)) (l1 : List (S54)) : Option (Bool) := if (l0.length : Int) = (l1.length : Int) then (r08_Items.l0 k l0 l1 0) else (some false)
theorem r08_Items.mono_l : ∀ k, (∀ y0 y1 y2, LeC (r08_Items.l0 k y0 y1 y2) (r08_Items.l0 (k + 1) y0 y1 y2))
 | 0 => fun _ _ _ => ⟨fun r h => by simp [r08_Items.l0] at h⟩
 | k + 1 => by have ih0 := r08_Items.mono_l k; exact fun _ _ _ => by unfold r08_Items.l0; exact lm
theorem r08_Items.mono : ∀ a0 a1 k, LeO (r08_Items.f k a0 a1) (r08_Items.f (k + 1) a0 a1) := by
 intro a0 a1 k
 have ih0 := r08_Items.mono_l k
 unfold r08_Items.f
 exact lo
instance r08_Items.mI {a0 a1 k} : LeC (r08_Items.f k a0 a1) (r08_Items.f (k + 1) a0 a1) := ⟨r08_Items.mono _ _ _⟩
theorem r08_Items.calls (k : Nat) (A0 : Option Addr) (c0 : Nat) (l0 : List (S54)) (A1 : Option Addr) (c1 : Nat) (l1 : List (S54)) (r : Bool) (w : World) (hr0 : Kd.C k54 w A0 l0.length l0) (hc0 : l0.length ≤ c0) (hr1 : Kd.C k54 w A1 l1.length l1) (hc1 : l1.length ≤ c1) (h : r08_Items.f k l0 l1 = some r) :
 Calls Try.prog 17 #[.slice A0 l0.length c0, .slice A1 l1.length c1] w fun e w' => e = .returned (.bool r) ∧ Drawn0 w w' := by
 have hu54 := Try.underlying54
 have HR0 := Aside0.mk hr0
 have HC0 := Aside0.mk hc0
 clear hr0 hc0
 have HR1 := Aside0.mk hr1
 have HC1 := Aside0.mk hc1
 clear hr1 hc1
 have H : (if (l0.length : Int) = (l1.length : Int) then (r08_Items.l0 k l0 l1 0) else (some false)) = some r := h
 clear h
 by_cases c3 : (l0.length : Int) = (l1.length : Int)
 ·
  rw [if_pos c3] at H
  have c3b0 : ((l0.length : Int) == (l1.length : Int)) = true := beq_iff_eq.mpr c3
  have c3b1 : ((l0.length : Int) != (l1.length : Int)) = false := bne_eq_false_iff_eq.mpr c3
  have c3b2 : (l0.length == l1.length) = true := by first | simpa using c3 | (simp at c3 ⊢; omega)
  clear c3
  have H' := Aside0.mk H
  clear H
  go_enter Try.func17, Try.ntmps17
  go_wp2
  repeat (go_quiet (fail); try go_wp2)
  go_loopg [5] k (fun kq v5 w' => ∃ (x5_1 : Int), v5 = .int .i64 x5_1 ∧ Aside0 (r08_Items.l0 kq l0 l1 x5_1 = some r) ∧ Aside0 (kq ≤ k) ∧ Drawn0 w w')
  case atStart => exact ⟨(0), rs_, H', ⟨Nat.le_refl _⟩, dr_⟩
  case round =>
   clear H'
   try clear c1
   try clear p2
   try clear c3
   try clear c3b0
   try clear c3b1
   try clear c3b2
   obtain ⟨x5_1, rfl, HA, HK1, ⟨m1, rfl⟩⟩ := hrel
   cases gk with
   | zero => exact absurd HA.out (by simp [r08_Items.l0])
   | succ k1 =>
    have H := HA.out
    clear HA
    simp only [r08_Items.l0] at H
    by_cases c4 : x5_1 < (l0.length : Int)
    ·
     rw [if_pos c4] at H
     have c4b0 : decide (x5_1 < (l0.length : Int)) = true := decide_eq_true c4
     clear c4
     obtain ⟨c5b0, H⟩ := gdd H
     obtain ⟨c6b0, H⟩ := gdd H
     by_cases c7 : (!(((rd_T54 l0 x5_1).f0) == ((rd_T54 l1 x5_1).f0)) || (!((((rd_T54 l0 x5_1).f1).toList) == (((rd_T54 l1 x5_1).f1).toList)) || ((!(((rd_T54 l0 x5_1).f2.f0) == ((rd_T54 l1 x5_1).f2.f0)) || ((!(((rd_T54 l0 x5_1).f2.f1.f0) == ((rd_T54 l1 x5_1).f2.f1.f0)) || (!(((rd_T54 l0 x5_1).f2.f1.f1) == ((rd_T54 l1 x5_1).f2.f1.f1)))) || (!(((rd_T54 l0 x5_1).f2.f2) == ((rd_T54 l1 x5_1).f2.f2)) || (!(((rd_T54 l0 x5_1).f2.f3) == ((rd_T54 l1 x5_1).f2.f3))))))))) = true
     ·
      rw [if_pos c7] at H
      have c7b0 : (!(((rd_T54 l0 x5_1).f0) == ((rd_T54 l1 x5_1).f0)) || (!((((rd_T54 l0 x5_1).f1).toList) == (((rd_T54 l1 x5_1).f1).toList)) || ((!(((rd_T54 l0 x5_1).f2.f0) == ((rd_T54 l1 x5_1).f2.f0)) || ((!(((rd_T54 l0 x5_1).f2.f1.f0) == ((rd_T54 l1 x5_1).f2.f1.f0)) || (!(((rd_T54 l0 x5_1).f2.f1.f1) == ((rd_T54 l1 x5_1).f2.f1.f1)))) || (!(((rd_T54 l0 x5_1).f2.f2) == ((rd_T54 l1 x5_1).f2.f2)) || (!(((rd_T54 l0 x5_1).f2.f3) == ((rd_T54 l1 x5_1).f2.f3))))))))) = true := c7
      clear c7
      obtain rfl := Option.some.inj H
      have p356 : 0 ≤ (x5_1 : Int) := od
      have q356 : x5_1 < (l0.length : Int) := od
      obtain ⟨ad356, e356, hx356_0, hx356_1, hx356_2, hx356_3, hx356_4, hx356_5, hx356_6⟩ := at_T54 HR0.out x5_1 p356 q356
      cases e356
      replace p356 := eq_true p356
      replace q356 := eq_true q356
      have p357 : 0 ≤ (x5_1 : Int) := od
      have q357 : x5_1 < (l1.length : Int) := od
      obtain ⟨ad357, e357, hx357_0, hx357_1, hx357_2, hx357_3, hx357_4, hx357_5, hx357_6⟩ := at_T54 HR1.out x5_1 p357 q357
      cases e357
      replace p357 := eq_true p357
      replace q357 := eq_true q357
      go_wp2
      repeat (go_quiet (fail); try go_wp2)
      go_ret
      exact ⟨rs_, dr_⟩
     ·
      rw [if_neg c7] at H
      have c7b0 : (!(((rd_T54 l0 x5_1).f0) == ((rd_T54 l1 x5_1).f0)) || (!((((rd_T54 l0 x5_1).f1).toList) == (((rd_T54 l1 x5_1).f1).toList)) || ((!(((rd_T54 l0 x5_1).f2.f0) == ((rd_T54 l1 x5_1).f2.f0)) || ((!(((rd_T54 l0 x5_1).f2.f1.f0) == ((rd_T54 l1 x5_1).f2.f1.f0)) || (!(((rd_T54 l0 x5_1).f2.f1.f1) == ((rd_T54 l1 x5_1).f2.f1.f1)))) || (!(((rd_T54 l0 x5_1).f2.f2) == ((rd_T54 l1 x5_1).f2.f2)) || (!(((rd_T54 l0 x5_1).f2.f3) == ((rd_T54 l1 x5_1).f2.f3))))))))) = false := by simpa using c7
      clear c7
      have H' := Aside0.mk H
      clear H
      have p356 : 0 ≤ (x5_1 : Int) := od
      have q356 : x5_1 < (l0.length : Int) := od
      obtain ⟨ad356, e356, hx356_0, hx356_1, hx356_2, hx356_3, hx356_4, hx356_5, hx356_6⟩ := at_T54 HR0.out x5_1 p356 q356
      cases e356
      replace p356 := eq_true p356
      replace q356 := eq_true q356
      have p357 : 0 ≤ (x5_1 : Int) := od
      have q357 : x5_1 < (l1.length : Int) := od
      obtain ⟨ad357, e357, hx357_0, hx357_1, hx357_2, hx357_3, hx357_4, hx357_5, hx357_6⟩ := at_T54 HR1.out x5_1 p357 q357
      cases e357
      replace p357 := eq_true p357
      replace q357 := eq_true q357
      go_wp2
      repeat (go_quiet (fail); try go_wp2)
      go_roundg k1
      case measure => have := HK1.out; omega
      case rel => exact ⟨(wrap64 (x5_1 + 1)), rs_, H', ⟨by have := HK1.out; omega⟩, dr_⟩
    ·
     rw [if_neg c4] at H
     have c4b0 : decide (x5_1 < (l0.length : Int)) = false := decide_eq_false c4
     clear c4
     obtain rfl := Option.some.inj H
     go_wp2
     repeat (go_quiet (fail); try go_wp2)
     go_ret
     exact ⟨rs_, dr_⟩
 ·
  rw [if_neg c3] at H
  have c3b0 : ((l0.length : Int) == (l1.length : Int)) = false := beq_eq_false_iff_ne.mpr c3
  have c3b1 : ((l0.length : Int) != (l1.length : Int)) = true := bne_iff_ne.mpr c3
  have c3b2 : (l0.length == l1.length) = false := by first | simpa using c3 | (simp at c3 ⊢; omega)
  obtain rfl := Option.some.inj H
  go_enter Try.func17, Try.ntmps17
  go_wp2
  repeat (go_quiet (fail); try go_wp2)
  go_ret
  exact ⟨rs_, dr_⟩
end Go.Proofs.Ytofaindjbhmopaa.X
