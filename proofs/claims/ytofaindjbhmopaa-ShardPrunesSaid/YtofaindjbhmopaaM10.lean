/- Printed by a program of this session's own: what functions of the program compute, and that the machine computes it. No condition of its own. -/
import Derived.Test.YtofaindjbhmopaaM3
namespace Go.Proofs.Ytofaindjbhmopaa.X
open Go.RowKit Go.Proofs.YtofaindjbhmopaaW.PrintWords Go.Proofs.YtofaindjbhmopaaW.PrintLast Go.Proofs.YtofaindjbhmopaaW.PrintMore
attribute [local go_sem] max2_int min2_int max_two min_two max_three min_three max_four min_four
set_option linter.unusedVariables false
set_option linter.unusedSimpArgs false
set_option maxHeartbeats 8000000
set_option maxRecDepth 100000
def r11_Dropped.l0 : Nat → List (S39) → Int → Int → Int → Option (Bool)
 | 0, _, _, _, _ => none
 | k + 1, x0, x1, x2, x7 => if x7 < (x0.length : Int) then (if 0 ≤ x7 then (if ((rd_T39 x0 x7).f0) = x1 then (if ((rd_T39 x0 x7).f1) ≤ x2 then (some true) else (r11_Dropped.l0 k x0 x1 x2 (wrap64 (x7 + 1)))) else (r11_Dropped.l0 k x0 x1 x2 (wrap64 (x7 + 1)))) else (none)) else (some false)
def r11_Dropped.f (k : Nat) (l0 : List (S39)) (a1 : Int) (a2 : Int) : Option (Bool) := r11_Dropped.l0 k l0 a1 a2 0
theorem r11_Dropped.mono_l : ∀ k, (∀ y0 y1 y2 y3, LeC (r11_Dropped.l0 k y0 y1 y2 y3) (r11_Dropped.l0 (k + 1) y0 y1 y2 y3))
 | 0 => fun _ _ _ _ => ⟨fun r h => by simp [r11_Dropped.l0] at h⟩
 | k + 1 => by have ih0 := r11_Dropped.mono_l k; exact fun _ _ _ _ => by unfold r11_Dropped.l0; exact lm
theorem r11_Dropped.mono : ∀ a0 a1 a2 k, LeO (r11_Dropped.f k a0 a1 a2) (r11_Dropped.f (k + 1) a0 a1 a2) := by
 intro a0 a1 a2 k
 have ih0 := r11_Dropped.mono_l k
 unfold r11_Dropped.f
 exact lo
instance r11_Dropped.mI {a0 a1 a2 k} : LeC (r11_Dropped.f k a0 a1 a2) (r11_Dropped.f (k + 1) a0 a1 a2) := ⟨r11_Dropped.mono _ _ _ _⟩
theorem r11_Dropped.calls (k : Nat) (A0 : Option Addr) (c0 : Nat) (l0 : List (S39)) (a1 : Int) (a2 : Int) (r : Bool) (w : World) (hr0 : Kd.C k39 w A0 l0.length l0) (hc0 : l0.length ≤ c0) (h : r11_Dropped.f k l0 a1 a2 = some r) :
 Calls Try.prog 39 #[.slice A0 l0.length c0, .int .i64 a1, .int .i64 a2] w fun e w' => e = .returned (.bool r) ∧ Drawn0 w w' := by
 have HR0 := Aside0.mk hr0
 have HC0 := Aside0.mk hc0
 clear hr0 hc0
 have H : (r11_Dropped.l0 k l0 a1 a2 0) = some r := h
 clear h
 have H' := Aside0.mk H
 clear H
 go_enter Try.func39, Try.ntmps39
 go_wp2
 go_loopg [7] k (fun kq v7 w' => ∃ (x7_1 : Int), v7 = .int .i64 x7_1 ∧ Aside0 (r11_Dropped.l0 kq l0 a1 a2 x7_1 = some r) ∧ Aside0 (kq ≤ k) ∧ Drawn0 w w')
 case atStart => exact ⟨(0), rs_, H', ⟨Nat.le_refl _⟩, dr_⟩
 case round =>
  clear H'
  try clear p2
  try clear c3
  obtain ⟨x7_1, rfl, HA, HK1, ⟨m1, rfl⟩⟩ := hrel
  cases gk with
  | zero => exact absurd HA.out (by simp [r11_Dropped.l0])
  | succ k1 =>
   have H := HA.out
   clear HA
   simp only [r11_Dropped.l0] at H
   by_cases c4 : x7_1 < (l0.length : Int)
   ·
    rw [if_pos c4] at H
    have c4b0 : decide (x7_1 < (l0.length : Int)) = true := decide_eq_true c4
    clear c4
    obtain ⟨c5b0, H⟩ := gdd H
    by_cases c6 : ((rd_T39 l0 x7_1).f0) = a1
    ·
     rw [if_pos c6] at H
     have c6b0 : (((rd_T39 l0 x7_1).f0) == a1) = true := beq_iff_eq.mpr c6
     have c6b1 : (((rd_T39 l0 x7_1).f0) != a1) = false := bne_eq_false_iff_eq.mpr c6
     clear c6
     by_cases c7 : ((rd_T39 l0 x7_1).f1) ≤ a2
     ·
      rw [if_pos c7] at H
      have c7b0 : decide (((rd_T39 l0 x7_1).f1) ≤ a2) = true := decide_eq_true c7
      clear c7
      obtain rfl := Option.some.inj H
      have p358 : 0 ≤ (x7_1 : Int) := od
      have q358 : x7_1 < (l0.length : Int) := od
      obtain ⟨ad358, e358, hx358_0, hx358_1⟩ := at_T39 HR0.out x7_1 p358 q358
      cases e358
      replace p358 := eq_true p358
      replace q358 := eq_true q358
      have p359 : 0 ≤ (x7_1 : Int) := od
      have q359 : x7_1 < (l0.length : Int) := od
      obtain ⟨ad359, e359, hx359_0, hx359_1⟩ := at_T39 HR0.out x7_1 p359 q359
      obtain rfl : ad358 = ad359 := (by injection e359)
      replace p359 := eq_true p359
      replace q359 := eq_true q359
      go_wp2
      go_ret
      exact ⟨rs_, dr_⟩
     ·
      rw [if_neg c7] at H
      have c7b0 : decide (((rd_T39 l0 x7_1).f1) ≤ a2) = false := decide_eq_false c7
      clear c7
      have H' := Aside0.mk H
      clear H
      have p358 : 0 ≤ (x7_1 : Int) := od
      have q358 : x7_1 < (l0.length : Int) := od
      obtain ⟨ad358, e358, hx358_0, hx358_1⟩ := at_T39 HR0.out x7_1 p358 q358
      cases e358
      replace p358 := eq_true p358
      replace q358 := eq_true q358
      have p359 : 0 ≤ (x7_1 : Int) := od
      have q359 : x7_1 < (l0.length : Int) := od
      obtain ⟨ad359, e359, hx359_0, hx359_1⟩ := at_T39 HR0.out x7_1 p359 q359
      obtain rfl : ad358 = ad359 := (by injection e359)
      replace p359 := eq_true p359
      replace q359 := eq_true q359
      go_wp2
      go_roundg k1
      case measure => have := HK1.out; omega
      case rel => exact ⟨(wrap64 (x7_1 + 1)), rs_, H', ⟨by have := HK1.out; omega⟩, dr_⟩
    ·
     rw [if_neg c6] at H
     have c6b0 : (((rd_T39 l0 x7_1).f0) == a1) = false := beq_eq_false_iff_ne.mpr c6
     have c6b1 : (((rd_T39 l0 x7_1).f0) != a1) = true := bne_iff_ne.mpr c6
     have H' := Aside0.mk H
     clear H
     have p358 : 0 ≤ (x7_1 : Int) := od
     have q358 : x7_1 < (l0.length : Int) := od
     obtain ⟨ad358, e358, hx358_0, hx358_1⟩ := at_T39 HR0.out x7_1 p358 q358
     cases e358
     replace p358 := eq_true p358
     replace q358 := eq_true q358
     go_wp2
     go_roundg k1
     case measure => have := HK1.out; omega
     case rel => exact ⟨(wrap64 (x7_1 + 1)), rs_, H', ⟨by have := HK1.out; omega⟩, dr_⟩
   ·
    rw [if_neg c4] at H
    have c4b0 : decide (x7_1 < (l0.length : Int)) = false := decide_eq_false c4
    clear c4
    obtain rfl := Option.some.inj H
    go_wp2
    go_ret
    exact ⟨rs_, dr_⟩
mutual
def r10_Prune.l0 : Nat → List (S82) → Int → Int → Int → Option ((List (S82)))
 | 0, _, _, _, _ => none
 | k + 1, x0, x1, x5, x6 => if x6 < (x0.length : Int) then (if 0 ≤ x6 then (if ((rd_T82 x0 x6).f0) ≤ x1 then (r10_Prune.l0 k x0 x1 x6 (wrap64 (x6 + 1))) else (r10_Prune.l0 k x0 x1 x5 (wrap64 (x6 + 1)))) else (none)) else (r10_Prune.l1 k x0 x1 x5 ([] : List (S82)) 0)
def r10_Prune.l1 : Nat → List (S82) → Int → Int → List (S82) → Int → Option ((List (S82)))
 | 0, _, _, _, _, _ => none
 | k + 1, x0, x1, x5, x7, x8 => if x8 < (x0.length : Int) then (if 0 ≤ x8 then (if ((rd_T82 x0 x8).f0) > x1 then (if x7.length < 2932031007402 then (r10_Prune.l1 k x0 x1 x5 (x7 ++ [(⟨(rd_T82 x0 x8).f0, (⟨(rd_T82 x0 x8).f1.f0, (⟨(rd_T82 x0 x8).f1.f1.f0, (rd_T82 x0 x8).f1.f1.f1⟩ : S50), (rd_T82 x0 x8).f1.f2, (rd_T82 x0 x8).f1.f3⟩ : S52)⟩ : S82)]) (wrap64 (x8 + 1))) else (none)) else (if x8 = x5 then (if x7.length < 2932031007402 then (r10_Prune.l1 k x0 x1 x5 (x7 ++ [(⟨(rd_T82 x0 x8).f0, (⟨(rd_T82 x0 x8).f1.f0, (⟨(rd_T82 x0 x8).f1.f1.f0, (rd_T82 x0 x8).f1.f1.f1⟩ : S50), (rd_T82 x0 x8).f1.f2, (rd_T82 x0 x8).f1.f3⟩ : S52)⟩ : S82)]) (wrap64 (x8 + 1))) else (none)) else (r10_Prune.l1 k x0 x1 x5 x7 (wrap64 (x8 + 1))))) else (none)) else (some x7)
end
def r10_Prune.f (k : Nat) (l0 : List (S82)) (a1 : Int) : Option ((List (S82))) := r10_Prune.l0 k l0 a1 (-1) 0
theorem r10_Prune.mono_l : ∀ k, (∀ y0 y1 y2 y3, LeC (r10_Prune.l0 k y0 y1 y2 y3) (r10_Prune.l0 (k + 1) y0 y1 y2 y3)) ∧ (∀ y0 y1 y2 y3 y4, LeC (r10_Prune.l1 k y0 y1 y2 y3 y4) (r10_Prune.l1 (k + 1) y0 y1 y2 y3 y4))
 | 0 => ⟨fun _ _ _ _ => ⟨fun r h => by simp [r10_Prune.l0] at h⟩, fun _ _ _ _ _ => ⟨fun r h => by simp [r10_Prune.l1] at h⟩⟩
 | k + 1 => by obtain ⟨ih0, ih1⟩ := r10_Prune.mono_l k; exact ⟨fun _ _ _ _ => by unfold r10_Prune.l0; exact lm, fun _ _ _ _ _ => by unfold r10_Prune.l1; exact lm⟩
theorem r10_Prune.mono : ∀ a0 a1 k, LeO (r10_Prune.f k a0 a1) (r10_Prune.f (k + 1) a0 a1) := by
 intro a0 a1 k
 obtain ⟨ih0, ih1⟩ := r10_Prune.mono_l k
 unfold r10_Prune.f
 exact lo
instance r10_Prune.mI {a0 a1 k} : LeC (r10_Prune.f k a0 a1) (r10_Prune.f (k + 1) a0 a1) := ⟨r10_Prune.mono _ _ _⟩
theorem r10_Prune.calls (k : Nat) (A0 : Option Addr) (c0 : Nat) (l0 : List (S82)) (a1 : Int) (r : List (S82)) (w : World) (hr0 : Kd.C k82 w A0 l0.length l0) (hc0 : l0.length ≤ c0) (h : r10_Prune.f k l0 a1 = some r) :
 Calls Try.prog 41 #[.slice A0 l0.length c0, .int .i64 a1] w fun e w' => ∃ v0_ : Value, e = .returned (v0_) ∧ Kd.R k82 82 w' w.heap.size (fun _ => True) v0_ r ∧ Below w.heap.size w w' := by
 have hu82 := Try.underlying82
 have HR0 := Aside0.mk hr0
 have HC0 := Aside0.mk hc0
 clear hr0 hc0
 have HB := Aside0.mk (Below.refl w.heap.size w)
 have H : (r10_Prune.l0 k l0 a1 (-1) 0) = some r := h
 clear h
 have H' := Aside0.mk H
 clear H
 go_enter Try.func41, Try.ntmps41
 go_wp2
 go_loopg [5, 6] k (fun kq v5 v6 w' => ∃ (x5_1 : Int) (x6_1 : Int), v5 = .int .i64 x5_1 ∧ v6 = .int .i64 x6_1 ∧ Aside0 (r10_Prune.l0 kq l0 a1 x5_1 x6_1 = some r) ∧ Aside0 (kq ≤ k) ∧ Aside0 (Below w.heap.size w w'))
 case atStart => exact ⟨((-1)), (0), rs_, rs_, H', ⟨Nat.le_refl _⟩, ⟨uW HB.out⟩⟩
 case round =>
  clear H'
  try clear p2
  obtain ⟨x5_1, x6_1, rfl, rfl, HA, HK1, HB⟩ := hrel
  cases gk with
  | zero => exact absurd HA.out (by simp [r10_Prune.l0])
  | succ k1 =>
   have H := HA.out
   clear HA
   simp only [r10_Prune.l0] at H
   by_cases c3 : x6_1 < (l0.length : Int)
   ·
    rw [if_pos c3] at H
    have c3b0 : decide (x6_1 < (l0.length : Int)) = true := decide_eq_true c3
    clear c3
    obtain ⟨c4b0, H⟩ := gdd H
    by_cases c5 : ((rd_T82 l0 x6_1).f0) ≤ a1
    ·
     rw [if_pos c5] at H
     have c5b0 : decide (((rd_T82 l0 x6_1).f0) ≤ a1) = true := decide_eq_true c5
     clear c5
     have H' := Aside0.mk H
     clear H
     have p360 : 0 ≤ (x6_1 : Int) := od
     have q360 : x6_1 < (l0.length : Int) := od
     obtain ⟨ad360, e360, hx360_0, hx360_1, hx360_2, hx360_3, hx360_4, hx360_5⟩ := at_T82 HR0.out x6_1 p360 q360
     cases e360
     replace hx360_0 := kc HB hx360_0
     replace hx360_1 := kc HB hx360_1
     replace hx360_2 := kc HB hx360_2
     replace hx360_3 := kc HB hx360_3
     replace hx360_4 := kc HB hx360_4
     replace hx360_5 := kc HB hx360_5
     replace p360 := eq_true p360
     replace q360 := eq_true q360
     go_wp2
     go_roundg k1
     case measure => have := HK1.out; omega
     case rel => exact ⟨(x6_1), (wrap64 (x6_1 + 1)), rs_, rs_, H', ⟨by have := HK1.out; omega⟩, ⟨uW HB.out⟩⟩
    ·
     rw [if_neg c5] at H
     have c5b0 : decide (((rd_T82 l0 x6_1).f0) ≤ a1) = false := decide_eq_false c5
     clear c5
     have H' := Aside0.mk H
     clear H
     have p360 : 0 ≤ (x6_1 : Int) := od
     have q360 : x6_1 < (l0.length : Int) := od
     obtain ⟨ad360, e360, hx360_0, hx360_1, hx360_2, hx360_3, hx360_4, hx360_5⟩ := at_T82 HR0.out x6_1 p360 q360
     cases e360
     replace hx360_0 := kc HB hx360_0
     replace hx360_1 := kc HB hx360_1
     replace hx360_2 := kc HB hx360_2
     replace hx360_3 := kc HB hx360_3
     replace hx360_4 := kc HB hx360_4
     replace hx360_5 := kc HB hx360_5
     replace p360 := eq_true p360
     replace q360 := eq_true q360
     go_wp2
     go_roundg k1
     case measure => have := HK1.out; omega
     case rel => exact ⟨(x5_1), (wrap64 (x6_1 + 1)), rs_, rs_, H', ⟨by have := HK1.out; omega⟩, ⟨uW HB.out⟩⟩
   ·
    rw [if_neg c3] at H
    have c3b0 : decide (x6_1 < (l0.length : Int)) = false := decide_eq_false c3
    clear c3
    have H' := Aside0.mk H
    clear H
    go_wp2
    go_loopg [7, 8] k1 (fun kq v7 v8 w' => ∃ (x7_2 : List (S82)) (x8_2 : Int), v8 = .int .i64 x8_2 ∧ Aside0 (r10_Prune.l1 kq l0 a1 x5_1 x7_2 x8_2 = some r) ∧ Aside0 (kq ≤ k1) ∧ Aside0 (Kd.R k82 82 w' w.heap.size (fun _ => True) v7 x7_2) ∧ Aside0 (Below w.heap.size w w'))
    case atStart => exact ⟨(([] : List (S82))), (0), rs_, H', ⟨Nat.le_refl _⟩, ⟨nl_⟩, ⟨uW HB.out⟩⟩
    case round =>
     clear H'
     try clear p2
     try clear c3
     try clear c3b0
     try clear p3
     try clear q3
     try clear hx3
     try clear c4
     try clear c4b0
     try clear c5
     try clear c5b0
     try clear hx360_0
     try clear hx360_1
     try clear hx360_2
     try clear hx360_3
     try clear hx360_4
     try clear hx360_5
     try clear p2
     try clear p360
     try clear q360
     obtain ⟨x7_2, x8_2, rfl, HA, HK2, HO_7, HB⟩ := hrel
     cases gk with
     | zero => exact absurd HA.out (by simp [r10_Prune.l1])
     | succ k2 =>
      have H := HA.out
      clear HA
      simp only [r10_Prune.l1] at H
      by_cases c6 : x8_2 < (l0.length : Int)
      ·
       rw [if_pos c6] at H
       have c6b0 : decide (x8_2 < (l0.length : Int)) = true := decide_eq_true c6
       clear c6
       obtain ⟨c7b0, H⟩ := gdd H
       by_cases c8 : ((rd_T82 l0 x8_2).f0) > a1
       ·
        rw [if_pos c8] at H
        have c8b0 : decide (a1 < ((rd_T82 l0 x8_2).f0)) = true := decide_eq_true c8
        clear c8
        obtain ⟨c9, H⟩ := gd H
        have LMc9 := Aside0.mk c9
        clear c9
        obtain ⟨y363, hy363⟩ : ∃ y_ : List (S82), y_ = (x7_2 ++ [(⟨(rd_T82 l0 x8_2).f0, (⟨(rd_T82 l0 x8_2).f1.f0, (⟨(rd_T82 l0 x8_2).f1.f1.f0, (rd_T82 l0 x8_2).f1.f1.f1⟩ : S50), (rd_T82 l0 x8_2).f1.f2, (rd_T82 l0 x8_2).f1.f3⟩ : S52)⟩ : S82)]) := ⟨_, rfl⟩
        replace H : (r10_Prune.l1 k2 l0 a1 x5_1 y363 (wrap64 (x8_2 + 1))) = some r := by first | (rw [hy363]; with_reducible exact H) | (have H2_ := (Option.bind_some _ _).symm.trans H; rw [hy363]; with_reducible exact H2_) | (have H2_ := (Option.bind_some _ _).symm.trans H; with_reducible exact H2_) | with_reducible exact H | (rw [hy363]; exact H) | exact H
        have Ny363 := Aside0.mk hy363
        clear hy363
        have H' := Aside0.mk H
        clear H
        have p361 : 0 ≤ (x8_2 : Int) := od
        have q361 : x8_2 < (l0.length : Int) := od
        obtain ⟨ad361, e361, hx361_0, hx361_1, hx361_2, hx361_3, hx361_4, hx361_5⟩ := at_T82 HR0.out x8_2 p361 q361
        cases e361
        replace hx361_0 := kc HB hx361_0
        replace hx361_1 := kc HB hx361_1
        replace hx361_2 := kc HB hx361_2
        replace hx361_3 := kc HB hx361_3
        replace hx361_4 := kc HB hx361_4
        replace hx361_5 := kc HB hx361_5
        replace p361 := eq_true p361
        replace q361 := eq_true q361
        have p362 : 0 ≤ (x8_2 : Int) := od
        have q362 : x8_2 < (l0.length : Int) := od
        obtain ⟨ad362, e362, hx362_0, hx362_1, hx362_2, hx362_3, hx362_4, hx362_5⟩ := at_T82 HR0.out x8_2 p362 q362
        obtain rfl : ad361 = ad362 := (by injection e362)
        replace hx362_0 := kc HB hx362_0
        replace hx362_1 := kc HB hx362_1
        replace hx362_2 := kc HB hx362_2
        replace hx362_3 := kc HB hx362_3
        replace hx362_4 := kc HB hx362_4
        replace hx362_5 := kc HB hx362_5
        replace p362 := eq_true p362
        replace q362 := eq_true q362
        go_wp2_with (first | ((with_reducible refine gate_builtin (b := .append) (xs := #[.tmp 41, .tmp 46]) rfl ?_); at_builtin; refine Kd.R_append k82 (w0 := w) w.heap.size rfl (.tmp 41) (.tmp 46) 57 82 (.agg #[(.int .i64 0), (.int .i64 0), (.int .i64 0), (.bool false), (.int .i64 0), (.int .i64 0)]) 48 rfl Try.underlying57 info82 rfl (by decide) (by omega) u7 x7_2 (⟨(rd_T82 l0 x8_2).f0, (⟨(rd_T82 l0 x8_2).f1.f0, (⟨(rd_T82 l0 x8_2).f1.f1.f0, (rd_T82 l0 x8_2).f1.f1.f1⟩ : S50), (rd_T82 l0 x8_2).f1.f2, (rd_T82 l0 x8_2).f1.f3⟩ : S52)⟩ : S82) [.int .i64 ((rd_T82 l0 x8_2).f0), .int .i64 ((rd_T82 l0 x8_2).f1.f0), .int .i64 ((rd_T82 l0 x8_2).f1.f1.f0), .bool ((rd_T82 l0 x8_2).f1.f1.f1), .int .i64 ((rd_T82 l0 x8_2).f1.f2), .int .i64 ((rd_T82 l0 x8_2).f1.f3)] (fun _ => True) (fun _ => False) rfl rfl ?aP (fun _ hk => hk.elim) ?aF ?aO ?aB ?aS ?aL ?_; (case aP => exact k82_mkM _ _ _ (⟨(rd_T82 l0 x8_2).f0, (⟨(rd_T82 l0 x8_2).f1.f0, (⟨(rd_T82 l0 x8_2).f1.f1.f0, (rd_T82 l0 x8_2).f1.f1.f1⟩ : S50), (rd_T82 l0 x8_2).f1.f2, (rd_T82 l0 x8_2).f1.f3⟩ : S52)⟩ : S82)); (case aB => exact (uW HB.out)); (case aF => exact (fun _ _ => trivial)); (case aO => exact (uR HO_7.out)); (case aS => exact (below_size (uW HB.out))); (case aL => have := LMc9.out; omega); intro v364 w10 ho hb hg hat; rw [← Ny363.out] at ho; replace HB := Aside0.mk (hb); have HO365 := Aside0.mk (ho); clear HO_7; clear ho hb hg hat))
        go_roundg k2
        case measure => have := HK1.out; have := HK2.out; omega
        case rel => exact ⟨(y363), (wrap64 (x8_2 + 1)), rs_, H', ⟨by have := HK1.out; have := HK2.out; omega⟩, ⟨uR HO365.out⟩, ⟨uW HB.out⟩⟩
       ·
        rw [if_neg c8] at H
        have c8b0 : decide (a1 < ((rd_T82 l0 x8_2).f0)) = false := decide_eq_false c8
        clear c8
        by_cases c11 : x8_2 = x5_1
        ·
         rw [if_pos c11] at H
         have c11b0 : (x8_2 == x5_1) = true := beq_iff_eq.mpr c11
         have c11b1 : (x8_2 != x5_1) = false := bne_eq_false_iff_eq.mpr c11
         clear c11
         obtain ⟨c12, H⟩ := gd H
         have LMc12 := Aside0.mk c12
         clear c12
         obtain ⟨y367, hy367⟩ : ∃ y_ : List (S82), y_ = (x7_2 ++ [(⟨(rd_T82 l0 x8_2).f0, (⟨(rd_T82 l0 x8_2).f1.f0, (⟨(rd_T82 l0 x8_2).f1.f1.f0, (rd_T82 l0 x8_2).f1.f1.f1⟩ : S50), (rd_T82 l0 x8_2).f1.f2, (rd_T82 l0 x8_2).f1.f3⟩ : S52)⟩ : S82)]) := ⟨_, rfl⟩
         replace H : (r10_Prune.l1 k2 l0 a1 x5_1 y367 (wrap64 (x8_2 + 1))) = some r := by first | (rw [hy367]; with_reducible exact H) | (have H2_ := (Option.bind_some _ _).symm.trans H; rw [hy367]; with_reducible exact H2_) | (have H2_ := (Option.bind_some _ _).symm.trans H; with_reducible exact H2_) | with_reducible exact H | (rw [hy367]; exact H) | exact H
         have Ny367 := Aside0.mk hy367
         clear hy367
         have H' := Aside0.mk H
         clear H
         have p361 : 0 ≤ (x8_2 : Int) := od
         have q361 : x8_2 < (l0.length : Int) := od
         obtain ⟨ad361, e361, hx361_0, hx361_1, hx361_2, hx361_3, hx361_4, hx361_5⟩ := at_T82 HR0.out x8_2 p361 q361
         cases e361
         replace hx361_0 := kc HB hx361_0
         replace hx361_1 := kc HB hx361_1
         replace hx361_2 := kc HB hx361_2
         replace hx361_3 := kc HB hx361_3
         replace hx361_4 := kc HB hx361_4
         replace hx361_5 := kc HB hx361_5
         replace p361 := eq_true p361
         replace q361 := eq_true q361
         have p366 : 0 ≤ (x8_2 : Int) := od
         have q366 : x8_2 < (l0.length : Int) := od
         obtain ⟨ad366, e366, hx366_0, hx366_1, hx366_2, hx366_3, hx366_4, hx366_5⟩ := at_T82 HR0.out x8_2 p366 q366
         obtain rfl : ad361 = ad366 := (by injection e366)
         replace hx366_0 := kc HB hx366_0
         replace hx366_1 := kc HB hx366_1
         replace hx366_2 := kc HB hx366_2
         replace hx366_3 := kc HB hx366_3
         replace hx366_4 := kc HB hx366_4
         replace hx366_5 := kc HB hx366_5
         replace p366 := eq_true p366
         replace q366 := eq_true q366
         go_wp2_with (first | ((with_reducible refine gate_builtin (b := .append) (xs := #[.tmp 41, .tmp 46]) rfl ?_); at_builtin; refine Kd.R_append k82 (w0 := w) w.heap.size rfl (.tmp 41) (.tmp 46) 57 82 (.agg #[(.int .i64 0), (.int .i64 0), (.int .i64 0), (.bool false), (.int .i64 0), (.int .i64 0)]) 48 rfl Try.underlying57 info82 rfl (by decide) (by omega) u7 x7_2 (⟨(rd_T82 l0 x8_2).f0, (⟨(rd_T82 l0 x8_2).f1.f0, (⟨(rd_T82 l0 x8_2).f1.f1.f0, (rd_T82 l0 x8_2).f1.f1.f1⟩ : S50), (rd_T82 l0 x8_2).f1.f2, (rd_T82 l0 x8_2).f1.f3⟩ : S52)⟩ : S82) [.int .i64 ((rd_T82 l0 x8_2).f0), .int .i64 ((rd_T82 l0 x8_2).f1.f0), .int .i64 ((rd_T82 l0 x8_2).f1.f1.f0), .bool ((rd_T82 l0 x8_2).f1.f1.f1), .int .i64 ((rd_T82 l0 x8_2).f1.f2), .int .i64 ((rd_T82 l0 x8_2).f1.f3)] (fun _ => True) (fun _ => False) rfl rfl ?aP (fun _ hk => hk.elim) ?aF ?aO ?aB ?aS ?aL ?_; (case aP => exact k82_mkM _ _ _ (⟨(rd_T82 l0 x8_2).f0, (⟨(rd_T82 l0 x8_2).f1.f0, (⟨(rd_T82 l0 x8_2).f1.f1.f0, (rd_T82 l0 x8_2).f1.f1.f1⟩ : S50), (rd_T82 l0 x8_2).f1.f2, (rd_T82 l0 x8_2).f1.f3⟩ : S52)⟩ : S82)); (case aB => exact (uW HB.out)); (case aF => exact (fun _ _ => trivial)); (case aO => exact (uR HO_7.out)); (case aS => exact (below_size (uW HB.out))); (case aL => have := LMc12.out; omega); intro v368 w13 ho hb hg hat; rw [← Ny367.out] at ho; replace HB := Aside0.mk (hb); have HO369 := Aside0.mk (ho); clear HO_7; clear ho hb hg hat))
         go_roundg k2
         case measure => have := HK1.out; have := HK2.out; omega
         case rel => exact ⟨(y367), (wrap64 (x8_2 + 1)), rs_, H', ⟨by have := HK1.out; have := HK2.out; omega⟩, ⟨uR HO369.out⟩, ⟨uW HB.out⟩⟩
        ·
         rw [if_neg c11] at H
         have c11b0 : (x8_2 == x5_1) = false := beq_eq_false_iff_ne.mpr c11
         have c11b1 : (x8_2 != x5_1) = true := bne_iff_ne.mpr c11
         have H' := Aside0.mk H
         clear H
         have p361 : 0 ≤ (x8_2 : Int) := od
         have q361 : x8_2 < (l0.length : Int) := od
         obtain ⟨ad361, e361, hx361_0, hx361_1, hx361_2, hx361_3, hx361_4, hx361_5⟩ := at_T82 HR0.out x8_2 p361 q361
         cases e361
         replace hx361_0 := kc HB hx361_0
         replace hx361_1 := kc HB hx361_1
         replace hx361_2 := kc HB hx361_2
         replace hx361_3 := kc HB hx361_3
         replace hx361_4 := kc HB hx361_4
         replace hx361_5 := kc HB hx361_5
         replace p361 := eq_true p361
         replace q361 := eq_true q361
         go_wp2
         go_roundg k2
         case measure => have := HK1.out; have := HK2.out; omega
         case rel => exact ⟨(x7_2), (wrap64 (x8_2 + 1)), rs_, H', ⟨by have := HK1.out; have := HK2.out; omega⟩, ⟨uR HO_7.out⟩, ⟨uW HB.out⟩⟩
      ·
       rw [if_neg c6] at H
       have c6b0 : decide (x8_2 < (l0.length : Int)) = false := decide_eq_false c6
       clear c6
       obtain rfl := Option.some.inj H
       go_wp2
       go_ret
       exact ⟨_, re_, uR HO_7.out, uW HB.out⟩
def r11_Prune.l0 : Nat → Int → List (S39) → List (S59) → Int → List (S59) → Option ((List (S59)))
 | 0, _, _, _, _, _ => none
 | k + 1, x1, x2, x7, x8, x371000 => if x8 < (x371000.length : Int) then (if 0 ≤ x8 then ((r11_Dropped.f k x2 ((rd_T59 x371000 x8).f0) x1).bind fun t374 => (if t374 = true then (r11_Prune.l0 k x1 x2 x7 (wrap64 (x8 + 1)) x371000) else ((r10_Prune.f k ((rd_T59 x371000 x8).f2) x1).bind fun t375 => (if x7.length < 2932031007402 then (r11_Prune.l0 k x1 x2 (x7 ++ [(⟨(rd_T59 x371000 x8).f0, (rd_T59 x371000 x8).f1, t375⟩ : S59)]) (wrap64 (x8 + 1)) x371000) else (none))))) else (none)) else (some x7)
def r11_Prune.f (k : Nat) (l0_0 : List (S59)) (a1 : Int) (l2 : List (S39)) : Option ((List (S59))) := r11_Prune.l0 k a1 l2 ([] : List (S59)) 0 l0_0
theorem r11_Prune.mono_l : ∀ k, (∀ y0 y1 y2 y3 y4, LeC (r11_Prune.l0 k y0 y1 y2 y3 y4) (r11_Prune.l0 (k + 1) y0 y1 y2 y3 y4))
 | 0 => fun _ _ _ _ _ => ⟨fun r h => by simp [r11_Prune.l0] at h⟩
 | k + 1 => by have ih0 := r11_Prune.mono_l k; exact fun _ _ _ _ _ => by unfold r11_Prune.l0; exact lm
theorem r11_Prune.mono : ∀ a0 a1 a2 k, LeO (r11_Prune.f k a0 a1 a2) (r11_Prune.f (k + 1) a0 a1 a2) := by
 intro a0 a1 a2 k
 have ih0 := r11_Prune.mono_l k
 unfold r11_Prune.f
 exact lo
instance r11_Prune.mI {a0 a1 a2 k} : LeC (r11_Prune.f k a0 a1 a2) (r11_Prune.f (k + 1) a0 a1 a2) := ⟨r11_Prune.mono _ _ _ _⟩
theorem r11_Prune.calls (k : Nat) (A0_0 : Option Addr) (c0_0 : Nat) (l0_0 : List (S59)) (a1 : Int) (A2 : Option Addr) (c2 : Nat) (l2 : List (S39)) (r : List (S59)) (w : World) (hr0_0 : Kd.C k59 w A0_0 l0_0.length l0_0) (hc0_0 : l0_0.length ≤ c0_0) (hr2 : Kd.C k39 w A2 l2.length l2) (hc2 : l2.length ≤ c2) (h : r11_Prune.f k l0_0 a1 l2 = some r) :
 Calls Try.prog 22 #[.agg #[.slice A0_0 l0_0.length c0_0], .int .i64 a1, .slice A2 l2.length c2] w fun e w' => ∃ v0_ : Value, e = .returned (.agg #[v0_]) ∧ Kd.S k59 59 w' w.heap.size (fun _ => True) v0_ r ∧ Below w.heap.size w w' := by
 have hu24 := Try.underlying24
 have hu59 := Try.underlying59
 have HR0_0 := Aside0.mk hr0_0
 have HC0_0 := Aside0.mk hc0_0
 clear hr0_0 hc0_0
 have HR2 := Aside0.mk hr2
 have HC2 := Aside0.mk hc2
 clear hr2 hc2
 have HB := Aside0.mk (Below.refl w.heap.size w)
 have H : (r11_Prune.l0 k a1 l2 ([] : List (S59)) 0 l0_0) = some r := h
 clear h
 have H' := Aside0.mk H
 clear H
 go_enter Try.func22, Try.ntmps22
 go_wp2_with (first | ((with_reducible refine gate_dst (N := 3) rfl ?_); refine bx (N := 3) #[.slice A0_0 l0_0.length c0_0] 24 ?_; intro gb370 hg w4 hbox hb; have BK370 := Aside0.mk (hbox); have GW370 := gw hg (uW HB.out); have GE370 := GW370; replace HB := cW HB hb; clear hb hbox hg) | ((with_reducible refine gate_dst (N := 6) rfl ?_); refine bx (N := 6) #[.slice none 0 0] 24 ?_; intro gb371 hg w5 hbox hb; have BK371 := Aside0.mk (hbox); have GW371 := gw hg bl; have GE371 := GW371; replace HB := Aside0.mk (below_step bl hb); have NB370_371 := Aside0.mk ((by rw [hg]; exact Nat.ne_of_lt (blk_lt (g := gb370) (o := .cells #[.slice A0_0 l0_0.length c0_0] 24 (0, 0)) (uB BK370.out)) : gb370 ≠ gb371)); have NB371_370 := Aside0.mk ((by rw [hg]; exact Nat.ne_of_gt (blk_lt (g := gb370) (o := .cells #[.slice A0_0 l0_0.length c0_0] 24 (0, 0)) (uB BK370.out)) : gb371 ≠ gb370)); replace BK370 := cB BK370 hb; clear hb hbox hg))
 go_loopg [7, 8] k (fun kq v7 v8 w' => ∃ (x7_1 : List (S59)) (x8_1 : Int), v8 = .int .i64 x8_1 ∧ Aside0 (r11_Prune.l0 kq a1 l2 x7_1 x8_1 l0_0 = some r) ∧ Aside0 (kq ≤ k) ∧ Aside0 (Kd.S k59 59 w' w.heap.size (fun _ => True) v7 x7_1) ∧ Aside0 (w'.heap[gb370]? = some (.cells #[(.slice A0_0 l0_0.length c0_0)] 24 (0, 0))) ∧ Aside0 (w'.heap[gb371]? = some (.cells #[(.slice none 0 0)] 24 (0, 0))) ∧ Aside0 (Below w.heap.size w w'))
 case atStart => exact ⟨(([] : List (S59))), (0), rs_, H', ⟨Nat.le_refl _⟩, ⟨by first | exact Kd.S_nil _ _ _ _ _ | exact Kd.N_nil _ _ _ _ _ | exact Kd.V_nil _ _ _ _ _ | exact Kd.Q_nil _ _ _ _ _ | exact Kd.R_nil _ _ _ _ _⟩, ⟨uB BK370.out⟩, ⟨uB BK371.out⟩, ⟨bl⟩⟩
 case round =>
  clear H'
  try clear c2
  try clear p2
  obtain ⟨x7_1, x8_1, rfl, HA, HK1, HO_7, BK370, BK371, HB⟩ := hrel
  cases gk with
  | zero => exact absurd HA.out (by simp [r11_Prune.l0])
  | succ k1 =>
   have H := HA.out
   clear HA
   simp only [r11_Prune.l0] at H
   by_cases c6 : x8_1 < (l0_0.length : Int)
   ·
    rw [if_pos c6] at H
    have c6b0 : decide (x8_1 < (l0_0.length : Int)) = true := decide_eq_true c6
    clear c6
    obtain ⟨c7b0, H⟩ := gdd H
    obtain ⟨t374, A8, H⟩ := bs H
    try dsimp only at H
    by_cases c9 : t374 = true
    ·
     subst c9
     rw [if_pos rfl] at H
     have H' := Aside0.mk H
     clear H
     have hnb10 := NB370_371.out
     have hnc10 := NB371_370.out
     obtain ⟨hcz11_0, hfz11_0⟩ := z1 BK370
     have p372 : 0 ≤ (x8_1 : Int) := od
     have q372 : x8_1 < (l0_0.length : Int) := od
     obtain ⟨ad372, A372_2, c372_2, e372, hx372_0, hx372_1, hx372_2, hl372_2, hi372_2⟩ := at_T59 HR0_0.out x8_1 p372 q372
     cases e372
     replace hx372_0 := kc HB hx372_0
     replace hx372_1 := kc HB hx372_1
     replace hx372_2 := kc HB hx372_2
     have HR372_2 := Aside0.mk hi372_2
     have HC372_2 := Aside0.mk hl372_2
     clear hi372_2 hl372_2
     replace p372 := eq_true p372
     replace q372 := eq_true q372
     go_wp2_with (first | ((with_reducible refine gate_dst (N := 9) rfl ?_); refine bx (N := 9) #[.int .i64 0, .string (⟨#[]⟩ : ByteArray), .slice none 0 0] 59 ?_; intro gb373 hg w12 hbox hb; replace HO_7 := Aside0.mk (Kd.S_below (Kd.S_elderB (uS HO_7.out) gb373 (Nat.le_of_eq hg.symm)) hb); have BK373 := Aside0.mk (hbox); have GW373 := gw hg bl; have GE373 := GW373; replace HB := Aside0.mk (below_step bl hb); have NB370_373 := Aside0.mk ((by rw [hg]; exact Nat.ne_of_lt (blk_lt (g := gb370) (o := .cells #[.slice (some ad372) l0_0.length c0_0] 24 (0, 0)) (uB BK370.out)) : gb370 ≠ gb373)); have NB373_370 := Aside0.mk ((by rw [hg]; exact Nat.ne_of_gt (blk_lt (g := gb370) (o := .cells #[.slice (some ad372) l0_0.length c0_0] 24 (0, 0)) (uB BK370.out)) : gb373 ≠ gb370)); replace BK370 := cB BK370 hb; have NB371_373 := Aside0.mk ((by rw [hg]; exact Nat.ne_of_lt (blk_lt (g := gb371) (o := .cells #[.slice none 0 0] 24 (0, 0)) (uB BK371.out)) : gb371 ≠ gb373)); have NB373_371 := Aside0.mk ((by rw [hg]; exact Nat.ne_of_gt (blk_lt (g := gb371) (o := .cells #[.slice none 0 0] 24 (0, 0)) (uB BK371.out)) : gb373 ≠ gb371)); replace BK371 := cB BK371 hb; clear hb hbox hg; have hnb13 := NB373_370.out; have hnc13 := NB370_373.out; have hnb14 := NB373_371.out; have hnc14 := NB371_373.out; obtain ⟨hcz15_0, hcz15_1, hcz15_2, hfz15_0, hfz15_1, hfz15_2⟩ := z3 BK373) | (refine gL (some 26) rfl Try.func39 #[.slice A2 l2.length c2, .int .i64 ((rd_T59 l0_0 x8_1).f0), .int .i64 a1] ?_; (with_reducible refine (r11_Dropped.calls k1 _ _ l2 ((rd_T59 l0_0 x8_1).f0) a1 true _ ?side1 ?side2 A8.out).mono ?_); (case side1 => exact Kd.C_below HR2.out bl); (case side2 => exact HC2.out); rintro e w' ⟨rfl, ⟨nd, rfl⟩⟩; refine ⟨_, rfl, ?_⟩))
     go_roundg k1
     case measure => have := HK1.out; omega
     case rel => exact ⟨(x7_1), (wrap64 (x8_1 + 1)), rs_, H', ⟨by have := HK1.out; omega⟩, ⟨by exact uS <| Kd.S_mono (Kd.S_far (p := ⟨gb373, 2, none⟩) (Kd.S_far (p := ⟨gb373, 1, none⟩) (Kd.S_far (p := ⟨gb373, 0, none⟩) (Kd.S_mono HO_7.out (fun k_ hk => (⟨hk, hk.2⟩ : _ ∧ k_ ≠ gb373))) (fun _ hk => hk.2) (.int .i64 ((rd_T59 l0_0 x8_1).f0))) (fun _ hk => hk.2) (.string ((rd_T59 l0_0 x8_1).f1))) (fun _ hk => hk.2) (.slice A372_2 ((rd_T59 l0_0 x8_1).f2).length c372_2)) (fun _ hk => trivial)⟩, ⟨by (with_reducible repeat (first | refine blk_drewN ?_ _ | refine blk_drew ?_ | refine blk_alloc ?_ _)); refine blk_far ?_ NB370_373.out _; (with_reducible repeat (first | refine blk_drewN ?_ _ | refine blk_drew ?_ | refine blk_alloc ?_ _)); refine blk_far ?_ NB370_373.out _; (with_reducible repeat (first | refine blk_drewN ?_ _ | refine blk_drew ?_ | refine blk_alloc ?_ _)); refine blk_far ?_ NB370_373.out _; exact uB <| BK370.out⟩, ⟨by (with_reducible repeat (first | refine blk_drewN ?_ _ | refine blk_drew ?_ | refine blk_alloc ?_ _)); refine blk_far ?_ NB371_373.out _; (with_reducible repeat (first | refine blk_drewN ?_ _ | refine blk_drew ?_ | refine blk_alloc ?_ _)); refine blk_far ?_ NB371_373.out _; (with_reducible repeat (first | refine blk_drewN ?_ _ | refine blk_drew ?_ | refine blk_alloc ?_ _)); refine blk_far ?_ NB371_373.out _; exact uB <| BK371.out⟩, ⟨bl⟩⟩
    ·
     replace c9 := Bool.eq_false_iff.mpr c9
     subst c9
     rw [if_neg (show ¬ (false = true) by decide)] at H
     obtain ⟨t375, A16, H⟩ := bs H
     try dsimp only at H
     obtain ⟨c17, H⟩ := gd H
     have LMc17 := Aside0.mk c17
     clear c17
     obtain ⟨y378, hy378⟩ : ∃ y_ : List (S59), y_ = (x7_1 ++ [(⟨(rd_T59 l0_0 x8_1).f0, (rd_T59 l0_0 x8_1).f1, t375⟩ : S59)]) := ⟨_, rfl⟩
     replace H : (r11_Prune.l0 k1 a1 l2 y378 (wrap64 (x8_1 + 1)) l0_0) = some r := by first | (rw [hy378]; with_reducible exact H) | (have H2_ := (Option.bind_some _ _).symm.trans H; rw [hy378]; with_reducible exact H2_) | (have H2_ := (Option.bind_some _ _).symm.trans H; with_reducible exact H2_) | with_reducible exact H | (rw [hy378]; exact H) | exact H
     have Ny378 := Aside0.mk hy378
     clear hy378
     have H' := Aside0.mk H
     clear H
     have hnb18 := NB370_371.out
     have hnc18 := NB371_370.out
     obtain ⟨hcz19_0, hfz19_0⟩ := z1 BK370
     have p372 : 0 ≤ (x8_1 : Int) := od
     have q372 : x8_1 < (l0_0.length : Int) := od
     obtain ⟨ad372, A372_2, c372_2, e372, hx372_0, hx372_1, hx372_2, hl372_2, hi372_2⟩ := at_T59 HR0_0.out x8_1 p372 q372
     cases e372
     replace hx372_0 := kc HB hx372_0
     replace hx372_1 := kc HB hx372_1
     replace hx372_2 := kc HB hx372_2
     have HR372_2 := Aside0.mk hi372_2
     have HC372_2 := Aside0.mk hl372_2
     clear hi372_2 hl372_2
     replace p372 := eq_true p372
     replace q372 := eq_true q372
     go_wp2_with (first | ((with_reducible refine gate_dst (N := 9) rfl ?_); refine bx (N := 9) #[.int .i64 0, .string (⟨#[]⟩ : ByteArray), .slice none 0 0] 59 ?_; intro gb373 hg w20 hbox hb; replace HO_7 := Aside0.mk (Kd.S_below (Kd.S_elderB (uS HO_7.out) gb373 (Nat.le_of_eq hg.symm)) hb); have BK373 := Aside0.mk (hbox); have GW373 := gw hg bl; have GE373 := GW373; replace HB := Aside0.mk (below_step bl hb); have NB370_373 := Aside0.mk ((by rw [hg]; exact Nat.ne_of_lt (blk_lt (g := gb370) (o := .cells #[.slice (some ad372) l0_0.length c0_0] 24 (0, 0)) (uB BK370.out)) : gb370 ≠ gb373)); have NB373_370 := Aside0.mk ((by rw [hg]; exact Nat.ne_of_gt (blk_lt (g := gb370) (o := .cells #[.slice (some ad372) l0_0.length c0_0] 24 (0, 0)) (uB BK370.out)) : gb373 ≠ gb370)); replace BK370 := cB BK370 hb; have NB371_373 := Aside0.mk ((by rw [hg]; exact Nat.ne_of_lt (blk_lt (g := gb371) (o := .cells #[.slice none 0 0] 24 (0, 0)) (uB BK371.out)) : gb371 ≠ gb373)); have NB373_371 := Aside0.mk ((by rw [hg]; exact Nat.ne_of_gt (blk_lt (g := gb371) (o := .cells #[.slice none 0 0] 24 (0, 0)) (uB BK371.out)) : gb373 ≠ gb371)); replace BK371 := cB BK371 hb; clear hb hbox hg; have hnb21 := NB373_370.out; have hnc21 := NB370_373.out; have hnb22 := NB373_371.out; have hnc22 := NB371_373.out; obtain ⟨hcz23_0, hcz23_1, hcz23_2, hfz23_0, hfz23_1, hfz23_2⟩ := z3 BK373) | (refine gL (some 26) rfl Try.func39 #[.slice A2 l2.length c2, .int .i64 ((rd_T59 l0_0 x8_1).f0), .int .i64 a1] ?_; (with_reducible refine (r11_Dropped.calls k1 _ _ l2 ((rd_T59 l0_0 x8_1).f0) a1 false _ ?side1 ?side2 A8.out).mono ?_); (case side1 => exact Kd.C_below HR2.out bl); (case side2 => exact HC2.out); rintro e w' ⟨rfl, ⟨nd, rfl⟩⟩; refine ⟨_, rfl, ?_⟩) | (refine gL (some 30) rfl Try.func41 #[.slice A372_2 ((rd_T59 l0_0 x8_1).f2).length c372_2, .int .i64 a1] ?_; (with_reducible refine (r10_Prune.calls k1 _ _ ((rd_T59 l0_0 x8_1).f2) a1 t375 _ ?side1 ?side2 A16.out).mono ?_); (case side1 => exact Kd.C_below HR372_2.out bl); (case side2 => exact HC372_2.out); rintro e w24 ⟨v376, rfl, ho0, hb⟩; refine ⟨_, rfl, ?_⟩; replace HO_7 := Aside0.mk (Kd.S_elder' (by exact uS <| (Kd.S_mono (Kd.S_far (p := ⟨gb373, 2, none⟩) (Kd.S_far (p := ⟨gb373, 1, none⟩) (Kd.S_far (p := ⟨gb373, 0, none⟩) (Kd.S_mono HO_7.out (fun k_ hk => (⟨hk, hk.2⟩ : _ ∧ k_ ≠ gb373))) (fun _ hk => hk.2) (.int .i64 ((rd_T59 l0_0 x8_1).f0))) (fun _ hk => hk.2) (.string ((rd_T59 l0_0 x8_1).f1))) (fun _ hk => hk.2) (.slice A372_2 ((rd_T59 l0_0 x8_1).f2).length c372_2)) (fun _ h_ => h_.1))) (Kd.R_base ho0) hb); have HO377 := Aside0.mk (Kd.R_lower ho0 (below_size bl)); replace BK370 := Aside0.mk (blk_below (g := gb370) (o := .cells #[.slice (some ad372) l0_0.length c0_0] 24 (0, 0)) (by (with_reducible repeat (first | refine blk_drewN ?_ _ | refine blk_drew ?_ | refine blk_alloc ?_ _)); refine blk_far ?_ NB370_373.out _; (with_reducible repeat (first | refine blk_drewN ?_ _ | refine blk_drew ?_ | refine blk_alloc ?_ _)); refine blk_far ?_ NB370_373.out _; (with_reducible repeat (first | refine blk_drewN ?_ _ | refine blk_drew ?_ | refine blk_alloc ?_ _)); refine blk_far ?_ NB370_373.out _; exact uB <| BK370.out) hb); replace BK371 := Aside0.mk (blk_below (g := gb371) (o := .cells #[.slice none 0 0] 24 (0, 0)) (by (with_reducible repeat (first | refine blk_drewN ?_ _ | refine blk_drew ?_ | refine blk_alloc ?_ _)); refine blk_far ?_ NB371_373.out _; (with_reducible repeat (first | refine blk_drewN ?_ _ | refine blk_drew ?_ | refine blk_alloc ?_ _)); refine blk_far ?_ NB371_373.out _; (with_reducible repeat (first | refine blk_drewN ?_ _ | refine blk_drew ?_ | refine blk_alloc ?_ _)); refine blk_far ?_ NB371_373.out _; exact uB <| BK371.out) hb); replace BK373 := Aside0.mk (blk_below (g := gb373) (o := .cells #[.int .i64 ((rd_T59 l0_0 x8_1).f0), .string ((rd_T59 l0_0 x8_1).f1), .slice A372_2 ((rd_T59 l0_0 x8_1).f2).length c372_2] 59 (0, 0)) (by (with_reducible repeat (first | refine blk_drewN ?_ _ | refine blk_drew ?_ | refine blk_alloc ?_ _)); refine blk_put (cs := #[.int .i64 ((rd_T59 l0_0 x8_1).f0), .string ((rd_T59 l0_0 x8_1).f1), .slice none 0 0]) ?_ 2 _ rfl; (with_reducible repeat (first | refine blk_drewN ?_ _ | refine blk_drew ?_ | refine blk_alloc ?_ _)); refine blk_put (cs := #[.int .i64 ((rd_T59 l0_0 x8_1).f0), .string (⟨#[]⟩ : ByteArray), .slice none 0 0]) ?_ 1 _ rfl; (with_reducible repeat (first | refine blk_drewN ?_ _ | refine blk_drew ?_ | refine blk_alloc ?_ _)); refine blk_put (cs := #[.int .i64 0, .string (⟨#[]⟩ : ByteArray), .slice none 0 0]) ?_ 0 _ rfl; exact uB <| BK373.out) hb); replace HB := Aside0.mk (below_step bl hb); (try clear hb); (try clear ho0); obtain ⟨Ao25, co25, eo25⟩ := Kd.R_slice HO377.out; subst eo25; obtain ⟨hcz26_0, hcz26_1, hcz26_2, hfz26_0, hfz26_1, hfz26_2⟩ := z3 BK373) | ((with_reducible refine gate_store (t := 57) (p := 31) rfl ?_); refine store_event (t := 57) (p := 31) (v := ?vo_w27) (w1 := (w24.setCell ⟨gb373, 2, none⟩ (.slice Ao25 t375.length co25))) ?hg ?ho ?hn ?hr ?_; (case ho => rfl); (case hg => rfl); (case hn => rfl); (case hr => first | (go_simp; done) | (go_simp; rfl)); intro w27 hw; have n0_ : Aside0 (Kd.S k59 59 w27 w.heap.size (fun k_ => some k_ ≠ (.slice Ao25 t375.length co25 : Value).ownBlock ∧ k_ ≠ gb373) u7 x7_1) := ⟨(by rw [hw]; exact (by exact uS <| Kd.S_mono (Kd.S_far (p := ⟨gb373, 2, none⟩) (Kd.S_mono HO_7.out (fun k_ hk => (⟨hk, hk.1.2⟩ : _ ∧ k_ ≠ gb373))) (fun _ hk => hk.2) (.slice Ao25 t375.length co25)) (fun _ hk => ⟨hk.1.2, hk.1.1.2⟩)))⟩; have n1_ : Aside0 (Kd.R k82 82 w27 w.heap.size (fun _ => True) (.slice Ao25 t375.length co25) t375) := ⟨(by rw [hw]; exact (by exact uR <| Kd.R_mono (Kd.R_far (p := ⟨gb373, 2, none⟩) (Kd.R_types HO377.out BK373.out (by decide)) (fun _ hk => hk.2) (.slice Ao25 t375.length co25)) (fun _ hk => trivial)))⟩; have n2_ : Aside0 (w27.heap[gb370]? = some (.cells #[.slice (some ad372) l0_0.length c0_0] 24 (0, 0))) := ⟨(by rw [hw]; exact (by (with_reducible repeat (first | refine blk_drewN ?_ _ | refine blk_drew ?_ | refine blk_alloc ?_ _)); refine blk_far ?_ NB370_373.out _; exact uB <| BK370.out))⟩; have n3_ : Aside0 (w27.heap[gb371]? = some (.cells #[.slice none 0 0] 24 (0, 0))) := ⟨(by rw [hw]; exact (by (with_reducible repeat (first | refine blk_drewN ?_ _ | refine blk_drew ?_ | refine blk_alloc ?_ _)); refine blk_far ?_ NB371_373.out _; exact uB <| BK371.out))⟩; have n4_ : Aside0 (w27.heap[gb373]? = some (.cells #[.int .i64 ((rd_T59 l0_0 x8_1).f0), .string ((rd_T59 l0_0 x8_1).f1), .slice Ao25 t375.length co25] 59 (0, 0))) := ⟨(by rw [hw]; exact (by (with_reducible repeat (first | refine blk_drewN ?_ _ | refine blk_drew ?_ | refine blk_alloc ?_ _)); refine blk_put (cs := #[.int .i64 ((rd_T59 l0_0 x8_1).f0), .string ((rd_T59 l0_0 x8_1).f1), .slice A372_2 ((rd_T59 l0_0 x8_1).f2).length c372_2]) ?_ 2 _ rfl; exact uB <| BK373.out))⟩; have n5_ : Aside0 (Below w.heap.size w w27) := ⟨(by rw [hw]; exact bl)⟩; clear hw; clear HO_7; clear HO377; clear BK370; clear BK371; clear BK373; clear HB; have HO_7 := n0_; have HO377 := n1_; have BK370 := n2_; have BK371 := n3_; have BK373 := n4_; have HB := n5_; clear n0_ n1_ n2_ n3_ n4_ n5_; obtain ⟨hcz28_0, hcz28_1, hcz28_2, hfz28_0, hfz28_1, hfz28_2⟩ := z3 BK373) | ((with_reducible refine gate_builtin (b := .append) (xs := #[.tmp 32, .tmp 34]) rfl ?_); at_builtin; refine Kd.S_append k59 (w0 := w) w.heap.size rfl (.tmp 32) (.tmp 34) 22 59 (.agg #[(.int .i64 0), (.string ⟨#[]⟩), (.slice none 0 0)]) 48 rfl Try.underlying22 info59 rfl (by decide) (by omega) u7 x7_1 (⟨(rd_T59 l0_0 x8_1).f0, (rd_T59 l0_0 x8_1).f1, t375⟩ : S59) [.int .i64 ((rd_T59 l0_0 x8_1).f0), .string ((rd_T59 l0_0 x8_1).f1), .slice Ao25 t375.length co25] (fun k_ => k_ ≠ gb373) (fun k_ => some k_ = (.slice Ao25 t375.length co25 : Value).ownBlock) rfl rfl ?aP (fun k_ hk_ => ((Kd.R_mono (ok' := fun k_ => ((fun k_ => k_ ≠ gb373)) k_ ∧ some k_ ≠ (u7 : Value).ownBlock) (Kd.R_types (Kd.R_apart' (HO377.out) (Kd.S_typed HO_7.out) (by decide)) BK373.out (by decide)) (fun k_ hk => ⟨hk.2, hk.1.2⟩))).1 k_ hk_.symm) ?aF ?aO ?aB ?aS ?aL ?_; (case aP => exact k59_mkM _ _ _ (⟨(rd_T59 l0_0 x8_1).f0, (rd_T59 l0_0 x8_1).f1, t375⟩ : S59) (Kd.R_mono (Kd.R_tight rfl (Kd.R_mono (ok' := fun k_ => ((fun k_ => k_ ≠ gb373)) k_ ∧ some k_ ≠ (u7 : Value).ownBlock) (Kd.R_types (Kd.R_apart' (HO377.out) (Kd.S_typed HO_7.out) (by decide)) BK373.out (by decide)) (fun k_ hk => ⟨hk.2, hk.1.2⟩))) (fun _ h_ => h_))); (case aB => exact bl); (case aF => exact (fun k_ hk => Kd.freshB (g := gb373) (o := .cells #[.int .i64 ((rd_T59 l0_0 x8_1).f0), .string ((rd_T59 l0_0 x8_1).f1), .slice Ao25 t375.length co25] 59 (0, 0)) (uB BK373.out) k_ hk)); (case aO => exact (by exact uS <| Kd.S_mono HO_7.out (fun k_ hk => ⟨hk.2, fun e_ => hk.1 e_⟩))); (case aS => exact (below_size bl)); (case aL => have := LMc17.out; omega); intro v379 w29 ho hb hg hat; rw [← Ny378.out] at ho; replace BK370 := Aside0.mk (blk_grown (g := gb370) (o := .cells #[.slice (some ad372) l0_0.length c0_0] 24 (0, 0)) (uB BK370.out) hg (Kd.S_ne HO_7.out BK370.out (by decide))); replace BK371 := Aside0.mk (blk_grown (g := gb371) (o := .cells #[.slice none 0 0] 24 (0, 0)) (uB BK371.out) hg (Kd.S_ne HO_7.out BK371.out (by decide))); replace BK373 := Aside0.mk (blk_grown (g := gb373) (o := .cells #[.int .i64 ((rd_T59 l0_0 x8_1).f0), .string ((rd_T59 l0_0 x8_1).f1), .slice Ao25 t375.length co25] 59 (0, 0)) (uB BK373.out) hg (Kd.S_away HO_7.out (fun _ hk => hk.2))); replace HB := Aside0.mk (hb); have HO380 := Aside0.mk (ho); clear HO_7; clear HO377; clear ho hb hg hat))
     go_roundg k1
     case measure => have := HK1.out; omega
     case rel => exact ⟨(y378), (wrap64 (x8_1 + 1)), rs_, H', ⟨by have := HK1.out; omega⟩, ⟨by exact uS <| Kd.S_mono HO380.out (fun _ hk => trivial)⟩, ⟨uB BK370.out⟩, ⟨uB BK371.out⟩, ⟨bl⟩⟩
   ·
    rw [if_neg c6] at H
    have c6b0 : decide (x8_1 < (l0_0.length : Int)) = false := decide_eq_false c6
    clear c6
    obtain rfl := Option.some.inj H
    have hnb30 := NB370_371.out
    have hnc30 := NB371_370.out
    obtain ⟨hcz31_0, hfz31_0⟩ := z1 BK370
    obtain ⟨Ao32, co32, eo32⟩ := Kd.S_slice HO_7.out
    subst eo32
    obtain ⟨hcz33_0, hfz33_0⟩ := z1 BK371
    go_wp2
    refine bodyPost_ret (results_cell_row rfl _ _ gb371 24 #[.slice Ao32 x7_1.length co32] (0, 0) _ rfl (by (with_reducible repeat (first | refine blk_drewN ?_ _ | refine blk_drew ?_ | refine blk_alloc ?_ _)); refine blk_put (cs := #[.slice none 0 0]) ?_ 0 _ rfl; exact uB <| BK371.out) Try.underlying24 rfl (by kernel_rfl)) rfl ?_
    exact ⟨_, re_, by exact uS <| Kd.S_mono (Kd.S_far (p := ⟨gb371, 0, none⟩) (Kd.S_types HO_7.out BK371.out (by decide)) (fun _ hk => hk.2) (.slice Ao32 x7_1.length co32)) (fun _ hk => trivial), bl⟩
end Go.Proofs.Ytofaindjbhmopaa.X
