/- Printed by a program of this session's own: what functions of the program compute, and that the machine computes it. No condition of its own. -/
import Derived.Test.YtklhjponikgkkaaM3
import Derived.Test.YtklhjponikgkkaaM5
import Derived.Test.YtklhjponikgkkaaM6
namespace Go.Proofs.Ytklhjponikgkkaa.X
open Go.RowKit Go.Proofs.YtklhjponikgkkaaW.PrintWords Go.Proofs.YtklhjponikgkkaaW.PrintLast Go.Proofs.YtklhjponikgkkaaW.PrintMore
attribute [local go_sem] max2_int min2_int max_two min_two max_three min_three max_four min_four
set_option linter.unusedVariables false
set_option linter.unusedSimpArgs false
set_option maxHeartbeats 8000000
set_option maxRecDepth 100000
attribute [local go_sem high] eqA56
def ebbtideref08_Items.l0 : Nat → List (S56) → List (S56) → Int → Option (Bool)
 | 0, _, _, _ => none
 | k + 1, x0, x1, x5 => if x5 < (x0.length : Int) then (if 0 ≤ x5 then (if x5 < (x1.length : Int) then (if (!(((rd_T56 x0 x5).f0) == ((rd_T56 x1 x5).f0)) || (!((((rd_T56 x0 x5).f1).toList) == (((rd_T56 x1 x5).f1).toList)) || ((!(((rd_T56 x0 x5).f2.f0) == ((rd_T56 x1 x5).f2.f0)) || ((!(((rd_T56 x0 x5).f2.f1.f0) == ((rd_T56 x1 x5).f2.f1.f0)) || (!(((rd_T56 x0 x5).f2.f1.f1) == ((rd_T56 x1 x5).f2.f1.f1)))) || (!(((rd_T56 x0 x5).f2.f2) == ((rd_T56 x1 x5).f2.f2)) || (!(((rd_T56 x0 x5).f2.f3) == ((rd_T56 x1 x5).f2.f3))))))))) = true then (none) else (ebbtideref08_Items.l0 k x0 x1 (wrap64 (x5 + 1)))) else (none)) else (none)) else (some true)
def ebbtideref08_Items.f (k : Nat) (l0 : List (S56)) (l1 : List (S56)) : Option (Bool) := if (l0.length : Int) = (l1.length : Int) then (ebbtideref08_Items.l0 k l0 l1 0) else (none)
theorem ebbtideref08_Items.mono_l : ∀ k, (∀ y0 y1 y2, LeC (ebbtideref08_Items.l0 k y0 y1 y2) (ebbtideref08_Items.l0 (k + 1) y0 y1 y2))
 | 0 => fun _ _ _ => ⟨fun r h => by simp [ebbtideref08_Items.l0] at h⟩
 | k + 1 => by have ih0 := ebbtideref08_Items.mono_l k; exact fun _ _ _ => by unfold ebbtideref08_Items.l0; exact lm
theorem ebbtideref08_Items.mono : ∀ a0 a1 k, LeO (ebbtideref08_Items.f k a0 a1) (ebbtideref08_Items.f (k + 1) a0 a1) := by
 intro a0 a1 k
 have ih0 := ebbtideref08_Items.mono_l k
 unfold ebbtideref08_Items.f
 exact lo
instance ebbtideref08_Items.mI {a0 a1 k} : LeC (ebbtideref08_Items.f k a0 a1) (ebbtideref08_Items.f (k + 1) a0 a1) := ⟨ebbtideref08_Items.mono _ _ _⟩
theorem ebbtideref08_Items.calls (k : Nat) (A0 : Option Addr) (c0 : Nat) (l0 : List (S56)) (A1 : Option Addr) (c1 : Nat) (l1 : List (S56)) (r : Bool) (w : World) (hr0 : Kd.C k56 w A0 l0.length l0) (hc0 : l0.length ≤ c0) (hr1 : Kd.C k56 w A1 l1.length l1) (hc1 : l1.length ≤ c1) (h : ebbtideref08_Items.f k l0 l1 = some r) :
 Calls Try.prog 20 #[.slice A0 l0.length c0, .slice A1 l1.length c1] w fun e w' => e = .returned (.bool r) ∧ Drawn0 w w' := by
 have hu56 := Try.underlying56
 have HR0 := Aside0.mk hr0
 have HC0 := Aside0.mk hc0
 clear hr0 hc0
 have HR1 := Aside0.mk hr1
 have HC1 := Aside0.mk hc1
 clear hr1 hc1
 have H : (if (l0.length : Int) = (l1.length : Int) then (ebbtideref08_Items.l0 k l0 l1 0) else (none)) = some r := h
 clear h
 by_cases c3 : (l0.length : Int) = (l1.length : Int)
 ·
  rw [if_pos c3] at H
  have c3b0 : ((l0.length : Int) == (l1.length : Int)) = true := beq_iff_eq.mpr c3
  have c3b1 : ((l0.length : Int) != (l1.length : Int)) = false := bne_eq_false_iff_eq.mpr c3
  have c3b2 : (l0.length == l1.length) = true := by first | simpa using c3 | (simp at c3 ⊢; omega)
  clear c3
  have H' := Aside0.mk H
  clear H
  go_enter Try.func20, Try.ntmps20
  go_wp2
  repeat (go_quiet (fail); try go_wp2)
  go_loopg [5] k (fun kq v5 w' => ∃ (x5_1 : Int), v5 = .int .i64 x5_1 ∧ Aside0 (ebbtideref08_Items.l0 kq l0 l1 x5_1 = some r) ∧ Aside0 (kq ≤ k) ∧ Drawn0 w w')
  case atStart => exact ⟨(0), rs_, H', ⟨Nat.le_refl _⟩, dr_⟩
  case round =>
   clear H'
   try clear c1
   try clear c2
   try clear p2
   try clear c3
   try clear c3b0
   try clear c3b1
   try clear c3b2
   obtain ⟨x5_1, rfl, HA, HK1, ⟨m1, rfl⟩⟩ := hrel
   cases gk with
   | zero => exact absurd HA.out (by simp [ebbtideref08_Items.l0])
   | succ k1 =>
    have H := HA.out
    clear HA
    simp only [ebbtideref08_Items.l0] at H
    by_cases c4 : x5_1 < (l0.length : Int)
    ·
     rw [if_pos c4] at H
     have c4b0 : decide (x5_1 < (l0.length : Int)) = true := decide_eq_true c4
     clear c4
     obtain ⟨c5b0, H⟩ := gdd H
     obtain ⟨c6b0, H⟩ := gdd H
     obtain ⟨c7, H⟩ := gn H
     have c7b0 : (!(((rd_T56 l0 x5_1).f0) == ((rd_T56 l1 x5_1).f0)) || (!((((rd_T56 l0 x5_1).f1).toList) == (((rd_T56 l1 x5_1).f1).toList)) || ((!(((rd_T56 l0 x5_1).f2.f0) == ((rd_T56 l1 x5_1).f2.f0)) || ((!(((rd_T56 l0 x5_1).f2.f1.f0) == ((rd_T56 l1 x5_1).f2.f1.f0)) || (!(((rd_T56 l0 x5_1).f2.f1.f1) == ((rd_T56 l1 x5_1).f2.f1.f1)))) || (!(((rd_T56 l0 x5_1).f2.f2) == ((rd_T56 l1 x5_1).f2.f2)) || (!(((rd_T56 l0 x5_1).f2.f3) == ((rd_T56 l1 x5_1).f2.f3))))))))) = false := by simpa using c7
     clear c7
     have H' := Aside0.mk H
     clear H
     have p241 : 0 ≤ (x5_1 : Int) := od
     have q241 : x5_1 < (l0.length : Int) := od
     obtain ⟨ad241, e241, hx241_0, hx241_1, hx241_2, hx241_3, hx241_4, hx241_5, hx241_6⟩ := at_T56 HR0.out x5_1 p241 q241
     cases e241
     replace p241 := eq_true p241
     replace q241 := eq_true q241
     have p242 : 0 ≤ (x5_1 : Int) := od
     have q242 : x5_1 < (l1.length : Int) := od
     obtain ⟨ad242, e242, hx242_0, hx242_1, hx242_2, hx242_3, hx242_4, hx242_5, hx242_6⟩ := at_T56 HR1.out x5_1 p242 q242
     cases e242
     replace p242 := eq_true p242
     replace q242 := eq_true q242
     go_wp2
     repeat (go_quiet (fail); try go_wp2)
     go_roundg k1
     case measure => have := HK1.out; omega
     case rel => exact ⟨(wrap64 (x5_1 + 1)), rs_, H', ⟨by have := HK1.out; omega⟩, dr_⟩
    ·
     rw [if_neg c4] at H
     have c4b0 : decide (x5_1 < (l0.length : Int)) = false := decide_eq_false c4
     clear c4
     obtain rfl := Option.some.inj H
     go_wp2
     repeat (go_quiet (fail); try go_wp2)
     go_ret
     exact ⟨rs_, dr_⟩
 ·
  rw [if_neg c3] at H
  exact absurd H (by simp)
def ebbtideref06_Of.l0 : Nat → List Int → Int → Int → Int → Bool → Int → Int → Option (Int × Int × Bool × Int × Int)
 | 0, _, _, _, _, _, _, _ => none
 | k + 1, x0, x4, x245000, x245001, x245002, x245003, x245004 => if x4 < (x0.length : Int) then (if 0 ≤ x4 then ((ebbtideref06_Fold.f x245000 x245001 x245002 x245003 x245004 (rd x0 x4)).bind fun bt246 => (ebbtideref06_Of.l0 k x0 (wrap64 (x4 + 1)) bt246.1 bt246.2.1 bt246.2.2.1 bt246.2.2.2.1 bt246.2.2.2.2)) else (none)) else (some (x245000, x245001, x245002, x245003, x245004))
def ebbtideref06_Of.f (k : Nat) (l0 : List Int) : Option (Int × Int × Bool × Int × Int) := ebbtideref06_Of.l0 k l0 0 0 0 false 0 0
theorem ebbtideref06_Of.mono_l : ∀ k, (∀ y0 y1 y2 y3 y4 y5 y6, LeC (ebbtideref06_Of.l0 k y0 y1 y2 y3 y4 y5 y6) (ebbtideref06_Of.l0 (k + 1) y0 y1 y2 y3 y4 y5 y6))
 | 0 => fun _ _ _ _ _ _ _ => ⟨fun r h => by simp [ebbtideref06_Of.l0] at h⟩
 | k + 1 => by have ih0 := ebbtideref06_Of.mono_l k; exact fun _ _ _ _ _ _ _ => by unfold ebbtideref06_Of.l0; exact lm
theorem ebbtideref06_Of.mono : ∀ a0 k, LeO (ebbtideref06_Of.f k a0) (ebbtideref06_Of.f (k + 1) a0) := by
 intro a0 k
 have ih0 := ebbtideref06_Of.mono_l k
 unfold ebbtideref06_Of.f
 exact lo
instance ebbtideref06_Of.mI {a0 k} : LeC (ebbtideref06_Of.f k a0) (ebbtideref06_Of.f (k + 1) a0) := ⟨ebbtideref06_Of.mono _ _⟩
theorem ebbtideref06_Of.calls (k : Nat) (A0 : Option Addr) (c0 : Nat) (l0 : List Int) (r1 : Int) (r2 : Int) (r3 : Bool) (r4 : Int) (r5 : Int) (w : World) (hr0 : Kd.C (Kd.int .i64) w A0 l0.length l0) (hc0 : l0.length ≤ c0) (h : ebbtideref06_Of.f k l0 = some (r1, r2, r3, r4, r5)) :
 Calls Try.prog 21 #[.slice A0 l0.length c0] w fun e w' => e = .returned (.agg #[.int .i64 r1, .int .i64 r2, .bool r3, .int .i64 r4, .int .i64 r5]) ∧ Below w.heap.size w w' := by
 have hu54 := Try.underlying54
 have HR0 := Aside0.mk hr0
 have HC0 := Aside0.mk hc0
 clear hr0 hc0
 have HB := Aside0.mk (Below.refl w.heap.size w)
 have H : (ebbtideref06_Of.l0 k l0 0 0 0 false 0 0) = some (r1, r2, r3, r4, r5) := h
 clear h
 have H' := Aside0.mk H
 clear H
 go_enter Try.func21, Try.ntmps21
 go_wp2_with (first | ((with_reducible refine gate_dst (N := 2) rfl ?_); refine bx (N := 2) #[.int .i64 0, .int .i64 0, .bool false, .int .i64 0, .int .i64 0] 54 ?_; intro gb243 hg w2 hbox hb; have BK243 := Aside0.mk (hbox); have GW243 := gw hg (uW HB.out); have GE243 := GW243; replace HB := cW HB hb; clear hb hbox hg) | ((with_reducible refine gate_dst (N := 3) rfl ?_); refine bx (N := 3) #[.int .i64 0, .int .i64 0, .bool false, .int .i64 0, .int .i64 0] 54 ?_; intro gb244 hg w3 hbox hb; have BK244 := Aside0.mk (hbox); have GW244 := gw hg bl; have GE244 := GW244; replace HB := Aside0.mk (below_step bl hb); have NB243_244 := Aside0.mk ((by rw [hg]; exact Nat.ne_of_lt (blk_lt (g := gb243) (o := .cells #[.int .i64 0, .int .i64 0, .bool false, .int .i64 0, .int .i64 0] 54 (0, 0)) (uB BK243.out)) : gb243 ≠ gb244)); have NB244_243 := Aside0.mk ((by rw [hg]; exact Nat.ne_of_gt (blk_lt (g := gb243) (o := .cells #[.int .i64 0, .int .i64 0, .bool false, .int .i64 0, .int .i64 0] 54 (0, 0)) (uB BK243.out)) : gb244 ≠ gb243)); replace BK243 := cB BK243 hb; clear hb hbox hg; have hnb4 := NB244_243.out; have hnc4 := NB243_244.out; obtain ⟨hcz5_0, hcz5_1, hcz5_2, hcz5_3, hcz5_4, hfz5_0, hfz5_1, hfz5_2, hfz5_3, hfz5_4⟩ := z5 BK244) | ((with_reducible refine gate_store (t := 54) (p := 3) rfl ?_); refine store_event (t := 54) (p := 3) (v := ?vo_w6) (w1 := (((((w3.setCell ⟨gb244, 0, none⟩ (.int .i64 0)).setCell ⟨gb244, 1, none⟩ (.int .i64 0)).setCell ⟨gb244, 2, none⟩ (.bool false)).setCell ⟨gb244, 3, none⟩ (.int .i64 0)).setCell ⟨gb244, 4, none⟩ (.int .i64 0))) ?hg ?ho ?hn ?hr ?_; (case ho => rfl); (case hg => rfl); (case hn => rfl); (case hr => first | (go_simp; done) | (go_simp; rfl)); intro w6 hw; have n0_ : Aside0 (w6.heap[gb243]? = some (.cells #[.int .i64 0, .int .i64 0, .bool false, .int .i64 0, .int .i64 0] 54 (0, 0))) := ⟨(by rw [hw]; exact (by (with_reducible repeat (first | refine blk_drewN ?_ _ | refine blk_drew ?_ | refine blk_alloc ?_ _)); refine blk_far ?_ NB243_244.out _; (with_reducible repeat (first | refine blk_drewN ?_ _ | refine blk_drew ?_ | refine blk_alloc ?_ _)); refine blk_far ?_ NB243_244.out _; (with_reducible repeat (first | refine blk_drewN ?_ _ | refine blk_drew ?_ | refine blk_alloc ?_ _)); refine blk_far ?_ NB243_244.out _; (with_reducible repeat (first | refine blk_drewN ?_ _ | refine blk_drew ?_ | refine blk_alloc ?_ _)); refine blk_far ?_ NB243_244.out _; (with_reducible repeat (first | refine blk_drewN ?_ _ | refine blk_drew ?_ | refine blk_alloc ?_ _)); refine blk_far ?_ NB243_244.out _; exact uB <| BK243.out))⟩; have n1_ : Aside0 (w6.heap[gb244]? = some (.cells #[.int .i64 0, .int .i64 0, .bool false, .int .i64 0, .int .i64 0] 54 (0, 0))) := ⟨(by rw [hw]; exact (by (with_reducible repeat (first | refine blk_drewN ?_ _ | refine blk_drew ?_ | refine blk_alloc ?_ _)); refine blk_put (cs := #[.int .i64 0, .int .i64 0, .bool false, .int .i64 0, .int .i64 0]) ?_ 4 _ rfl; (with_reducible repeat (first | refine blk_drewN ?_ _ | refine blk_drew ?_ | refine blk_alloc ?_ _)); refine blk_put (cs := #[.int .i64 0, .int .i64 0, .bool false, .int .i64 0, .int .i64 0]) ?_ 3 _ rfl; (with_reducible repeat (first | refine blk_drewN ?_ _ | refine blk_drew ?_ | refine blk_alloc ?_ _)); refine blk_put (cs := #[.int .i64 0, .int .i64 0, .bool false, .int .i64 0, .int .i64 0]) ?_ 2 _ rfl; (with_reducible repeat (first | refine blk_drewN ?_ _ | refine blk_drew ?_ | refine blk_alloc ?_ _)); refine blk_put (cs := #[.int .i64 0, .int .i64 0, .bool false, .int .i64 0, .int .i64 0]) ?_ 1 _ rfl; (with_reducible repeat (first | refine blk_drewN ?_ _ | refine blk_drew ?_ | refine blk_alloc ?_ _)); refine blk_put (cs := #[.int .i64 0, .int .i64 0, .bool false, .int .i64 0, .int .i64 0]) ?_ 0 _ rfl; exact uB <| BK244.out))⟩; have n2_ : Aside0 (Below w.heap.size w w6) := ⟨(by rw [hw]; exact bl)⟩; clear hw; clear BK243; clear BK244; clear HB; have BK243 := n0_; have BK244 := n1_; have HB := n2_; clear n0_ n1_ n2_))
 go_loopg [4] k (fun kq v4 w' => ∃ (x4_1 : Int) (x245000_1 : Int) (x245001_1 : Int) (x245002_1 : Bool) (x245003_1 : Int) (x245004_1 : Int), v4 = .int .i64 x4_1 ∧ Aside0 (ebbtideref06_Of.l0 kq l0 x4_1 x245000_1 x245001_1 x245002_1 x245003_1 x245004_1 = some (r1, r2, r3, r4, r5)) ∧ Aside0 (kq ≤ k) ∧ Aside0 (w'.heap[gb243]? = some (.cells #[.int .i64 0, .int .i64 0, .bool false, .int .i64 0, .int .i64 0] 54 (0, 0))) ∧ Aside0 (w'.heap[gb244]? = some (.cells #[.int .i64 x245000_1, .int .i64 x245001_1, .bool x245002_1, .int .i64 x245003_1, .int .i64 x245004_1] 54 (0, 0))) ∧ Aside0 (Below w.heap.size w w'))
 case atStart => exact ⟨(0), (0), (0), (false), (0), (0), rs_, H', ⟨Nat.le_refl _⟩, ⟨uB BK243.out⟩, ⟨uB BK244.out⟩, ⟨bl⟩⟩
 case round =>
  clear H'
  try clear c2
  try clear p2
  try clear c4
  try clear hcz5_0
  try clear hcz5_1
  try clear hcz5_2
  try clear hcz5_3
  try clear hcz5_4
  try clear hfz5_0
  try clear hfz5_1
  try clear hfz5_2
  try clear hfz5_3
  try clear hfz5_4
  obtain ⟨x4_1, x245000_1, x245001_1, x245002_1, x245003_1, x245004_1, rfl, HA, HK1, BK243, BK244, HB⟩ := hrel
  cases gk with
  | zero => exact absurd HA.out (by simp [ebbtideref06_Of.l0])
  | succ k1 =>
   have H := HA.out
   clear HA
   simp only [ebbtideref06_Of.l0] at H
   by_cases c7 : x4_1 < (l0.length : Int)
   ·
    rw [if_pos c7] at H
    have c7b0 : decide (x4_1 < (l0.length : Int)) = true := decide_eq_true c7
    clear c7
    obtain ⟨c8b0, H⟩ := gdd H
    obtain ⟨⟨t246, t247, t248, t249, t250⟩, A9, H⟩ := bs H
    try dsimp only at H
    have H' := Aside0.mk H
    clear H
    try go_wp2
    have n0_ := Aside0.mk (blk_drew BK243.out)
    have n1_ := Aside0.mk (blk_drew BK244.out)
    have n2_ := Aside0.mk (below_drew1 HB.out)
    clear BK243
    clear BK244
    clear HB
    have BK243 := n0_
    have BK244 := n1_
    have HB := n2_
    clear n0_ n1_ n2_
    have p245 : 0 ≤ (x4_1 : Int) := od
    have q245 : x4_1 < (l0.length : Int) := od
    obtain ⟨ad245, e245, hx245_0⟩ := Kd.at_int HR0.out x4_1 p245 q245
    have hw245_0 := hx245_0
    cases e245
    replace hx245_0 := kc HB hx245_0
    replace p245 := eq_true p245
    replace q245 := eq_true q245
    refine start_ (n := 7) (S := fun w' => w'.cell? ⟨gb244, 0, none⟩ = some (.int .i64 x245000_1) ∧ w'.cell? ⟨gb244, 1, none⟩ = some (.int .i64 x245001_1) ∧ w'.cell? ⟨gb244, 2, none⟩ = some (.bool x245002_1) ∧ w'.cell? ⟨gb244, 3, none⟩ = some (.int .i64 x245003_1) ∧ w'.cell? ⟨gb244, 4, none⟩ = some (.int .i64 x245004_1) ∧ w'.cell? (ad245.add (x4_1).toNat) = some (.int .i64 (rd l0 x4_1))) (ds := [6]) #[false, false, false, false, false, false, false] (by kernel_rfl) rfl rfl ⟨(blk_cell BK244.out 0).trans rfl, (blk_cell BK244.out 1).trans rfl, (blk_cell BK244.out 2).trans rfl, (blk_cell BK244.out 3).trans rfl, (blk_cell BK244.out 4).trans rfl, (kc HB hw245_0)⟩ (fun hHeld => ?_)
    generalize wr.drew = w10 at BK243 BK244 HB hx245_0 hHeld ⊢
    refine pure_ (i := 1) (N := some 13) (v := ?_) (a' := ?_) #[false, true, false, false, false, false, false] rfl rfl (by kernel_rfl) (fun _ _ _ h => h) (Or.inl ⟨by rfl, ?_⟩) ?_ ?_
    rotate_left
    ·
     intro w'
     go_simp
     with_reducible rfl
    rotate_left
    ·
     simp only [Act.put, List.setIfInBounds_toArray, List.set_cons_zero, List.set_cons_succ, i64_w, i32_w]
     rfl
    refine pure_ (i := 2) (N := some 14) (v := ?_) (a' := ?_) #[false, true, true, false, false, false, false] rfl rfl (by kernel_rfl) (fun _ _ _ h => h) (Or.inl ⟨by rfl, ?_⟩) ?_ ?_
    rotate_left
    ·
     intro w'
     go_simp
     with_reducible rfl
    rotate_left
    ·
     simp only [Act.put, List.setIfInBounds_toArray, List.set_cons_zero, List.set_cons_succ, i64_w, i32_w]
     rfl
    refine pure_ (i := 3) (N := some 15) (v := ?_) (a' := ?_) #[false, true, true, true, false, false, false] rfl rfl (by kernel_rfl) (fun _ _ _ h => h) (Or.inl ⟨by rfl, ?_⟩) ?_ ?_
    rotate_left
    ·
     intro w'
     go_simp
     with_reducible rfl
    rotate_left
    ·
     simp only [Act.put, List.setIfInBounds_toArray, List.set_cons_zero, List.set_cons_succ, i64_w, i32_w]
     rfl
    refine take_ (i := 0) (N := some 12) (v := ?_) (a' := ?_) #[true, true, true, true, false, false, false] rfl rfl (by kernel_rfl) (fun _ _ _ h => h) (Or.inl ⟨by rfl, ?_⟩) hHeld ?_ ?_
    rotate_left
    ·
     rintro w' ⟨s0, s1, s2, s3, s4, s5⟩
     go_simp
     with_reducible rfl
    rotate_left
    ·
     simp only [Act.put, List.setIfInBounds_toArray, List.set_cons_zero, List.set_cons_succ, i64_w, i32_w]
     rfl
    refine take_ (i := 4) (N := some 16) (v := ?_) (a' := ?_) #[true, true, true, true, true, false, false] rfl rfl (by kernel_rfl) (fun _ _ _ h => h) (Or.inl ⟨by rfl, ?_⟩) hHeld ?_ ?_
    rotate_left
    ·
     rintro w' ⟨s0, s1, s2, s3, s4, s5⟩
     go_simp
     with_reducible rfl
    rotate_left
    ·
     simp only [Act.put, List.setIfInBounds_toArray, List.set_cons_zero, List.set_cons_succ, i64_w, i32_w]
     rfl
    refine one_ (i := 5) (N := some 17) #[true, true, true, true, true, true, false] rfl rfl (by kernel_rfl) (by decide) (fun K hK => ?_)
    refine goes_ Try.func43 (by kernel_rfl) rfl #[.agg #[.int .i64 x245000_1, .int .i64 x245001_1, .bool x245002_1, .int .i64 x245003_1, .int .i64 x245004_1], .int .i64 (rd l0 x4_1)] (by rfl) rfl rfl (by (try simp only [List.map_toArray, List.map_cons, List.map_nil]); first | done | rfl | (simp only [List.length_drop, List.length_take]; rfl)) ?_
    with_reducible refine (ebbtideref06_Fold.calls x245000_1 x245001_1 x245002_1 x245003_1 x245004_1 (rd l0 x4_1) t246 t247 t248 t249 t250 _ A9.out).mono ?_
    rintro e w11 ⟨rfl, hb⟩
    refine ⟨_, rfl, ?_⟩
    have n0_ := cB BK243 hb
    have n1_ := cB BK244 hb
    have n2_ := Aside0.mk (below_step bl hb)
    clear BK243
    clear BK244
    clear HB
    have BK243 := n0_
    have BK244 := n1_
    have HB := n2_
    clear n0_ n1_ n2_
    (try clear hb)
    (try clear hb2)
    (try clear hk)
    (try clear hi)
    refine hK.out _ _ ⟨(blk_cell BK244.out 0).trans rfl, (blk_cell BK244.out 1).trans rfl, (blk_cell BK244.out 2).trans rfl, (blk_cell BK244.out 3).trans rfl, (blk_cell BK244.out 4).trans rfl, (kc HB hw245_0)⟩ (fun hHeld => ?_)
    clear hK K
    refine norm_ (a' := ?_) ?_ ?_
    rotate_left
    ·
     show Act.put _ (some 17) _ = _
     simp only [Act.put, List.setIfInBounds_toArray, List.set_cons_zero, List.set_cons_succ, i64_w, i32_w]
     rfl
    refine last_ (i := 6) (N := none) #[true, true, true, true, true, true, true] rfl rfl (by kernel_rfl) (by decide) (fun K hK => ?_)
    have hs12 : w11.cell? ⟨gb244, 0, none⟩ = some (.int .i64 x245000_1) := (blk_cell BK244.out 0).trans rfl
    have hfs12 := blk_frozen BK244.out 0
    have hns12_0 := NB243_244.out
    have hms12_0 := NB244_243.out
    have hs13 : w11.cell? ⟨gb244, 1, none⟩ = some (.int .i64 x245001_1) := (blk_cell BK244.out 1).trans rfl
    have hfs13 := blk_frozen BK244.out 1
    have hns13_0 := NB243_244.out
    have hms13_0 := NB244_243.out
    have hs14 : w11.cell? ⟨gb244, 2, none⟩ = some (.bool x245002_1) := (blk_cell BK244.out 2).trans rfl
    have hfs14 := blk_frozen BK244.out 2
    have hns14_0 := NB243_244.out
    have hms14_0 := NB244_243.out
    have hs15 : w11.cell? ⟨gb244, 3, none⟩ = some (.int .i64 x245003_1) := (blk_cell BK244.out 3).trans rfl
    have hfs15 := blk_frozen BK244.out 3
    have hns15_0 := NB243_244.out
    have hms15_0 := NB244_243.out
    have hs16 : w11.cell? ⟨gb244, 4, none⟩ = some (.int .i64 x245004_1) := (blk_cell BK244.out 4).trans rfl
    have hfs16 := blk_frozen BK244.out 4
    have hns16_0 := NB243_244.out
    have hms16_0 := NB244_243.out
    refine skip_ (w1 := ?_) (by rfl) rfl ?_ ?_
    rotate_left
    ·
     go_simp
     rfl
    refine hK.out _ _ ?_
    clear hK K
    refine done_ (by kernel_rfl) ?_
    try go_wp2
    go_roundg k1
    case measure => have := HK1.out; omega
    case rel => exact ⟨(wrap64 (x4_1 + 1)), (t246), (t247), (t248), (t249), (t250), rs_, H', ⟨by have := HK1.out; omega⟩, ⟨by (with_reducible repeat (first | refine blk_drewN ?_ _ | refine blk_drew ?_ | refine blk_alloc ?_ _)); refine blk_far ?_ NB243_244.out _; (with_reducible repeat (first | refine blk_drewN ?_ _ | refine blk_drew ?_ | refine blk_alloc ?_ _)); refine blk_far ?_ NB243_244.out _; (with_reducible repeat (first | refine blk_drewN ?_ _ | refine blk_drew ?_ | refine blk_alloc ?_ _)); refine blk_far ?_ NB243_244.out _; (with_reducible repeat (first | refine blk_drewN ?_ _ | refine blk_drew ?_ | refine blk_alloc ?_ _)); refine blk_far ?_ NB243_244.out _; (with_reducible repeat (first | refine blk_drewN ?_ _ | refine blk_drew ?_ | refine blk_alloc ?_ _)); refine blk_far ?_ NB243_244.out _; exact uB <| BK243.out⟩, ⟨by (with_reducible repeat (first | refine blk_drewN ?_ _ | refine blk_drew ?_ | refine blk_alloc ?_ _)); refine blk_put (cs := #[.int .i64 t246, .int .i64 t247, .bool t248, .int .i64 t249, .int .i64 x245004_1]) ?_ 4 _ rfl; (with_reducible repeat (first | refine blk_drewN ?_ _ | refine blk_drew ?_ | refine blk_alloc ?_ _)); refine blk_put (cs := #[.int .i64 t246, .int .i64 t247, .bool t248, .int .i64 x245003_1, .int .i64 x245004_1]) ?_ 3 _ rfl; (with_reducible repeat (first | refine blk_drewN ?_ _ | refine blk_drew ?_ | refine blk_alloc ?_ _)); refine blk_put (cs := #[.int .i64 t246, .int .i64 t247, .bool x245002_1, .int .i64 x245003_1, .int .i64 x245004_1]) ?_ 2 _ rfl; (with_reducible repeat (first | refine blk_drewN ?_ _ | refine blk_drew ?_ | refine blk_alloc ?_ _)); refine blk_put (cs := #[.int .i64 t246, .int .i64 x245001_1, .bool x245002_1, .int .i64 x245003_1, .int .i64 x245004_1]) ?_ 1 _ rfl; (with_reducible repeat (first | refine blk_drewN ?_ _ | refine blk_drew ?_ | refine blk_alloc ?_ _)); refine blk_put (cs := #[.int .i64 x245000_1, .int .i64 x245001_1, .bool x245002_1, .int .i64 x245003_1, .int .i64 x245004_1]) ?_ 0 _ rfl; exact uB <| BK244.out⟩, ⟨bl⟩⟩
   ·
    rw [if_neg c7] at H
    have c7b0 : decide (x4_1 < (l0.length : Int)) = false := decide_eq_false c7
    clear c7
    simp only [Option.some.injEq, Prod.mk.injEq] at H
    obtain ⟨rfl, rfl, rfl, rfl, rfl⟩ := H
    have hnb17 := NB244_243.out
    have hnc17 := NB243_244.out
    obtain ⟨hcz18_0, hcz18_1, hcz18_2, hcz18_3, hcz18_4, hfz18_0, hfz18_1, hfz18_2, hfz18_3, hfz18_4⟩ := z5 BK244
    obtain ⟨hcz19_0, hcz19_1, hcz19_2, hcz19_3, hcz19_4, hfz19_0, hfz19_1, hfz19_2, hfz19_3, hfz19_4⟩ := z5 BK243
    go_wp2_with (first | ((with_reducible refine gate_store (t := 54) (p := 2) rfl ?_); refine store_event (t := 54) (p := 2) (v := ?vo_w20) (w1 := (((((wr.setCell ⟨gb243, 0, none⟩ (.int .i64 x245000_1)).setCell ⟨gb243, 1, none⟩ (.int .i64 x245001_1)).setCell ⟨gb243, 2, none⟩ (.bool x245002_1)).setCell ⟨gb243, 3, none⟩ (.int .i64 x245003_1)).setCell ⟨gb243, 4, none⟩ (.int .i64 x245004_1))) ?hg ?ho ?hn ?hr ?_; (case ho => rfl); (case hg => rfl); (case hn => rfl); (case hr => first | (go_simp; done) | (go_simp; rfl)); intro w20 hw; have n0_ : Aside0 (w20.heap[gb243]? = some (.cells #[.int .i64 x245000_1, .int .i64 x245001_1, .bool x245002_1, .int .i64 x245003_1, .int .i64 x245004_1] 54 (0, 0))) := ⟨(by rw [hw]; exact (by (with_reducible repeat (first | refine blk_drewN ?_ _ | refine blk_drew ?_ | refine blk_alloc ?_ _)); refine blk_put (cs := #[.int .i64 x245000_1, .int .i64 x245001_1, .bool x245002_1, .int .i64 x245003_1, .int .i64 0]) ?_ 4 _ rfl; (with_reducible repeat (first | refine blk_drewN ?_ _ | refine blk_drew ?_ | refine blk_alloc ?_ _)); refine blk_put (cs := #[.int .i64 x245000_1, .int .i64 x245001_1, .bool x245002_1, .int .i64 0, .int .i64 0]) ?_ 3 _ rfl; (with_reducible repeat (first | refine blk_drewN ?_ _ | refine blk_drew ?_ | refine blk_alloc ?_ _)); refine blk_put (cs := #[.int .i64 x245000_1, .int .i64 x245001_1, .bool false, .int .i64 0, .int .i64 0]) ?_ 2 _ rfl; (with_reducible repeat (first | refine blk_drewN ?_ _ | refine blk_drew ?_ | refine blk_alloc ?_ _)); refine blk_put (cs := #[.int .i64 x245000_1, .int .i64 0, .bool false, .int .i64 0, .int .i64 0]) ?_ 1 _ rfl; (with_reducible repeat (first | refine blk_drewN ?_ _ | refine blk_drew ?_ | refine blk_alloc ?_ _)); refine blk_put (cs := #[.int .i64 0, .int .i64 0, .bool false, .int .i64 0, .int .i64 0]) ?_ 0 _ rfl; exact uB <| BK243.out))⟩; have n1_ : Aside0 (w20.heap[gb244]? = some (.cells #[.int .i64 x245000_1, .int .i64 x245001_1, .bool x245002_1, .int .i64 x245003_1, .int .i64 x245004_1] 54 (0, 0))) := ⟨(by rw [hw]; exact (by (with_reducible repeat (first | refine blk_drewN ?_ _ | refine blk_drew ?_ | refine blk_alloc ?_ _)); refine blk_far ?_ NB244_243.out _; (with_reducible repeat (first | refine blk_drewN ?_ _ | refine blk_drew ?_ | refine blk_alloc ?_ _)); refine blk_far ?_ NB244_243.out _; (with_reducible repeat (first | refine blk_drewN ?_ _ | refine blk_drew ?_ | refine blk_alloc ?_ _)); refine blk_far ?_ NB244_243.out _; (with_reducible repeat (first | refine blk_drewN ?_ _ | refine blk_drew ?_ | refine blk_alloc ?_ _)); refine blk_far ?_ NB244_243.out _; (with_reducible repeat (first | refine blk_drewN ?_ _ | refine blk_drew ?_ | refine blk_alloc ?_ _)); refine blk_far ?_ NB244_243.out _; exact uB <| BK244.out))⟩; have n2_ : Aside0 (Below w.heap.size w w20) := ⟨(by rw [hw]; exact bl)⟩; clear hw; clear BK243; clear BK244; clear HB; have BK243 := n0_; have BK244 := n1_; have HB := n2_; clear n0_ n1_ n2_))
    refine bodyPost_ret (results_cell_row rfl _ _ gb243 54 #[.int .i64 x245000_1, .int .i64 x245001_1, .bool x245002_1, .int .i64 x245003_1, .int .i64 x245004_1] (0, 0) _ rfl (uB BK243.out) Try.underlying54 rfl (by kernel_rfl)) rfl ?_
    exact ⟨re_, bl⟩
end Go.Proofs.Ytklhjponikgkkaa.X
