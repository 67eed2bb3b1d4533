/- Printed by a program of this session's own: what functions of the program compute, and that the machine computes it. No condition of its own. -/
import Derived.Test.YtgcbejidponoaaaGreatDoorM3
namespace Go.Proofs.YtgcbejidponoaaaGreatDoor.X
open Go.RowKit Go.Proofs.YtgcbejidponoaaaGreatDoorW.PrintWords Go.Proofs.YtgcbejidponoaaaGreatDoorW.PrintLast Go.Proofs.YtgcbejidponoaaaGreatDoorW.PrintMore
attribute [local go_sem] max2_int min2_int max_two min_two max_three min_three max_four min_four
set_option linter.unusedVariables false
set_option linter.unusedSimpArgs false
set_option maxHeartbeats 8000000
set_option maxRecDepth 100000
theorem eqA43 (d : Nat) (w : World) (x0 y0 : Int) (x1 y1 : Bool) :
 (Op.equalIn (d + 2) 43 (.agg #[.int .i64 x0, .bool x1]) (.agg #[.int .i64 y0, .bool y1])).run Tryz.prog w = .ok (x0 == y0 && (x1 == y1)) w := by
 refine eqA_of Tryz.underlying43 (by kernel_rfl) ?_
 refine eqf_cons (by rfl) (by go_simp; rfl) (by go_simp; rfl) (by go_simp) ?_
 exact eqf_last (by rfl) (by go_simp; rfl) (by go_simp; rfl) (by go_simp)
theorem eqA45 (d : Nat) (w : World) (x0 y0 : Int) (x1 y1 : ByteArray) (x2 y2 : Int) (x3 y3 : Bool) :
 (Op.equalIn (d + 3) 45 (.agg #[.int .i64 x0, .string x1, .int .i64 x2, .bool x3]) (.agg #[.int .i64 y0, .string y1, .int .i64 y2, .bool y3])).run Tryz.prog w = .ok (x0 == y0 && (x1.toList == y1.toList && ((x2 == y2 && (x3 == y3))))) w := by
 refine eqA_of Tryz.underlying45 (by kernel_rfl) ?_
 refine eqf_cons (by rfl) (by go_simp; rfl) (by go_simp; rfl) (by go_simp) ?_
 refine eqf_cons (by rfl) (by go_simp; rfl) (by go_simp; rfl) (by go_simp) ?_
 exact eqf_last (by rfl) (by go_simp) (by go_simp) (eqA43 (d + 0) w _ _ _ _)
def r02_Split.l0 : Nat → ByteArray → Int → List ByteArray → Int → Int → Option (List ByteArray)
 | 0, _, _, _, _, _ => none
 | k + 1, x0, x1, x5, x6, x7 => if x7 < (x0.size : Int) then (if 0 ≤ x7 then (if (bt x0 x7) = x1 then (if 0 ≤ x6 then (if x6 ≤ x7 then (if x7 ≤ (x0.size : Int) then (if x5.length < 8796093022208 then (r02_Split.l0 k x0 x1 (x5 ++ [x0.extract (x6 : Int).toNat (x7 : Int).toNat]) (wrap64 (x7 + 1)) (wrap64 (x7 + 1))) else (none)) else (none)) else (none)) else (none)) else (r02_Split.l0 k x0 x1 x5 x6 (wrap64 (x7 + 1)))) else (none)) else (if 0 ≤ x6 then (if x6 ≤ (x0.size : Int) then (if x5.length < 8796093022208 then (some (x5 ++ [x0.extract (x6 : Int).toNat x0.size])) else (none)) else (none)) else (none))
def r02_Split.f (k : Nat) (a0 : ByteArray) (a1 : Int) : Option (List ByteArray) := r02_Split.l0 k a0 a1 ([] : List ByteArray) 0 0
theorem r02_Split.mono_l : ∀ k, (∀ y0 y1 y2 y3 y4, LeC (r02_Split.l0 k y0 y1 y2 y3 y4) (r02_Split.l0 (k + 1) y0 y1 y2 y3 y4))
 | 0 => fun _ _ _ _ _ => ⟨fun r h => by simp [r02_Split.l0] at h⟩
 | k + 1 => by have ih0 := r02_Split.mono_l k; exact fun _ _ _ _ _ => by unfold r02_Split.l0; exact lm
theorem r02_Split.mono : ∀ a0 a1 k, LeO (r02_Split.f k a0 a1) (r02_Split.f (k + 1) a0 a1) := by
 intro a0 a1 k
 have ih0 := r02_Split.mono_l k
 unfold r02_Split.f
 exact lo
instance r02_Split.mI {a0 a1 k} : LeC (r02_Split.f k a0 a1) (r02_Split.f (k + 1) a0 a1) := ⟨r02_Split.mono _ _ _⟩
theorem r02_Split.calls (k : Nat) (a0 : ByteArray) (a1 : Int) (r : List ByteArray) (w : World) (h : r02_Split.f k a0 a1 = some r) :
 Calls Tryz.prog 41 #[.string a0, .int .u8 a1] w fun e w' => ∃ v0_ : Value, e = .returned (v0_) ∧ Kd.R Kd.string 9 w' w.heap.size (fun _ => True) v0_ r ∧ Below w.heap.size w w' := by
 have HB := Aside0.mk (Below.refl w.heap.size w)
 have H : (r02_Split.l0 k a0 a1 ([] : List ByteArray) 0 0) = some r := h
 clear h
 have H' := Aside0.mk H
 clear H
 go_enter Tryz.func41, Tryz.ntmps41
 go_wp2
 go_loopg [5, 6, 7] k (fun kq v5 v6 v7 w' => ∃ (x5_1 : List ByteArray) (x6_1 : Int) (x7_1 : Int), v6 = .int .i64 x6_1 ∧ v7 = .int .i64 x7_1 ∧ Aside0 (r02_Split.l0 kq a0 a1 x5_1 x6_1 x7_1 = some r) ∧ Aside0 (kq ≤ k) ∧ Aside0 (Kd.R Kd.string 9 w' w.heap.size (fun _ => True) v5 x5_1) ∧ Aside0 (Below w.heap.size w w'))
 case atStart => exact ⟨(([] : List ByteArray)), (0), (0), rs_, rs_, H', ⟨Nat.le_refl _⟩, ⟨nl_⟩, ⟨uW HB.out⟩⟩
 case round =>
  clear H'
  try clear p2
  obtain ⟨x5_1, x6_1, x7_1, rfl, rfl, HA, HK1, HO_5, HB⟩ := hrel
  cases gk with
  | zero => exact absurd HA.out (by simp [r02_Split.l0])
  | succ k1 =>
   have H := HA.out
   clear HA
   simp only [r02_Split.l0] at H
   by_cases c3 : x7_1 < (a0.size : Int)
   ·
    rw [if_pos c3] at H
    have c3b0 : decide (x7_1 < (a0.size : Int)) = true := decide_eq_true c3
    clear c3
    obtain ⟨c4b0, H⟩ := gdd H
    by_cases c6 : (bt a0 x7_1) = a1
    ·
     rw [if_pos c6] at H
     have c6b0 : ((bt a0 x7_1) == a1) = true := beq_iff_eq.mpr c6
     have c6b1 : ((bt a0 x7_1) != a1) = false := bne_eq_false_iff_eq.mpr c6
     clear c6
     obtain ⟨c7, H⟩ := gd H
     have c7b0 := eq_true c7
     have c7b1 : decide (0 ≤ x6_1) = true := decide_eq_true c7
     clear c7
     obtain ⟨c8, H⟩ := gd H
     have c8b0 := eq_true c8
     have c8b1 : decide (x6_1 ≤ x7_1) = true := decide_eq_true c8
     clear c8
     obtain ⟨c9, H⟩ := gd H
     have c9b0 := eq_true c9
     have c9b1 : decide (x7_1 ≤ (a0.size : Int)) = true := decide_eq_true c9
     clear c9
     obtain ⟨c10, H⟩ := gd H
     have LMc10 := Aside0.mk c10
     clear c10
     obtain ⟨y101, hy101⟩ : ∃ y_ : List ByteArray, y_ = (x5_1 ++ [a0.extract (x6_1 : Int).toNat (x7_1 : Int).toNat]) := ⟨_, rfl⟩
     replace H : (r02_Split.l0 k1 a0 a1 y101 (wrap64 (x7_1 + 1)) (wrap64 (x7_1 + 1))) = some r := by first | (rw [hy101]; with_reducible exact H) | (have H2_ := (Option.bind_some _ _).symm.trans H; rw [hy101]; with_reducible exact H2_) | (have H2_ := (Option.bind_some _ _).symm.trans H; with_reducible exact H2_) | with_reducible exact H | (rw [hy101]; exact H) | exact H
     have Ny101 := Aside0.mk hy101
     clear hy101
     have H' := Aside0.mk H
     clear H
     have p5 : 0 ≤ (x7_1 : Int) := od
     have q5 : x7_1 < (a0.size : Int) := od
     have hx5 := bt_at a0 x7_1
     replace p5 := eq_true p5
     replace q5 := eq_true q5
     go_wp2_with (first | ((with_reducible refine gate_builtin (b := .append) (xs := #[.tmp 19, .tmp 24]) rfl ?_); at_builtin; refine Kd.R_append Kd.string (w0 := w) w.heap.size rfl (.tmp 19) (.tmp 24) 52 9 (.string ⟨#[]⟩) 16 rfl Tryz.underlying52 info9 rfl (by decide) (by omega) u5 x5_1 (a0.extract (x6_1 : Int).toNat (x7_1 : Int).toNat) [.string (a0.extract (x6_1 : Int).toNat (x7_1 : Int).toNat)] (fun _ => True) (fun _ => False) rfl rfl ?aP (fun _ hk => hk.elim) ?aF ?aO ?aB ?aS ?aL ?_; (case aP => exact rfl); (case aB => exact (uW HB.out)); (case aF => exact (fun _ _ => trivial)); (case aO => exact (uR HO_5.out)); (case aS => exact (below_size (uW HB.out))); (case aL => have := LMc10.out; omega); intro v102 w11 ho hb hg hat; rw [← Ny101.out] at ho; replace HB := Aside0.mk (hb); have HO103 := Aside0.mk (ho); clear HO_5; clear ho hb hg hat))
     go_roundg k1
     case measure => have := HK1.out; omega
     case rel => exact ⟨(y101), (wrap64 (x7_1 + 1)), (wrap64 (x7_1 + 1)), rs_, rs_, H', ⟨by have := HK1.out; omega⟩, ⟨uR HO103.out⟩, ⟨uW HB.out⟩⟩
    ·
     rw [if_neg c6] at H
     have c6b0 : ((bt a0 x7_1) == a1) = false := beq_eq_false_iff_ne.mpr c6
     have c6b1 : ((bt a0 x7_1) != a1) = true := bne_iff_ne.mpr c6
     have H' := Aside0.mk H
     clear H
     have p5 : 0 ≤ (x7_1 : Int) := od
     have q5 : x7_1 < (a0.size : Int) := od
     have hx5 := bt_at a0 x7_1
     replace p5 := eq_true p5
     replace q5 := eq_true q5
     go_wp2
     go_roundg k1
     case measure => have := HK1.out; omega
     case rel => exact ⟨(x5_1), (x6_1), (wrap64 (x7_1 + 1)), rs_, rs_, H', ⟨by have := HK1.out; omega⟩, ⟨uR HO_5.out⟩, ⟨uW HB.out⟩⟩
   ·
    rw [if_neg c3] at H
    have c3b0 : decide (x7_1 < (a0.size : Int)) = false := decide_eq_false c3
    clear c3
    by_cases c12 : 0 ≤ x6_1
    ·
     rw [if_pos c12] at H
     have c12b0 := eq_true c12
     have c12b1 : decide (0 ≤ x6_1) = true := decide_eq_true c12
     clear c12
     obtain ⟨c13, H⟩ := gd H
     have c13b0 := eq_true c13
     have c13b1 : decide (x6_1 ≤ (a0.size : Int)) = true := decide_eq_true c13
     clear c13
     obtain ⟨c14, H⟩ := gd H
     have LMc14 := Aside0.mk c14
     clear c14
     obtain ⟨y104, hy104⟩ : ∃ y_ : List ByteArray, y_ = (x5_1 ++ [a0.extract (x6_1 : Int).toNat a0.size]) := ⟨_, rfl⟩
     replace H : (some y104) = some r := by first | (rw [hy104]; with_reducible exact H) | (have H2_ := (Option.bind_some _ _).symm.trans H; rw [hy104]; with_reducible exact H2_) | (have H2_ := (Option.bind_some _ _).symm.trans H; with_reducible exact H2_) | with_reducible exact H | (rw [hy104]; exact H) | exact H
     have Ny104 := Aside0.mk hy104
     clear hy104
     obtain rfl := Option.some.inj H
     go_wp2_with (first | ((with_reducible refine gate_builtin (b := .append) (xs := #[.tmp 28, .tmp 32]) rfl ?_); at_builtin; refine Kd.R_append Kd.string (w0 := w) w.heap.size rfl (.tmp 28) (.tmp 32) 52 9 (.string ⟨#[]⟩) 16 rfl Tryz.underlying52 info9 rfl (by decide) (by omega) u5 x5_1 (a0.extract (x6_1 : Int).toNat a0.size) [.string (a0.extract (x6_1 : Int).toNat a0.size)] (fun _ => True) (fun _ => False) rfl rfl ?aP (fun _ hk => hk.elim) ?aF ?aO ?aB ?aS ?aL ?_; (case aP => exact rfl); (case aB => exact (uW HB.out)); (case aF => exact (fun _ _ => trivial)); (case aO => exact (uR HO_5.out)); (case aS => exact (below_size (uW HB.out))); (case aL => have := LMc14.out; omega); intro v105 w15 ho hb hg hat; rw [← Ny104.out] at ho; replace HB := Aside0.mk (hb); have HO106 := Aside0.mk (ho); clear HO_5; clear ho hb hg hat))
     go_ret
     exact ⟨_, re_, uR HO106.out, uW HB.out⟩
    ·
     rw [if_neg c12] at H
     exact absurd H (by simp)
def r02_Join.l0 : Nat → ByteArray → List ByteArray → ByteArray → Int → Option (ByteArray)
 | 0, _, _, _, _ => none
 | k + 1, x0, x1, x5, x6 => if x6 < (x1.length : Int) then (if x6 > 0 then (if x5.size + x0.size ≤ 9223372036854775807 then (if 0 ≤ x6 then (if (x5 ++ x0).size + (rdOf ByteArray.empty x1 x6).size ≤ 9223372036854775807 then (r02_Join.l0 k x0 x1 ((x5 ++ x0) ++ (rdOf ByteArray.empty x1 x6)) (wrap64 (x6 + 1))) else (none)) else (none)) else (none)) else (if 0 ≤ x6 then (if x5.size + (rdOf ByteArray.empty x1 x6).size ≤ 9223372036854775807 then (r02_Join.l0 k x0 x1 (x5 ++ (rdOf ByteArray.empty x1 x6)) (wrap64 (x6 + 1))) else (none)) else (none))) else (some x5)
def r02_Join.f (k : Nat) (a0 : ByteArray) (l1 : List ByteArray) : Option (ByteArray) := r02_Join.l0 k a0 l1 (⟨#[]⟩ : ByteArray) 0
theorem r02_Join.mono_l : ∀ k, (∀ y0 y1 y2 y3, LeC (r02_Join.l0 k y0 y1 y2 y3) (r02_Join.l0 (k + 1) y0 y1 y2 y3))
 | 0 => fun _ _ _ _ => ⟨fun r h => by simp [r02_Join.l0] at h⟩
 | k + 1 => by have ih0 := r02_Join.mono_l k; exact fun _ _ _ _ => by unfold r02_Join.l0; exact lm
theorem r02_Join.mono : ∀ a0 a1 k, LeO (r02_Join.f k a0 a1) (r02_Join.f (k + 1) a0 a1) := by
 intro a0 a1 k
 have ih0 := r02_Join.mono_l k
 unfold r02_Join.f
 exact lo
instance r02_Join.mI {a0 a1 k} : LeC (r02_Join.f k a0 a1) (r02_Join.f (k + 1) a0 a1) := ⟨r02_Join.mono _ _ _⟩
theorem r02_Join.calls (k : Nat) (a0 : ByteArray) (A1 : Option Addr) (c1 : Nat) (l1 : List ByteArray) (r : ByteArray) (w : World) (hr1 : Kd.C Kd.string w A1 l1.length l1) (hc1 : l1.length ≤ c1) (h : r02_Join.f k a0 l1 = some r) :
 Calls Tryz.prog 35 #[.string a0, .slice A1 l1.length c1] w fun e w' => e = .returned (.string r) ∧ Drawn0 w w' := by
 have HR1 := Aside0.mk hr1
 have HC1 := Aside0.mk hc1
 clear hr1 hc1
 have H : (r02_Join.l0 k a0 l1 (⟨#[]⟩ : ByteArray) 0) = some r := h
 clear h
 have H' := Aside0.mk H
 clear H
 go_enter Tryz.func35, Tryz.ntmps35
 go_wp2
 go_loopg [5, 6] k (fun kq v5 v6 w' => ∃ (x5_1 : ByteArray) (x6_1 : Int), v5 = .string x5_1 ∧ v6 = .int .i64 x6_1 ∧ Aside0 (r02_Join.l0 kq a0 l1 x5_1 x6_1 = some r) ∧ Aside0 (kq ≤ k) ∧ Drawn0 w w')
 case atStart => exact ⟨((⟨#[]⟩ : ByteArray)), (0), rs_, rs_, H', ⟨Nat.le_refl _⟩, dr_⟩
 case round =>
  clear H'
  try clear c1
  try clear p2
  obtain ⟨x5_1, x6_1, rfl, rfl, HA, HK1, ⟨m1, rfl⟩⟩ := hrel
  cases gk with
  | zero => exact absurd HA.out (by simp [r02_Join.l0])
  | succ k1 =>
   have H := HA.out
   clear HA
   simp only [r02_Join.l0] at H
   by_cases c3 : x6_1 < (l1.length : Int)
   ·
    rw [if_pos c3] at H
    have c3b0 : decide (x6_1 < (l1.length : Int)) = true := decide_eq_true c3
    clear c3
    by_cases c4 : x6_1 > 0
    ·
     rw [if_pos c4] at H
     have c4b0 : decide (0 < x6_1) = true := decide_eq_true c4
     clear c4
     obtain ⟨c5, H⟩ := gd H
     have c5b0 := eq_true c5
     have c5b1 : decide (x5_1.size + a0.size ≤ 9223372036854775807) = true := decide_eq_true c5
     try have c5b2 : (9223372036854775807 < x5_1.size + a0.size) = False := eq_false (Nat.not_lt.2 c5)
     obtain ⟨c6b0, H⟩ := gdd H
     obtain ⟨c7, H⟩ := gd H
     have c7b0 := eq_true c7
     have c7b1 : decide ((x5_1 ++ a0).size + (rdOf ByteArray.empty l1 x6_1).size ≤ 9223372036854775807) = true := decide_eq_true c7
     try have c7b2 : (9223372036854775807 < (x5_1 ++ a0).size + (rdOf ByteArray.empty l1 x6_1).size) = False := eq_false (Nat.not_lt.2 c7)
     try have c7b8 := c7b2
     try simp only [ByteArray.size_append] at c7b8
     have H' := Aside0.mk H
     clear H
     have p107 : 0 ≤ (x6_1 : Int) := od
     have q107 : x6_1 < (l1.length : Int) := od
     obtain ⟨ad107, e107, hx107_0⟩ := Kd.at_string HR1.out x6_1 p107 q107
     cases e107
     replace p107 := eq_true p107
     replace q107 := eq_true q107
     go_wp2
     go_roundg k1
     case measure => have := HK1.out; omega
     case rel => exact ⟨((x5_1 ++ a0) ++ (rdOf ByteArray.empty l1 x6_1)), (wrap64 (x6_1 + 1)), rs_, rs_, H', ⟨by have := HK1.out; omega⟩, dr_⟩
    ·
     rw [if_neg c4] at H
     have c4b0 : decide (0 < x6_1) = false := decide_eq_false c4
     clear c4
     obtain ⟨c8b0, H⟩ := gdd H
     obtain ⟨c9, H⟩ := gd H
     have c9b0 := eq_true c9
     have c9b1 : decide (x5_1.size + (rdOf ByteArray.empty l1 x6_1).size ≤ 9223372036854775807) = true := decide_eq_true c9
     try have c9b2 : (9223372036854775807 < x5_1.size + (rdOf ByteArray.empty l1 x6_1).size) = False := eq_false (Nat.not_lt.2 c9)
     have H' := Aside0.mk H
     clear H
     have p108 : 0 ≤ (x6_1 : Int) := od
     have q108 : x6_1 < (l1.length : Int) := od
     obtain ⟨ad108, e108, hx108_0⟩ := Kd.at_string HR1.out x6_1 p108 q108
     cases e108
     replace p108 := eq_true p108
     replace q108 := eq_true q108
     go_wp2
     go_roundg k1
     case measure => have := HK1.out; omega
     case rel => exact ⟨(x5_1 ++ (rdOf ByteArray.empty l1 x6_1)), (wrap64 (x6_1 + 1)), rs_, rs_, H', ⟨by have := HK1.out; omega⟩, dr_⟩
   ·
    rw [if_neg c3] at H
    have c3b0 : decide (x6_1 < (l1.length : Int)) = false := decide_eq_false c3
    clear c3
    obtain rfl := Option.some.inj H
    go_wp2
    go_ret
    exact ⟨rs_, dr_⟩
def r02_small.f (a0 : Int) : Option (Bool) := if a0 ≥ 97 then (some (decide (a0 ≤ 122))) else (some false)
theorem r02_small.calls (a0 : Int) (r : Bool) (w : World) (h : r02_small.f a0 = some r) :
 Calls Tryz.prog 139 #[.int .u8 a0] w fun e w' => e = .returned (.bool r) ∧ Drawn0 w w' := by
 have H : (if a0 ≥ 97 then (some (decide (a0 ≤ 122))) else (some false)) = some r := h
 clear h
 by_cases c2 : a0 ≥ 97
 ·
  rw [if_pos c2] at H
  have c2b0 : decide (97 ≤ a0) = true := decide_eq_true c2
  clear c2
  obtain rfl := Option.some.inj H
  go_enter Tryz.func139, Tryz.ntmps139
  go_wp2
  go_ret
  exact ⟨rs_, dr_⟩
 ·
  rw [if_neg c2] at H
  have c2b0 : decide (97 ≤ a0) = false := decide_eq_false c2
  clear c2
  obtain rfl := Option.some.inj H
  go_enter Tryz.func139, Tryz.ntmps139
  go_wp2
  go_ret
  exact ⟨rs_, dr_⟩
def r02_digit.f (a0 : Int) : Option (Bool) := if a0 ≥ 48 then (some (decide (a0 ≤ 57))) else (some false)
theorem r02_digit.calls (a0 : Int) (r : Bool) (w : World) (h : r02_digit.f a0 = some r) :
 Calls Tryz.prog 140 #[.int .u8 a0] w fun e w' => e = .returned (.bool r) ∧ Drawn0 w w' := by
 have H : (if a0 ≥ 48 then (some (decide (a0 ≤ 57))) else (some false)) = some r := h
 clear h
 by_cases c2 : a0 ≥ 48
 ·
  rw [if_pos c2] at H
  have c2b0 : decide (48 ≤ a0) = true := decide_eq_true c2
  clear c2
  obtain rfl := Option.some.inj H
  go_enter Tryz.func140, Tryz.ntmps140
  go_wp2
  go_ret
  exact ⟨rs_, dr_⟩
 ·
  rw [if_neg c2] at H
  have c2b0 : decide (48 ≤ a0) = false := decide_eq_false c2
  clear c2
  obtain rfl := Option.some.inj H
  go_enter Tryz.func140, Tryz.ntmps140
  go_wp2
  go_ret
  exact ⟨rs_, dr_⟩
mutual
def r02_Name.j0 : Nat → ByteArray → Bool → Option (Bool)
 | 0, _, _ => none
 | k + 1, x0, x17 => if x17 = true then (some false) else (r02_Name.l0 k x0 0)
def r02_Name.l0 : Nat → ByteArray → Int → Option (Bool)
 | 0, _, _ => none
 | k + 1, x0, x3 => if x3 < (x0.size : Int) then (if 0 ≤ x3 then ((r02_small.f (bt x0 x3)).bind fun t110 => (if t110 = true then (r02_Name.l0 k x0 (wrap64 (x3 + 1))) else ((r02_digit.f (bt x0 x3)).bind fun t111 => (if t111 = true then (r02_Name.l0 k x0 (wrap64 (x3 + 1))) else (if (bt x0 x3) = 95 then (r02_Name.l0 k x0 (wrap64 (x3 + 1))) else (some false)))))) else (none)) else (some true)
end
def r02_Name.f (k : Nat) (a0 : ByteArray) : Option (Bool) := if (a0.size : Int) < 1 then (r02_Name.j0 k a0 true) else (if (a0.size : Int) > 12 then (r02_Name.j0 k a0 true) else (if 0 < (a0.size : Int) then ((r02_small.f (bt a0 0)).bind fun t109 => (r02_Name.j0 k a0 (!t109))) else (none)))
theorem r02_Name.mono_l : ∀ k, (∀ y0 y1, LeC (r02_Name.j0 k y0 y1) (r02_Name.j0 (k + 1) y0 y1)) ∧ (∀ y0 y1, LeC (r02_Name.l0 k y0 y1) (r02_Name.l0 (k + 1) y0 y1))
 | 0 => ⟨fun _ _ => ⟨fun r h => by simp [r02_Name.j0] at h⟩, fun _ _ => ⟨fun r h => by simp [r02_Name.l0] at h⟩⟩
 | k + 1 => by obtain ⟨ih0, ih1⟩ := r02_Name.mono_l k; exact ⟨fun _ _ => by unfold r02_Name.j0; exact lm, fun _ _ => by unfold r02_Name.l0; exact lm⟩
theorem r02_Name.mono : ∀ a0 k, LeO (r02_Name.f k a0) (r02_Name.f (k + 1) a0) := by
 intro a0 k
 obtain ⟨ih0, ih1⟩ := r02_Name.mono_l k
 unfold r02_Name.f
 exact lo
instance r02_Name.mI {a0 k} : LeC (r02_Name.f k a0) (r02_Name.f (k + 1) a0) := ⟨r02_Name.mono _ _⟩
theorem r02_Name.calls (k : Nat) (a0 : ByteArray) (r : Bool) (w : World) (h : r02_Name.f k a0 = some r) :
 Calls Tryz.prog 116 #[.string a0] w fun e w' => e = .returned (.bool r) ∧ Drawn0 w w' := by
 have H : (if (a0.size : Int) < 1 then (r02_Name.j0 k a0 true) else (if (a0.size : Int) > 12 then (r02_Name.j0 k a0 true) else (if 0 < (a0.size : Int) then ((r02_small.f (bt a0 0)).bind fun t109 => (r02_Name.j0 k a0 (!t109))) else (none)))) = some r := h
 clear h
 have HC2 := Aside0.mk H
 clear H
 go_enter Tryz.func116, Tryz.ntmps116
 go_upto_region 1 with (fail)
 go_cut [17] (fun v17 wc => ∃ (kq : Nat) (x17_1 : Bool), v17 = .bool x17_1 ∧ Aside0 (r02_Name.j0 kq a0 x17_1 = some r) ∧ Aside0 (kq ≤ k) ∧ Drawn0 w wc)
 case first =>
  have H := HC2.out
  clear HC2
  by_cases c3 : (a0.size : Int) < 1
  ·
   rw [if_pos c3] at H
   have c3b0 : decide ((a0.size : Int) < 1) = true := decide_eq_true c3
   have c3b1 : decide (a0.size < 1) = true := decide_eq_true (by omega)
   clear c3
   (first | rw [c3b0] | (simp only [i64_w, i32_w]; rw [c3b0]) | skip)
   have H' := Aside0.mk H
   clear H
   go_wp2
   go_meet
   case rel => exact ⟨_, (true), rs_, H', ⟨by first | omega | exact Nat.le_refl _⟩, dr_⟩
  ·
   rw [if_neg c3] at H
   have c3b0 : decide ((a0.size : Int) < 1) = false := decide_eq_false c3
   have c3b1 : decide (a0.size < 1) = false := decide_eq_false (by omega)
   clear c3
   (first | rw [c3b0] | (simp only [i64_w, i32_w]; rw [c3b0]) | skip)
   by_cases c4 : (a0.size : Int) > 12
   ·
    rw [if_pos c4] at H
    have c4b0 : decide (12 < (a0.size : Int)) = true := decide_eq_true c4
    have c4b1 : decide (12 < a0.size) = true := decide_eq_true (by omega)
    clear c4
    have H' := Aside0.mk H
    clear H
    go_wp2
    go_meet
    case rel => exact ⟨_, (true), rs_, H', ⟨by first | omega | exact Nat.le_refl _⟩, dr_⟩
   ·
    rw [if_neg c4] at H
    have c4b0 : decide (12 < (a0.size : Int)) = false := decide_eq_false c4
    have c4b1 : decide (12 < a0.size) = false := decide_eq_false (by omega)
    clear c4
    obtain ⟨c5, H⟩ := gd H
    have c5b0 : decide (0 < (a0.size : Int)) = true := decide_eq_true c5
    have c5b1 : decide (0 < a0.size) = true := decide_eq_true (by omega)
    clear c5
    obtain ⟨t109, A7, H⟩ := bs H
    try dsimp only at H
    have H' := Aside0.mk H
    clear H
    have p6 : 0 ≤ (0 : Int) := (by omega)
    have q6 : 0 < a0.size := (by have : (0 : Int) < (a0.size : Int) := od; omega)
    have hx6 : ∀ h : 0 < a0.size, ((a0[0]'h).toNat : Int) = bt a0 0 := bt_at a0 0
    clear p6
    have qi6 : (0 < (a0.size : Int)) = True := eq_true (od)
    replace q6 := eq_true q6
    go_wp2_with (first | (go_at_call 139; (with_reducible refine (r02_small.calls (bt a0 0) t109 _ A7.out).mono ?_); rintro e w' ⟨rfl, ⟨nd, rfl⟩⟩))
    go_meet
    case rel => exact ⟨_, (!t109), rs_, H', ⟨by first | omega | exact Nat.le_refl _⟩, dr_⟩
 case rest =>
  clear HC2
  try clear c1
  try clear p2
  try clear c3
  try clear c3b0
  try clear c3b1
  try clear c4
  try clear c4b0
  try clear c4b1
  try clear c5
  try clear c5b0
  try clear c5b1
  try clear p6
  try clear q6
  try clear hx6
  try clear qi6
  try clear p6
  try clear q6
  obtain ⟨kq, x17_1, rfl, HA, HJ1, ⟨mc1, rfl⟩⟩ := hcut
  cases kq with
  | zero => exact absurd HA.out (by simp [r02_Name.j0])
  | succ kj1 =>
   have H := HA.out
   clear HA
   simp only [r02_Name.j0] at H
   by_cases c8 : x17_1 = true
   ·
    subst c8
    rw [if_pos rfl] at H
    obtain rfl := Option.some.inj H
    go_wp2
    go_ret
    exact ⟨rs_, dr_⟩
   ·
    replace c8 := Bool.eq_false_iff.mpr c8
    subst c8
    rw [if_neg (show ¬ (false = true) by decide)] at H
    have H' := Aside0.mk H
    clear H
    go_wp2
    go_loopg [3] kj1 (fun kq v3 w' => ∃ (x3_2 : Int), v3 = .int .i64 x3_2 ∧ Aside0 (r02_Name.l0 kq a0 x3_2 = some r) ∧ Aside0 (kq ≤ kj1) ∧ Drawn0 w w')
    case atStart => exact ⟨(0), rs_, H', ⟨Nat.le_refl _⟩, dr_⟩
    case round =>
     clear H'
     try clear c1
     try clear p2
     try clear c3
     try clear c3b0
     try clear c3b1
     try clear c4
     try clear c4b0
     try clear c4b1
     try clear c5
     try clear c5b0
     try clear c5b1
     try clear p6
     try clear q6
     try clear hx6
     try clear qi6
     try clear c8
     try clear p2
     try clear p6
     try clear q6
     obtain ⟨x3_2, rfl, HA, HK2, ⟨m2, rfl⟩⟩ := hrel
     cases gk with
     | zero => exact absurd HA.out (by simp [r02_Name.l0])
     | succ k2 =>
      have H := HA.out
      clear HA
      simp only [r02_Name.l0] at H
      by_cases c9 : x3_2 < (a0.size : Int)
      ·
       rw [if_pos c9] at H
       have c9b0 : decide (x3_2 < (a0.size : Int)) = true := decide_eq_true c9
       clear c9
       obtain ⟨c10b0, H⟩ := gdd H
       obtain ⟨t110, A12, H⟩ := bs H
       try dsimp only at H
       by_cases c13 : t110 = true
       ·
        subst c13
        rw [if_pos rfl] at H
        have H' := Aside0.mk H
        clear H
        have p11 : 0 ≤ (x3_2 : Int) := od
        have q11 : x3_2 < (a0.size : Int) := od
        have hx11 := bt_at a0 x3_2
        replace p11 := eq_true p11
        replace q11 := eq_true q11
        go_wp2_with (first | (refine gL (some 27) rfl Tryz.func139 #[.int .u8 (bt a0 x3_2)] ?_; (with_reducible refine (r02_small.calls (bt a0 x3_2) true _ A12.out).mono ?_); rintro e w' ⟨rfl, ⟨nd, rfl⟩⟩; refine ⟨_, rfl, ?_⟩))
        go_roundg k2
        case measure => have := HJ1.out; have := HK2.out; omega
        case rel => exact ⟨(wrap64 (x3_2 + 1)), rs_, H', ⟨by have := HJ1.out; have := HK2.out; omega⟩, dr_⟩
       ·
        replace c13 := Bool.eq_false_iff.mpr c13
        subst c13
        rw [if_neg (show ¬ (false = true) by decide)] at H
        obtain ⟨t111, A15, H⟩ := bs H
        try dsimp only at H
        by_cases c16 : t111 = true
        ·
         subst c16
         rw [if_pos rfl] at H
         have H' := Aside0.mk H
         clear H
         have p11 : 0 ≤ (x3_2 : Int) := od
         have q11 : x3_2 < (a0.size : Int) := od
         have hx11 := bt_at a0 x3_2
         replace p11 := eq_true p11
         replace q11 := eq_true q11
         go_wp2_with (first | (refine gL (some 27) rfl Tryz.func139 #[.int .u8 (bt a0 x3_2)] ?_; (with_reducible refine (r02_small.calls (bt a0 x3_2) false _ A12.out).mono ?_); rintro e w' ⟨rfl, ⟨nd, rfl⟩⟩; refine ⟨_, rfl, ?_⟩; have p14 : 0 ≤ (x3_2 : Int) := od; have q14 : x3_2 < (a0.size : Int) := od; have hx14 := bt_at a0 x3_2; replace p14 := eq_true p14; replace q14 := eq_true q14) | (go_at_call 140; (with_reducible refine (r02_digit.calls (bt a0 x3_2) true _ A15.out).mono ?_); rintro e w' ⟨rfl, ⟨nd, rfl⟩⟩))
         go_roundg k2
         case measure => have := HJ1.out; have := HK2.out; omega
         case rel => exact ⟨(wrap64 (x3_2 + 1)), rs_, H', ⟨by have := HJ1.out; have := HK2.out; omega⟩, dr_⟩
        ·
         replace c16 := Bool.eq_false_iff.mpr c16
         subst c16
         rw [if_neg (show ¬ (false = true) by decide)] at H
         by_cases c18 : (bt a0 x3_2) = 95
         ·
          rw [if_pos c18] at H
          have c18b0 : ((bt a0 x3_2) == 95) = true := beq_iff_eq.mpr c18
          have c18b1 : ((bt a0 x3_2) != 95) = false := bne_eq_false_iff_eq.mpr c18
          clear c18
          have H' := Aside0.mk H
          clear H
          have p11 : 0 ≤ (x3_2 : Int) := od
          have q11 : x3_2 < (a0.size : Int) := od
          have hx11 := bt_at a0 x3_2
          replace p11 := eq_true p11
          replace q11 := eq_true q11
          go_wp2_with (first | (refine gL (some 27) rfl Tryz.func139 #[.int .u8 (bt a0 x3_2)] ?_; (with_reducible refine (r02_small.calls (bt a0 x3_2) false _ A12.out).mono ?_); rintro e w' ⟨rfl, ⟨nd, rfl⟩⟩; refine ⟨_, rfl, ?_⟩; have p14 : 0 ≤ (x3_2 : Int) := od; have q14 : x3_2 < (a0.size : Int) := od; have hx14 := bt_at a0 x3_2; replace p14 := eq_true p14; replace q14 := eq_true q14) | (go_at_call 140; (with_reducible refine (r02_digit.calls (bt a0 x3_2) false _ A15.out).mono ?_); rintro e w' ⟨rfl, ⟨nd, rfl⟩⟩; have p17 : 0 ≤ (x3_2 : Int) := od; have q17 : x3_2 < (a0.size : Int) := od; have hx17 := bt_at a0 x3_2; replace p17 := eq_true p17; replace q17 := eq_true q17))
          go_roundg k2
          case measure => have := HJ1.out; have := HK2.out; omega
          case rel => exact ⟨(wrap64 (x3_2 + 1)), rs_, H', ⟨by have := HJ1.out; have := HK2.out; omega⟩, dr_⟩
         ·
          rw [if_neg c18] at H
          have c18b0 : ((bt a0 x3_2) == 95) = false := beq_eq_false_iff_ne.mpr c18
          have c18b1 : ((bt a0 x3_2) != 95) = true := bne_iff_ne.mpr c18
          obtain rfl := Option.some.inj H
          have p11 : 0 ≤ (x3_2 : Int) := od
          have q11 : x3_2 < (a0.size : Int) := od
          have hx11 := bt_at a0 x3_2
          replace p11 := eq_true p11
          replace q11 := eq_true q11
          go_wp2_with (first | (refine gL (some 27) rfl Tryz.func139 #[.int .u8 (bt a0 x3_2)] ?_; (with_reducible refine (r02_small.calls (bt a0 x3_2) false _ A12.out).mono ?_); rintro e w' ⟨rfl, ⟨nd, rfl⟩⟩; refine ⟨_, rfl, ?_⟩; have p14 : 0 ≤ (x3_2 : Int) := od; have q14 : x3_2 < (a0.size : Int) := od; have hx14 := bt_at a0 x3_2; replace p14 := eq_true p14; replace q14 := eq_true q14) | (go_at_call 140; (with_reducible refine (r02_digit.calls (bt a0 x3_2) false _ A15.out).mono ?_); rintro e w' ⟨rfl, ⟨nd, rfl⟩⟩; have p17 : 0 ≤ (x3_2 : Int) := od; have q17 : x3_2 < (a0.size : Int) := od; have hx17 := bt_at a0 x3_2; replace p17 := eq_true p17; replace q17 := eq_true q17))
          go_ret
          exact ⟨rs_, dr_⟩
      ·
       rw [if_neg c9] at H
       have c9b0 : decide (x3_2 < (a0.size : Int)) = false := decide_eq_false c9
       clear c9
       obtain rfl := Option.some.inj H
       go_wp2
       go_ret
       exact ⟨rs_, dr_⟩
mutual
def r02_Value.j0 : Nat → ByteArray → Bool → Option (Bool)
 | 0, _, _ => none
 | k + 1, x0, x11 => if x11 = true then (some false) else (r02_Value.l0 k x0 0)
def r02_Value.l0 : Nat → ByteArray → Int → Option (Bool)
 | 0, _, _ => none
 | k + 1, x0, x3 => if x3 < (x0.size : Int) then (if 0 ≤ x3 then ((r02_small.f (bt x0 x3)).bind fun t112 => (if t112 = true then (r02_Value.l0 k x0 (wrap64 (x3 + 1))) else ((r02_digit.f (bt x0 x3)).bind fun t113 => (if t113 = true then (r02_Value.l0 k x0 (wrap64 (x3 + 1))) else (if (bt x0 x3) = 95 then (r02_Value.l0 k x0 (wrap64 (x3 + 1))) else (if (bt x0 x3) = 45 then (r02_Value.l0 k x0 (wrap64 (x3 + 1))) else (if (bt x0 x3) = 46 then (r02_Value.l0 k x0 (wrap64 (x3 + 1))) else (some false)))))))) else (none)) else (some true)
end
def r02_Value.f (k : Nat) (a0 : ByteArray) : Option (Bool) := if (a0.size : Int) < 1 then (r02_Value.j0 k a0 true) else (r02_Value.j0 k a0 (decide ((a0.size : Int) > 12)))
theorem r02_Value.mono_l : ∀ k, (∀ y0 y1, LeC (r02_Value.j0 k y0 y1) (r02_Value.j0 (k + 1) y0 y1)) ∧ (∀ y0 y1, LeC (r02_Value.l0 k y0 y1) (r02_Value.l0 (k + 1) y0 y1))
 | 0 => ⟨fun _ _ => ⟨fun r h => by simp [r02_Value.j0] at h⟩, fun _ _ => ⟨fun r h => by simp [r02_Value.l0] at h⟩⟩
 | k + 1 => by obtain ⟨ih0, ih1⟩ := r02_Value.mono_l k; exact ⟨fun _ _ => by unfold r02_Value.j0; exact lm, fun _ _ => by unfold r02_Value.l0; exact lm⟩
theorem r02_Value.mono : ∀ a0 k, LeO (r02_Value.f k a0) (r02_Value.f (k + 1) a0) := by
 intro a0 k
 obtain ⟨ih0, ih1⟩ := r02_Value.mono_l k
 unfold r02_Value.f
 exact lo
instance r02_Value.mI {a0 k} : LeC (r02_Value.f k a0) (r02_Value.f (k + 1) a0) := ⟨r02_Value.mono _ _⟩
theorem r02_Value.calls (k : Nat) (a0 : ByteArray) (r : Bool) (w : World) (h : r02_Value.f k a0 = some r) :
 Calls Tryz.prog 117 #[.string a0] w fun e w' => e = .returned (.bool r) ∧ Drawn0 w w' := by
 have H : (if (a0.size : Int) < 1 then (r02_Value.j0 k a0 true) else (r02_Value.j0 k a0 (decide ((a0.size : Int) > 12)))) = some r := h
 clear h
 have HC2 := Aside0.mk H
 clear H
 go_enter Tryz.func117, Tryz.ntmps117
 go_upto_region 1 with (fail)
 go_cut [11] (fun v11 wc => ∃ (kq : Nat) (x11_1 : Bool), v11 = .bool x11_1 ∧ Aside0 (r02_Value.j0 kq a0 x11_1 = some r) ∧ Aside0 (kq ≤ k) ∧ Drawn0 w wc)
 case first =>
  have H := HC2.out
  clear HC2
  by_cases c3 : (a0.size : Int) < 1
  ·
   rw [if_pos c3] at H
   have c3b0 : decide ((a0.size : Int) < 1) = true := decide_eq_true c3
   have c3b1 : decide (a0.size < 1) = true := decide_eq_true (by omega)
   clear c3
   (first | rw [c3b0] | (simp only [i64_w, i32_w]; rw [c3b0]) | skip)
   have H' := Aside0.mk H
   clear H
   go_wp2
   go_meet
   case rel => exact ⟨_, (true), rs_, H', ⟨by first | omega | exact Nat.le_refl _⟩, dr_⟩
  ·
   rw [if_neg c3] at H
   have c3b0 : decide ((a0.size : Int) < 1) = false := decide_eq_false c3
   have c3b1 : decide (a0.size < 1) = false := decide_eq_false (by omega)
   clear c3
   (first | rw [c3b0] | (simp only [i64_w, i32_w]; rw [c3b0]) | skip)
   have H' := Aside0.mk H
   clear H
   go_wp2
   go_meet
   case rel => exact ⟨_, (decide ((a0.size : Int) > 12)), rs_, H', ⟨by first | omega | exact Nat.le_refl _⟩, dr_⟩
 case rest =>
  clear HC2
  try clear c1
  try clear p2
  try clear c3
  try clear c3b0
  try clear c3b1
  obtain ⟨kq, x11_1, rfl, HA, HJ1, ⟨mc1, rfl⟩⟩ := hcut
  cases kq with
  | zero => exact absurd HA.out (by simp [r02_Value.j0])
  | succ kj1 =>
   have H := HA.out
   clear HA
   simp only [r02_Value.j0] at H
   by_cases c4 : x11_1 = true
   ·
    subst c4
    rw [if_pos rfl] at H
    obtain rfl := Option.some.inj H
    go_wp2
    go_ret
    exact ⟨rs_, dr_⟩
   ·
    replace c4 := Bool.eq_false_iff.mpr c4
    subst c4
    rw [if_neg (show ¬ (false = true) by decide)] at H
    have H' := Aside0.mk H
    clear H
    go_wp2
    go_loopg [3] kj1 (fun kq v3 w' => ∃ (x3_2 : Int), v3 = .int .i64 x3_2 ∧ Aside0 (r02_Value.l0 kq a0 x3_2 = some r) ∧ Aside0 (kq ≤ kj1) ∧ Drawn0 w w')
    case atStart => exact ⟨(0), rs_, H', ⟨Nat.le_refl _⟩, dr_⟩
    case round =>
     clear H'
     try clear c1
     try clear p2
     try clear c3
     try clear c3b0
     try clear c3b1
     try clear c4
     try clear p2
     obtain ⟨x3_2, rfl, HA, HK2, ⟨m2, rfl⟩⟩ := hrel
     cases gk with
     | zero => exact absurd HA.out (by simp [r02_Value.l0])
     | succ k2 =>
      have H := HA.out
      clear HA
      simp only [r02_Value.l0] at H
      by_cases c5 : x3_2 < (a0.size : Int)
      ·
       rw [if_pos c5] at H
       have c5b0 : decide (x3_2 < (a0.size : Int)) = true := decide_eq_true c5
       clear c5
       obtain ⟨c6b0, H⟩ := gdd H
       obtain ⟨t112, A8, H⟩ := bs H
       try dsimp only at H
       by_cases c9 : t112 = true
       ·
        subst c9
        rw [if_pos rfl] at H
        have H' := Aside0.mk H
        clear H
        have p7 : 0 ≤ (x3_2 : Int) := od
        have q7 : x3_2 < (a0.size : Int) := od
        have hx7 := bt_at a0 x3_2
        replace p7 := eq_true p7
        replace q7 := eq_true q7
        go_wp2_with (first | (refine gL (some 21) rfl Tryz.func139 #[.int .u8 (bt a0 x3_2)] ?_; (with_reducible refine (r02_small.calls (bt a0 x3_2) true _ A8.out).mono ?_); rintro e w' ⟨rfl, ⟨nd, rfl⟩⟩; refine ⟨_, rfl, ?_⟩))
        go_roundg k2
        case measure => have := HJ1.out; have := HK2.out; omega
        case rel => exact ⟨(wrap64 (x3_2 + 1)), rs_, H', ⟨by have := HJ1.out; have := HK2.out; omega⟩, dr_⟩
       ·
        replace c9 := Bool.eq_false_iff.mpr c9
        subst c9
        rw [if_neg (show ¬ (false = true) by decide)] at H
        obtain ⟨t113, A11, H⟩ := bs H
        try dsimp only at H
        by_cases c12 : t113 = true
        ·
         subst c12
         rw [if_pos rfl] at H
         have H' := Aside0.mk H
         clear H
         have p7 : 0 ≤ (x3_2 : Int) := od
         have q7 : x3_2 < (a0.size : Int) := od
         have hx7 := bt_at a0 x3_2
         replace p7 := eq_true p7
         replace q7 := eq_true q7
         go_wp2_with (first | (refine gL (some 21) rfl Tryz.func139 #[.int .u8 (bt a0 x3_2)] ?_; (with_reducible refine (r02_small.calls (bt a0 x3_2) false _ A8.out).mono ?_); rintro e w' ⟨rfl, ⟨nd, rfl⟩⟩; refine ⟨_, rfl, ?_⟩; have p10 : 0 ≤ (x3_2 : Int) := od; have q10 : x3_2 < (a0.size : Int) := od; have hx10 := bt_at a0 x3_2; replace p10 := eq_true p10; replace q10 := eq_true q10) | (go_at_call 140; (with_reducible refine (r02_digit.calls (bt a0 x3_2) true _ A11.out).mono ?_); rintro e w' ⟨rfl, ⟨nd, rfl⟩⟩))
         go_roundg k2
         case measure => have := HJ1.out; have := HK2.out; omega
         case rel => exact ⟨(wrap64 (x3_2 + 1)), rs_, H', ⟨by have := HJ1.out; have := HK2.out; omega⟩, dr_⟩
        ·
         replace c12 := Bool.eq_false_iff.mpr c12
         subst c12
         rw [if_neg (show ¬ (false = true) by decide)] at H
         by_cases c14 : (bt a0 x3_2) = 95
         ·
          rw [if_pos c14] at H
          have c14b0 : ((bt a0 x3_2) == 95) = true := beq_iff_eq.mpr c14
          have c14b1 : ((bt a0 x3_2) != 95) = false := bne_eq_false_iff_eq.mpr c14
          clear c14
          have H' := Aside0.mk H
          clear H
          have p7 : 0 ≤ (x3_2 : Int) := od
          have q7 : x3_2 < (a0.size : Int) := od
          have hx7 := bt_at a0 x3_2
          replace p7 := eq_true p7
          replace q7 := eq_true q7
          go_wp2_with (first | (refine gL (some 21) rfl Tryz.func139 #[.int .u8 (bt a0 x3_2)] ?_; (with_reducible refine (r02_small.calls (bt a0 x3_2) false _ A8.out).mono ?_); rintro e w' ⟨rfl, ⟨nd, rfl⟩⟩; refine ⟨_, rfl, ?_⟩; have p10 : 0 ≤ (x3_2 : Int) := od; have q10 : x3_2 < (a0.size : Int) := od; have hx10 := bt_at a0 x3_2; replace p10 := eq_true p10; replace q10 := eq_true q10) | (go_at_call 140; (with_reducible refine (r02_digit.calls (bt a0 x3_2) false _ A11.out).mono ?_); rintro e w' ⟨rfl, ⟨nd, rfl⟩⟩; have p13 : 0 ≤ (x3_2 : Int) := od; have q13 : x3_2 < (a0.size : Int) := od; have hx13 := bt_at a0 x3_2; replace p13 := eq_true p13; replace q13 := eq_true q13))
          go_roundg k2
          case measure => have := HJ1.out; have := HK2.out; omega
          case rel => exact ⟨(wrap64 (x3_2 + 1)), rs_, H', ⟨by have := HJ1.out; have := HK2.out; omega⟩, dr_⟩
         ·
          rw [if_neg c14] at H
          have c14b0 : ((bt a0 x3_2) == 95) = false := beq_eq_false_iff_ne.mpr c14
          have c14b1 : ((bt a0 x3_2) != 95) = true := bne_iff_ne.mpr c14
          by_cases c16 : (bt a0 x3_2) = 45
          ·
           rw [if_pos c16] at H
           have c16b0 : ((bt a0 x3_2) == 45) = true := beq_iff_eq.mpr c16
           have c16b1 : ((bt a0 x3_2) != 45) = false := bne_eq_false_iff_eq.mpr c16
           clear c16
           have H' := Aside0.mk H
           clear H
           have p7 : 0 ≤ (x3_2 : Int) := od
           have q7 : x3_2 < (a0.size : Int) := od
           have hx7 := bt_at a0 x3_2
           replace p7 := eq_true p7
           replace q7 := eq_true q7
           go_wp2_with (first | (refine gL (some 21) rfl Tryz.func139 #[.int .u8 (bt a0 x3_2)] ?_; (with_reducible refine (r02_small.calls (bt a0 x3_2) false _ A8.out).mono ?_); rintro e w' ⟨rfl, ⟨nd, rfl⟩⟩; refine ⟨_, rfl, ?_⟩; have p10 : 0 ≤ (x3_2 : Int) := od; have q10 : x3_2 < (a0.size : Int) := od; have hx10 := bt_at a0 x3_2; replace p10 := eq_true p10; replace q10 := eq_true q10) | (go_at_call 140; (with_reducible refine (r02_digit.calls (bt a0 x3_2) false _ A11.out).mono ?_); rintro e w' ⟨rfl, ⟨nd, rfl⟩⟩; have p13 : 0 ≤ (x3_2 : Int) := od; have q13 : x3_2 < (a0.size : Int) := od; have hx13 := bt_at a0 x3_2; replace p13 := eq_true p13; replace q13 := eq_true q13; have p15 : 0 ≤ (x3_2 : Int) := od; have q15 : x3_2 < (a0.size : Int) := od; have hx15 := bt_at a0 x3_2; replace p15 := eq_true p15; replace q15 := eq_true q15))
           go_roundg k2
           case measure => have := HJ1.out; have := HK2.out; omega
           case rel => exact ⟨(wrap64 (x3_2 + 1)), rs_, H', ⟨by have := HJ1.out; have := HK2.out; omega⟩, dr_⟩
          ·
           rw [if_neg c16] at H
           have c16b0 : ((bt a0 x3_2) == 45) = false := beq_eq_false_iff_ne.mpr c16
           have c16b1 : ((bt a0 x3_2) != 45) = true := bne_iff_ne.mpr c16
           by_cases c18 : (bt a0 x3_2) = 46
           ·
            rw [if_pos c18] at H
            have c18b0 : ((bt a0 x3_2) == 46) = true := beq_iff_eq.mpr c18
            have c18b1 : ((bt a0 x3_2) != 46) = false := bne_eq_false_iff_eq.mpr c18
            clear c18
            have H' := Aside0.mk H
            clear H
            have p7 : 0 ≤ (x3_2 : Int) := od
            have q7 : x3_2 < (a0.size : Int) := od
            have hx7 := bt_at a0 x3_2
            replace p7 := eq_true p7
            replace q7 := eq_true q7
            go_wp2_with (first | (refine gL (some 21) rfl Tryz.func139 #[.int .u8 (bt a0 x3_2)] ?_; (with_reducible refine (r02_small.calls (bt a0 x3_2) false _ A8.out).mono ?_); rintro e w' ⟨rfl, ⟨nd, rfl⟩⟩; refine ⟨_, rfl, ?_⟩; have p10 : 0 ≤ (x3_2 : Int) := od; have q10 : x3_2 < (a0.size : Int) := od; have hx10 := bt_at a0 x3_2; replace p10 := eq_true p10; replace q10 := eq_true q10) | (go_at_call 140; (with_reducible refine (r02_digit.calls (bt a0 x3_2) false _ A11.out).mono ?_); rintro e w' ⟨rfl, ⟨nd, rfl⟩⟩; have p13 : 0 ≤ (x3_2 : Int) := od; have q13 : x3_2 < (a0.size : Int) := od; have hx13 := bt_at a0 x3_2; replace p13 := eq_true p13; replace q13 := eq_true q13; have p15 : 0 ≤ (x3_2 : Int) := od; have q15 : x3_2 < (a0.size : Int) := od; have hx15 := bt_at a0 x3_2; replace p15 := eq_true p15; replace q15 := eq_true q15; have p17 : 0 ≤ (x3_2 : Int) := od; have q17 : x3_2 < (a0.size : Int) := od; have hx17 := bt_at a0 x3_2; replace p17 := eq_true p17; replace q17 := eq_true q17))
            go_roundg k2
            case measure => have := HJ1.out; have := HK2.out; omega
            case rel => exact ⟨(wrap64 (x3_2 + 1)), rs_, H', ⟨by have := HJ1.out; have := HK2.out; omega⟩, dr_⟩
           ·
            rw [if_neg c18] at H
            have c18b0 : ((bt a0 x3_2) == 46) = false := beq_eq_false_iff_ne.mpr c18
            have c18b1 : ((bt a0 x3_2) != 46) = true := bne_iff_ne.mpr c18
            obtain rfl := Option.some.inj H
            have p7 : 0 ≤ (x3_2 : Int) := od
            have q7 : x3_2 < (a0.size : Int) := od
            have hx7 := bt_at a0 x3_2
            replace p7 := eq_true p7
            replace q7 := eq_true q7
            go_wp2_with (first | (refine gL (some 21) rfl Tryz.func139 #[.int .u8 (bt a0 x3_2)] ?_; (with_reducible refine (r02_small.calls (bt a0 x3_2) false _ A8.out).mono ?_); rintro e w' ⟨rfl, ⟨nd, rfl⟩⟩; refine ⟨_, rfl, ?_⟩; have p10 : 0 ≤ (x3_2 : Int) := od; have q10 : x3_2 < (a0.size : Int) := od; have hx10 := bt_at a0 x3_2; replace p10 := eq_true p10; replace q10 := eq_true q10) | (go_at_call 140; (with_reducible refine (r02_digit.calls (bt a0 x3_2) false _ A11.out).mono ?_); rintro e w' ⟨rfl, ⟨nd, rfl⟩⟩; have p13 : 0 ≤ (x3_2 : Int) := od; have q13 : x3_2 < (a0.size : Int) := od; have hx13 := bt_at a0 x3_2; replace p13 := eq_true p13; replace q13 := eq_true q13; have p15 : 0 ≤ (x3_2 : Int) := od; have q15 : x3_2 < (a0.size : Int) := od; have hx15 := bt_at a0 x3_2; replace p15 := eq_true p15; replace q15 := eq_true q15; have p17 : 0 ≤ (x3_2 : Int) := od; have q17 : x3_2 < (a0.size : Int) := od; have hx17 := bt_at a0 x3_2; replace p17 := eq_true p17; replace q17 := eq_true q17))
            go_ret
            exact ⟨rs_, dr_⟩
      ·
       rw [if_neg c5] at H
       have c5b0 : decide (x3_2 < (a0.size : Int)) = false := decide_eq_false c5
       clear c5
       obtain rfl := Option.some.inj H
       go_wp2
       go_ret
       exact ⟨rs_, dr_⟩
def r03_may.f (k : Nat) (a0_0 : ByteArray) (a0_1 : ByteArray) : Option (Bool) := (r02_Name.f k a0_0).bind fun t115 => (if t115 = true then ((r02_Value.f k a0_1).bind fun t116 => (some t116)) else (some false))
theorem r03_may.mono : ∀ a0 a1 k, LeO (r03_may.f k a0 a1) (r03_may.f (k + 1) a0 a1) := by
 intro a0 a1 k
 unfold r03_may.f
 exact lo
instance r03_may.mI {a0 a1 k} : LeC (r03_may.f k a0 a1) (r03_may.f (k + 1) a0 a1) := ⟨r03_may.mono _ _ _⟩
theorem r03_may.calls (k : Nat) (a0_0 : ByteArray) (a0_1 : ByteArray) (r : Bool) (w : World) (h : r03_may.f k a0_0 a0_1 = some r) :
 Calls Tryz.prog 95 #[.agg #[.string a0_0, .string a0_1]] w fun e w' => e = .returned (.bool r) ∧ Below w.heap.size w w' := by
 have hu98 := Tryz.underlying98
 have HB := Aside0.mk (Below.refl w.heap.size w)
 have H : ((r02_Name.f k a0_0).bind fun t115 => (if t115 = true then ((r02_Value.f k a0_1).bind fun t116 => (some t116)) else (some false))) = some r := h
 clear h
 obtain ⟨t115, A2, H⟩ := bs H
 try dsimp only at H
 by_cases c3 : t115 = true
 ·
  subst c3
  rw [if_pos rfl] at H
  obtain ⟨t116, A4, H⟩ := bs H
  try dsimp only at H
  obtain rfl := Option.some.inj H
  go_enter Tryz.func95, Tryz.ntmps95
  go_wp2_with (first | ((with_reducible refine gate_dst (N := 1) rfl ?_); refine bx (N := 1) #[.string a0_0, .string a0_1] 98 ?_; intro gb114 hg w5 hbox hb; have BK114 := Aside0.mk (hbox); have GW114 := gw hg (uW HB.out); have GE114 := GW114; replace HB := cW HB hb; clear hb hbox hg; obtain ⟨hcz6_0, hcz6_1, hfz6_0, hfz6_1⟩ := z2 BK114) | (refine gL (some 5) rfl Tryz.func116 #[.string a0_0] ?_; (with_reducible refine (r02_Name.calls k a0_0 true _ A2.out).mono ?_); rintro e w' ⟨rfl, ⟨nd, rfl⟩⟩; refine ⟨_, rfl, ?_⟩) | (go_at_call 117; (with_reducible refine (r02_Value.calls k a0_1 t116 _ A4.out).mono ?_); rintro e w' ⟨rfl, ⟨nd, rfl⟩⟩))
  go_ret
  exact ⟨re_, bl⟩
 ·
  replace c3 := Bool.eq_false_iff.mpr c3
  subst c3
  rw [if_neg (show ¬ (false = true) by decide)] at H
  obtain rfl := Option.some.inj H
  go_enter Tryz.func95, Tryz.ntmps95
  go_wp2_with (first | ((with_reducible refine gate_dst (N := 1) rfl ?_); refine bx (N := 1) #[.string a0_0, .string a0_1] 98 ?_; intro gb114 hg w7 hbox hb; have BK114 := Aside0.mk (hbox); have GW114 := gw hg (uW HB.out); have GE114 := GW114; replace HB := cW HB hb; clear hb hbox hg; obtain ⟨hcz8_0, hcz8_1, hfz8_0, hfz8_1⟩ := z2 BK114) | (refine gL (some 5) rfl Tryz.func116 #[.string a0_0] ?_; (with_reducible refine (r02_Name.calls k a0_0 false _ A2.out).mono ?_); rintro e w' ⟨rfl, ⟨nd, rfl⟩⟩; refine ⟨_, rfl, ?_⟩))
  go_ret
  exact ⟨re_, bl⟩
mutual
def r03_Canon.l0 : Nat → List (S98) → Int → Option ((List (S98)) × Int)
 | 0, _, _ => none
 | k + 1, x0, x4 => if x4 < (x0.length : Int) then (if 0 ≤ x4 then ((r03_may.f k ((rd_T98 x0 x4).f0) ((rd_T98 x0 x4).f1)).bind fun t118 => (if t118 = true then (r03_Canon.l0 k x0 (wrap64 (x4 + 1))) else (some (([] : List (S98)), 2)))) else (none)) else (if (x0.length : Int) > 4 then (some (([] : List (S98)), 4)) else (r03_Canon.l1 k x0 ([] : List (S98)) 0))
def r03_Canon.l1 : Nat → List (S98) → List (S98) → Int → Option ((List (S98)) × Int)
 | 0, _, _, _ => none
 | k + 1, x0, x5, x6 => if x6 < (x0.length : Int) then (r03_Canon.l2 k x0 x5 x6 0) else (some (x5, 0))
def r03_Canon.l2 : Nat → List (S98) → List (S98) → Int → Int → Option ((List (S98)) × Int)
 | 0, _, _, _, _ => none
 | k + 1, x0, x5, x6, x7 => if x7 < (x5.length : Int) then (if 0 ≤ x7 then (if 0 ≤ x6 then (if x6 < (x0.length : Int) then (if (Op.bytesLess (((rd_T98 x5 x7).f0).toList) (((rd_T98 x0 x6).f0).toList)) = true then (r03_Canon.l2 k x0 x5 x6 (wrap64 (x7 + 1))) else (if ((rd_T98 x5 x7).f0).toList = ((rd_T98 x0 x6).f0).toList then (some (([] : List (S98)), 5)) else ((some (([] : List (S98)) : List (S98))).bind fun y123 => (if x7 ≤ (x5.length : Int) then ((some (x5.drop (x7 : Int).toNat : List (S98))).bind fun y126 => (if y123.length + y126.length < 4398046511104 then ((some (y123 ++ y126 : List (S98))).bind fun y130 => ((some (x5.take (x7 : Int).toNat : List (S98))).bind fun y133 => (if y133.length < 4398046511104 then ((some (y133 ++ [(⟨(rd_T98 x0 x6).f0, (rd_T98 x0 x6).f1⟩ : S98)] : List (S98))).bind fun y137 => (if y137.length + y130.length < 4398046511104 then (r03_Canon.l1 k x0 (y137 ++ y130) (wrap64 (x6 + 1))) else (none))) else (none)))) else (none))) else (none))))) else (none)) else (none)) else (none)) else ((some (([] : List (S98)) : List (S98))).bind fun y143 => (if 0 ≤ x7 then (if x7 ≤ (x5.length : Int) then ((some (x5.drop (x7 : Int).toNat : List (S98))).bind fun y146 => (if y143.length + y146.length < 4398046511104 then ((some (y143 ++ y146 : List (S98))).bind fun y150 => ((some (x5.take (x7 : Int).toNat : List (S98))).bind fun y153 => (if 0 ≤ x6 then (if x6 < (x0.length : Int) then (if y153.length < 4398046511104 then ((some (y153 ++ [(⟨(rd_T98 x0 x6).f0, (rd_T98 x0 x6).f1⟩ : S98)] : List (S98))).bind fun y157 => (if y157.length + y150.length < 4398046511104 then (r03_Canon.l1 k x0 (y157 ++ y150) (wrap64 (x6 + 1))) else (none))) else (none)) else (none)) else (none)))) else (none))) else (none)) else (none)))
end
def r03_Canon.f (k : Nat) (l0 : List (S98)) : Option ((List (S98)) × Int) := r03_Canon.l0 k l0 0
theorem r03_Canon.mono_l : ∀ k, (∀ y0 y1, LeC (r03_Canon.l0 k y0 y1) (r03_Canon.l0 (k + 1) y0 y1)) ∧ (∀ y0 y1 y2, LeC (r03_Canon.l1 k y0 y1 y2) (r03_Canon.l1 (k + 1) y0 y1 y2)) ∧ (∀ y0 y1 y2 y3, LeC (r03_Canon.l2 k y0 y1 y2 y3) (r03_Canon.l2 (k + 1) y0 y1 y2 y3))
 | 0 => ⟨fun _ _ => ⟨fun r h => by simp [r03_Canon.l0] at h⟩, fun _ _ _ => ⟨fun r h => by simp [r03_Canon.l1] at h⟩, fun _ _ _ _ => ⟨fun r h => by simp [r03_Canon.l2] at h⟩⟩
 | k + 1 => by obtain ⟨ih0, ih1, ih2⟩ := r03_Canon.mono_l k; exact ⟨fun _ _ => by unfold r03_Canon.l0; exact lm, fun _ _ _ => by unfold r03_Canon.l1; exact lm, fun _ _ _ _ => by unfold r03_Canon.l2; exact lm⟩
theorem r03_Canon.mono : ∀ a0 k, LeO (r03_Canon.f k a0) (r03_Canon.f (k + 1) a0) := by
 intro a0 k
 obtain ⟨ih0, ih1, ih2⟩ := r03_Canon.mono_l k
 unfold r03_Canon.f
 exact lo
instance r03_Canon.mI {a0 k} : LeC (r03_Canon.f k a0) (r03_Canon.f (k + 1) a0) := ⟨r03_Canon.mono _ _⟩
def r03_Canon.T13 : Bool × List (List Nat × List Nat) := (true, [([], []), ([], []), ([1], [1]), ([0, 2], [0, 2]), ([3], [3]), ([4], [4]), ([4], [4]), ([5, 6, 4], [4, 5, 6]), ([7, 4], [4, 7]), ([8, 4], [4, 8]), ([4], [4]), ([4], [4]), ([10, 11, 4], [4, 10, 11]), ([12, 4], [4, 12]), ([13, 4], [4, 13]), ([9, 14, 4], [4, 9, 14]), ([4, 15], [4, 15])])
def r03_Canon.B13 : List Nat := [0, 0, 2, 7, 15, 31, 31, 127, 255, 511, 31, 31, 3103, 7199, 15391, 32767, 65535]
theorem r03_Canon.tab13 : rtab .any (opsOf Tryz.f78 13) = r03_Canon.T13 := by kernel_rfl
theorem r03_Canon.bits13 : waitsOk r03_Canon.T13.2 r03_Canon.B13 = true := by kernel_rfl
def r03_Canon.T15 : Bool × List (List Nat × List Nat) := (true, [([], []), ([], []), ([1], [1]), ([0, 2], [0, 2]), ([3], [3]), ([4], [4]), ([4], [4]), ([5, 6, 4], [4, 5, 6]), ([7, 4], [4, 7]), ([8, 4], [4, 8]), ([4], [4]), ([4], [4]), ([10, 11, 4], [4, 10, 11]), ([12, 4], [4, 12]), ([13, 4], [4, 13]), ([9, 14, 4], [4, 9, 14]), ([4, 15], [4, 15])])
def r03_Canon.B15 : List Nat := [0, 0, 2, 7, 15, 31, 31, 127, 255, 511, 31, 31, 3103, 7199, 15391, 32767, 65535]
theorem r03_Canon.tab15 : rtab .any (opsOf Tryz.f78 15) = r03_Canon.T15 := by kernel_rfl
theorem r03_Canon.bits15 : waitsOk r03_Canon.T15.2 r03_Canon.B15 = true := by kernel_rfl
def r03_Canon.T18 : Bool × List (List Nat × List Nat) := (true, [([], []), ([], []), ([0, 1], [0, 1]), ([], []), ([], []), ([3, 4], [3, 4]), ([5], [5]), ([6], [6]), ([2, 7], [2, 7]), ([], []), ([8, 9, 8], [8, 9]), ([10, 10, 0, 1, 2, 3, 4, 5, 6, 7, 8, 9, 10], [0, 10])])
def r03_Canon.B18 : List Nat := [0, 0, 3, 0, 0, 24, 56, 120, 255, 0, 1023, 2047]
theorem r03_Canon.tab18 : rtab .any (opsOf Tryz.f78 18) = r03_Canon.T18 := by kernel_rfl
theorem r03_Canon.bits18 : waitsOk r03_Canon.T18.2 r03_Canon.B18 = true := by kernel_rfl
theorem r03_Canon.calls (k : Nat) (A0 : Option Addr) (c0 : Nat) (l0 : List (S98)) (r1 : List (S98)) (r2 : Int) (w : World) (hr0 : Kd.C k98 w A0 l0.length l0) (hc0 : l0.length ≤ c0) (h : r03_Canon.f k l0 = some (r1, r2)) :
 Calls Tryz.prog 78 #[.slice A0 l0.length c0] w fun e w' => ∃ v0_ : Value, e = .returned (.tuple #[v0_, .int .i64 r2]) ∧ Kd.R k98 98 w' w.heap.size (fun _ => True) v0_ r1 ∧ Below w.heap.size w w' := by
 have hu98 := Tryz.underlying98
 have HR0 := Aside0.mk hr0
 have HC0 := Aside0.mk hc0
 clear hr0 hc0
 have HB := Aside0.mk (Below.refl w.heap.size w)
 have H : (r03_Canon.l0 k l0 0) = some (r1, r2) := h
 clear h
 have H' := Aside0.mk H
 clear H
 go_enter Tryz.func78, Tryz.ntmps78
 go_wp2
 go_loopg [4] k (fun kq v4 w' => ∃ (x4_1 : Int), v4 = .int .i64 x4_1 ∧ Aside0 (r03_Canon.l0 kq l0 x4_1 = some (r1, r2)) ∧ Aside0 (kq ≤ k) ∧ Aside0 (Below w.heap.size w w'))
 case atStart => exact ⟨(0), rs_, H', ⟨Nat.le_refl _⟩, ⟨uW HB.out⟩⟩
 case round =>
  clear H'
  obtain ⟨x4_1, rfl, HA, HK1, HB⟩ := hrel
  cases gk with
  | zero => exact absurd HA.out (by simp [r03_Canon.l0])
  | succ k1 =>
   have H := HA.out
   clear HA
   simp only [r03_Canon.l0] at H
   by_cases c2 : x4_1 < (l0.length : Int)
   ·
    rw [if_pos c2] at H
    have c2b0 : decide (x4_1 < (l0.length : Int)) = true := decide_eq_true c2
    clear c2
    obtain ⟨c3b0, H⟩ := gdd H
    obtain ⟨t118, A4, H⟩ := bs H
    try dsimp only at H
    by_cases c5 : t118 = true
    ·
     subst c5
     rw [if_pos rfl] at H
     have H' := Aside0.mk H
     clear H
     have p117 : 0 ≤ (x4_1 : Int) := od
     have q117 : x4_1 < (l0.length : Int) := od
     obtain ⟨ad117, e117, hx117_0, hx117_1⟩ := at_T98 HR0.out x4_1 p117 q117
     cases e117
     replace hx117_0 := kc HB hx117_0
     replace hx117_1 := kc HB hx117_1
     replace p117 := eq_true p117
     replace q117 := eq_true q117
     go_wp2_with (first | (refine gL (some 19) rfl Tryz.func95 #[.agg #[.string ((rd_T98 l0 x4_1).f0), .string ((rd_T98 l0 x4_1).f1)]] ?_; (with_reducible refine (r03_may.calls k1 ((rd_T98 l0 x4_1).f0) ((rd_T98 l0 x4_1).f1) true _ A4.out).mono ?_); rintro e w6 ⟨rfl, hb⟩; refine ⟨_, rfl, ?_⟩; replace HB := cW HB hb; (try clear hb)))
     go_roundg k1
     case measure => have := HK1.out; omega
     case rel => exact ⟨(wrap64 (x4_1 + 1)), rs_, H', ⟨by have := HK1.out; omega⟩, ⟨uW HB.out⟩⟩
    ·
     replace c5 := Bool.eq_false_iff.mpr c5
     subst c5
     rw [if_neg (show ¬ (false = true) by decide)] at H
     simp only [Option.some.injEq, Prod.mk.injEq] at H
     obtain ⟨rfl, rfl⟩ := H
     have p117 : 0 ≤ (x4_1 : Int) := od
     have q117 : x4_1 < (l0.length : Int) := od
     obtain ⟨ad117, e117, hx117_0, hx117_1⟩ := at_T98 HR0.out x4_1 p117 q117
     cases e117
     replace hx117_0 := kc HB hx117_0
     replace hx117_1 := kc HB hx117_1
     replace p117 := eq_true p117
     replace q117 := eq_true q117
     go_wp2_with (first | (refine gL (some 19) rfl Tryz.func95 #[.agg #[.string ((rd_T98 l0 x4_1).f0), .string ((rd_T98 l0 x4_1).f1)]] ?_; (with_reducible refine (r03_may.calls k1 ((rd_T98 l0 x4_1).f0) ((rd_T98 l0 x4_1).f1) false _ A4.out).mono ?_); rintro e w7 ⟨rfl, hb⟩; refine ⟨_, rfl, ?_⟩; replace HB := cW HB hb; (try clear hb)))
     go_ret2
     exact ⟨_, re_, nl_, uW HB.out⟩
   ·
    rw [if_neg c2] at H
    have c2b0 : decide (x4_1 < (l0.length : Int)) = false := decide_eq_false c2
    clear c2
    by_cases c8 : (l0.length : Int) > 4
    ·
     rw [if_pos c8] at H
     have c8b0 : decide (4 < (l0.length : Int)) = true := decide_eq_true c8
     have c8b1 : decide (4 < l0.length) = true := decide_eq_true (by omega)
     clear c8
     simp only [Option.some.injEq, Prod.mk.injEq] at H
     obtain ⟨rfl, rfl⟩ := H
     go_wp2
     go_ret2
     exact ⟨_, re_, nl_, uW HB.out⟩
    ·
     rw [if_neg c8] at H
     have c8b0 : decide (4 < (l0.length : Int)) = false := decide_eq_false c8
     have c8b1 : decide (4 < l0.length) = false := decide_eq_false (by omega)
     clear c8
     have H' := Aside0.mk H
     clear H
     go_wp2
     go_loopg [5, 6] k1 (fun kq v5 v6 w' => ∃ (x5_2 : List (S98)) (x6_2 : Int), v6 = .int .i64 x6_2 ∧ Aside0 (r03_Canon.l1 kq l0 x5_2 x6_2 = some (r1, r2)) ∧ Aside0 (kq ≤ k1) ∧ Aside0 (Kd.R k98 98 w' w.heap.size (fun _ => True) v5 x5_2) ∧ Aside0 (Below w.heap.size w w'))
     case atStart => exact ⟨(([] : List (S98))), (0), rs_, H', ⟨Nat.le_refl _⟩, ⟨nl_⟩, ⟨uW HB.out⟩⟩
     case round =>
      clear H'
      try clear p1
      try clear q1
      try clear hx1
      try clear c2
      try clear c2b0
      try clear p2
      try clear c3
      try clear c3b0
      try clear c5
      try clear p6
      try clear c7
      try clear c8
      try clear c8b0
      try clear c8b1
      try clear hx117_0
      try clear hx117_1
      try clear p117
      try clear q117
      obtain ⟨x5_2, x6_2, rfl, HA, HK2, HO_5, HB⟩ := hrel
      cases gk with
      | zero => exact absurd HA.out (by simp [r03_Canon.l1])
      | succ k2 =>
       have H := HA.out
       clear HA
       simp only [r03_Canon.l1] at H
       by_cases c9 : x6_2 < (l0.length : Int)
       ·
        rw [if_pos c9] at H
        have c9b0 : decide (x6_2 < (l0.length : Int)) = true := decide_eq_true c9
        clear c9
        have H' := Aside0.mk H
        clear H
        go_wp2
        go_loopg [7] k2 (fun kq v7 w' => ∃ (x7_3 : Int), v7 = .int .i64 x7_3 ∧ Aside0 (r03_Canon.l2 kq l0 x5_2 x6_2 x7_3 = some (r1, r2)) ∧ Aside0 (kq ≤ k2) ∧ Aside0 (Kd.R k98 98 w' w.heap.size (fun _ => True) u5 x5_2) ∧ Aside0 (Below w.heap.size w w'))
        case atStart => exact ⟨(0), rs_, H', ⟨Nat.le_refl _⟩, ⟨uR HO_5.out⟩, ⟨uW HB.out⟩⟩
        case round =>
         clear H'
         try clear p1
         try clear q1
         try clear hx1
         try clear c2
         try clear c2b0
         try clear p2
         try clear c3
         try clear c3b0
         try clear c5
         try clear p6
         try clear c7
         try clear c8
         try clear c8b0
         try clear c8b1
         try clear c9
         try clear c9b0
         try clear hx117_0
         try clear hx117_1
         try clear p1
         try clear p117
         try clear p2
         try clear p6
         try clear q1
         try clear q117
         obtain ⟨x7_3, rfl, HA, HK3, HO_5, HB⟩ := hrel
         cases gk with
         | zero => exact absurd HA.out (by simp [r03_Canon.l2])
         | succ k3 =>
          have H := HA.out
          clear HA
          simp only [r03_Canon.l2] at H
          by_cases c10 : x7_3 < (x5_2.length : Int)
          ·
           rw [if_pos c10] at H
           have c10b0 : decide (x7_3 < (x5_2.length : Int)) = true := decide_eq_true c10
           clear c10
           obtain ⟨c11b0, H⟩ := gdd H
           obtain ⟨c12b0, H⟩ := gdd H
           obtain ⟨c13b0, H⟩ := gdd H
           by_cases c14 : (Op.bytesLess (((rd_T98 x5_2 x7_3).f0).toList) (((rd_T98 l0 x6_2).f0).toList)) = true
           ·
            rw [if_pos c14] at H
            have c14b0 : (Op.bytesLess (((rd_T98 x5_2 x7_3).f0).toList) (((rd_T98 l0 x6_2).f0).toList)) = true := c14
            clear c14
            have H' := Aside0.mk H
            clear H
            try go_wp2
            replace HO_5 := Aside0.mk (Kd.R_drew HO_5.out)
            replace HB := Aside0.mk (below_drew1 HB.out)
            obtain ⟨Ao16, co16, eo16⟩ := Kd.R_slice HO_5.out
            (first | subst eo16 | (injection eo16 with f1_ f2_ f3_; have f4_ := f1_.symm; have f5_ := f3_.symm; clear f1_ f2_ f3_; subst f4_; subst f5_))
            have p119 : 0 ≤ (x7_3 : Int) := od
            have q119 : x7_3 < (x5_2.length : Int) := od
            obtain ⟨ad119, e119, hx119_0, hx119_1⟩ := at_T98 (Kd.R_reads' HO_5.out).2.2 x7_3 p119 q119
            cases e119
            replace p119 := eq_true p119
            replace q119 := eq_true q119
            have p120 : 0 ≤ (x6_2 : Int) := od
            have q120 : x6_2 < (l0.length : Int) := od
            obtain ⟨ad120, e120, hx120_0, hx120_1⟩ := at_T98 HR0.out x6_2 p120 q120
            have hw120_1 := hx120_1
            have hw120_0 := hx120_0
            cases e120
            replace hx120_0 := kc HB hx120_0
            replace hx120_1 := kc HB hx120_1
            replace p120 := eq_true p120
            replace q120 := eq_true q120
            refine start_ (n := 17) (S := fun w' => w'.cell? (ad119.add ((x7_3).toNat * 2)) = some (.string ((rd_T98 x5_2 x7_3).f0)) ∧ w'.cell? ⟨(ad119.add ((x7_3).toNat * 2)).block, (ad119.add ((x7_3).toNat * 2)).off + 1, none⟩ = some (.string ((rd_T98 x5_2 x7_3).f1)) ∧ w'.cell? (ad120.add ((x6_2).toNat * 2)) = some (.string ((rd_T98 l0 x6_2).f0)) ∧ w'.cell? ⟨(ad120.add ((x6_2).toNat * 2)).block, (ad120.add ((x6_2).toNat * 2)).off + 1, none⟩ = some (.string ((rd_T98 l0 x6_2).f1))) (ds := []) _ (by kernel_rfl) rfl rfl ⟨hx119_0, hx119_1, (kc HB hw120_0), (kc HB hw120_1)⟩ (fun hHeld => ?_); refine with_tabW r03_Canon.tab13 r03_Canon.bits13 (fun HT_ HW_ => ?_)
            generalize wr.drew = w15 at HO_5 HB hx119_0 hx119_1 hx120_0 hx120_1 hHeld ⊢
            refine p1 0 (some 30) ?_
            refine p1 1 (some 31) ?_
            refine p1 2 (some 32) ?_
            refine p1 3 (some 33) ?_
            refine p1 4 (some 34) ?_
            refine p1 5 (some 35) ?_
            refine p1 6 (some 36) ?_
            refine p1 7 (some 37) ?_
            refine p1 8 (some 38) ?_
            refine p1 10 (some 40) ?_
            refine p1 11 (some 41) ?_
            refine p1 12 (some 42) ?_
            refine p1 13 (some 43) ?_
            refine t1 9 (some 39) rfl rfl hHeld (Or.inl ⟨by rfl, by rintro w' ⟨s0, s1, s2, s3⟩; go_simp; with_reducible rfl⟩) ?_
            refine t1 14 (some 44) rfl rfl hHeld (Or.inl ⟨by rfl, by rintro w' ⟨s0, s1, s2, s3⟩; go_simp; with_reducible rfl⟩) ?_
            refine p1 15 (some 45) ?_
            refine p1 16 (some 46) ?_
            refine done_ (done_of HT_.out (by kernel_rfl)) ?_
            try go_wp2
            go_roundg k3
            case measure => have := HK1.out; have := HK2.out; have := HK3.out; omega
            case rel => exact ⟨(wrap64 (x7_3 + 1)), rs_, H', ⟨by have := HK1.out; have := HK2.out; have := HK3.out; omega⟩, ⟨uR HO_5.out⟩, ⟨uW HB.out⟩⟩
           ·
            rw [if_neg c14] at H
            have c14b0 : (Op.bytesLess (((rd_T98 x5_2 x7_3).f0).toList) (((rd_T98 l0 x6_2).f0).toList)) = false := by simpa using c14
            clear c14
            by_cases c17 : ((rd_T98 x5_2 x7_3).f0).toList = ((rd_T98 l0 x6_2).f0).toList
            ·
             rw [if_pos c17] at H
             have c17b0 : (((rd_T98 x5_2 x7_3).f0).toList == ((rd_T98 l0 x6_2).f0).toList) = true := beq_iff_eq.mpr c17
             have c17b1 : (((rd_T98 x5_2 x7_3).f0).toList != ((rd_T98 l0 x6_2).f0).toList) = false := bne_eq_false_iff_eq.mpr c17
             clear c17
             simp only [Option.some.injEq, Prod.mk.injEq] at H
             obtain ⟨rfl, rfl⟩ := H
             try go_wp2
             replace HO_5 := Aside0.mk (Kd.R_drew HO_5.out)
             replace HB := Aside0.mk (below_drew1 HB.out)
             obtain ⟨Ao19, co19, eo19⟩ := Kd.R_slice HO_5.out
             (first | subst eo19 | (injection eo19 with f1_ f2_ f3_; have f4_ := f1_.symm; have f5_ := f3_.symm; clear f1_ f2_ f3_; subst f4_; subst f5_))
             have p119 : 0 ≤ (x7_3 : Int) := od
             have q119 : x7_3 < (x5_2.length : Int) := od
             obtain ⟨ad119, e119, hx119_0, hx119_1⟩ := at_T98 (Kd.R_reads' HO_5.out).2.2 x7_3 p119 q119
             cases e119
             replace p119 := eq_true p119
             replace q119 := eq_true q119
             have p120 : 0 ≤ (x6_2 : Int) := od
             have q120 : x6_2 < (l0.length : Int) := od
             obtain ⟨ad120, e120, hx120_0, hx120_1⟩ := at_T98 HR0.out x6_2 p120 q120
             have hw120_1 := hx120_1
             have hw120_0 := hx120_0
             cases e120
             replace hx120_0 := kc HB hx120_0
             replace hx120_1 := kc HB hx120_1
             replace p120 := eq_true p120
             replace q120 := eq_true q120
             refine start_ (n := 17) (S := fun w' => w'.cell? (ad119.add ((x7_3).toNat * 2)) = some (.string ((rd_T98 x5_2 x7_3).f0)) ∧ w'.cell? ⟨(ad119.add ((x7_3).toNat * 2)).block, (ad119.add ((x7_3).toNat * 2)).off + 1, none⟩ = some (.string ((rd_T98 x5_2 x7_3).f1)) ∧ w'.cell? (ad120.add ((x6_2).toNat * 2)) = some (.string ((rd_T98 l0 x6_2).f0)) ∧ w'.cell? ⟨(ad120.add ((x6_2).toNat * 2)).block, (ad120.add ((x6_2).toNat * 2)).off + 1, none⟩ = some (.string ((rd_T98 l0 x6_2).f1))) (ds := []) _ (by kernel_rfl) rfl rfl ⟨hx119_0, hx119_1, (kc HB hw120_0), (kc HB hw120_1)⟩ (fun hHeld => ?_); refine with_tabW r03_Canon.tab13 r03_Canon.bits13 (fun HT_ HW_ => ?_)
             generalize wr.drew = w18 at HO_5 HB hx119_0 hx119_1 hx120_0 hx120_1 hHeld ⊢
             refine p1 0 (some 30) ?_
             refine p1 1 (some 31) ?_
             refine p1 2 (some 32) ?_
             refine p1 3 (some 33) ?_
             refine p1 4 (some 34) ?_
             refine p1 5 (some 35) ?_
             refine p1 6 (some 36) ?_
             refine p1 7 (some 37) ?_
             refine p1 8 (some 38) ?_
             refine p1 10 (some 40) ?_
             refine p1 11 (some 41) ?_
             refine p1 12 (some 42) ?_
             refine p1 13 (some 43) ?_
             refine t1 9 (some 39) rfl rfl hHeld (Or.inl ⟨by rfl, by rintro w' ⟨s0, s1, s2, s3⟩; go_simp; with_reducible rfl⟩) ?_
             refine t1 14 (some 44) rfl rfl hHeld (Or.inl ⟨by rfl, by rintro w' ⟨s0, s1, s2, s3⟩; go_simp; with_reducible rfl⟩) ?_
             refine p1 15 (some 45) ?_
             refine p1 16 (some 46) ?_
             refine done_ (done_of HT_.out (by kernel_rfl)) ?_
             try go_wp2
             replace HO_5 := Aside0.mk (Kd.R_drew HO_5.out)
             replace HB := Aside0.mk (below_drew1 HB.out)
             have p121 : 0 ≤ (x7_3 : Int) := od
             have q121 : x7_3 < (x5_2.length : Int) := od
             obtain ⟨ad121, e121, hx121_0, hx121_1⟩ := at_T98 (Kd.R_reads' HO_5.out).2.2 x7_3 p121 q121
             obtain rfl : ad119 = ad121 := (by injection e121)
             replace p121 := eq_true p121
             replace q121 := eq_true q121
             have p122 : 0 ≤ (x6_2 : Int) := od
             have q122 : x6_2 < (l0.length : Int) := od
             obtain ⟨ad122, e122, hx122_0, hx122_1⟩ := at_T98 HR0.out x6_2 p122 q122
             have hw122_1 := hx122_1
             have hw122_0 := hx122_0
             obtain rfl : ad120 = ad122 := (by injection e122)
             replace hx122_0 := kc HB hx122_0
             replace hx122_1 := kc HB hx122_1
             replace p122 := eq_true p122
             replace q122 := eq_true q122
             refine start_ (n := 17) (S := fun w' => w'.cell? (ad119.add ((x7_3).toNat * 2)) = some (.string ((rd_T98 x5_2 x7_3).f0)) ∧ w'.cell? ⟨(ad119.add ((x7_3).toNat * 2)).block, (ad119.add ((x7_3).toNat * 2)).off + 1, none⟩ = some (.string ((rd_T98 x5_2 x7_3).f1)) ∧ w'.cell? (ad120.add ((x6_2).toNat * 2)) = some (.string ((rd_T98 l0 x6_2).f0)) ∧ w'.cell? ⟨(ad120.add ((x6_2).toNat * 2)).block, (ad120.add ((x6_2).toNat * 2)).off + 1, none⟩ = some (.string ((rd_T98 l0 x6_2).f1))) (ds := []) _ (by kernel_rfl) rfl rfl ⟨hx121_0, hx121_1, (kc HB hw122_0), (kc HB hw122_1)⟩ (fun hHeld => ?_); refine with_tabW r03_Canon.tab15 r03_Canon.bits15 (fun HT_ HW_ => ?_)
             generalize w18.drew = w20 at HO_5 HB hx121_0 hx121_1 hx122_0 hx122_1 hHeld ⊢
             refine p1 0 (some 49) ?_
             refine p1 1 (some 50) ?_
             refine p1 2 (some 51) ?_
             refine p1 3 (some 52) ?_
             refine p1 4 (some 53) ?_
             refine p1 5 (some 54) ?_
             refine p1 6 (some 55) ?_
             refine p1 7 (some 56) ?_
             refine p1 8 (some 57) ?_
             refine p1 10 (some 59) ?_
             refine p1 11 (some 60) ?_
             refine p1 12 (some 61) ?_
             refine p1 13 (some 62) ?_
             refine t1 9 (some 58) rfl rfl hHeld (Or.inl ⟨by rfl, by rintro w' ⟨s0, s1, s2, s3⟩; go_simp; with_reducible rfl⟩) ?_
             refine t1 14 (some 63) rfl rfl hHeld (Or.inl ⟨by rfl, by rintro w' ⟨s0, s1, s2, s3⟩; go_simp; with_reducible rfl⟩) ?_
             refine p1 15 (some 64) ?_
             refine p1 16 (some 65) ?_
             refine done_ (done_of HT_.out (by kernel_rfl)) ?_
             try go_wp2
             go_ret2
             exact ⟨_, re_, nl_, uW HB.out⟩
            ·
             rw [if_neg c17] at H
             have c17b0 : (((rd_T98 x5_2 x7_3).f0).toList == ((rd_T98 l0 x6_2).f0).toList) = false := beq_eq_false_iff_ne.mpr c17
             have c17b1 : (((rd_T98 x5_2 x7_3).f0).toList != ((rd_T98 l0 x6_2).f0).toList) = true := bne_iff_ne.mpr c17
             obtain ⟨y123, Ny123, H⟩ := ys H
             try dsimp only at H
             have c21b0 := eq_true (od : 0 ≤ x7_3)
             obtain ⟨c22, H⟩ := gd H
             have c22b0 := eq_true c22
             have c22b1 : decide (x7_3 ≤ (x5_2.length : Int)) = true := decide_eq_true c22
             clear c22
             obtain ⟨y126, Ny126, H⟩ := ys H
             try dsimp only at H
             obtain ⟨c23, H⟩ := gd H
             have LMc23 := Aside0.mk c23
             clear c23
             obtain ⟨y130, Ny130, H⟩ := ys H
             try dsimp only at H
             have c24b0 := eq_true (od : x7_3 ≤ (x5_2.length : Int))
             obtain ⟨y133, Ny133, H⟩ := ys H
             try dsimp only at H
             obtain ⟨c25, H⟩ := gd H
             have LMc25 := Aside0.mk c25
             clear c25
             obtain ⟨y137, Ny137, H⟩ := ys H
             try dsimp only at H
             obtain ⟨c26, H⟩ := gd H
             have LMc26 := Aside0.mk c26
             clear c26
             obtain ⟨y140, hy140⟩ : ∃ y_ : List (S98), y_ = (y137 ++ y130) := ⟨_, rfl⟩
             replace H : (r03_Canon.l1 k3 l0 y140 (wrap64 (x6_2 + 1))) = some (r1, r2) := by first | (rw [hy140]; with_reducible exact H) | (have H2_ := (Option.bind_some _ _).symm.trans H; rw [hy140]; with_reducible exact H2_) | (have H2_ := (Option.bind_some _ _).symm.trans H; with_reducible exact H2_) | with_reducible exact H | (rw [hy140]; exact H) | exact H
             have Ny140 := Aside0.mk hy140
             clear hy140
             have H' := Aside0.mk H
             clear H
             try go_wp2
             replace HO_5 := Aside0.mk (Kd.R_drew HO_5.out)
             replace HB := Aside0.mk (below_drew1 HB.out)
             obtain ⟨Ao28, co28, eo28⟩ := Kd.R_slice HO_5.out
             (first | subst eo28 | (injection eo28 with f1_ f2_ f3_; have f4_ := f1_.symm; have f5_ := f3_.symm; clear f1_ f2_ f3_; subst f4_; subst f5_))
             have p119 : 0 ≤ (x7_3 : Int) := od
             have q119 : x7_3 < (x5_2.length : Int) := od
             obtain ⟨ad119, e119, hx119_0, hx119_1⟩ := at_T98 (Kd.R_reads' HO_5.out).2.2 x7_3 p119 q119
             cases e119
             replace p119 := eq_true p119
             replace q119 := eq_true q119
             have p120 : 0 ≤ (x6_2 : Int) := od
             have q120 : x6_2 < (l0.length : Int) := od
             obtain ⟨ad120, e120, hx120_0, hx120_1⟩ := at_T98 HR0.out x6_2 p120 q120
             have hw120_1 := hx120_1
             have hw120_0 := hx120_0
             cases e120
             replace hx120_0 := kc HB hx120_0
             replace hx120_1 := kc HB hx120_1
             replace p120 := eq_true p120
             replace q120 := eq_true q120
             refine start_ (n := 17) (S := fun w' => w'.cell? (ad119.add ((x7_3).toNat * 2)) = some (.string ((rd_T98 x5_2 x7_3).f0)) ∧ w'.cell? ⟨(ad119.add ((x7_3).toNat * 2)).block, (ad119.add ((x7_3).toNat * 2)).off + 1, none⟩ = some (.string ((rd_T98 x5_2 x7_3).f1)) ∧ w'.cell? (ad120.add ((x6_2).toNat * 2)) = some (.string ((rd_T98 l0 x6_2).f0)) ∧ w'.cell? ⟨(ad120.add ((x6_2).toNat * 2)).block, (ad120.add ((x6_2).toNat * 2)).off + 1, none⟩ = some (.string ((rd_T98 l0 x6_2).f1))) (ds := []) _ (by kernel_rfl) rfl rfl ⟨hx119_0, hx119_1, (kc HB hw120_0), (kc HB hw120_1)⟩ (fun hHeld => ?_); refine with_tabW r03_Canon.tab13 r03_Canon.bits13 (fun HT_ HW_ => ?_)
             generalize wr.drew = w27 at HO_5 HB hx119_0 hx119_1 hx120_0 hx120_1 hHeld ⊢
             refine p1 0 (some 30) ?_
             refine p1 1 (some 31) ?_
             refine p1 2 (some 32) ?_
             refine p1 3 (some 33) ?_
             refine p1 4 (some 34) ?_
             refine p1 5 (some 35) ?_
             refine p1 6 (some 36) ?_
             refine p1 7 (some 37) ?_
             refine p1 8 (some 38) ?_
             refine p1 10 (some 40) ?_
             refine p1 11 (some 41) ?_
             refine p1 12 (some 42) ?_
             refine p1 13 (some 43) ?_
             refine t1 9 (some 39) rfl rfl hHeld (Or.inl ⟨by rfl, by rintro w' ⟨s0, s1, s2, s3⟩; go_simp; with_reducible rfl⟩) ?_
             refine t1 14 (some 44) rfl rfl hHeld (Or.inl ⟨by rfl, by rintro w' ⟨s0, s1, s2, s3⟩; go_simp; with_reducible rfl⟩) ?_
             refine p1 15 (some 45) ?_
             refine p1 16 (some 46) ?_
             refine done_ (done_of HT_.out (by kernel_rfl)) ?_
             try go_wp2
             replace HO_5 := Aside0.mk (Kd.R_drew HO_5.out)
             replace HB := Aside0.mk (below_drew1 HB.out)
             have p121 : 0 ≤ (x7_3 : Int) := od
             have q121 : x7_3 < (x5_2.length : Int) := od
             obtain ⟨ad121, e121, hx121_0, hx121_1⟩ := at_T98 (Kd.R_reads' HO_5.out).2.2 x7_3 p121 q121
             obtain rfl : ad119 = ad121 := (by injection e121)
             replace p121 := eq_true p121
             replace q121 := eq_true q121
             have p122 : 0 ≤ (x6_2 : Int) := od
             have q122 : x6_2 < (l0.length : Int) := od
             obtain ⟨ad122, e122, hx122_0, hx122_1⟩ := at_T98 HR0.out x6_2 p122 q122
             have hw122_1 := hx122_1
             have hw122_0 := hx122_0
             obtain rfl : ad120 = ad122 := (by injection e122)
             replace hx122_0 := kc HB hx122_0
             replace hx122_1 := kc HB hx122_1
             replace p122 := eq_true p122
             replace q122 := eq_true q122
             refine start_ (n := 17) (S := fun w' => w'.cell? (ad119.add ((x7_3).toNat * 2)) = some (.string ((rd_T98 x5_2 x7_3).f0)) ∧ w'.cell? ⟨(ad119.add ((x7_3).toNat * 2)).block, (ad119.add ((x7_3).toNat * 2)).off + 1, none⟩ = some (.string ((rd_T98 x5_2 x7_3).f1)) ∧ w'.cell? (ad120.add ((x6_2).toNat * 2)) = some (.string ((rd_T98 l0 x6_2).f0)) ∧ w'.cell? ⟨(ad120.add ((x6_2).toNat * 2)).block, (ad120.add ((x6_2).toNat * 2)).off + 1, none⟩ = some (.string ((rd_T98 l0 x6_2).f1))) (ds := []) _ (by kernel_rfl) rfl rfl ⟨hx121_0, hx121_1, (kc HB hw122_0), (kc HB hw122_1)⟩ (fun hHeld => ?_); refine with_tabW r03_Canon.tab15 r03_Canon.bits15 (fun HT_ HW_ => ?_)
             generalize w27.drew = w29 at HO_5 HB hx121_0 hx121_1 hx122_0 hx122_1 hHeld ⊢
             refine p1 0 (some 49) ?_
             refine p1 1 (some 50) ?_
             refine p1 2 (some 51) ?_
             refine p1 3 (some 52) ?_
             refine p1 4 (some 53) ?_
             refine p1 5 (some 54) ?_
             refine p1 6 (some 55) ?_
             refine p1 7 (some 56) ?_
             refine p1 8 (some 57) ?_
             refine p1 10 (some 59) ?_
             refine p1 11 (some 60) ?_
             refine p1 12 (some 61) ?_
             refine p1 13 (some 62) ?_
             refine t1 9 (some 58) rfl rfl hHeld (Or.inl ⟨by rfl, by rintro w' ⟨s0, s1, s2, s3⟩; go_simp; with_reducible rfl⟩) ?_
             refine t1 14 (some 63) rfl rfl hHeld (Or.inl ⟨by rfl, by rintro w' ⟨s0, s1, s2, s3⟩; go_simp; with_reducible rfl⟩) ?_
             refine p1 15 (some 64) ?_
             refine p1 16 (some 65) ?_
             refine done_ (done_of HT_.out (by kernel_rfl)) ?_
             try go_wp2_with (first | ((with_reducible refine gate_dst (N := 66) rfl ?_); refine Kd.R_lit k98 _ 98 ?hg (N := 66) ?hd (xs := ([] : List (S98))) (inner := []) (ok := fun _ => True) (okp := fun _ => True) ?hr ?hp (fun _ hk => hk) trivial (Below.refl _ _) (Nat.le_refl _) (by simp) ?_; (case hd => rfl); (case hg => rfl); (case hr => first | (go_simp; done) | (go_simp; rfl)); (case hp => exact (Reps.none _ _)); intro v124 w30 ho31 hb hg_ hnew_; clear hg_ hnew_; (first | rw [← Ny123.out] at ho31 | (simp only [Int.reduceToNat] at ho31; rw [← Ny123.out] at ho31)); have HO125 := Aside0.mk (Kd.R_lower (Kd.R_new' ho31 (Kd.R_lt (uR HO_5.out))) (below_size (uW HB.out))); replace HO_5 := Aside0.mk (Kd.R_elder' (uR HO_5.out) (Kd.R_base ho31) hb); replace HB := cW HB hb; clear hb ho31; have q32 : (x7_3 : Int) ≤ ((x5_2.length : Int) : Int) := od; obtain ⟨i032, hi032, _, hsz32, _⟩ := info_parts info98; have hroom32 : x5_2.length ≤ co28 := (Kd.R_reads' HO_5.out).2.1; have hC32 : Kd.C k98 _ (some ad119) x5_2.length x5_2 := (Kd.R_reads' HO_5.out).2.2; have q032 : (0 : Int) ≤ (x7_3 : Int) := od; have hcut32 := cut_from (P := Tryz.prog) 78 98 .i64 Tryz.underlying78 hi032 2 hsz32 (some ad119) x5_2.length co28 x7_3 q032 q32; have hr32 := Kd.C_drop (m := (x7_3 : Int).toNat) (c := co28) hC32 (by omega) hroom32; obtain ⟨A32, hA32⟩ : ∃ A1, A1 = (if co28 = (x7_3 : Int).toNat then (some ad119) else ((some ad119) : Option Addr).map (·.add ((x7_3 : Int).toNat * 2))) := ⟨_, rfl⟩; obtain ⟨c32, hc32⟩ : ∃ c1, c1 = co28 - (x7_3 : Int).toNat := ⟨_, rfl⟩; have hy32 : y126.length = x5_2.length - (x7_3 : Int).toNat := (by rw [Ny126.out, List.length_drop] <;> omega); rw [show (x5_2).drop (x7_3 : Int).toNat = y126 from Ny126.out.symm] at hr32; replace hr32 : Kd.C k98 _ A32 y126.length y126 := (by rw [hA32]; exact hr32); rw [← hy32, ← hA32, ← hc32] at hcut32; have HR129 := Aside0.mk hr32; have HC129 := Aside0.mk (show y126.length ≤ c32 from by rw [hy32, hc32]; exact Nat.sub_le_sub_right hroom32 _); clear hr32 hC32 hroom32 hi032 hsz32 hc32; have KY32 := Aside0.mk hy32; have KA32 := Aside0.mk hA32; clear hy32 hA32; have KL32 := Aside0.mk (show (x7_3 : Int).toNat ≤ x5_2.length from by omega); replace q32 := eq_true q32) | ((with_reducible refine gate_builtin (b := .append) (xs := #[.tmp 66, .tmp 69]) rfl ?_); at_builtin; refine Kd.R_append_rows k98 (w0 := w) w.heap.size rfl (.tmp 66) (.tmp 69) 78 98 (.agg #[(.string ⟨#[]⟩), (.string ⟨#[]⟩)]) 32 rfl Tryz.underlying78 info98 rfl (by decide) (by omega) v124 y123 y126 _ _ _ (fun k_ => some k_ ≠ (.slice (some ad119) x5_2.length co28 : Value).ownBlock) (fun _ => False) rfl rfl ?aO ?aR (fun _ _ h => h) (fun _ h => h.elim) ?aF ?aB ?aS ?aL ?_; (case aR => repeat (first | exact (by repeat (first | (with_reducible exact HR129.out) | (with_reducible refine Kd.C_alloc ?_ _) | (with_reducible refine Kd.C_drewN ?_ _) | (with_reducible refine Kd.C_drew ?_) | exact HR129.out)) | (with_reducible refine Kd.C_alloc ?_ _) | (with_reducible refine Kd.C_drewN ?_ _) | (with_reducible refine Kd.C_drew ?_))); (case aB => exact (uW HB.out)); (case aF => exact (fun k_ hk => Kd.fresh' (Kd.R_lt (uR HO_5.out)) k_ hk)); (case aO => exact (by exact uR <| Kd.R_mono HO125.out (fun _ hk => hk.2))); (case aS => exact (below_size (uW HB.out))); (case aL => have := LMc23.out; omega); intro v131 w33 ho hb hg hat; rw [← Ny130.out] at ho; replace HB := Aside0.mk (hb); replace HR129 := Aside0.mk ((show Kd.C k98 w33 A32 y126.length y126 from by rw [Ny126.out, KA32.out]; exact Kd.C_drop (m := (x7_3 : Int).toNat) (c := co28) ((Kd.R_reads' (Kd.R_after (ok := (fun _ => True)) (uR HO_5.out) hg hat)).2.2) KL32.out ((Kd.R_reads' (Kd.R_after (ok := (fun _ => True)) (uR HO_5.out) hg hat)).2.1))); replace HO_5 := Aside0.mk (Kd.R_after (ok := (fun _ => True)) (uR HO_5.out) hg hat); have HO132 := Aside0.mk (ho); clear HO125; clear ho hb hg hat))
             replace HO_5 := Aside0.mk (Kd.R_drew HO_5.out)
             replace HO132 := Aside0.mk (Kd.R_drew HO132.out)
             replace HR129 := Aside0.mk (Kd.C_drew HR129.out)
             replace HB := Aside0.mk (below_drew1 HB.out)
             have q35 : (x7_3 : Int) ≤ ((x5_2.length : Int) : Int) := od
             obtain ⟨i035, hi035, _, hsz35, _⟩ := info_parts info98
             have hcut35 := cut_to (P := Tryz.prog) 78 98 .i64 Tryz.underlying78 hi035 (some ad119) x5_2.length co28 x7_3 (od) q35 (Kd.R_reads' HO_5.out).2.1
             have hr35 := Kd.R_take (m := (x7_3 : Int).toNat) HO_5.out (by omega)
             have hy35 : y133.length = (x7_3 : Int).toNat := (by rw [Ny133.out, List.length_take]; omega)
             rw [← Ny133.out] at hr35
             rw [← hy35] at hr35 hcut35
             clear hy35 hi035 hsz35 HO_5
             have HO135 := Aside0.mk hr35
             clear hr35
             replace q35 := eq_true q35
             have p136 : 0 ≤ (x6_2 : Int) := od
             have q136 : x6_2 < (l0.length : Int) := od
             obtain ⟨ad136, e136, hx136_0, hx136_1⟩ := at_T98 HR0.out x6_2 p136 q136
             have hw136_1 := hx136_1
             have hw136_0 := hx136_0
             obtain rfl : ad120 = ad136 := (by injection e136)
             replace hx136_0 := kc HB hx136_0
             replace hx136_1 := kc HB hx136_1
             replace p136 := eq_true p136
             replace q136 := eq_true q136
             refine start_ (n := 12) (S := fun w' => w'.cell? (ad120.add ((x6_2).toNat * 2)) = some (.string ((rd_T98 l0 x6_2).f0)) ∧ w'.cell? ⟨(ad120.add ((x6_2).toNat * 2)).block, (ad120.add ((x6_2).toNat * 2)).off + 1, none⟩ = some (.string ((rd_T98 l0 x6_2).f1))) (ds := []) _ (by kernel_rfl) rfl rfl ⟨(kc HB hw136_0), (kc HB hw136_1)⟩ (fun hHeld => ?_); refine with_tabW r03_Canon.tab18 r03_Canon.bits18 (fun HT_ HW_ => ?_)
             generalize w33.drew = w34 at HO132 HR129 HB HO135 hx136_0 hx136_1 hHeld ⊢
             refine p1 0 (some 71) ?_
             refine p1 1 (some 72) ?_
             refine p1 2 (some 73) ?_
             refine p1 3 (some 74) ?_
             refine p1 4 (some 75) ?_
             refine p1 5 (some 76) ?_
             refine p1 9 (some 80) ?_
             refine t1 6 (some 77) rfl rfl hHeld (Or.inl ⟨by rfl, by rintro w' ⟨s0, s1⟩; go_simp; with_reducible rfl⟩) ?_
             refine o1 7 (some 78) rfl rfl (fun K hK => ?_)
             refine value_ (w1 := ?_) (v := ?_) (by rfl) rfl ?_ ?_
             rotate_left 2
             ·
              go_simp
              constructor
              ·
               rfl
              ·
               rfl
             refine hK.out _ _ ⟨(World.cell?_alloc_lt _ _ _ (World.block_lt_of_cell? _ _ ((kc HB hw136_0)))).trans ((kc HB hw136_0)), (World.cell?_alloc_lt _ _ _ (World.block_lt_of_cell? _ _ ((kc HB hw136_1)))).trans ((kc HB hw136_1))⟩ (fun hHeld => ?_)
             clear hK K
             refine norm_ (a' := ?_) ?_ ?_
             rotate_left
             ·
              show Act.put _ (some 78) _ = _
              simp only [Act.put, List.setIfInBounds_toArray, List.set_cons_zero, List.set_cons_succ, i64_w, i32_w]
              rfl
             refine o1 8 (some 79) rfl rfl (fun K hK => ?_)
             refine Kd.R_append_step k98 (w0 := w) w.heap.size (by rfl) (.tmp 73) (.tmp 78) 78 98 (.agg #[(.string ⟨#[]⟩), (.string ⟨#[]⟩)]) 32 rfl Tryz.underlying78 info98 rfl (by decide) (by omega) (.slice (some ad119) y133.length co28) y133 (⟨(rd_T98 l0 x6_2).f0, (rd_T98 l0 x6_2).f1⟩ : S98) [.string ((rd_T98 l0 x6_2).f0), .string ((rd_T98 l0 x6_2).f1)] (fun k_ => some k_ ≠ (v131 : Value).ownBlock) (fun _ => False) rfl rfl ?aP (fun _ hk => hk.elim) ?aF ?aO ?aB ?aS ?aL ?_
             (case aP => exact k98_mkM _ _ _ (⟨(rd_T98 l0 x6_2).f0, (rd_T98 l0 x6_2).f1⟩ : S98))
             (case aB => exact (uW HB.out))
             (case aF => exact (fun k_ hk => Kd.fresh' (Kd.R_lt (uR HO132.out)) k_ hk))
             (case aO => exact (by exact uR <| Kd.R_mono HO135.out (fun _ hk => hk.2)))
             (case aS => exact (below_size (uW HB.out)))
             (case aL => have := LMc25.out; omega)
             intro v138 w36 ho hb hg hat
             rw [← Ny137.out] at ho
             replace HO132 := Aside0.mk (Kd.R_after (ok := (fun _ => True)) (by exact uR <| Kd.R_mono HO132.out (fun _ hk => ⟨trivial, hk⟩)) hg hat)
             replace HB := Aside0.mk (hb)
             have HO139 := Aside0.mk (ho)
             clear HO135
             clear ho hb hg hat
             obtain ⟨Ao38, co38, eo38⟩ := Kd.R_slice HO132.out
             (first | subst eo38 | (injection eo38 with f1_ f2_ f3_; have f4_ := f1_.symm; have f5_ := f3_.symm; clear f1_ f2_ f3_; subst f4_; subst f5_))
             refine hK.out _ _ ⟨(kc HB hw136_0), (kc HB hw136_1)⟩ (fun hHeld => ?_)
             clear hK K
             refine norm_ (a' := ?_) ?_ ?_
             rotate_left
             ·
              show Act.put _ (some 79) _ = _
              simp only [Act.put, List.setIfInBounds_toArray, List.set_cons_zero, List.set_cons_succ, i64_w, i32_w]
              rfl
             refine o1 10 (some 81) rfl rfl (fun K hK => ?_)
             refine Kd.R_append_rows_step k98 (w0 := w) w.heap.size (by rfl) (.tmp 79) (.tmp 80) 78 98 (.agg #[(.string ⟨#[]⟩), (.string ⟨#[]⟩)]) 32 rfl Tryz.underlying78 info98 rfl (by decide) (by omega) v138 y137 y130 _ _ _ (fun k_ => some k_ ≠ (.slice Ao38 y130.length co38 : Value).ownBlock) (fun _ => False) rfl rfl ?aO ?aR (fun _ _ h => h) (fun _ h => h.elim) ?aF ?aB ?aS ?aL ?_
             (case aR => exact uC <| (Kd.R_reads' HO132.out).2.2)
             (case aB => exact (uW HB.out))
             (case aF => exact (fun k_ hk => Kd.fresh' (Kd.R_lt (uR HO132.out)) k_ hk))
             (case aO => exact (uR HO139.out))
             (case aS => exact (below_size (uW HB.out)))
             (case aL => have := LMc26.out; omega)
             intro v141 w37 ho hb hg hat
             rw [← Ny140.out] at ho
             replace HO132 := Aside0.mk (Kd.R_after (ok := (fun _ => True)) (uR HO132.out) hg hat)
             replace HB := Aside0.mk (hb)
             have HO142 := Aside0.mk (ho)
             clear HO139
             clear ho hb hg hat
             refine hK.out _ _ ⟨(kc HB hw136_0), (kc HB hw136_1)⟩ (fun hHeld => ?_)
             clear hK K
             refine norm_ (a' := ?_) ?_ ?_
             rotate_left
             ·
              show Act.put _ (some 81) _ = _
              simp only [Act.put, List.setIfInBounds_toArray, List.set_cons_zero, List.set_cons_succ, i64_w, i32_w]
              rfl
             refine p1 11 (some 5) ?_
             refine done_ (done_of HT_.out (by kernel_rfl)) ?_
             try go_wp2
             go_roundg k3
             case measure => have := HK1.out; have := HK2.out; have := HK3.out; omega
             case rel => exact ⟨(y140), (wrap64 (x6_2 + 1)), rs_, H', ⟨by have := HK1.out; have := HK2.out; have := HK3.out; omega⟩, ⟨by exact uR <| Kd.R_mono HO142.out (fun _ hk => trivial)⟩, ⟨uW HB.out⟩⟩
          ·
           rw [if_neg c10] at H
           have c10b0 : decide (x7_3 < (x5_2.length : Int)) = false := decide_eq_false c10
           clear c10
           obtain ⟨y143, Ny143, H⟩ := ys H
           try dsimp only at H
           obtain ⟨c39, H⟩ := gd H
           have c39b0 := eq_true c39
           have c39b1 : decide (0 ≤ x7_3) = true := decide_eq_true c39
           clear c39
           obtain ⟨c40, H⟩ := gd H
           have c40b0 := eq_true c40
           have c40b1 : decide (x7_3 ≤ (x5_2.length : Int)) = true := decide_eq_true c40
           clear c40
           obtain ⟨y146, Ny146, H⟩ := ys H
           try dsimp only at H
           obtain ⟨c41, H⟩ := gd H
           have LMc41 := Aside0.mk c41
           clear c41
           obtain ⟨y150, Ny150, H⟩ := ys H
           try dsimp only at H
           have c42b0 := eq_true (od : x7_3 ≤ (x5_2.length : Int))
           obtain ⟨y153, Ny153, H⟩ := ys H
           try dsimp only at H
           obtain ⟨c43b0, H⟩ := gdd H
           obtain ⟨c44b0, H⟩ := gdd H
           obtain ⟨c45, H⟩ := gd H
           have LMc45 := Aside0.mk c45
           clear c45
           obtain ⟨y157, Ny157, H⟩ := ys H
           try dsimp only at H
           obtain ⟨c46, H⟩ := gd H
           have LMc46 := Aside0.mk c46
           clear c46
           obtain ⟨y160, hy160⟩ : ∃ y_ : List (S98), y_ = (y157 ++ y150) := ⟨_, rfl⟩
           replace H : (r03_Canon.l1 k3 l0 y160 (wrap64 (x6_2 + 1))) = some (r1, r2) := by first | (rw [hy160]; with_reducible exact H) | (have H2_ := (Option.bind_some _ _).symm.trans H; rw [hy160]; with_reducible exact H2_) | (have H2_ := (Option.bind_some _ _).symm.trans H; with_reducible exact H2_) | with_reducible exact H | (rw [hy160]; exact H) | exact H
           have Ny160 := Aside0.mk hy160
           clear hy160
           have H' := Aside0.mk H
           clear H
           try go_wp2
           replace HO_5 := Aside0.mk (Kd.R_drew HO_5.out)
           replace HB := Aside0.mk (below_drew1 HB.out)
           obtain ⟨Ao48, co48, eo48⟩ := Kd.R_slice HO_5.out
           (first | subst eo48 | (injection eo48 with f1_ f2_ f3_; have f4_ := f1_.symm; have f5_ := f3_.symm; clear f1_ f2_ f3_; subst f4_; subst f5_))
           refine start_ (n := 17) (S := fun w' => True) (ds := []) _ (by kernel_rfl) rfl rfl trivial (fun hHeld => ?_); refine with_tabW r03_Canon.tab13 r03_Canon.bits13 (fun HT_ HW_ => ?_)
           generalize wr.drew = w47 at HO_5 HB hHeld ⊢
           refine p1 0 (some 30) ?_
           refine p1 1 (some 31) ?_
           refine p1 2 (some 32) ?_
           refine p1 3 (some 33) ?_
           refine p1 4 (some 34) ?_
           refine p2 5 (some 35) ?_
           refine p2 6 (some 36) ?_
           refine p2 7 (some 37) ?_
           refine p2 8 (some 38) ?_
           refine p2 9 (some 39) ?_
           refine p2 10 (some 40) ?_
           refine p2 11 (some 41) ?_
           refine p2 12 (some 42) ?_
           refine p2 13 (some 43) ?_
           refine p2 14 (some 44) ?_
           refine p2 15 (some 45) ?_
           refine p1 16 (some 46) ?_
           refine done_ (done_of HT_.out (by kernel_rfl)) ?_
           try go_wp2
           replace HO_5 := Aside0.mk (Kd.R_drew HO_5.out)
           replace HB := Aside0.mk (below_drew1 HB.out)
           refine start_ (n := 17) (S := fun w' => True) (ds := []) _ (by kernel_rfl) rfl rfl trivial (fun hHeld => ?_); refine with_tabW r03_Canon.tab15 r03_Canon.bits15 (fun HT_ HW_ => ?_)
           generalize w47.drew = w49 at HO_5 HB hHeld ⊢
           refine p1 0 (some 49) ?_
           refine p1 1 (some 50) ?_
           refine p1 2 (some 51) ?_
           refine p1 3 (some 52) ?_
           refine p1 4 (some 53) ?_
           refine p2 5 (some 54) ?_
           refine p2 6 (some 55) ?_
           refine p2 7 (some 56) ?_
           refine p2 8 (some 57) ?_
           refine p2 9 (some 58) ?_
           refine p2 10 (some 59) ?_
           refine p2 11 (some 60) ?_
           refine p2 12 (some 61) ?_
           refine p2 13 (some 62) ?_
           refine p2 14 (some 63) ?_
           refine p2 15 (some 64) ?_
           refine p1 16 (some 65) ?_
           refine done_ (done_of HT_.out (by kernel_rfl)) ?_
           try go_wp2_with (first | ((with_reducible refine gate_dst (N := 66) rfl ?_); refine Kd.R_lit k98 _ 98 ?hg (N := 66) ?hd (xs := ([] : List (S98))) (inner := []) (ok := fun _ => True) (okp := fun _ => True) ?hr ?hp (fun _ hk => hk) trivial (Below.refl _ _) (Nat.le_refl _) (by simp) ?_; (case hd => rfl); (case hg => rfl); (case hr => first | (go_simp; done) | (go_simp; rfl)); (case hp => exact (Reps.none _ _)); intro v144 w50 ho51 hb hg_ hnew_; clear hg_ hnew_; (first | rw [← Ny143.out] at ho51 | (simp only [Int.reduceToNat] at ho51; rw [← Ny143.out] at ho51)); have HO145 := Aside0.mk (Kd.R_lower (Kd.R_new' ho51 (Kd.R_lt (uR HO_5.out))) (below_size (uW HB.out))); replace HO_5 := Aside0.mk (Kd.R_elder' (uR HO_5.out) (Kd.R_base ho51) hb); replace HB := cW HB hb; clear hb ho51; have q52 : (x7_3 : Int) ≤ ((x5_2.length : Int) : Int) := od; obtain ⟨i052, hi052, _, hsz52, _⟩ := info_parts info98; have hroom52 : x5_2.length ≤ co48 := (Kd.R_reads' HO_5.out).2.1; have hC52 : Kd.C k98 _ Ao48 x5_2.length x5_2 := (Kd.R_reads' HO_5.out).2.2; have q052 : (0 : Int) ≤ (x7_3 : Int) := od; have hcut52 := cut_from (P := Tryz.prog) 78 98 .i64 Tryz.underlying78 hi052 2 hsz52 Ao48 x5_2.length co48 x7_3 q052 q52; have hr52 := Kd.C_drop (m := (x7_3 : Int).toNat) (c := co48) hC52 (by omega) hroom52; obtain ⟨A52, hA52⟩ : ∃ A1, A1 = (if co48 = (x7_3 : Int).toNat then Ao48 else (Ao48 : Option Addr).map (·.add ((x7_3 : Int).toNat * 2))) := ⟨_, rfl⟩; obtain ⟨c52, hc52⟩ : ∃ c1, c1 = co48 - (x7_3 : Int).toNat := ⟨_, rfl⟩; have hy52 : y146.length = x5_2.length - (x7_3 : Int).toNat := (by rw [Ny146.out, List.length_drop] <;> omega); rw [show (x5_2).drop (x7_3 : Int).toNat = y146 from Ny146.out.symm] at hr52; replace hr52 : Kd.C k98 _ A52 y146.length y146 := (by rw [hA52]; exact hr52); rw [← hy52, ← hA52, ← hc52] at hcut52; have HR149 := Aside0.mk hr52; have HC149 := Aside0.mk (show y146.length ≤ c52 from by rw [hy52, hc52]; exact Nat.sub_le_sub_right hroom52 _); clear hr52 hC52 hroom52 hi052 hsz52 hc52; have KY52 := Aside0.mk hy52; have KA52 := Aside0.mk hA52; clear hy52 hA52; have KL52 := Aside0.mk (show (x7_3 : Int).toNat ≤ x5_2.length from by omega); replace q52 := eq_true q52) | ((with_reducible refine gate_builtin (b := .append) (xs := #[.tmp 66, .tmp 69]) rfl ?_); at_builtin; refine Kd.R_append_rows k98 (w0 := w) w.heap.size rfl (.tmp 66) (.tmp 69) 78 98 (.agg #[(.string ⟨#[]⟩), (.string ⟨#[]⟩)]) 32 rfl Tryz.underlying78 info98 rfl (by decide) (by omega) v144 y143 y146 _ _ _ (fun k_ => some k_ ≠ (.slice Ao48 x5_2.length co48 : Value).ownBlock) (fun _ => False) rfl rfl ?aO ?aR (fun _ _ h => h) (fun _ h => h.elim) ?aF ?aB ?aS ?aL ?_; (case aR => repeat (first | exact (by repeat (first | (with_reducible exact HR149.out) | (with_reducible refine Kd.C_alloc ?_ _) | (with_reducible refine Kd.C_drewN ?_ _) | (with_reducible refine Kd.C_drew ?_) | exact HR149.out)) | (with_reducible refine Kd.C_alloc ?_ _) | (with_reducible refine Kd.C_drewN ?_ _) | (with_reducible refine Kd.C_drew ?_))); (case aB => exact (uW HB.out)); (case aF => exact (fun k_ hk => Kd.fresh' (Kd.R_lt (uR HO_5.out)) k_ hk)); (case aO => exact (by exact uR <| Kd.R_mono HO145.out (fun _ hk => hk.2))); (case aS => exact (below_size (uW HB.out))); (case aL => have := LMc41.out; omega); intro v151 w53 ho hb hg hat; rw [← Ny150.out] at ho; replace HB := Aside0.mk (hb); replace HR149 := Aside0.mk ((show Kd.C k98 w53 A52 y146.length y146 from by rw [Ny146.out, KA52.out]; exact Kd.C_drop (m := (x7_3 : Int).toNat) (c := co48) ((Kd.R_reads' (Kd.R_after (ok := (fun _ => True)) (uR HO_5.out) hg hat)).2.2) KL52.out ((Kd.R_reads' (Kd.R_after (ok := (fun _ => True)) (uR HO_5.out) hg hat)).2.1))); replace HO_5 := Aside0.mk (Kd.R_after (ok := (fun _ => True)) (uR HO_5.out) hg hat); have HO152 := Aside0.mk (ho); clear HO145; clear ho hb hg hat))
           replace HO_5 := Aside0.mk (Kd.R_drew HO_5.out)
           replace HO152 := Aside0.mk (Kd.R_drew HO152.out)
           replace HR149 := Aside0.mk (Kd.C_drew HR149.out)
           replace HB := Aside0.mk (below_drew1 HB.out)
           have q55 : (x7_3 : Int) ≤ ((x5_2.length : Int) : Int) := od
           obtain ⟨i055, hi055, _, hsz55, _⟩ := info_parts info98
           have hcut55 := cut_to (P := Tryz.prog) 78 98 .i64 Tryz.underlying78 hi055 Ao48 x5_2.length co48 x7_3 (od) q55 (Kd.R_reads' HO_5.out).2.1
           have hr55 := Kd.R_take (m := (x7_3 : Int).toNat) HO_5.out (by omega)
           have hy55 : y153.length = (x7_3 : Int).toNat := (by rw [Ny153.out, List.length_take]; omega)
           rw [← Ny153.out] at hr55
           rw [← hy55] at hr55 hcut55
           clear hy55 hi055 hsz55 HO_5
           have HO155 := Aside0.mk hr55
           clear hr55
           replace q55 := eq_true q55
           have p156 : 0 ≤ (x6_2 : Int) := od
           have q156 : x6_2 < (l0.length : Int) := od
           obtain ⟨ad156, e156, hx156_0, hx156_1⟩ := at_T98 HR0.out x6_2 p156 q156
           have hw156_1 := hx156_1
           have hw156_0 := hx156_0
           cases e156
           replace hx156_0 := kc HB hx156_0
           replace hx156_1 := kc HB hx156_1
           replace p156 := eq_true p156
           replace q156 := eq_true q156
           refine start_ (n := 12) (S := fun w' => w'.cell? (ad156.add ((x6_2).toNat * 2)) = some (.string ((rd_T98 l0 x6_2).f0)) ∧ w'.cell? ⟨(ad156.add ((x6_2).toNat * 2)).block, (ad156.add ((x6_2).toNat * 2)).off + 1, none⟩ = some (.string ((rd_T98 l0 x6_2).f1))) (ds := []) _ (by kernel_rfl) rfl rfl ⟨(kc HB hw156_0), (kc HB hw156_1)⟩ (fun hHeld => ?_); refine with_tabW r03_Canon.tab18 r03_Canon.bits18 (fun HT_ HW_ => ?_)
           generalize w53.drew = w54 at HO152 HR149 HB HO155 hx156_0 hx156_1 hHeld ⊢
           refine p1 0 (some 71) ?_
           refine p1 1 (some 72) ?_
           refine p1 2 (some 73) ?_
           refine p1 3 (some 74) ?_
           refine p1 4 (some 75) ?_
           refine p1 5 (some 76) ?_
           refine p1 9 (some 80) ?_
           refine t1 6 (some 77) rfl rfl hHeld (Or.inl ⟨by rfl, by rintro w' ⟨s0, s1⟩; go_simp; with_reducible rfl⟩) ?_
           refine o1 7 (some 78) rfl rfl (fun K hK => ?_)
           refine value_ (w1 := ?_) (v := ?_) (by rfl) rfl ?_ ?_
           rotate_left 2
           ·
            go_simp
            constructor
            ·
             rfl
            ·
             rfl
           refine hK.out _ _ ⟨(World.cell?_alloc_lt _ _ _ (World.block_lt_of_cell? _ _ ((kc HB hw156_0)))).trans ((kc HB hw156_0)), (World.cell?_alloc_lt _ _ _ (World.block_lt_of_cell? _ _ ((kc HB hw156_1)))).trans ((kc HB hw156_1))⟩ (fun hHeld => ?_)
           clear hK K
           refine norm_ (a' := ?_) ?_ ?_
           rotate_left
           ·
            show Act.put _ (some 78) _ = _
            simp only [Act.put, List.setIfInBounds_toArray, List.set_cons_zero, List.set_cons_succ, i64_w, i32_w]
            rfl
           refine o1 8 (some 79) rfl rfl (fun K hK => ?_)
           refine Kd.R_append_step k98 (w0 := w) w.heap.size (by rfl) (.tmp 73) (.tmp 78) 78 98 (.agg #[(.string ⟨#[]⟩), (.string ⟨#[]⟩)]) 32 rfl Tryz.underlying78 info98 rfl (by decide) (by omega) (.slice Ao48 y153.length co48) y153 (⟨(rd_T98 l0 x6_2).f0, (rd_T98 l0 x6_2).f1⟩ : S98) [.string ((rd_T98 l0 x6_2).f0), .string ((rd_T98 l0 x6_2).f1)] (fun k_ => some k_ ≠ (v151 : Value).ownBlock) (fun _ => False) rfl rfl ?aP (fun _ hk => hk.elim) ?aF ?aO ?aB ?aS ?aL ?_
           (case aP => exact k98_mkM _ _ _ (⟨(rd_T98 l0 x6_2).f0, (rd_T98 l0 x6_2).f1⟩ : S98))
           (case aB => exact (uW HB.out))
           (case aF => exact (fun k_ hk => Kd.fresh' (Kd.R_lt (uR HO152.out)) k_ hk))
           (case aO => exact (by exact uR <| Kd.R_mono HO155.out (fun _ hk => hk.2)))
           (case aS => exact (below_size (uW HB.out)))
           (case aL => have := LMc45.out; omega)
           intro v158 w56 ho hb hg hat
           rw [← Ny157.out] at ho
           replace HO152 := Aside0.mk (Kd.R_after (ok := (fun _ => True)) (by exact uR <| Kd.R_mono HO152.out (fun _ hk => ⟨trivial, by first | exact hk | (revert hk; cases Ao48 <;> exact id)⟩)) hg hat)
           replace HB := Aside0.mk (hb)
           have HO159 := Aside0.mk (ho)
           clear HO155
           clear ho hb hg hat
           obtain ⟨Ao58, co58, eo58⟩ := Kd.R_slice HO152.out
           (first | subst eo58 | (injection eo58 with f1_ f2_ f3_; have f4_ := f1_.symm; have f5_ := f3_.symm; clear f1_ f2_ f3_; subst f4_; subst f5_))
           refine hK.out _ _ ⟨(kc HB hw156_0), (kc HB hw156_1)⟩ (fun hHeld => ?_)
           clear hK K
           refine norm_ (a' := ?_) ?_ ?_
           rotate_left
           ·
            show Act.put _ (some 79) _ = _
            simp only [Act.put, List.setIfInBounds_toArray, List.set_cons_zero, List.set_cons_succ, i64_w, i32_w]
            rfl
           refine o1 10 (some 81) rfl rfl (fun K hK => ?_)
           refine Kd.R_append_rows_step k98 (w0 := w) w.heap.size (by rfl) (.tmp 79) (.tmp 80) 78 98 (.agg #[(.string ⟨#[]⟩), (.string ⟨#[]⟩)]) 32 rfl Tryz.underlying78 info98 rfl (by decide) (by omega) v158 y157 y150 _ _ _ (fun k_ => some k_ ≠ (.slice Ao58 y150.length co58 : Value).ownBlock) (fun _ => False) rfl rfl ?aO ?aR (fun _ _ h => h) (fun _ h => h.elim) ?aF ?aB ?aS ?aL ?_
           (case aR => exact uC <| (Kd.R_reads' HO152.out).2.2)
           (case aB => exact (uW HB.out))
           (case aF => exact (fun k_ hk => Kd.fresh' (Kd.R_lt (uR HO152.out)) k_ hk))
           (case aO => exact (uR HO159.out))
           (case aS => exact (below_size (uW HB.out)))
           (case aL => have := LMc46.out; omega)
           intro v161 w57 ho hb hg hat
           rw [← Ny160.out] at ho
           replace HO152 := Aside0.mk (Kd.R_after (ok := (fun _ => True)) (uR HO152.out) hg hat)
           replace HB := Aside0.mk (hb)
           have HO162 := Aside0.mk (ho)
           clear HO159
           clear ho hb hg hat
           refine hK.out _ _ ⟨(kc HB hw156_0), (kc HB hw156_1)⟩ (fun hHeld => ?_)
           clear hK K
           refine norm_ (a' := ?_) ?_ ?_
           rotate_left
           ·
            show Act.put _ (some 81) _ = _
            simp only [Act.put, List.setIfInBounds_toArray, List.set_cons_zero, List.set_cons_succ, i64_w, i32_w]
            rfl
           refine p1 11 (some 5) ?_
           refine done_ (done_of HT_.out (by kernel_rfl)) ?_
           try go_wp2
           go_roundg k3
           case measure => have := HK1.out; have := HK2.out; have := HK3.out; omega
           case rel => exact ⟨(y160), (wrap64 (x6_2 + 1)), rs_, H', ⟨by have := HK1.out; have := HK2.out; have := HK3.out; omega⟩, ⟨by exact uR <| Kd.R_mono HO162.out (fun _ hk => trivial)⟩, ⟨uW HB.out⟩⟩
       ·
        rw [if_neg c9] at H
        have c9b0 : decide (x6_2 < (l0.length : Int)) = false := decide_eq_false c9
        clear c9
        simp only [Option.some.injEq, Prod.mk.injEq] at H
        obtain ⟨rfl, rfl⟩ := H
        go_wp2
        go_ret2
        exact ⟨_, re_, uR HO_5.out, uW HB.out⟩
end Go.Proofs.YtgcbejidponoaaaGreatDoor.X
