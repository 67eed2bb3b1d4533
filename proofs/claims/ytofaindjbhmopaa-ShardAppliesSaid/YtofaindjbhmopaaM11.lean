/- Printed by a program of this session's own: what functions of the program compute, and that the machine computes it. No condition of its own. -/
import Derived.Test.YtofaindjbhmopaaM3
import Derived.Test.YtofaindjbhmopaaM9
import Derived.Test.YtofaindjbhmopaaM10
namespace Go.Proofs.Ytofaindjbhmopaa.X
open Go.RowKit Go.Proofs.YtofaindjbhmopaaW.PrintWords Go.Proofs.YtofaindjbhmopaaW.PrintLast Go.Proofs.YtofaindjbhmopaaW.PrintMore
attribute [local go_sem] max2_int min2_int max_two min_two max_three min_three max_four min_four
set_option linter.unusedVariables false
set_option linter.unusedSimpArgs false
set_option maxHeartbeats 8000000
set_option maxRecDepth 100000
mutual
def r11_Apply.j1 : Nat → Int → List (S59) → Int → Int → ByteArray → Int → Option ((List (S59)) × Int)
 | 0, _, _, _, _, _, _ => none
 | k + 1, x6, x404000, x405000, x405001, x405002, x405003 => if 0 ≤ x6 then (if x6 ≤ (x404000.length : Int) then ((some (x404000.drop (x6 : Int).toNat : List (S59))).bind fun y409 => (if (y409.length : Int) > 0 then (if 0 < (y409.length : Int) then (if ((rd_T59 y409 0).f0) = x405001 then (r11_Apply.j2 k x6 ([] : List (S82)) y409 (((rd_T59 y409 0).f1).toList == x405002.toList) x404000 x405000 x405001 x405002 x405003) else (r11_Apply.j2 k x6 ([] : List (S82)) y409 false x404000 x405000 x405001 x405002 x405003)) else (none)) else (r11_Apply.j2 k x6 ([] : List (S82)) y409 false x404000 x405000 x405001 x405002 x405003))) else (none)) else (none)
def r11_Apply.j2 : Nat → Int → List (S82) → List (S59) → Bool → List (S59) → Int → Int → ByteArray → Int → Option ((List (S59)) × Int)
 | 0, _, _, _, _, _, _, _, _, _ => none
 | k + 1, x6, x7, x8, x58, x404000, x405000, x405001, x405002, x405003 => if x58 = true then (if 0 < (x8.length : Int) then (if 1 ≤ (x8.length : Int) then ((some (x8.drop 1 : List (S59))).bind fun y417 => ((r10_Fold.f k ((rd_T59 x8 0).f2) x405000 x405003).bind fun bt422 => (if bt422.2 = 0 then ((some (([] : List (S59)) : List (S59))).bind fun y426 => (if 0 ≤ x6 then (if x6 ≤ (x404000.length : Int) then ((some (x404000.take (x6 : Int).toNat : List (S59))).bind fun y429 => (if y426.length + y429.length < 2932031007402 then ((some (y426 ++ y429 : List (S59))).bind fun y434 => ((some (([(⟨x405001, x405002, bt422.1⟩ : S59)] : List (S59)) : List (S59))).bind fun y437 => (if y434.length + y437.length < 2932031007402 then ((some (y434 ++ y437 : List (S59))).bind fun y440 => (if y440.length + y417.length < 2932031007402 then (some ((y440 ++ y417), 0)) else (none))) else (none)))) else (none))) else (none)) else (none))) else (some (([] : List (S59)), bt422.2))))) else (none)) else (none)) else ((r10_Fold.f k x7 x405000 x405003).bind fun bt446 => (if bt446.2 = 0 then ((some (([] : List (S59)) : List (S59))).bind fun y450 => (if 0 ≤ x6 then (if x6 ≤ (x404000.length : Int) then ((some (x404000.take (x6 : Int).toNat : List (S59))).bind fun y453 => (if y450.length + y453.length < 2932031007402 then ((some (y450 ++ y453 : List (S59))).bind fun y458 => ((some (([(⟨x405001, x405002, bt446.1⟩ : S59)] : List (S59)) : List (S59))).bind fun y461 => (if y458.length + y461.length < 2932031007402 then ((some (y458 ++ y461 : List (S59))).bind fun y464 => (if y464.length + x8.length < 2932031007402 then (some ((y464 ++ x8), 0)) else (none))) else (none)))) else (none))) else (none)) else (none))) else (some (([] : List (S59)), bt446.2))))
def r11_Apply.l0 : Nat → Int → List (S59) → Int → Int → ByteArray → Int → Option ((List (S59)) × Int)
 | 0, _, _, _, _, _, _ => none
 | k + 1, x6, x404000, x405000, x405001, x405002, x405003 => if x6 < (x404000.length : Int) then (if 0 ≤ x6 then ((r11_less.f ((rd_T59 x404000 x6).f0) ((rd_T59 x404000 x6).f1) ((rd_T59 x404000 x6).f2) x405001 x405002).bind fun t408 => (if t408 = true then (r11_Apply.l0 k (wrap64 (x6 + 1)) x404000 x405000 x405001 x405002 x405003) else (r11_Apply.j1 k x6 x404000 x405000 x405001 x405002 x405003))) else (none)) else (r11_Apply.j1 k x6 x404000 x405000 x405001 x405002 x405003)
end
def r11_Apply.f (k : Nat) (l0_0 : List (S59)) (a1_0 : Int) (a1_1 : Int) (a1_2 : ByteArray) (a1_3 : Int) : Option ((List (S59)) × Int) := (r11_Right.f k l0_0).bind fun t406 => (if t406 = true then (r11_Apply.l0 k 0 l0_0 a1_0 a1_1 a1_2 a1_3) else (some (([] : List (S59)), 9)))
theorem r11_Apply.mono_l : ∀ k, (∀ y0 y1 y2 y3 y4 y5, LeC (r11_Apply.j1 k y0 y1 y2 y3 y4 y5) (r11_Apply.j1 (k + 1) y0 y1 y2 y3 y4 y5)) ∧ (∀ y0 y1 y2 y3 y4 y5 y6 y7 y8, LeC (r11_Apply.j2 k y0 y1 y2 y3 y4 y5 y6 y7 y8) (r11_Apply.j2 (k + 1) y0 y1 y2 y3 y4 y5 y6 y7 y8)) ∧ (∀ y0 y1 y2 y3 y4 y5, LeC (r11_Apply.l0 k y0 y1 y2 y3 y4 y5) (r11_Apply.l0 (k + 1) y0 y1 y2 y3 y4 y5))
 | 0 => ⟨fun _ _ _ _ _ _ => ⟨fun r h => by simp [r11_Apply.j1] at h⟩, fun _ _ _ _ _ _ _ _ _ => ⟨fun r h => by simp [r11_Apply.j2] at h⟩, fun _ _ _ _ _ _ => ⟨fun r h => by simp [r11_Apply.l0] at h⟩⟩
 | k + 1 => by obtain ⟨ih0, ih1, ih2⟩ := r11_Apply.mono_l k; exact ⟨fun _ _ _ _ _ _ => by unfold r11_Apply.j1; exact lm, fun _ _ _ _ _ _ _ _ _ => by unfold r11_Apply.j2; exact lm, fun _ _ _ _ _ _ => by unfold r11_Apply.l0; exact lm⟩
theorem r11_Apply.mono : ∀ a0 a1 a2 a3 a4 k, LeO (r11_Apply.f k a0 a1 a2 a3 a4) (r11_Apply.f (k + 1) a0 a1 a2 a3 a4) := by
 intro a0 a1 a2 a3 a4 k
 obtain ⟨ih0, ih1, ih2⟩ := r11_Apply.mono_l k
 unfold r11_Apply.f
 exact lo
instance r11_Apply.mI {a0 a1 a2 a3 a4 k} : LeC (r11_Apply.f k a0 a1 a2 a3 a4) (r11_Apply.f (k + 1) a0 a1 a2 a3 a4) := ⟨r11_Apply.mono _ _ _ _ _ _⟩
def r11_Apply.T4 : Bool × List (List Nat × List Nat) := (true, [([], []), ([], []), ([1], [1]), ([2], [2]), ([0, 3], [0, 3]), ([4], [4]), ([5], [5]), ([6, 5], [5, 6]), ([5], [5]), ([7, 8, 5], [5, 7, 8]), ([9, 5], [5, 9]), ([5], [5]), ([11, 5], [5, 11]), ([5], [5]), ([13, 5], [5, 13]), ([10, 12, 14, 5, 5], [5, 10, 12, 14]), ([5, 15], [5, 15])])
def r11_Apply.B4 : List Nat := [0, 0, 2, 6, 15, 31, 63, 127, 63, 511, 1023, 63, 2111, 63, 8255, 32767, 65535]
theorem r11_Apply.tab4 : rtab .any (opsOf Try.f12 4) = r11_Apply.T4 := by kernel_rfl
theorem r11_Apply.bits4 : waitsOk r11_Apply.T4.2 r11_Apply.B4 = true := by kernel_rfl
def r11_Apply.T8 : Bool × List (List Nat × List Nat) := (true, [([], []), ([0], [0]), ([1], [1]), ([2], [2]), ([3], [3]), ([4, 3], [3, 4]), ([5, 3], [3, 5]), ([6, 3], [3, 6]), ([3], [3]), ([8, 3], [3, 8]), ([7, 9, 3], [3, 7, 9]), ([3, 10], [3, 10]), ([11, 3], [11]), ([12], [12]), ([13, 12], [12, 13]), ([14, 12], [12, 14]), ([15, 12], [12, 15]), ([12], [12]), ([17, 12], [12, 17]), ([16, 18, 12], [12, 16, 18]), ([12, 19], [12, 19])])
def r11_Apply.B8 : List Nat := [0, 1, 3, 7, 15, 31, 63, 127, 15, 271, 1023, 2047, 4095, 8191, 16383, 32767, 65535, 8191, 139263, 524287, 1048575]
theorem r11_Apply.tab8 : rtab .any (opsOf Try.f12 8) = r11_Apply.T8 := by kernel_rfl
theorem r11_Apply.bits8 : waitsOk r11_Apply.T8.2 r11_Apply.B8 = true := by kernel_rfl
def r11_Apply.T9 : Bool × List (List Nat × List Nat) := (true, [([], []), ([0], [0]), ([1], [1]), ([2], [2]), ([], []), ([4], [4]), ([3, 0, 1, 2, 3], [3]), ([5, 6, 0, 1, 2, 3, 4, 5, 6], [0, 4, 5])])
def r11_Apply.B9 : List Nat := [0, 1, 3, 7, 0, 16, 15, 127]
theorem r11_Apply.tab9 : rtab .any (opsOf Try.f12 9) = r11_Apply.T9 := by kernel_rfl
theorem r11_Apply.bits9 : waitsOk r11_Apply.T9.2 r11_Apply.B9 = true := by kernel_rfl
def r11_Apply.T13 : Bool × List (List Nat × List Nat) := (true, [([], []), ([], []), ([1], [1]), ([], []), ([2, 3], [2, 3]), ([0, 4], [0, 4]), ([], []), ([6], [6]), ([], []), ([8], [8]), ([], []), ([7, 9, 10], [7, 9, 10]), ([11], [11]), ([5, 12, 5], [5, 12]), ([13, 13, 0, 1, 2, 3, 4, 5, 6, 7, 8, 9, 10, 11, 12, 13], [13])])
def r11_Apply.B13 : List Nat := [0, 0, 2, 0, 14, 31, 0, 64, 0, 256, 0, 1984, 4032, 8191, 16383]
theorem r11_Apply.tab13 : rtab .any (opsOf Try.f12 13) = r11_Apply.T13 := by kernel_rfl
theorem r11_Apply.bits13 : waitsOk r11_Apply.T13.2 r11_Apply.B13 = true := by kernel_rfl
theorem r11_Apply.calls (k : Nat) (P0_0_ : Nat → Prop) (A0_0 : Option Addr) (c0_0 : Nat) (l0_0 : List (S59)) (a1_0 : Int) (a1_1 : Int) (a1_2 : ByteArray) (a1_3 : Int) (r1 : List (S59)) (r2 : Int) (w : World) (hs0_0 : Kd.V k59 59 w w.heap.size (fun k_ => P0_0_ k_) (.slice A0_0 l0_0.length c0_0) l0_0) (h : r11_Apply.f k l0_0 a1_0 a1_1 a1_2 a1_3 = some (r1, r2)) :
 Calls Try.prog 12 #[.agg #[.slice A0_0 l0_0.length c0_0], .agg #[.int .i64 a1_0, .int .i64 a1_1, .string a1_2, .int .i64 a1_3]] w fun e w' => ∃ v0_ : Value, e = .returned (.tuple #[.agg #[v0_], .int .i64 r2]) ∧ Kd.N k59 59 w' w.heap.size (fun k_ => (P0_0_ k_ ∨ w.heap.size ≤ k_)) v0_ r1 ∧ Below w.heap.size w w' := by
 have hu24 := Try.underlying24
 have hu26 := Try.underlying26
 have hu59 := Try.underlying59
 have HO0_0 := Aside0.mk (show Kd.V k59 59 w w.heap.size (fun k_ => (P0_0_ k_ ∨ w.heap.size ≤ k_)) (.slice A0_0 l0_0.length c0_0) l0_0 from Kd.V_mono hs0_0 (fun k_ hk => .inl hk))
 have HB := Aside0.mk (Below.refl w.heap.size w)
 have H : ((r11_Right.f k l0_0).bind fun t406 => (if t406 = true then (r11_Apply.l0 k 0 l0_0 a1_0 a1_1 a1_2 a1_3) else (some (([] : List (S59)), 9)))) = some (r1, r2) := h
 clear h
 obtain ⟨t406, A3, H⟩ := bs H
 try dsimp only at H
 by_cases c4 : t406 = true
 ·
  subst c4
  rw [if_pos rfl] at H
  have HC5 := Aside0.mk H
  clear H
  go_enter Try.func12, Try.ntmps12
  go_upto_block 0 with (first | ((with_reducible refine gate_dst (N := 2) rfl ?_); refine bx (N := 2) #[.slice A0_0 l0_0.length c0_0] 24 ?_; intro gb403 hg w6 hbox hb; replace HO0_0 := Aside0.mk (Kd.V_below (Kd.V_elderB (uV HO0_0.out) gb403 (Nat.le_of_eq hg.symm)) hb); have BK403 := Aside0.mk (hbox); have GW403 := gw hg (uW HB.out); have GE403 := GW403; replace HB := cW HB hb; clear hb hbox hg) | ((with_reducible refine gate_dst (N := 3) rfl ?_); refine bx (N := 3) #[.int .i64 a1_0, .int .i64 a1_1, .string a1_2, .int .i64 a1_3] 26 ?_; intro gb404 hg w7 hbox hb; replace HO0_0 := Aside0.mk (Kd.V_below (Kd.V_elderB (uV HO0_0.out) gb404 (Nat.le_of_eq hg.symm)) hb); have BK404 := Aside0.mk (hbox); have GW404 := gw hg bl; have GE404 := GW404; replace HB := Aside0.mk (below_step bl hb); have NB403_404 := Aside0.mk ((by rw [hg]; exact Nat.ne_of_lt (blk_lt (g := gb403) (o := .cells #[.slice A0_0 l0_0.length c0_0] 24 (0, 0)) (uB BK403.out)) : gb403 ≠ gb404)); have NB404_403 := Aside0.mk ((by rw [hg]; exact Nat.ne_of_gt (blk_lt (g := gb403) (o := .cells #[.slice A0_0 l0_0.length c0_0] 24 (0, 0)) (uB BK403.out)) : gb404 ≠ gb403)); replace BK403 := cB BK403 hb; clear hb hbox hg) | ((with_reducible refine gate_dst (N := 4) rfl ?_); refine bx (N := 4) #[.slice none 0 0] 24 ?_; intro gb405 hg w8 hbox hb; replace HO0_0 := Aside0.mk (Kd.V_below (Kd.V_elderB (uV HO0_0.out) gb405 (Nat.le_of_eq hg.symm)) hb); have BK405 := Aside0.mk (hbox); have GW405 := gw hg bl; have GE405 := GW405; replace HB := Aside0.mk (below_step bl hb); have NB403_405 := Aside0.mk ((by rw [hg]; exact Nat.ne_of_lt (blk_lt (g := gb403) (o := .cells #[.slice A0_0 l0_0.length c0_0] 24 (0, 0)) (uB BK403.out)) : gb403 ≠ gb405)); have NB405_403 := Aside0.mk ((by rw [hg]; exact Nat.ne_of_gt (blk_lt (g := gb403) (o := .cells #[.slice A0_0 l0_0.length c0_0] 24 (0, 0)) (uB BK403.out)) : gb405 ≠ gb403)); replace BK403 := cB BK403 hb; have NB404_405 := Aside0.mk ((by rw [hg]; exact Nat.ne_of_lt (blk_lt (g := gb404) (o := .cells #[.int .i64 a1_0, .int .i64 a1_1, .string a1_2, .int .i64 a1_3] 26 (0, 0)) (uB BK404.out)) : gb404 ≠ gb405)); have NB405_404 := Aside0.mk ((by rw [hg]; exact Nat.ne_of_gt (blk_lt (g := gb404) (o := .cells #[.int .i64 a1_0, .int .i64 a1_1, .string a1_2, .int .i64 a1_3] 26 (0, 0)) (uB BK404.out)) : gb405 ≠ gb404)); replace BK404 := cB BK404 hb; clear hb hbox hg; have hnb9 := NB403_404.out; have hnc9 := NB404_403.out; have hnb10 := NB403_405.out; have hnc10 := NB405_403.out; obtain ⟨hcz11_0, hfz11_0⟩ := z1 BK403) | (refine gL (some 12) rfl Try.func15 #[.agg #[.slice A0_0 l0_0.length c0_0]] ?_; (with_reducible refine (r11_Right.calls k _ _ l0_0 true _ ?side1 ?side2 A3.out).mono ?_); (case side1 => exact uC <| (Kd.V_reads' HO0_0.out).2.2); (case side2 => exact (Kd.V_reads' HO0_0.out).2.1); rintro e w12 ⟨rfl, hb⟩; refine ⟨_, rfl, ?_⟩; replace HO0_0 := cV HO0_0 hb; replace BK403 := cB BK403 hb; replace BK404 := cB BK404 hb; replace BK405 := cB BK405 hb; replace HB := Aside0.mk (below_step bl hb); (try clear hb)))
  (try simp only [Act.put, List.setIfInBounds_toArray, List.set_cons_zero, List.set_cons_succ])
  go_cut [6] (fun v6 wc => ∃ (kq : Nat) (x6_4 : Int), v6 = .int .i64 x6_4 ∧ Aside0 (r11_Apply.j1 kq x6_4 l0_0 a1_0 a1_1 a1_2 a1_3 = some (r1, r2)) ∧ Aside0 (kq ≤ k) ∧ Aside0 (Kd.V k59 59 wc w.heap.size (fun k_ => (P0_0_ k_ ∨ w.heap.size ≤ k_) ∧ k_ ≠ gb403 ∧ k_ ≠ gb404 ∧ k_ ≠ gb405) (.slice A0_0 l0_0.length c0_0) l0_0) ∧ Aside0 (wc.heap[gb403]? = some (.cells #[(.slice A0_0 l0_0.length c0_0)] 24 (0, 0))) ∧ Aside0 (wc.heap[gb404]? = some (.cells #[.int .i64 a1_0, .int .i64 a1_1, .string a1_2, .int .i64 a1_3] 26 (0, 0))) ∧ Aside0 (wc.heap[gb405]? = some (.cells #[(.slice none 0 0)] 24 (0, 0))) ∧ Aside0 (Below w.heap.size w wc))
  case first =>
   have H := HC5.out
   clear HC5
   have H' := Aside0.mk H
   clear H
   go_wp2
   go_loopg [6] k (fun kq v6 w' => ∃ (x6_1 : Int), v6 = .int .i64 x6_1 ∧ Aside0 (r11_Apply.l0 kq x6_1 l0_0 a1_0 a1_1 a1_2 a1_3 = some (r1, r2)) ∧ Aside0 (kq ≤ k) ∧ Aside0 (Kd.V k59 59 w' w.heap.size (fun k_ => (P0_0_ k_ ∨ w.heap.size ≤ k_) ∧ k_ ≠ gb403 ∧ k_ ≠ gb404 ∧ k_ ≠ gb405) (.slice A0_0 l0_0.length c0_0) l0_0) ∧ Aside0 (w'.heap[gb403]? = some (.cells #[(.slice A0_0 l0_0.length c0_0)] 24 (0, 0))) ∧ Aside0 (w'.heap[gb404]? = some (.cells #[.int .i64 a1_0, .int .i64 a1_1, .string a1_2, .int .i64 a1_3] 26 (0, 0))) ∧ Aside0 (w'.heap[gb405]? = some (.cells #[(.slice none 0 0)] 24 (0, 0))) ∧ Aside0 (Below w.heap.size w w'))
   case atStart => exact ⟨(0), rs_, H', ⟨Nat.le_refl _⟩, ⟨by exact uV <| Kd.V_mono HO0_0.out (fun _ hk => ⟨hk.1.1.1, ⟨hk.1.1.2, ⟨hk.1.2, hk.2⟩⟩⟩)⟩, ⟨uB BK403.out⟩, ⟨uB BK404.out⟩, ⟨uB BK405.out⟩, ⟨bl⟩⟩
   case round =>
    clear H'
    try clear c1
    try clear p2
    try clear c4
    try clear c9
    try clear c10
    try clear c12
    try clear hcz11_0
    try clear hfz11_0
    obtain ⟨x6_1, rfl, HA, HK1, HO_404000, BK403, BK404, BK405, HB⟩ := hrel
    cases gk with
    | zero => exact absurd HA.out (by simp [r11_Apply.l0])
    | succ k1 =>
     have H := HA.out
     clear HA
     simp only [r11_Apply.l0] at H
     by_cases c13 : x6_1 < (l0_0.length : Int)
     ·
      rw [if_pos c13] at H
      have c13b0 : decide (x6_1 < (l0_0.length : Int)) = true := decide_eq_true c13
      clear c13
      (first | rw [c13b0] | (simp only [i64_w, i32_w]; rw [c13b0]) | skip)
      by_cases c14 : 0 ≤ x6_1
      ·
       rw [if_pos c14] at H
       have c14b0 : decide (0 ≤ x6_1) = true := decide_eq_true c14
       clear c14
       obtain ⟨t408, A15, H⟩ := bs H
       try dsimp only at H
       by_cases c16 : t408 = true
       ·
        subst c16
        rw [if_pos rfl] at H
        have H' := Aside0.mk H
        clear H
        try go_wp2
        replace HO_404000 := Aside0.mk (Kd.V_drew HO_404000.out)
        replace BK403 := Aside0.mk (blk_drew BK403.out)
        replace BK404 := Aside0.mk (blk_drew BK404.out)
        replace BK405 := Aside0.mk (blk_drew BK405.out)
        replace HB := Aside0.mk (below_drew1 HB.out)
        have p407 : 0 ≤ (x6_1 : Int) := od
        have q407 : x6_1 < (l0_0.length : Int) := od
        obtain ⟨ad407, A407_2, c407_2, e407, hx407_0, hx407_1, hx407_2, hl407_2, hi407_2⟩ := at_T59 (Kd.V_reads' HO_404000.out).2.2 x6_1 p407 q407
        cases e407
        obtain ⟨ce407, hce407, hMe407, hcc407⟩ := Kd.V_get HO_404000.out z59 x6_1 p407 (by first | exact q407 | exact od | (have e_ := (Kd.V_reads' HO_404000.out).1; omega))
        obtain ⟨ua407_2, uc407_2, rfl, ul407_2, ge407_2⟩ := k59_openF hMe407
        have hv407_2 := hcc407 2 _ rfl
        rw [add_field _ _ 2 (by omega)] at hv407_2
        replace hv407_2 := Option.some.inj (hv407_2.symm.trans hx407_2)
        injection hv407_2 with hva_ hvn_ hvc_
        rw [hva_] at ge407_2
        rw [hvc_] at ul407_2
        have HL407_2 := Aside0.mk (show Kd.V k82 82 _ w.heap.size _ _ ((rd_T59 l0_0 x6_1).f2) from Kd.V_mk ul407_2 ge407_2)
        clear hva_ hvn_ hvc_ ge407_2 ul407_2
        clear hcc407 hce407
        have HR407_2 := Aside0.mk hi407_2
        have HC407_2 := Aside0.mk hl407_2
        clear hi407_2 hl407_2
        replace p407 := eq_true p407
        replace q407 := eq_true q407
        refine start_ (n := 17) (S := fun w' => w'.cell? ⟨gb403, 0, none⟩ = some (.slice (some ad407) l0_0.length c0_0) ∧ w'.cell? ⟨gb404, 0, none⟩ = some (.int .i64 a1_0) ∧ w'.cell? ⟨gb404, 1, none⟩ = some (.int .i64 a1_1) ∧ w'.cell? ⟨gb404, 2, none⟩ = some (.string a1_2) ∧ w'.cell? ⟨gb404, 3, none⟩ = some (.int .i64 a1_3) ∧ w'.cell? (ad407.add ((x6_1).toNat * 3)) = some (.int .i64 ((rd_T59 l0_0 x6_1).f0)) ∧ w'.cell? ⟨(ad407.add ((x6_1).toNat * 3)).block, (ad407.add ((x6_1).toNat * 3)).off + 1, none⟩ = some (.string ((rd_T59 l0_0 x6_1).f1)) ∧ w'.cell? ⟨(ad407.add ((x6_1).toNat * 3)).block, (ad407.add ((x6_1).toNat * 3)).off + 2, none⟩ = some (.slice A407_2 ((rd_T59 l0_0 x6_1).f2).length c407_2)) (ds := []) _ (by kernel_rfl) rfl rfl ⟨(blk_cell BK403.out 0).trans rfl, (blk_cell BK404.out 0).trans rfl, (blk_cell BK404.out 1).trans rfl, (blk_cell BK404.out 2).trans rfl, (blk_cell BK404.out 3).trans rfl, hx407_0, hx407_1, hx407_2⟩ (fun hHeld => ?_); refine with_tabW r11_Apply.tab4 r11_Apply.bits4 (fun HT_ HW_ => ?_)
        generalize wr.drew = w17 at HO_404000 BK403 BK404 BK405 HB HL407_2 HR407_2 hx407_0 hx407_1 hx407_2 hHeld ⊢
        refine p1 0 (some 15) ?_
        refine p1 1 (some 16) ?_
        refine t1 2 (some 17) rfl rfl hHeld (Or.inl ⟨by rfl, by rintro w' ⟨s0, s1, s2, s3, s4, s5, s6, s7⟩; go_simp; with_reducible rfl⟩) ?_
        refine p1 3 (some 18) ?_
        refine p1 4 (some 19) ?_
        refine p1 5 (some 20) ?_
        refine p1 6 (some 21) ?_
        refine p1 8 (some 23) ?_
        refine p1 11 (some 26) ?_
        refine p1 13 (some 28) ?_
        refine t1 7 (some 22) rfl rfl hHeld (Or.inl ⟨by rfl, by rintro w' ⟨s0, s1, s2, s3, s4, s5, s6, s7⟩; go_simp; with_reducible rfl⟩) ?_
        refine p1 9 (some 24) ?_
        refine t1 10 (some 25) rfl rfl hHeld (Or.inl ⟨by rfl, by rintro w' ⟨s0, s1, s2, s3, s4, s5, s6, s7⟩; go_simp; with_reducible rfl⟩) ?_
        refine t1 12 (some 27) rfl rfl hHeld (Or.inl ⟨by rfl, by rintro w' ⟨s0, s1, s2, s3, s4, s5, s6, s7⟩; go_simp; with_reducible rfl⟩) ?_
        refine t1 14 (some 29) rfl rfl hHeld (Or.inl ⟨by rfl, by rintro w' ⟨s0, s1, s2, s3, s4, s5, s6, s7⟩; go_simp; with_reducible rfl⟩) ?_
        refine o1 15 (some 30) rfl rfl (fun K hK => ?_)
        refine gS Try.func30 #[.agg #[.int .i64 ((rd_T59 l0_0 x6_1).f0), .string ((rd_T59 l0_0 x6_1).f1), .slice A407_2 ((rd_T59 l0_0 x6_1).f2).length c407_2], .int .i64 a1_1, .string a1_2] ?_
        with_reducible refine (r11_less.calls ((rd_T59 l0_0 x6_1).f0) ((rd_T59 l0_0 x6_1).f1) _ _ ((rd_T59 l0_0 x6_1).f2) a1_1 a1_2 true _ ?side1 ?side2 A15.out).mono ?_
        (case side1 => repeat (first | exact (by repeat (first | (with_reducible exact HR407_2.out) | (with_reducible refine Kd.C_alloc ?_ _) | (with_reducible refine Kd.C_drewN ?_ _) | (with_reducible refine Kd.C_drew ?_) | exact HR407_2.out)) | (with_reducible refine Kd.C_alloc ?_ _) | (with_reducible refine Kd.C_drewN ?_ _) | (with_reducible refine Kd.C_drew ?_)))
        (case side2 => exact HC407_2.out)
        rintro e w18 ⟨rfl, hb⟩
        have HS5_ := (hb.cell (World.block_lt_of_cell? _ _ (hHeld.2.2.2.2.2.1))).trans (hHeld.2.2.2.2.2.1)
        have HS6_ := (hb.cell (World.block_lt_of_cell? _ _ (hHeld.2.2.2.2.2.2.1))).trans (hHeld.2.2.2.2.2.2.1)
        have HS7_ := (hb.cell (World.block_lt_of_cell? _ _ (hHeld.2.2.2.2.2.2.2))).trans (hHeld.2.2.2.2.2.2.2)
        refine ⟨_, rfl, ?_⟩
        replace HO_404000 := cV HO_404000 hb
        replace HL407_2 := cV HL407_2 hb
        replace BK403 := cB BK403 hb
        replace BK404 := cB BK404 hb
        replace BK405 := cB BK405 hb
        replace HR407_2 := cC HR407_2 hb
        replace HB := Aside0.mk (below_step bl hb)
        (try clear hb)
        refine hK.out _ _ ⟨(blk_cell BK403.out 0).trans rfl, (blk_cell BK404.out 0).trans rfl, (blk_cell BK404.out 1).trans rfl, (blk_cell BK404.out 2).trans rfl, (blk_cell BK404.out 3).trans rfl, HS5_, HS6_, HS7_⟩ (fun hHeld => ?_)
        clear hK K
        refine norm_ (a' := ?_) ?_ ?_
        rotate_left
        ·
         show Act.put _ (some 30) _ = _
         simp only [Act.put, List.setIfInBounds_toArray, List.set_cons_zero, List.set_cons_succ, i64_w, i32_w]
         rfl
        refine p1 16 (some 31) ?_
        refine done_ (done_of HT_.out (by kernel_rfl)) ?_
        try go_wp2
        go_roundg k1
        case measure => have := HK1.out; omega
        case rel => exact ⟨(wrap64 (x6_1 + 1)), rs_, H', ⟨by have := HK1.out; omega⟩, ⟨uV HO_404000.out⟩, ⟨uB BK403.out⟩, ⟨uB BK404.out⟩, ⟨uB BK405.out⟩, ⟨bl⟩⟩
       ·
        replace c16 := Bool.eq_false_iff.mpr c16
        subst c16
        rw [if_neg (show ¬ (false = true) by decide)] at H
        have H' := Aside0.mk H
        clear H
        try go_wp2
        replace HO_404000 := Aside0.mk (Kd.V_drew HO_404000.out)
        replace BK403 := Aside0.mk (blk_drew BK403.out)
        replace BK404 := Aside0.mk (blk_drew BK404.out)
        replace BK405 := Aside0.mk (blk_drew BK405.out)
        replace HB := Aside0.mk (below_drew1 HB.out)
        have p407 : 0 ≤ (x6_1 : Int) := od
        have q407 : x6_1 < (l0_0.length : Int) := od
        obtain ⟨ad407, A407_2, c407_2, e407, hx407_0, hx407_1, hx407_2, hl407_2, hi407_2⟩ := at_T59 (Kd.V_reads' HO_404000.out).2.2 x6_1 p407 q407
        cases e407
        obtain ⟨ce407, hce407, hMe407, hcc407⟩ := Kd.V_get HO_404000.out z59 x6_1 p407 (by first | exact q407 | exact od | (have e_ := (Kd.V_reads' HO_404000.out).1; omega))
        obtain ⟨ua407_2, uc407_2, rfl, ul407_2, ge407_2⟩ := k59_openF hMe407
        have hv407_2 := hcc407 2 _ rfl
        rw [add_field _ _ 2 (by omega)] at hv407_2
        replace hv407_2 := Option.some.inj (hv407_2.symm.trans hx407_2)
        injection hv407_2 with hva_ hvn_ hvc_
        rw [hva_] at ge407_2
        rw [hvc_] at ul407_2
        have HL407_2 := Aside0.mk (show Kd.V k82 82 _ w.heap.size _ _ ((rd_T59 l0_0 x6_1).f2) from Kd.V_mk ul407_2 ge407_2)
        clear hva_ hvn_ hvc_ ge407_2 ul407_2
        clear hcc407 hce407
        have HR407_2 := Aside0.mk hi407_2
        have HC407_2 := Aside0.mk hl407_2
        clear hi407_2 hl407_2
        replace p407 := eq_true p407
        replace q407 := eq_true q407
        refine start_ (n := 17) (S := fun w' => w'.cell? ⟨gb403, 0, none⟩ = some (.slice (some ad407) l0_0.length c0_0) ∧ w'.cell? ⟨gb404, 0, none⟩ = some (.int .i64 a1_0) ∧ w'.cell? ⟨gb404, 1, none⟩ = some (.int .i64 a1_1) ∧ w'.cell? ⟨gb404, 2, none⟩ = some (.string a1_2) ∧ w'.cell? ⟨gb404, 3, none⟩ = some (.int .i64 a1_3) ∧ w'.cell? (ad407.add ((x6_1).toNat * 3)) = some (.int .i64 ((rd_T59 l0_0 x6_1).f0)) ∧ w'.cell? ⟨(ad407.add ((x6_1).toNat * 3)).block, (ad407.add ((x6_1).toNat * 3)).off + 1, none⟩ = some (.string ((rd_T59 l0_0 x6_1).f1)) ∧ w'.cell? ⟨(ad407.add ((x6_1).toNat * 3)).block, (ad407.add ((x6_1).toNat * 3)).off + 2, none⟩ = some (.slice A407_2 ((rd_T59 l0_0 x6_1).f2).length c407_2)) (ds := []) _ (by kernel_rfl) rfl rfl ⟨(blk_cell BK403.out 0).trans rfl, (blk_cell BK404.out 0).trans rfl, (blk_cell BK404.out 1).trans rfl, (blk_cell BK404.out 2).trans rfl, (blk_cell BK404.out 3).trans rfl, hx407_0, hx407_1, hx407_2⟩ (fun hHeld => ?_); refine with_tabW r11_Apply.tab4 r11_Apply.bits4 (fun HT_ HW_ => ?_)
        generalize wr.drew = w19 at HO_404000 BK403 BK404 BK405 HB HL407_2 HR407_2 hx407_0 hx407_1 hx407_2 hHeld ⊢
        refine p1 0 (some 15) ?_
        refine p1 1 (some 16) ?_
        refine t1 2 (some 17) rfl rfl hHeld (Or.inl ⟨by rfl, by rintro w' ⟨s0, s1, s2, s3, s4, s5, s6, s7⟩; go_simp; with_reducible rfl⟩) ?_
        refine p1 3 (some 18) ?_
        refine p1 4 (some 19) ?_
        refine p1 5 (some 20) ?_
        refine p1 6 (some 21) ?_
        refine p1 8 (some 23) ?_
        refine p1 11 (some 26) ?_
        refine p1 13 (some 28) ?_
        refine t1 7 (some 22) rfl rfl hHeld (Or.inl ⟨by rfl, by rintro w' ⟨s0, s1, s2, s3, s4, s5, s6, s7⟩; go_simp; with_reducible rfl⟩) ?_
        refine p1 9 (some 24) ?_
        refine t1 10 (some 25) rfl rfl hHeld (Or.inl ⟨by rfl, by rintro w' ⟨s0, s1, s2, s3, s4, s5, s6, s7⟩; go_simp; with_reducible rfl⟩) ?_
        refine t1 12 (some 27) rfl rfl hHeld (Or.inl ⟨by rfl, by rintro w' ⟨s0, s1, s2, s3, s4, s5, s6, s7⟩; go_simp; with_reducible rfl⟩) ?_
        refine t1 14 (some 29) rfl rfl hHeld (Or.inl ⟨by rfl, by rintro w' ⟨s0, s1, s2, s3, s4, s5, s6, s7⟩; go_simp; with_reducible rfl⟩) ?_
        refine o1 15 (some 30) rfl rfl (fun K hK => ?_)
        refine gS Try.func30 #[.agg #[.int .i64 ((rd_T59 l0_0 x6_1).f0), .string ((rd_T59 l0_0 x6_1).f1), .slice A407_2 ((rd_T59 l0_0 x6_1).f2).length c407_2], .int .i64 a1_1, .string a1_2] ?_
        with_reducible refine (r11_less.calls ((rd_T59 l0_0 x6_1).f0) ((rd_T59 l0_0 x6_1).f1) _ _ ((rd_T59 l0_0 x6_1).f2) a1_1 a1_2 false _ ?side1 ?side2 A15.out).mono ?_
        (case side1 => repeat (first | exact (by repeat (first | (with_reducible exact HR407_2.out) | (with_reducible refine Kd.C_alloc ?_ _) | (with_reducible refine Kd.C_drewN ?_ _) | (with_reducible refine Kd.C_drew ?_) | exact HR407_2.out)) | (with_reducible refine Kd.C_alloc ?_ _) | (with_reducible refine Kd.C_drewN ?_ _) | (with_reducible refine Kd.C_drew ?_)))
        (case side2 => exact HC407_2.out)
        rintro e w20 ⟨rfl, hb⟩
        have HS5_ := (hb.cell (World.block_lt_of_cell? _ _ (hHeld.2.2.2.2.2.1))).trans (hHeld.2.2.2.2.2.1)
        have HS6_ := (hb.cell (World.block_lt_of_cell? _ _ (hHeld.2.2.2.2.2.2.1))).trans (hHeld.2.2.2.2.2.2.1)
        have HS7_ := (hb.cell (World.block_lt_of_cell? _ _ (hHeld.2.2.2.2.2.2.2))).trans (hHeld.2.2.2.2.2.2.2)
        refine ⟨_, rfl, ?_⟩
        replace HO_404000 := cV HO_404000 hb
        replace HL407_2 := cV HL407_2 hb
        replace BK403 := cB BK403 hb
        replace BK404 := cB BK404 hb
        replace BK405 := cB BK405 hb
        replace HR407_2 := cC HR407_2 hb
        replace HB := Aside0.mk (below_step bl hb)
        (try clear hb)
        refine hK.out _ _ ⟨(blk_cell BK403.out 0).trans rfl, (blk_cell BK404.out 0).trans rfl, (blk_cell BK404.out 1).trans rfl, (blk_cell BK404.out 2).trans rfl, (blk_cell BK404.out 3).trans rfl, HS5_, HS6_, HS7_⟩ (fun hHeld => ?_)
        clear hK K
        refine norm_ (a' := ?_) ?_ ?_
        rotate_left
        ·
         show Act.put _ (some 30) _ = _
         simp only [Act.put, List.setIfInBounds_toArray, List.set_cons_zero, List.set_cons_succ, i64_w, i32_w]
         rfl
        refine p1 16 (some 31) ?_
        refine done_ (done_of HT_.out (by kernel_rfl)) ?_
        try go_wp2
        go_meet
        case rel => exact ⟨_, (x6_1), rs_, H', ⟨by have := HK1.out; first | omega | exact Nat.le_refl _⟩, ⟨uV HO_404000.out⟩, ⟨uB BK403.out⟩, ⟨uB BK404.out⟩, ⟨uB BK405.out⟩, ⟨bl⟩⟩
      ·
       rw [if_neg c14] at H
       exact absurd H (by simp)
     ·
      rw [if_neg c13] at H
      have c13b0 : decide (x6_1 < (l0_0.length : Int)) = false := decide_eq_false c13
      clear c13
      (first | rw [c13b0] | (simp only [i64_w, i32_w]; rw [c13b0]) | skip)
      have H' := Aside0.mk H
      clear H
      try go_wp2
      replace HO_404000 := Aside0.mk (Kd.V_drew HO_404000.out)
      replace BK403 := Aside0.mk (blk_drew BK403.out)
      replace BK404 := Aside0.mk (blk_drew BK404.out)
      replace BK405 := Aside0.mk (blk_drew BK405.out)
      replace HB := Aside0.mk (below_drew1 HB.out)
      refine start_ (n := 17) (S := fun w' => w'.cell? ⟨gb403, 0, none⟩ = some (.slice A0_0 l0_0.length c0_0)) (ds := []) _ (by kernel_rfl) rfl rfl ((blk_cell BK403.out 0).trans rfl) (fun hHeld => ?_); refine with_tabW r11_Apply.tab4 r11_Apply.bits4 (fun HT_ HW_ => ?_)
      generalize wr.drew = w21 at HO_404000 BK403 BK404 BK405 HB hHeld ⊢
      refine p1 0 (some 15) ?_
      refine p1 1 (some 16) ?_
      refine t1 2 (some 17) rfl rfl hHeld (Or.inl ⟨by rfl, by intro w' s0; go_simp; with_reducible rfl⟩) ?_
      refine p1 3 (some 18) ?_
      refine p1 4 (some 19) ?_
      refine p1 5 (some 20) ?_
      refine p2 6 (some 21) ?_
      refine p2 7 (some 22) ?_
      refine p2 8 (some 23) ?_
      refine p2 9 (some 24) ?_
      refine p2 10 (some 25) ?_
      refine p2 11 (some 26) ?_
      refine p2 12 (some 27) ?_
      refine p2 13 (some 28) ?_
      refine p2 14 (some 29) ?_
      refine p2 15 (some 30) ?_
      refine p1 16 (some 31) ?_
      refine done_ (done_of HT_.out (by kernel_rfl)) ?_
      try go_wp2
      go_meet
      case rel => exact ⟨_, (x6_1), rs_, H', ⟨by have := HK1.out; first | omega | exact Nat.le_refl _⟩, ⟨uV HO_404000.out⟩, ⟨uB BK403.out⟩, ⟨uB BK404.out⟩, ⟨uB BK405.out⟩, ⟨bl⟩⟩
  case rest =>
   clear HC5
   try clear c1
   try clear p2
   try clear c3
   try clear c4
   try clear p4
   try clear q4
   try clear hx4
   try clear p6
   try clear c9
   try clear c10
   try clear c12
   try clear c13
   try clear c13b0
   try clear c14
   try clear c14b0
   try clear c16
   try clear hcz11_0
   try clear hfz11_0
   try clear hx407_0
   try clear hx407_1
   try clear hx407_2
   try clear p407
   try clear q407
   obtain ⟨kq, x6_4, rfl, HA, HJ4, HO_404000, BK403, BK404, BK405, HB⟩ := hcut
   cases kq with
   | zero => exact absurd HA.out (by simp [r11_Apply.j1])
   | succ kj4 =>
    have H := HA.out
    clear HA
    simp only [r11_Apply.j1] at H
    by_cases c22 : 0 ≤ x6_4
    ·
     rw [if_pos c22] at H
     have c22b0 := eq_true c22
     have c22b1 : decide (0 ≤ x6_4) = true := decide_eq_true c22
     clear c22
     by_cases c23 : x6_4 ≤ (l0_0.length : Int)
     ·
      rw [if_pos c23] at H
      have c23b0 := eq_true c23
      have c23b1 : decide (x6_4 ≤ (l0_0.length : Int)) = true := decide_eq_true c23
      clear c23
      obtain ⟨y409, Ny409, H⟩ := ys H
      try dsimp only at H
      have HC24 := Aside0.mk H
      clear H
      have hnb25 := NB403_404.out
      have hnc25 := NB404_403.out
      have hnb26 := NB403_405.out
      have hnc26 := NB405_403.out
      obtain ⟨hcz27_0, hfz27_0⟩ := z1 BK403
      have q28 : (x6_4 : Int) ≤ ((l0_0.length : Int) : Int) := od
      obtain ⟨i028, hi028, _, hsz28, _⟩ := info_parts info59
      have hroom28 : l0_0.length ≤ c0_0 := (Kd.V_reads' HO_404000.out).2.1
      have hC28 : Kd.F k59 _ _ A0_0 l0_0.length l0_0 := (Kd.V_at (base := w.heap.size) HO_404000.out).2.2
      have q028 : (0 : Int) ≤ (x6_4 : Int) := od
      have hcut28 := cut_from (P := Try.prog) 22 59 .i64 Try.underlying22 hi028 3 hsz28 A0_0 l0_0.length c0_0 x6_4 q028 q28
      have hr28 := Kd.F_cut (m := (x6_4 : Int).toNat) (c := c0_0) hC28 (by omega) hroom28
      obtain ⟨A28, hA28⟩ : ∃ A1, A1 = (if c0_0 = (x6_4 : Int).toNat then A0_0 else (A0_0 : Option Addr).map (·.add ((x6_4 : Int).toNat * 3))) := ⟨_, rfl⟩
      obtain ⟨c28, hc28⟩ : ∃ c1, c1 = c0_0 - (x6_4 : Int).toNat := ⟨_, rfl⟩
      have hy28 : y409.length = l0_0.length - (x6_4 : Int).toNat := (by rw [Ny409.out, List.length_drop] <;> omega)
      rw [show (l0_0).drop (x6_4 : Int).toNat = y409 from Ny409.out.symm] at hr28
      replace hr28 : Kd.F k59 _ _ A28 y409.length y409 := (by rw [hA28]; exact hr28)
      rw [← hy28, ← hA28, ← hc28] at hcut28
      have HO413 := Aside0.mk (show Kd.V k59 59 _ w.heap.size _ (.slice A28 y409.length c28) y409 from Kd.V_mk (by rw [hy28, hc28]; exact Nat.sub_le_sub_right hroom28 _) hr28)
      have HC413 := Aside0.mk (show y409.length ≤ c28 from by rw [hy28, hc28]; exact Nat.sub_le_sub_right hroom28 _)
      clear hr28 hC28 hroom28 hi028 hsz28 hc28
      have KY28 := Aside0.mk hy28
      have KA28 := Aside0.mk hA28
      clear hy28 hA28
      replace q28 := eq_true q28
      go_upto_region 8 with (fail)
      go_cut [58] (fun v58 wc => ∃ (kq : Nat) (x58_23 : Bool), v58 = .bool x58_23 ∧ Aside0 (r11_Apply.j2 kq x6_4 ([] : List (S82)) y409 x58_23 l0_0 a1_0 a1_1 a1_2 a1_3 = some (r1, r2)) ∧ Aside0 (kq ≤ kj4) ∧ Aside0 (Kd.R k82 82 wc w.heap.size (fun k_ => (w.heap.size ≤ k_)) (.slice none 0 0) ([] : List (S82))) ∧ Aside0 (Kd.V k59 59 wc w.heap.size (fun k_ => (P0_0_ k_ ∨ w.heap.size ≤ k_) ∧ some k_ ≠ ((.slice none 0 0) : Value).ownBlock ∧ k_ ≠ gb403 ∧ k_ ≠ gb404 ∧ k_ ≠ gb405) (.slice A28 y409.length c28) y409) ∧ Aside0 (Kd.V k59 59 wc w.heap.size (fun k_ => (P0_0_ k_ ∨ w.heap.size ≤ k_) ∧ some k_ ≠ ((.slice none 0 0) : Value).ownBlock ∧ k_ ≠ gb403 ∧ k_ ≠ gb404 ∧ k_ ≠ gb405) (.slice A0_0 l0_0.length c0_0) l0_0) ∧ Aside0 (wc.heap[gb403]? = some (.cells #[(.slice A0_0 l0_0.length c0_0)] 24 (0, 0))) ∧ Aside0 (wc.heap[gb404]? = some (.cells #[.int .i64 a1_0, .int .i64 a1_1, .string a1_2, .int .i64 a1_3] 26 (0, 0))) ∧ Aside0 (wc.heap[gb405]? = some (.cells #[(.slice none 0 0)] 24 (0, 0))) ∧ Aside0 (Below w.heap.size w wc))
      case first =>
       have H := HC24.out
       clear HC24
       by_cases c29 : (y409.length : Int) > 0
       ·
        rw [if_pos c29] at H
        have c29b0 : decide (0 < (y409.length : Int)) = true := decide_eq_true c29
        have c29b1 : decide (0 < y409.length) = true := decide_eq_true (by omega)
        clear c29
        (first | rw [c29b0] | (simp only [i64_w, i32_w]; rw [c29b0]) | skip)
        by_cases c30 : 0 < (y409.length : Int)
        ·
         rw [if_pos c30] at H
         have c30b0 : decide (0 < (y409.length : Int)) = true := decide_eq_true c30
         have c30b1 : decide (0 < y409.length) = true := decide_eq_true (by omega)
         clear c30
         by_cases c31 : ((rd_T59 y409 0).f0) = a1_1
         ·
          rw [if_pos c31] at H
          have c31b0 : (((rd_T59 y409 0).f0) == a1_1) = true := beq_iff_eq.mpr c31
          have c31b1 : (((rd_T59 y409 0).f0) != a1_1) = false := bne_eq_false_iff_eq.mpr c31
          clear c31
          have H' := Aside0.mk H
          clear H
          try go_wp2
          replace HO_404000 := Aside0.mk (Kd.V_drew HO_404000.out)
          replace HO413 := Aside0.mk (Kd.V_drew HO413.out)
          replace BK403 := Aside0.mk (blk_drew BK403.out)
          replace BK404 := Aside0.mk (blk_drew BK404.out)
          replace BK405 := Aside0.mk (blk_drew BK405.out)
          replace HB := Aside0.mk (below_drew1 HB.out)
          have p414 : 0 ≤ (0 : Int) := (by omega)
          have q414 : 0 < (y409.length : Int) := od
          obtain ⟨ad414, A414_2, c414_2, e414, hx414_0, hx414_1, hx414_2, hl414_2, hi414_2⟩ := at_T59 (Kd.V_reads' HO413.out).2.2 0 p414 q414
          cases e414
          obtain ⟨ce414, hce414, hMe414, hcc414⟩ := Kd.V_get HO413.out z59 0 p414 (by first | exact q414 | exact od | (have e_ := (Kd.V_reads' HO413.out).1; omega))
          obtain ⟨ua414_2, uc414_2, rfl, ul414_2, ge414_2⟩ := k59_openF hMe414
          have hv414_2 := hcc414 2 _ rfl
          rw [add_field _ _ 2 (by omega)] at hv414_2
          replace hv414_2 := Option.some.inj (hv414_2.symm.trans hx414_2)
          injection hv414_2 with hva_ hvn_ hvc_
          rw [hva_] at ge414_2
          rw [hvc_] at ul414_2
          have HL414_2 := Aside0.mk (show Kd.V k82 82 _ w.heap.size _ _ ((rd_T59 y409 0).f2) from Kd.V_mk ul414_2 ge414_2)
          clear hva_ hvn_ hvc_ ge414_2 ul414_2
          clear hcc414 hce414
          have qi414 : (0 < y409.length) = True := eq_true (by omega)
          (try rw [show ((0 : Int)).toNat = 0 from rfl] at hx414_0)
          (try rw [show 0 * 3 = 0 from rfl] at hx414_0)
          (try rw [Addr.add_zero'] at hx414_0)
          (try rw [show ((0 : Int)).toNat = 0 from rfl] at hx414_1)
          (try rw [show 0 * 3 = 0 from rfl] at hx414_1)
          (try rw [Addr.add_zero'] at hx414_1)
          (try rw [show ((0 : Int)).toNat = 0 from rfl] at hx414_2)
          (try rw [show 0 * 3 = 0 from rfl] at hx414_2)
          (try rw [Addr.add_zero'] at hx414_2)
          have HR414_2 := Aside0.mk hi414_2
          have HC414_2 := Aside0.mk hl414_2
          clear hi414_2 hl414_2
          replace p414 := eq_true p414
          replace q414 := eq_true q414
          have p415 : 0 ≤ (0 : Int) := (by omega)
          have q415 : 0 < (y409.length : Int) := od
          obtain ⟨ad415, A415_2, c415_2, e415, hx415_0, hx415_1, hx415_2, hl415_2, hi415_2⟩ := at_T59 (Kd.V_reads' HO413.out).2.2 0 p415 q415
          obtain rfl : ad414 = ad415 := (by injection e415)
          obtain ⟨ce415, hce415, hMe415, hcc415⟩ := Kd.V_get HO413.out z59 0 p415 (by first | exact q415 | exact od | (have e_ := (Kd.V_reads' HO413.out).1; omega))
          obtain ⟨ua415_2, uc415_2, rfl, ul415_2, ge415_2⟩ := k59_openF hMe415
          have hv415_2 := hcc415 2 _ rfl
          rw [add_field _ _ 2 (by omega)] at hv415_2
          replace hv415_2 := Option.some.inj (hv415_2.symm.trans hx415_2)
          injection hv415_2 with hva_ hvn_ hvc_
          rw [hva_] at ge415_2
          rw [hvc_] at ul415_2
          have HL415_2 := Aside0.mk (show Kd.V k82 82 _ w.heap.size _ _ ((rd_T59 y409 0).f2) from Kd.V_mk ul415_2 ge415_2)
          clear hva_ hvn_ hvc_ ge415_2 ul415_2
          clear hcc415 hce415
          have qi415 : (0 < y409.length) = True := eq_true (by omega)
          (try rw [show ((0 : Int)).toNat = 0 from rfl] at hx415_0)
          (try rw [show 0 * 3 = 0 from rfl] at hx415_0)
          (try rw [Addr.add_zero'] at hx415_0)
          (try rw [show ((0 : Int)).toNat = 0 from rfl] at hx415_1)
          (try rw [show 0 * 3 = 0 from rfl] at hx415_1)
          (try rw [Addr.add_zero'] at hx415_1)
          (try rw [show ((0 : Int)).toNat = 0 from rfl] at hx415_2)
          (try rw [show 0 * 3 = 0 from rfl] at hx415_2)
          (try rw [Addr.add_zero'] at hx415_2)
          have HR415_2 := Aside0.mk hi415_2
          have HC415_2 := Aside0.mk hl415_2
          clear hi415_2 hl415_2
          replace p415 := eq_true p415
          replace q415 := eq_true q415
          have ea_ := Option.some.inj (hx414_2.symm.trans hx415_2)
          injection ea_ with ea_ en_ ec_
          subst ea_
          subst ec_
          clear en_
          refine start_ (n := 21) (S := fun w' => w'.cell? ⟨gb404, 0, none⟩ = some (.int .i64 a1_0) ∧ w'.cell? ⟨gb404, 1, none⟩ = some (.int .i64 a1_1) ∧ w'.cell? ⟨gb404, 2, none⟩ = some (.string a1_2) ∧ w'.cell? ⟨gb404, 3, none⟩ = some (.int .i64 a1_3) ∧ w'.cell? ad414 = some (.int .i64 ((rd_T59 y409 0).f0)) ∧ w'.cell? ⟨ad414.block, ad414.off + 1, none⟩ = some (.string ((rd_T59 y409 0).f1)) ∧ w'.cell? ⟨ad414.block, ad414.off + 2, none⟩ = some (.slice A414_2 ((rd_T59 y409 0).f2).length c414_2) ∧ w'.cell? ad414 = some (.int .i64 ((rd_T59 y409 0).f0)) ∧ w'.cell? ⟨ad414.block, ad414.off + 1, none⟩ = some (.string ((rd_T59 y409 0).f1)) ∧ w'.cell? ⟨ad414.block, ad414.off + 2, none⟩ = some (.slice A414_2 ((rd_T59 y409 0).f2).length c414_2)) (ds := []) _ (by kernel_rfl) rfl rfl ⟨(blk_cell BK404.out 0).trans rfl, (blk_cell BK404.out 1).trans rfl, (blk_cell BK404.out 2).trans rfl, (blk_cell BK404.out 3).trans rfl, hx414_0, hx414_1, hx414_2, hx415_0, hx415_1, hx415_2⟩ (fun hHeld => ?_); refine with_tabW r11_Apply.tab8 r11_Apply.bits8 (fun HT_ HW_ => ?_)
          generalize wc.drew = w32 at HO_404000 HO413 BK403 BK404 BK405 HB HL414_2 HL415_2 HR414_2 HR415_2 hx414_0 hx414_1 hx414_2 hx415_0 hx415_1 hx415_2 hHeld ⊢
          refine p1 0 (some 38) ?_
          refine p1 1 (some 39) ?_
          refine p1 2 (some 40) ?_
          refine p1 3 (some 41) ?_
          refine p1 4 (some 42) ?_
          refine p1 5 (some 43) ?_
          refine p1 6 (some 44) ?_
          refine p1 8 (some 46) ?_
          refine t1 7 (some 45) rfl rfl hHeld (Or.inl ⟨by rfl, by rintro w' ⟨s0, s1, s2, s3, s4, s5, s6, s7, s8, s9⟩; go_simp; with_reducible rfl⟩) ?_
          refine t1 9 (some 47) rfl rfl hHeld (Or.inl ⟨by rfl, by rintro w' ⟨s0, s1, s2, s3, s4, s5, s6, s7, s8, s9⟩; go_simp; with_reducible rfl⟩) ?_
          refine p1 10 (some 48) ?_
          refine p1 11 (some 49) ?_
          refine p1 12 (some 50) ?_
          refine p1 13 (some 51) ?_
          refine p1 14 (some 52) ?_
          refine p1 15 (some 53) ?_
          refine p1 17 (some 55) ?_
          refine t1 16 (some 54) rfl rfl hHeld (Or.inl ⟨by rfl, by rintro w' ⟨s0, s1, s2, s3, s4, s5, s6, s7, s8, s9⟩; go_simp; with_reducible rfl⟩) ?_
          refine t1 18 (some 56) rfl rfl hHeld (Or.inl ⟨by rfl, by rintro w' ⟨s0, s1, s2, s3, s4, s5, s6, s7, s8, s9⟩; go_simp; with_reducible rfl⟩) ?_
          refine p1 19 (some 57) ?_
          refine p1 20 (some 58) ?_
          refine done_ (done_of HT_.out (by kernel_rfl)) ?_
          try go_wp2
          go_meet
          case rel => exact ⟨_, ((((rd_T59 y409 0).f1).toList == a1_2.toList)), rs_, H', ⟨by have := HJ4.out; first | omega | exact Nat.le_refl _⟩, ⟨nl_⟩, ⟨by exact uV <| Kd.V_mono HO413.out (fun _ hk => ⟨hk.1, ⟨(by simp [Value.ownBlock]), ⟨hk.2.1, ⟨hk.2.2.1, hk.2.2.2⟩⟩⟩⟩)⟩, ⟨by exact uV <| Kd.V_mono HO_404000.out (fun _ hk => ⟨hk.1, ⟨(by simp [Value.ownBlock]), ⟨hk.2.1, ⟨hk.2.2.1, hk.2.2.2⟩⟩⟩⟩)⟩, ⟨uB BK403.out⟩, ⟨uB BK404.out⟩, ⟨uB BK405.out⟩, ⟨bl⟩⟩
         ·
          rw [if_neg c31] at H
          have c31b0 : (((rd_T59 y409 0).f0) == a1_1) = false := beq_eq_false_iff_ne.mpr c31
          have c31b1 : (((rd_T59 y409 0).f0) != a1_1) = true := bne_iff_ne.mpr c31
          have H' := Aside0.mk H
          clear H
          try go_wp2
          replace HO_404000 := Aside0.mk (Kd.V_drew HO_404000.out)
          replace HO413 := Aside0.mk (Kd.V_drew HO413.out)
          replace BK403 := Aside0.mk (blk_drew BK403.out)
          replace BK404 := Aside0.mk (blk_drew BK404.out)
          replace BK405 := Aside0.mk (blk_drew BK405.out)
          replace HB := Aside0.mk (below_drew1 HB.out)
          have p414 : 0 ≤ (0 : Int) := (by omega)
          have q414 : 0 < (y409.length : Int) := od
          obtain ⟨ad414, A414_2, c414_2, e414, hx414_0, hx414_1, hx414_2, hl414_2, hi414_2⟩ := at_T59 (Kd.V_reads' HO413.out).2.2 0 p414 q414
          cases e414
          obtain ⟨ce414, hce414, hMe414, hcc414⟩ := Kd.V_get HO413.out z59 0 p414 (by first | exact q414 | exact od | (have e_ := (Kd.V_reads' HO413.out).1; omega))
          obtain ⟨ua414_2, uc414_2, rfl, ul414_2, ge414_2⟩ := k59_openF hMe414
          have hv414_2 := hcc414 2 _ rfl
          rw [add_field _ _ 2 (by omega)] at hv414_2
          replace hv414_2 := Option.some.inj (hv414_2.symm.trans hx414_2)
          injection hv414_2 with hva_ hvn_ hvc_
          rw [hva_] at ge414_2
          rw [hvc_] at ul414_2
          have HL414_2 := Aside0.mk (show Kd.V k82 82 _ w.heap.size _ _ ((rd_T59 y409 0).f2) from Kd.V_mk ul414_2 ge414_2)
          clear hva_ hvn_ hvc_ ge414_2 ul414_2
          clear hcc414 hce414
          have qi414 : (0 < y409.length) = True := eq_true (by omega)
          (try rw [show ((0 : Int)).toNat = 0 from rfl] at hx414_0)
          (try rw [show 0 * 3 = 0 from rfl] at hx414_0)
          (try rw [Addr.add_zero'] at hx414_0)
          (try rw [show ((0 : Int)).toNat = 0 from rfl] at hx414_1)
          (try rw [show 0 * 3 = 0 from rfl] at hx414_1)
          (try rw [Addr.add_zero'] at hx414_1)
          (try rw [show ((0 : Int)).toNat = 0 from rfl] at hx414_2)
          (try rw [show 0 * 3 = 0 from rfl] at hx414_2)
          (try rw [Addr.add_zero'] at hx414_2)
          have HR414_2 := Aside0.mk hi414_2
          have HC414_2 := Aside0.mk hl414_2
          clear hi414_2 hl414_2
          replace p414 := eq_true p414
          replace q414 := eq_true q414
          refine start_ (n := 21) (S := fun w' => w'.cell? ⟨gb404, 0, none⟩ = some (.int .i64 a1_0) ∧ w'.cell? ⟨gb404, 1, none⟩ = some (.int .i64 a1_1) ∧ w'.cell? ⟨gb404, 2, none⟩ = some (.string a1_2) ∧ w'.cell? ⟨gb404, 3, none⟩ = some (.int .i64 a1_3) ∧ w'.cell? ad414 = some (.int .i64 ((rd_T59 y409 0).f0)) ∧ w'.cell? ⟨ad414.block, ad414.off + 1, none⟩ = some (.string ((rd_T59 y409 0).f1)) ∧ w'.cell? ⟨ad414.block, ad414.off + 2, none⟩ = some (.slice A414_2 ((rd_T59 y409 0).f2).length c414_2)) (ds := []) _ (by kernel_rfl) rfl rfl ⟨(blk_cell BK404.out 0).trans rfl, (blk_cell BK404.out 1).trans rfl, (blk_cell BK404.out 2).trans rfl, (blk_cell BK404.out 3).trans rfl, hx414_0, hx414_1, hx414_2⟩ (fun hHeld => ?_); refine with_tabW r11_Apply.tab8 r11_Apply.bits8 (fun HT_ HW_ => ?_)
          generalize wc.drew = w33 at HO_404000 HO413 BK403 BK404 BK405 HB HL414_2 HR414_2 hx414_0 hx414_1 hx414_2 hHeld ⊢
          refine p1 0 (some 38) ?_
          refine p1 1 (some 39) ?_
          refine p1 2 (some 40) ?_
          refine p1 3 (some 41) ?_
          refine p1 4 (some 42) ?_
          refine p1 5 (some 43) ?_
          refine p1 6 (some 44) ?_
          refine p1 8 (some 46) ?_
          refine t1 7 (some 45) rfl rfl hHeld (Or.inl ⟨by rfl, by rintro w' ⟨s0, s1, s2, s3, s4, s5, s6⟩; go_simp; with_reducible rfl⟩) ?_
          refine t1 9 (some 47) rfl rfl hHeld (Or.inl ⟨by rfl, by rintro w' ⟨s0, s1, s2, s3, s4, s5, s6⟩; go_simp; with_reducible rfl⟩) ?_
          refine p1 10 (some 48) ?_
          refine p1 11 (some 49) ?_
          refine p1 12 (some 50) ?_
          refine p2 13 (some 51) ?_
          refine p2 14 (some 52) ?_
          refine p2 15 (some 53) ?_
          refine p2 16 (some 54) ?_
          refine p2 17 (some 55) ?_
          refine p2 18 (some 56) ?_
          refine p2 19 (some 57) ?_
          refine p1 20 (some 58) ?_
          refine done_ (done_of HT_.out (by kernel_rfl)) ?_
          try go_wp2
          go_meet
          case rel => exact ⟨_, (false), rs_, H', ⟨by have := HJ4.out; first | omega | exact Nat.le_refl _⟩, ⟨nl_⟩, ⟨by exact uV <| Kd.V_mono HO413.out (fun _ hk => ⟨hk.1, ⟨(by simp [Value.ownBlock]), ⟨hk.2.1, ⟨hk.2.2.1, hk.2.2.2⟩⟩⟩⟩)⟩, ⟨by exact uV <| Kd.V_mono HO_404000.out (fun _ hk => ⟨hk.1, ⟨(by simp [Value.ownBlock]), ⟨hk.2.1, ⟨hk.2.2.1, hk.2.2.2⟩⟩⟩⟩)⟩, ⟨uB BK403.out⟩, ⟨uB BK404.out⟩, ⟨uB BK405.out⟩, ⟨bl⟩⟩
        ·
         rw [if_neg c30] at H
         exact absurd H (by simp)
       ·
        rw [if_neg c29] at H
        have c29b0 : decide (0 < (y409.length : Int)) = false := decide_eq_false c29
        have c29b1 : decide (0 < y409.length) = false := decide_eq_false (by omega)
        clear c29
        (first | rw [c29b0] | (simp only [i64_w, i32_w]; rw [c29b0]) | skip)
        have H' := Aside0.mk H
        clear H
        try go_wp2
        replace HO_404000 := Aside0.mk (Kd.V_drew HO_404000.out)
        replace HO413 := Aside0.mk (Kd.V_drew HO413.out)
        replace BK403 := Aside0.mk (blk_drew BK403.out)
        replace BK404 := Aside0.mk (blk_drew BK404.out)
        replace BK405 := Aside0.mk (blk_drew BK405.out)
        replace HB := Aside0.mk (below_drew1 HB.out)
        refine start_ (n := 21) (S := fun w' => True) (ds := []) _ (by kernel_rfl) rfl rfl trivial (fun hHeld => ?_); refine with_tabW r11_Apply.tab8 r11_Apply.bits8 (fun HT_ HW_ => ?_)
        generalize wc.drew = w34 at HO_404000 HO413 BK403 BK404 BK405 HB hHeld ⊢
        refine p1 0 (some 38) ?_
        refine p1 1 (some 39) ?_
        refine p1 2 (some 40) ?_
        refine p1 3 (some 41) ?_
        refine p2 4 (some 42) ?_
        refine p2 5 (some 43) ?_
        refine p2 6 (some 44) ?_
        refine p2 7 (some 45) ?_
        refine p2 8 (some 46) ?_
        refine p2 9 (some 47) ?_
        refine p2 10 (some 48) ?_
        refine p1 11 (some 49) ?_
        refine p1 12 (some 50) ?_
        refine p2 13 (some 51) ?_
        refine p2 14 (some 52) ?_
        refine p2 15 (some 53) ?_
        refine p2 16 (some 54) ?_
        refine p2 17 (some 55) ?_
        refine p2 18 (some 56) ?_
        refine p2 19 (some 57) ?_
        refine p1 20 (some 58) ?_
        refine done_ (done_of HT_.out (by kernel_rfl)) ?_
        try go_wp2
        go_meet
        case rel => exact ⟨_, (false), rs_, H', ⟨by have := HJ4.out; first | omega | exact Nat.le_refl _⟩, ⟨nl_⟩, ⟨by exact uV <| Kd.V_mono HO413.out (fun _ hk => ⟨hk.1, ⟨(by simp [Value.ownBlock]), ⟨hk.2.1, ⟨hk.2.2.1, hk.2.2.2⟩⟩⟩⟩)⟩, ⟨by exact uV <| Kd.V_mono HO_404000.out (fun _ hk => ⟨hk.1, ⟨(by simp [Value.ownBlock]), ⟨hk.2.1, ⟨hk.2.2.1, hk.2.2.2⟩⟩⟩⟩)⟩, ⟨uB BK403.out⟩, ⟨uB BK404.out⟩, ⟨uB BK405.out⟩, ⟨bl⟩⟩
      case rest =>
       clear HC24
       try clear c2
       try clear p2
       try clear c3
       try clear c4
       try clear p4
       try clear q4
       try clear hx4
       try clear qi4
       try clear c29
       try clear c29b0
       try clear c29b1
       try clear c30
       try clear c31
       try clear c31b0
       try clear c31b1
       try clear hx414_0
       try clear hx414_1
       try clear hx414_2
       try clear hx415_0
       try clear hx415_1
       try clear hx415_2
       try clear p414
       try clear p415
       try clear q414
       try clear q415
       obtain ⟨kq, x58_23, rfl, HA, HJ23, HO_7, HO_8, HO_404000, BK403, BK404, BK405, HB⟩ := hcut
       cases kq with
       | zero => exact absurd HA.out (by simp [r11_Apply.j2])
       | succ kj23 =>
        have H := HA.out
        clear HA
        simp only [r11_Apply.j2] at H
        by_cases c35 : x58_23 = true
        ·
         subst c35
         rw [if_pos rfl] at H
         by_cases c36 : 0 < (y409.length : Int)
         ·
          rw [if_pos c36] at H
          have c36b0 : decide (0 < (y409.length : Int)) = true := decide_eq_true c36
          have c36b1 : decide (0 < y409.length) = true := decide_eq_true (by omega)
          clear c36
          by_cases c37 : 1 ≤ (y409.length : Int)
          ·
           rw [if_pos c37] at H
           have c37b0 := eq_true c37
           have c37b1 : decide (1 ≤ (y409.length : Int)) = true := decide_eq_true c37
           clear c37
           obtain ⟨y417, Ny417, H⟩ := ys H
           try dsimp only at H
           obtain ⟨⟨t422, t423⟩, A38, H⟩ := bs H
           try dsimp only at H
           by_cases c39 : t423 = 0
           ·
            rw [if_pos c39] at H
            have c39b0 : (t423 == 0) = true := beq_iff_eq.mpr c39
            have c39b1 : (t423 != 0) = false := bne_eq_false_iff_eq.mpr c39
            clear c39
            obtain ⟨y426, Ny426, H⟩ := ys H
            try dsimp only at H
            by_cases c40 : 0 ≤ x6_4
            ·
             rw [if_pos c40] at H
             have c40b0 := eq_true c40
             have c40b1 : decide (0 ≤ x6_4) = true := decide_eq_true c40
             clear c40
             by_cases c41 : x6_4 ≤ (l0_0.length : Int)
             ·
              rw [if_pos c41] at H
              have c41b0 := eq_true c41
              have c41b1 : decide (x6_4 ≤ (l0_0.length : Int)) = true := decide_eq_true c41
              clear c41
              obtain ⟨y429, Ny429, H⟩ := ys H
              try dsimp only at H
              by_cases c42 : y426.length + y429.length < 2932031007402
              ·
               rw [if_pos c42] at H
               have LMc42 := Aside0.mk c42
               clear c42
               obtain ⟨y434, Ny434, H⟩ := ys H
               try dsimp only at H
               obtain ⟨y437, Ny437, H⟩ := ys H
               try dsimp only at H
               by_cases c43 : y434.length + y437.length < 2932031007402
               ·
                rw [if_pos c43] at H
                have LMc43 := Aside0.mk c43
                clear c43
                obtain ⟨y440, Ny440, H⟩ := ys H
                try dsimp only at H
                by_cases c44 : y440.length + y417.length < 2932031007402
                ·
                 rw [if_pos c44] at H
                 have LMc44 := Aside0.mk c44
                 clear c44
                 obtain ⟨y443, hy443⟩ : ∃ y_ : List (S59), y_ = (y440 ++ y417) := ⟨_, rfl⟩
                 replace H : (some (y443, 0)) = some (r1, r2) := by first | (rw [hy443]; with_reducible exact H) | (have H2_ := (Option.bind_some _ _).symm.trans H; rw [hy443]; with_reducible exact H2_) | (have H2_ := (Option.bind_some _ _).symm.trans H; with_reducible exact H2_) | with_reducible exact H | (rw [hy443]; exact H) | exact H
                 have Ny443 := Aside0.mk hy443
                 clear hy443
                 simp only [Option.some.injEq, Prod.mk.injEq] at H
                 obtain ⟨rfl, rfl⟩ := H
                 try go_wp2
                 replace HO_7 := Aside0.mk (Kd.R_drew HO_7.out)
                 replace HO_8 := Aside0.mk (Kd.V_drew HO_8.out)
                 replace HO_404000 := Aside0.mk (Kd.V_drew HO_404000.out)
                 replace BK403 := Aside0.mk (blk_drew BK403.out)
                 replace BK404 := Aside0.mk (blk_drew BK404.out)
                 replace BK405 := Aside0.mk (blk_drew BK405.out)
                 replace HB := Aside0.mk (below_drew1 HB.out)
                 have p416 : 0 ≤ (0 : Int) := (by omega)
                 have q416 : 0 < (y409.length : Int) := od
                 obtain ⟨ad416, A416_2, c416_2, e416, hx416_0, hx416_1, hx416_2, hl416_2, hi416_2⟩ := at_T59 (Kd.V_reads' HO_8.out).2.2 0 p416 q416
                 cases e416
                 obtain ⟨ce416, hce416, hMe416, hcc416⟩ := Kd.V_get HO_8.out z59 0 p416 (by first | exact q416 | exact od | (have e_ := (Kd.V_reads' HO_8.out).1; omega))
                 obtain ⟨ua416_2, uc416_2, rfl, ul416_2, ge416_2⟩ := k59_openF hMe416
                 have hv416_2 := hcc416 2 _ rfl
                 rw [add_field _ _ 2 (by omega)] at hv416_2
                 replace hv416_2 := Option.some.inj (hv416_2.symm.trans hx416_2)
                 injection hv416_2 with hva_ hvn_ hvc_
                 rw [hva_] at ge416_2
                 rw [hvc_] at ul416_2
                 have HL416_2 := Aside0.mk (show Kd.V k82 82 _ w.heap.size _ _ ((rd_T59 y409 0).f2) from Kd.V_mk ul416_2 ge416_2)
                 clear hva_ hvn_ hvc_ ge416_2 ul416_2
                 clear hcc416 hce416
                 have qi416 : (0 < y409.length) = True := eq_true (by omega)
                 (try rw [show ((0 : Int)).toNat = 0 from rfl] at hx416_0)
                 (try rw [show 0 * 3 = 0 from rfl] at hx416_0)
                 (try rw [Addr.add_zero'] at hx416_0)
                 (try rw [show ((0 : Int)).toNat = 0 from rfl] at hx416_1)
                 (try rw [show 0 * 3 = 0 from rfl] at hx416_1)
                 (try rw [Addr.add_zero'] at hx416_1)
                 (try rw [show ((0 : Int)).toNat = 0 from rfl] at hx416_2)
                 (try rw [show 0 * 3 = 0 from rfl] at hx416_2)
                 (try rw [Addr.add_zero'] at hx416_2)
                 have HR416_2 := Aside0.mk hi416_2
                 have HC416_2 := Aside0.mk hl416_2
                 clear hi416_2 hl416_2
                 replace p416 := eq_true p416
                 replace q416 := eq_true q416
                 have q46 : (1 : Int) ≤ ((y409.length : Int) : Int) := od
                 obtain ⟨i046, hi046, _, hsz46, _⟩ := info_parts info59
                 have hroom46 : y409.length ≤ c28 := (Kd.V_reads' HO_8.out).2.1
                 have hC46 : Kd.F k59 _ _ (some ad416) y409.length y409 := (Kd.V_at (base := w.heap.size) HO_8.out).2.2
                 have hcut46 := cut_from (P := Try.prog) 22 59 .i64 Try.underlying22 hi046 3 hsz46 (some ad416) y409.length c28 1 (by omega) q46
                 have hr46 := Kd.F_cut (m := (1 : Int).toNat) (c := c28) hC46 (by omega) hroom46
                 obtain ⟨A46, hA46⟩ : ∃ A1, A1 = (if c28 = (1 : Int).toNat then (some ad416) else ((some ad416) : Option Addr).map (·.add ((1 : Int).toNat * 3))) := ⟨_, rfl⟩
                 obtain ⟨c46, hc46⟩ : ∃ c1, c1 = c28 - (1 : Int).toNat := ⟨_, rfl⟩
                 have hy46 : y417.length = y409.length - (1 : Int).toNat := (by rw [Ny417.out, List.length_drop] <;> omega)
                 rw [show (y409).drop (1 : Int).toNat = y417 from Ny417.out.symm] at hr46
                 replace hr46 : Kd.F k59 _ _ A46 y417.length y417 := (by rw [hA46]; exact hr46)
                 rw [← hy46, ← hA46, ← hc46] at hcut46
                 have HO421 := Aside0.mk (show Kd.V k59 59 _ w.heap.size _ (.slice A46 y417.length c46) y417 from Kd.V_mk (by rw [hy46, hc46]; exact Nat.sub_le_sub_right hroom46 _) hr46)
                 have HC421 := Aside0.mk (show y417.length ≤ c46 from by rw [hy46, hc46]; exact Nat.sub_le_sub_right hroom46 _)
                 clear hr46 hC46 hroom46 hi046 hsz46 hc46
                 have KY46 := Aside0.mk hy46
                 have KA46 := Aside0.mk hA46
                 clear hy46 hA46
                 replace q46 := eq_true q46
                 refine start_ (n := 8) (S := fun w' => w'.cell? ad416 = some (.int .i64 ((rd_T59 y409 0).f0)) ∧ w'.cell? ⟨ad416.block, ad416.off + 1, none⟩ = some (.string ((rd_T59 y409 0).f1)) ∧ w'.cell? ⟨ad416.block, ad416.off + 2, none⟩ = some (.slice A416_2 ((rd_T59 y409 0).f2).length c416_2)) (ds := []) _ (by kernel_rfl) rfl rfl ⟨hx416_0, hx416_1, hx416_2⟩ (fun hHeld => ?_); refine with_tabW r11_Apply.tab9 r11_Apply.bits9 (fun HT_ HW_ => ?_)
                 generalize wc.drew = w45 at HO_7 HO_8 HO_404000 BK403 BK404 BK405 HB HL416_2 HO421 HR416_2 hx416_0 hx416_1 hx416_2 hHeld ⊢
                 refine p1 0 (some 59) ?_
                 refine p1 1 (some 60) ?_
                 refine p1 2 (some 61) ?_
                 refine p1 4 (some 63) ?_
                 refine p1 5 (some 64) ?_
                 refine t1 3 (some 62) rfl rfl hHeld (Or.inl ⟨by rfl, by rintro w' ⟨s0, s1, s2⟩; go_simp; with_reducible rfl⟩) ?_
                 refine p1 6 (some 7) ?_
                 refine p1 7 (some 8) ?_
                 refine done_ (done_of HT_.out (by kernel_rfl)) ?_
                 have hnb47 := NB404_403.out
                 have hnc47 := NB403_404.out
                 have hnb48 := NB404_405.out
                 have hnc48 := NB405_404.out
                 obtain ⟨hcz49_0, hcz49_1, hcz49_2, hcz49_3, hfz49_0, hfz49_1, hfz49_2, hfz49_3⟩ := z4 BK404
                 try go_wp2_with (first | (refine gL (some 71) rfl Try.func31 #[.slice A416_2 ((rd_T59 y409 0).f2).length c416_2, .int .i64 a1_0, .int .i64 a1_3] ?_; (with_reducible refine (r10_Fold.calls kj23 _ _ ((rd_T59 y409 0).f2) a1_0 a1_3 t422 t423 _ ?side1 ?side2 A38.out).mono ?_); (case side1 => repeat (first | exact (by repeat (first | (with_reducible exact HR416_2.out) | (with_reducible refine Kd.C_alloc ?_ _) | (with_reducible refine Kd.C_drewN ?_ _) | (with_reducible refine Kd.C_drew ?_) | exact HR416_2.out)) | (with_reducible refine Kd.C_alloc ?_ _) | (with_reducible refine Kd.C_drewN ?_ _) | (with_reducible refine Kd.C_drew ?_))); (case side2 => exact HC416_2.out); rintro e w50 ⟨v424, rfl, ho0, hb⟩; refine ⟨_, rfl, ?_⟩; replace HO_8 := Aside0.mk (Kd.V_elder' (uV HO_8.out) (Kd.R_base ho0) hb); replace HO_404000 := Aside0.mk (Kd.V_elder' (uV HO_404000.out) (Kd.R_base ho0) hb); replace HL416_2 := Aside0.mk (Kd.V_elder' (uV HL416_2.out) (Kd.R_base ho0) hb); replace HO421 := Aside0.mk (Kd.V_elder' (uV HO421.out) (Kd.R_base ho0) hb); have HO425 := Aside0.mk (Kd.R_lower (Kd.R_new' (Kd.R_newM (M := fun k_ => (w.heap.size ≤ k_)) ho0 (below_size bl) (fun k_ h_ => h_)) (Kd.R_lt (uR HO_7.out))) (below_size bl)); replace HO_7 := Aside0.mk (Kd.R_elder' (uR HO_7.out) (Kd.R_base ho0) hb); replace BK403 := cB BK403 hb; replace BK404 := cB BK404 hb; replace BK405 := cB BK405 hb; replace HR416_2 := cC HR416_2 hb; replace HB := Aside0.mk (below_step bl hb); (try clear hb); (try clear ho0)))
                 replace HO_7 := Aside0.mk (Kd.R_drew HO_7.out)
                 replace HO_8 := Aside0.mk (Kd.V_drew HO_8.out)
                 replace HO_404000 := Aside0.mk (Kd.V_drew HO_404000.out)
                 replace HL416_2 := Aside0.mk (Kd.V_drew HL416_2.out)
                 replace HO421 := Aside0.mk (Kd.V_drew HO421.out)
                 replace HO425 := Aside0.mk (Kd.R_drew HO425.out)
                 replace BK403 := Aside0.mk (blk_drew BK403.out)
                 replace BK404 := Aside0.mk (blk_drew BK404.out)
                 replace BK405 := Aside0.mk (blk_drew BK405.out)
                 replace HR416_2 := Aside0.mk (Kd.C_drew HR416_2.out)
                 replace HB := Aside0.mk (below_drew1 HB.out)
                 have q52 : (x6_4 : Int) ≤ ((l0_0.length : Int) : Int) := od
                 obtain ⟨i052, hi052, _, hsz52, _⟩ := info_parts info59
                 have hroom52 : l0_0.length ≤ c0_0 := (Kd.V_reads' HO_404000.out).2.1
                 have hC52 : Kd.F k59 _ _ A0_0 l0_0.length l0_0 := (Kd.V_at (base := w.heap.size) HO_404000.out).2.2
                 have hcut52 := cut_to (P := Try.prog) 22 59 .i64 Try.underlying22 hi052 A0_0 l0_0.length c0_0 x6_4 (od) q52 hroom52
                 have hr52 := Kd.F_take (m := (x6_4 : Int).toNat) hC52 (by omega)
                 have hy52 : y429.length = (x6_4 : Int).toNat := (by rw [Ny429.out, List.length_take]; omega)
                 rw [← Ny429.out] at hr52
                 rw [← hy52] at hcut52
                 have HO433 := Aside0.mk (show Kd.V k59 59 _ w.heap.size _ (.slice A0_0 y429.length c0_0) y429 from Kd.V_mk (by omega) hr52)
                 have HC433 := Aside0.mk (show y429.length ≤ c0_0 from by omega)
                 clear hr52 hC52 hroom52 hi052 hsz52
                 have KY52 := Aside0.mk hy52
                 clear hy52
                 replace q52 := eq_true q52
                 obtain ⟨Ao53, co53, eo53⟩ := Kd.R_slice HO425.out
                 (first | subst eo53 | (injection eo53 with f1_ f2_ f3_; have f4_ := f1_.symm; have f5_ := f3_.symm; clear f1_ f2_ f3_; subst f4_; subst f5_))
                 refine start_ (n := 15) (S := fun w' => w'.cell? ⟨gb403, 0, none⟩ = some (.slice A0_0 l0_0.length c0_0) ∧ w'.cell? ⟨gb404, 0, none⟩ = some (.int .i64 a1_0) ∧ w'.cell? ⟨gb404, 1, none⟩ = some (.int .i64 a1_1) ∧ w'.cell? ⟨gb404, 2, none⟩ = some (.string a1_2) ∧ w'.cell? ⟨gb404, 3, none⟩ = some (.int .i64 a1_3)) (ds := []) _ (by kernel_rfl) rfl rfl ⟨(blk_cell BK403.out 0).trans rfl, (blk_cell BK404.out 0).trans rfl, (blk_cell BK404.out 1).trans rfl, (blk_cell BK404.out 2).trans rfl, (blk_cell BK404.out 3).trans rfl⟩ (fun hHeld => ?_); refine with_tabW r11_Apply.tab13 r11_Apply.bits13 (fun HT_ HW_ => ?_)
                 generalize w50.drew = w51 at HO_7 HO_8 HO_404000 HL416_2 HO421 HO425 BK403 BK404 BK405 HR416_2 HB HO433 hHeld ⊢
                 refine p1 1 (some 79) ?_
                 refine p1 3 (some 81) ?_
                 refine p1 6 (some 84) ?_
                 refine p1 8 (some 86) ?_
                 refine p1 10 (some 88) ?_
                 refine t1 2 (some 80) rfl rfl hHeld (Or.inl ⟨by rfl, by rintro w' ⟨s0, s1, s2, s3, s4⟩; go_simp; with_reducible rfl⟩) ?_
                 refine p1 4 (some 82) ?_
                 refine t1 7 (some 85) rfl rfl hHeld (Or.inl ⟨by rfl, by rintro w' ⟨s0, s1, s2, s3, s4⟩; go_simp; with_reducible rfl⟩) ?_
                 refine t1 9 (some 87) rfl rfl hHeld (Or.inl ⟨by rfl, by rintro w' ⟨s0, s1, s2, s3, s4⟩; go_simp; with_reducible rfl⟩) ?_
                 refine p1 11 (some 89) ?_
                 refine join_ (σ := Value × Value × Value) 2 #[true, true, true, true, true, true, true, true, true, true, true, true, true, false, false] (fun s_ => [(78, s_.1), (83, s_.2.1), (90, s_.2.2)]) (fun s_ w' => (w'.cell? ⟨gb403, 0, none⟩ = some (.slice A0_0 l0_0.length c0_0) ∧ w'.cell? ⟨gb404, 0, none⟩ = some (.int .i64 a1_0) ∧ w'.cell? ⟨gb404, 1, none⟩ = some (.int .i64 a1_1) ∧ w'.cell? ⟨gb404, 2, none⟩ = some (.string a1_2) ∧ w'.cell? ⟨gb404, 3, none⟩ = some (.int .i64 a1_3)) ∧ (Kd.V k82 82 w' w.heap.size (fun k_ => (P0_0_ k_ ∨ w.heap.size ≤ k_) ∧ some k_ ≠ (s_.2.1 : Value).ownBlock ∧ some k_ ≠ (s_.2.2 : Value).ownBlock ∧ some k_ ≠ (.slice none 0 0 : Value).ownBlock ∧ k_ ≠ gb403 ∧ k_ ≠ gb404 ∧ k_ ≠ gb405) (.slice A416_2 ((rd_T59 y409 0).f2).length c416_2) ((rd_T59 y409 0).f2)) ∧ (Kd.V k59 59 w' w.heap.size (fun k_ => (P0_0_ k_ ∨ w.heap.size ≤ k_) ∧ some k_ ≠ (s_.2.1 : Value).ownBlock ∧ some k_ ≠ (s_.2.2 : Value).ownBlock ∧ some k_ ≠ (.slice none 0 0 : Value).ownBlock ∧ k_ ≠ gb403 ∧ k_ ≠ gb404 ∧ k_ ≠ gb405) (.slice A46 y417.length c46) y417) ∧ (Kd.V k59 59 w' w.heap.size (fun k_ => (P0_0_ k_ ∨ w.heap.size ≤ k_) ∧ some k_ ≠ (s_.2.1 : Value).ownBlock ∧ some k_ ≠ (s_.2.2 : Value).ownBlock ∧ some k_ ≠ (.slice none 0 0 : Value).ownBlock ∧ k_ ≠ gb403 ∧ k_ ≠ gb404 ∧ k_ ≠ gb405) (.slice A0_0 y429.length c0_0) y429) ∧ (Kd.N k59 59 w' w.heap.size (fun k_ => (P0_0_ k_ ∨ w.heap.size ≤ k_) ∧ some k_ ≠ (s_.2.2 : Value).ownBlock ∧ some k_ ≠ (.slice none 0 0 : Value).ownBlock ∧ k_ ≠ gb403 ∧ k_ ≠ gb404 ∧ k_ ≠ gb405) s_.2.1 y434) ∧ (Kd.N k59 59 w' w.heap.size (fun k_ => (P0_0_ k_ ∨ w.heap.size ≤ k_) ∧ some k_ ≠ (s_.2.1 : Value).ownBlock ∧ some k_ ≠ (.slice none 0 0 : Value).ownBlock ∧ k_ ≠ gb403 ∧ k_ ≠ gb404 ∧ k_ ≠ gb405) s_.2.2 y437) ∧ (Kd.V k59 59 w' w.heap.size (fun k_ => (P0_0_ k_ ∨ w.heap.size ≤ k_) ∧ some k_ ≠ (s_.2.1 : Value).ownBlock ∧ some k_ ≠ (s_.2.2 : Value).ownBlock ∧ some k_ ≠ (.slice none 0 0 : Value).ownBlock ∧ k_ ≠ gb403 ∧ k_ ≠ gb404 ∧ k_ ≠ gb405) (.slice A0_0 l0_0.length c0_0) l0_0) ∧ (Kd.R k82 82 w' w.heap.size (fun k_ => (w.heap.size ≤ k_)) (.slice none 0 0) ([] : List (S82))) ∧ (Kd.V k59 59 w' w.heap.size (fun k_ => (P0_0_ k_ ∨ w.heap.size ≤ k_) ∧ some k_ ≠ (s_.2.1 : Value).ownBlock ∧ some k_ ≠ (s_.2.2 : Value).ownBlock ∧ some k_ ≠ (.slice none 0 0 : Value).ownBlock ∧ k_ ≠ gb403 ∧ k_ ≠ gb404 ∧ k_ ≠ gb405) (.slice (some ad416) y409.length c28) y409) ∧ (w'.heap[gb403]? = some (.cells #[.slice A0_0 l0_0.length c0_0] 24 (0, 0))) ∧ (w'.heap[gb404]? = some (.cells #[.int .i64 a1_0, .int .i64 a1_1, .string a1_2, .int .i64 a1_3] 26 (0, 0))) ∧ (w'.heap[gb405]? = some (.cells #[.slice none 0 0] 24 (0, 0))) ∧ (Below w.heap.size w w')) ?_ ?_
                 rotate_left
                 ·
                  intro hCont
                  refine two_ (i := 0) (j := 12) (Ni := some 78) (Nj := some 90) #[true, true, true, true, true, false, true, true, true, true, true, true, false, false, false] #[false, true, true, true, true, false, true, true, true, true, true, true, true, false, false] rfl rfl rfl rfl (two_of HT_.out (by kernel_rfl)) (by decide) (by decide) (fun K hK => ?_) (fun K hK => ?_)
                  ·
                   skip
                   refine Kd.N_lit_step k59 _ 59 ?hg (N' := 78) ?hd (xs := ([] : List (S59))) (inner := []) (ok := (fun k_ => (P0_0_ k_ ∨ w.heap.size ≤ k_) ∧ some k_ ≠ (.slice none 0 0 : Value).ownBlock ∧ some k_ ≠ (.slice Ao53 t422.length co53 : Value).ownBlock ∧ k_ ≠ gb403 ∧ k_ ≠ gb404 ∧ k_ ≠ gb405)) (okp := (fun k_ => (P0_0_ k_ ∨ w.heap.size ≤ k_) ∧ some k_ ≠ (.slice none 0 0 : Value).ownBlock ∧ some k_ ≠ (.slice Ao53 t422.length co53 : Value).ownBlock ∧ k_ ≠ gb403 ∧ k_ ≠ gb404 ∧ k_ ≠ gb405)) ?hr ?hp (fun _ hk => hk) ((show ∀ k_, w51.heap.size ≤ k_ → (fun k_ => (P0_0_ k_ ∨ w.heap.size ≤ k_) ∧ some k_ ≠ (.slice none 0 0 : Value).ownBlock ∧ some k_ ≠ (.slice Ao53 t422.length co53 : Value).ownBlock ∧ k_ ≠ gb403 ∧ k_ ≠ gb404 ∧ k_ ≠ gb405) k_ from fun k_ hk => ⟨(.inr (Nat.le_trans (below_size bl) hk)), Kd.fresh' (Kd.R_lt (uR HO_7.out)) k_ hk, Kd.fresh' (Kd.R_lt (uR HO425.out)) k_ hk, Kd.freshB (g := gb403) (o := .cells #[.slice A0_0 l0_0.length c0_0] 24 (0, 0)) (uB BK403.out) k_ hk, Kd.freshB (g := gb404) (o := .cells #[.int .i64 a1_0, .int .i64 a1_1, .string a1_2, .int .i64 a1_3] 26 (0, 0)) (uB BK404.out) k_ hk, Kd.freshB (g := gb405) (o := .cells #[.slice none 0 0] 24 (0, 0)) (uB BK405.out) k_ hk⟩) _ (Nat.le_refl _)) (Below.refl _ _) (Nat.le_refl _) (by simp) ?_; (case hd => rfl); (case hg => rfl); (case hr => first | (go_simp; done) | (go_simp; rfl)); (case hp => exact (Reps.none _ _))
                   intro v427 w54 ho55 hb hg_ hnew_
                   clear hg_ hnew_
                   (first | rw [← Ny426.out] at ho55 | (simp only [Int.reduceToNat] at ho55; rw [← Ny426.out] at ho55))
                   replace HO_7 := cR HO_7 hb
                   replace HO_8 := Aside0.mk (Kd.V_elder' (uV HO_8.out) (Kd.N_base ho55) hb)
                   replace HO_404000 := Aside0.mk (Kd.V_elder' (uV HO_404000.out) (Kd.N_base ho55) hb)
                   replace HL416_2 := Aside0.mk (Kd.V_elder' (uV HL416_2.out) (Kd.N_base ho55) hb)
                   replace HO421 := Aside0.mk (Kd.V_elder' (uV HO421.out) (Kd.N_base ho55) hb)
                   replace HO425 := cR HO425 hb
                   replace HO433 := Aside0.mk (Kd.V_elder' (uV HO433.out) (Kd.N_base ho55) hb)
                   have HO428 := Aside0.mk (Kd.N_lower ho55 (below_size bl))
                   replace BK403 := cB BK403 hb
                   replace BK404 := cB BK404 hb
                   replace BK405 := cB BK405 hb
                   replace HR416_2 := cC HR416_2 hb
                   replace HB := Aside0.mk (below_step bl hb)
                   clear hb ho55
                   refine hK.out _ _ ⟨(blk_cell BK403.out 0).trans rfl, (blk_cell BK404.out 0).trans rfl, (blk_cell BK404.out 1).trans rfl, (blk_cell BK404.out 2).trans rfl, (blk_cell BK404.out 3).trans rfl⟩ (fun hHeld => ?_)
                   clear hK K
                   refine norm_ (a' := ?_) ?_ ?_
                   rotate_left
                   ·
                    show Act.put _ (some 78) _ = _
                    simp only [Act.put, List.setIfInBounds_toArray, List.set_cons_zero, List.set_cons_succ, i64_w, i32_w]
                    rfl
                   refine two_ (i := 5) (j := 12) (Ni := some 83) (Nj := some 90) #[true, true, true, true, true, true, true, true, true, true, true, true, false, false, false] #[true, true, true, true, true, false, true, true, true, true, true, true, true, false, false] rfl rfl rfl rfl (two_of HT_.out (by kernel_rfl)) (by decide) (by decide) (fun K hK => ?_) (fun K hK => ?_)
                   ·
                    skip
                    refine Kd.N_append_rows_step k59 (w0 := w) w.heap.size (by rfl) (.tmp 78) (.tmp 82) 22 59 (.agg #[(.int .i64 0), (.string ⟨#[]⟩), (.slice none 0 0)]) 48 rfl Try.underlying22 info59 rfl (by decide) (by omega) v427 y426 y429 _ _ _ (fun k_ => (P0_0_ k_ ∨ w.heap.size ≤ k_) ∧ some k_ ≠ (.slice none 0 0 : Value).ownBlock ∧ some k_ ≠ (.slice Ao53 t422.length co53 : Value).ownBlock ∧ k_ ≠ gb403 ∧ k_ ≠ gb404 ∧ k_ ≠ gb405) (fun k_ => ((fun k_ => (P0_0_ k_ ∨ w.heap.size ≤ k_) ∧ some k_ ≠ (.slice none 0 0 : Value).ownBlock ∧ some k_ ≠ (.slice Ao53 t422.length co53 : Value).ownBlock ∧ k_ ≠ gb403 ∧ k_ ≠ gb404 ∧ k_ ≠ gb405)) k_ ∧ some k_ ≠ (v427 : Value).ownBlock) rfl rfl ?aO ?aR (fun _ hk => hk) ?aF ?aB ?aS ?aL ?_
                    (case aR => exact (by skip; exact Kd.V_F (Kd.V_mono (ok' := (fun k_ => ((fun k_ => (P0_0_ k_ ∨ w.heap.size ≤ k_) ∧ some k_ ≠ (.slice none 0 0 : Value).ownBlock ∧ some k_ ≠ (.slice Ao53 t422.length co53 : Value).ownBlock ∧ k_ ≠ gb403 ∧ k_ ≠ gb404 ∧ k_ ≠ gb405)) k_ ∧ some k_ ≠ (v427 : Value).ownBlock)) (HO433.out) (fun k_ hk => ⟨⟨hk.1.1.1, ⟨hk.1.1.2.1, ⟨hk.1.2, ⟨hk.1.1.2.2.1, ⟨hk.1.1.2.2.2.1, hk.1.1.2.2.2.2⟩⟩⟩⟩⟩, hk.2⟩))))
                    (case aB => exact bl)
                    (case aF => exact (fun k_ hk => ⟨(.inr (Nat.le_trans (below_size bl) hk)), Kd.fresh' (Kd.R_lt (uR HO_7.out)) k_ hk, Kd.fresh' (Kd.R_lt (uR HO425.out)) k_ hk, Kd.freshB (g := gb403) (o := .cells #[.slice A0_0 l0_0.length c0_0] 24 (0, 0)) (uB BK403.out) k_ hk, Kd.freshB (g := gb404) (o := .cells #[.int .i64 a1_0, .int .i64 a1_1, .string a1_2, .int .i64 a1_3] 26 (0, 0)) (uB BK404.out) k_ hk, Kd.freshB (g := gb405) (o := .cells #[.slice none 0 0] 24 (0, 0)) (uB BK405.out) k_ hk⟩))
                    (case aO => exact (by (with_reducible repeat (first | apply Kd.N_alloc | apply Kd.N_drewN | apply Kd.N_drew)); exact HO428.out))
                    (case aS => exact (below_size bl))
                    (case aL => have := LMc42.out; omega)
                    intro v435 w56 ho hb hg hat
                    rw [← Ny434.out] at ho
                    replace HO_7 := Aside0.mk (Kd.R_over' (uR HO_7.out) (Kd.N_typed (by (with_reducible repeat (first | apply Kd.N_alloc | apply Kd.N_drewN | apply Kd.N_drew)); exact HO428.out)) (by decide) hg)
                    replace HO_8 := Aside0.mk (Kd.V_afterv (ok := (fun k_ => (P0_0_ k_ ∨ w.heap.size ≤ k_) ∧ some k_ ≠ (.slice none 0 0 : Value).ownBlock ∧ some k_ ≠ (.slice Ao53 t422.length co53 : Value).ownBlock ∧ k_ ≠ gb403 ∧ k_ ≠ gb404 ∧ k_ ≠ gb405)) (by exact uV <| Kd.V_mono HO_8.out (fun _ hk => ⟨⟨hk.1.1.1, ⟨hk.1.1.2.1, ⟨hk.1.2, ⟨hk.1.1.2.2.1, ⟨hk.1.1.2.2.2.1, hk.1.1.2.2.2.2⟩⟩⟩⟩⟩, hk.2⟩)) hg hat)
                    replace HO_404000 := Aside0.mk (Kd.V_afterv (ok := (fun k_ => (P0_0_ k_ ∨ w.heap.size ≤ k_) ∧ some k_ ≠ (.slice none 0 0 : Value).ownBlock ∧ some k_ ≠ (.slice Ao53 t422.length co53 : Value).ownBlock ∧ k_ ≠ gb403 ∧ k_ ≠ gb404 ∧ k_ ≠ gb405)) (by exact uV <| Kd.V_mono HO_404000.out (fun _ hk => ⟨⟨hk.1.1.1, ⟨hk.1.1.2.1, ⟨hk.1.2, ⟨hk.1.1.2.2.1, ⟨hk.1.1.2.2.2.1, hk.1.1.2.2.2.2⟩⟩⟩⟩⟩, hk.2⟩)) hg hat)
                    replace BK403 := Aside0.mk (blk_grown (g := gb403) (o := .cells #[.slice A0_0 l0_0.length c0_0] 24 (0, 0)) (uB BK403.out) hg (Kd.N_ne HO428.out BK403.out (by decide)))
                    replace BK404 := Aside0.mk (blk_grown (g := gb404) (o := .cells #[.int .i64 a1_0, .int .i64 a1_1, .string a1_2, .int .i64 a1_3] 26 (0, 0)) (uB BK404.out) hg (Kd.N_ne HO428.out BK404.out (by decide)))
                    replace BK405 := Aside0.mk (blk_grown (g := gb405) (o := .cells #[.slice none 0 0] 24 (0, 0)) (uB BK405.out) hg (Kd.N_ne HO428.out BK405.out (by decide)))
                    replace HL416_2 := Aside0.mk (Kd.V_afterv (ok := (fun k_ => (P0_0_ k_ ∨ w.heap.size ≤ k_) ∧ some k_ ≠ (.slice none 0 0 : Value).ownBlock ∧ some k_ ≠ (.slice Ao53 t422.length co53 : Value).ownBlock ∧ k_ ≠ gb403 ∧ k_ ≠ gb404 ∧ k_ ≠ gb405)) (by exact uV <| Kd.V_mono HL416_2.out (fun _ hk => ⟨⟨hk.1.1.1, ⟨hk.1.1.2.1, ⟨hk.1.2, ⟨hk.1.1.2.2.1, ⟨hk.1.1.2.2.2.1, hk.1.1.2.2.2.2⟩⟩⟩⟩⟩, hk.2⟩)) hg hat)
                    replace HO421 := Aside0.mk (Kd.V_afterv (ok := (fun k_ => (P0_0_ k_ ∨ w.heap.size ≤ k_) ∧ some k_ ≠ (.slice none 0 0 : Value).ownBlock ∧ some k_ ≠ (.slice Ao53 t422.length co53 : Value).ownBlock ∧ k_ ≠ gb403 ∧ k_ ≠ gb404 ∧ k_ ≠ gb405)) (by exact uV <| Kd.V_mono HO421.out (fun _ hk => ⟨⟨hk.1.1.1, ⟨hk.1.1.2.1, ⟨hk.1.2, ⟨hk.1.1.2.2.1, ⟨hk.1.1.2.2.2.1, hk.1.1.2.2.2.2⟩⟩⟩⟩⟩, hk.2⟩)) hg hat)
                    replace HO425 := Aside0.mk (Kd.R_over' (uR HO425.out) (Kd.N_typed (by (with_reducible repeat (first | apply Kd.N_alloc | apply Kd.N_drewN | apply Kd.N_drew)); exact HO428.out)) (by decide) hg)
                    replace HO433 := Aside0.mk (Kd.V_afterv (ok := (fun k_ => (P0_0_ k_ ∨ w.heap.size ≤ k_) ∧ some k_ ≠ (.slice none 0 0 : Value).ownBlock ∧ some k_ ≠ (.slice Ao53 t422.length co53 : Value).ownBlock ∧ k_ ≠ gb403 ∧ k_ ≠ gb404 ∧ k_ ≠ gb405)) (by exact uV <| Kd.V_mono HO433.out (fun _ hk => ⟨⟨hk.1.1.1, ⟨hk.1.1.2.1, ⟨hk.1.2, ⟨hk.1.1.2.2.1, ⟨hk.1.1.2.2.2.1, hk.1.1.2.2.2.2⟩⟩⟩⟩⟩, hk.2⟩)) hg hat)
                    replace HB := Aside0.mk (hb)
                    have HO436 := Aside0.mk (ho)
                    clear HO428
                    clear ho hb hg hat
                    refine hK.out _ _ ⟨(blk_cell BK403.out 0).trans rfl, (blk_cell BK404.out 0).trans rfl, (blk_cell BK404.out 1).trans rfl, (blk_cell BK404.out 2).trans rfl, (blk_cell BK404.out 3).trans rfl⟩ (fun hHeld => ?_)
                    clear hK K
                    refine norm_ (a' := ?_) ?_ ?_
                    rotate_left
                    ·
                     show Act.put _ (some 83) _ = _
                     simp only [Act.put, List.setIfInBounds_toArray, List.set_cons_zero, List.set_cons_succ, i64_w, i32_w]
                     rfl
                    refine o1 12 (some 90) rfl rfl (fun K hK => ?_)
                    refine Kd.N_lit_step k59 _ 59 ?hg (N' := 90) ?hd (xs := ([(⟨a1_1, a1_2, t422⟩ : S59)] : List (S59))) (inner := [.int .i64 a1_1, .string a1_2, .slice Ao53 t422.length co53]) (ok := (fun k_ => (P0_0_ k_ ∨ w.heap.size ≤ k_) ∧ some k_ ≠ (.slice none 0 0 : Value).ownBlock ∧ some k_ ≠ (v435 : Value).ownBlock ∧ k_ ≠ gb403 ∧ k_ ≠ gb404 ∧ k_ ≠ gb405)) (okp := (fun k_ => (P0_0_ k_ ∨ w.heap.size ≤ k_) ∧ some k_ ≠ (.slice none 0 0 : Value).ownBlock ∧ some k_ ≠ (v435 : Value).ownBlock ∧ k_ ≠ gb403 ∧ k_ ≠ gb404 ∧ k_ ≠ gb405)) ?hr ?hp (fun _ hk => hk) ((show ∀ k_, w56.heap.size ≤ k_ → (fun k_ => (P0_0_ k_ ∨ w.heap.size ≤ k_) ∧ some k_ ≠ (.slice none 0 0 : Value).ownBlock ∧ some k_ ≠ (v435 : Value).ownBlock ∧ k_ ≠ gb403 ∧ k_ ≠ gb404 ∧ k_ ≠ gb405) k_ from fun k_ hk => ⟨(.inr (Nat.le_trans (below_size bl) hk)), Kd.fresh' (Kd.R_lt (uR HO_7.out)) k_ hk, Kd.fresh' (Kd.N_lt (by (with_reducible repeat (first | apply Kd.N_alloc | apply Kd.N_drewN | apply Kd.N_drew)); exact HO436.out)) k_ hk, Kd.freshB (g := gb403) (o := .cells #[.slice A0_0 l0_0.length c0_0] 24 (0, 0)) (uB BK403.out) k_ hk, Kd.freshB (g := gb404) (o := .cells #[.int .i64 a1_0, .int .i64 a1_1, .string a1_2, .int .i64 a1_3] 26 (0, 0)) (uB BK404.out) k_ hk, Kd.freshB (g := gb405) (o := .cells #[.slice none 0 0] 24 (0, 0)) (uB BK405.out) k_ hk⟩) _ (Nat.le_refl _)) (Below.refl _ _) (Nat.le_refl _) (by simp) ?_; (case hd => rfl); (case hg => rfl); (case hr => first | (go_simp; done) | (go_simp; rfl)); (case hp => exact (Reps.c3 (show Kd.FK k59 _ _ (⟨a1_1, a1_2, t422⟩ : S59) [.int .i64 a1_1, .string a1_2, .slice Ao53 t422.length co53] from (k59_mkF _ _ (⟨a1_1, a1_2, t422⟩ : S59) (Kd.R_reads' (Kd.R_mono (ok' := (fun k_ => (P0_0_ k_ ∨ w.heap.size ≤ k_) ∧ some k_ ≠ (.slice none 0 0 : Value).ownBlock ∧ some k_ ≠ (v435 : Value).ownBlock ∧ k_ ≠ gb403 ∧ k_ ≠ gb404 ∧ k_ ≠ gb405)) (Kd.R_types (Kd.R_types (Kd.R_types (Kd.R_apart' (HO425.out) (Kd.N_typed HO436.out) (by decide)) BK403.out (by decide)) BK404.out (by decide)) BK405.out (by decide)) (fun k_ hk => ⟨(.inr (hk.1.1.1.1.1.1)), ⟨hk.1.1.1.1.2, ⟨hk.1.1.1.2, ⟨hk.1.1.2, ⟨hk.1.2, hk.2⟩⟩⟩⟩⟩))).2.1 (Kd.R_F (Kd.R_mono (ok' := (fun k_ => (P0_0_ k_ ∨ w.heap.size ≤ k_) ∧ some k_ ≠ (.slice none 0 0 : Value).ownBlock ∧ some k_ ≠ (v435 : Value).ownBlock ∧ k_ ≠ gb403 ∧ k_ ≠ gb404 ∧ k_ ≠ gb405)) (Kd.R_types (Kd.R_types (Kd.R_types (Kd.R_apart' (HO425.out) (Kd.N_typed HO436.out) (by decide)) BK403.out (by decide)) BK404.out (by decide)) BK405.out (by decide)) (fun k_ hk => ⟨(.inr (hk.1.1.1.1.1.1)), ⟨hk.1.1.1.1.2, ⟨hk.1.1.1.2, ⟨hk.1.1.2, ⟨hk.1.2, hk.2⟩⟩⟩⟩⟩))))) (Reps.none _ _)))
                    intro v438 w57 ho58 hb hg_ hnew_
                    clear hg_ hnew_
                    (first | rw [← Ny437.out] at ho58 | (simp only [Int.reduceToNat] at ho58; rw [← Ny437.out] at ho58))
                    replace HO_7 := cR HO_7 hb
                    replace HO_8 := Aside0.mk (Kd.V_elder' (uV HO_8.out) (Kd.N_base ho58) hb)
                    replace HO_404000 := Aside0.mk (Kd.V_elder' (uV HO_404000.out) (Kd.N_base ho58) hb)
                    replace HL416_2 := Aside0.mk (Kd.V_elder' (uV HL416_2.out) (Kd.N_base ho58) hb)
                    replace HO421 := Aside0.mk (Kd.V_elder' (uV HO421.out) (Kd.N_base ho58) hb)
                    replace HO433 := Aside0.mk (Kd.V_elder' (uV HO433.out) (Kd.N_base ho58) hb)
                    replace HO436 := Aside0.mk (Kd.N_elder' (by (with_reducible repeat (first | apply Kd.N_alloc | apply Kd.N_drewN | apply Kd.N_drew)); exact HO436.out) (Kd.N_base ho58) hb)
                    have HO439 := Aside0.mk (Kd.N_lower ho58 (below_size bl))
                    replace BK403 := cB BK403 hb
                    replace BK404 := cB BK404 hb
                    replace BK405 := cB BK405 hb
                    replace HB := Aside0.mk (below_step bl hb)
                    clear HO425
                    clear hb ho58
                    refine hK.out _ _ ⟨(blk_cell BK403.out 0).trans rfl, (blk_cell BK404.out 0).trans rfl, (blk_cell BK404.out 1).trans rfl, (blk_cell BK404.out 2).trans rfl, (blk_cell BK404.out 3).trans rfl⟩ (fun hHeld => ?_)
                    clear hK K
                    refine norm_ (a' := ?_) ?_ ?_
                    rotate_left
                    ·
                     show Act.put _ (some 90) _ = _
                     simp only [Act.put, List.setIfInBounds_toArray, List.set_cons_zero, List.set_cons_succ, i64_w, i32_w]
                     rfl
                    exact norm_ (by simp only [putAll, Act.put, List.setIfInBounds_toArray, List.set_cons_zero, List.set_cons_succ]) (hCont (v427, v435, v438) _ ⟨hHeld, (by exact uV <| Kd.V_mono HL416_2.out (fun _ hk => ⟨hk.1.1.1, ⟨hk.1.2, ⟨hk.2, ⟨hk.1.1.2.1, ⟨hk.1.1.2.2.2.1, ⟨hk.1.1.2.2.2.2.1, hk.1.1.2.2.2.2.2⟩⟩⟩⟩⟩⟩)), (by exact uV <| Kd.V_mono HO421.out (fun _ hk => ⟨hk.1.1.1, ⟨hk.1.2, ⟨hk.2, ⟨hk.1.1.2.1, ⟨hk.1.1.2.2.2.1, ⟨hk.1.1.2.2.2.2.1, hk.1.1.2.2.2.2.2⟩⟩⟩⟩⟩⟩)), (by exact uV <| Kd.V_mono HO433.out (fun _ hk => ⟨hk.1.1.1, ⟨hk.1.2, ⟨hk.2, ⟨hk.1.1.2.1, ⟨hk.1.1.2.2.2.1, ⟨hk.1.1.2.2.2.2.1, hk.1.1.2.2.2.2.2⟩⟩⟩⟩⟩⟩)), (by (with_reducible repeat (first | apply Kd.N_alloc | apply Kd.N_drewN | apply Kd.N_drew)); exact Kd.N_mono HO436.out (fun _ hk => ⟨hk.1.1, ⟨hk.2, ⟨hk.1.2.1, ⟨hk.1.2.2.2.1, ⟨hk.1.2.2.2.2.1, hk.1.2.2.2.2.2⟩⟩⟩⟩⟩)), (by (with_reducible repeat (first | apply Kd.N_alloc | apply Kd.N_drewN | apply Kd.N_drew)); exact Kd.N_mono HO439.out (fun _ hk => ⟨hk.1, ⟨hk.2.2.1, ⟨hk.2.1, ⟨hk.2.2.2.1, ⟨hk.2.2.2.2.1, hk.2.2.2.2.2⟩⟩⟩⟩⟩)), (by exact uV <| Kd.V_mono HO_404000.out (fun _ hk => ⟨hk.1.1.1, ⟨hk.1.2, ⟨hk.2, ⟨hk.1.1.2.1, ⟨hk.1.1.2.2.2.1, ⟨hk.1.1.2.2.2.2.1, hk.1.1.2.2.2.2.2⟩⟩⟩⟩⟩⟩)), (by exact uR <| Kd.R_mono HO_7.out (fun _ hk => hk.1)), (by exact uV <| Kd.V_mono HO_8.out (fun _ hk => ⟨hk.1.1.1, ⟨hk.1.2, ⟨hk.2, ⟨hk.1.1.2.1, ⟨hk.1.1.2.2.2.1, ⟨hk.1.1.2.2.2.2.1, hk.1.1.2.2.2.2.2⟩⟩⟩⟩⟩⟩)), (uB BK403.out), (uB BK404.out), (uB BK405.out), bl⟩)
                   ·
                    skip
                    refine Kd.N_lit_step k59 _ 59 ?hg (N' := 90) ?hd (xs := ([(⟨a1_1, a1_2, t422⟩ : S59)] : List (S59))) (inner := [.int .i64 a1_1, .string a1_2, .slice Ao53 t422.length co53]) (ok := (fun k_ => (P0_0_ k_ ∨ w.heap.size ≤ k_) ∧ some k_ ≠ (.slice none 0 0 : Value).ownBlock ∧ some k_ ≠ (v427 : Value).ownBlock ∧ k_ ≠ gb403 ∧ k_ ≠ gb404 ∧ k_ ≠ gb405)) (okp := (fun k_ => (P0_0_ k_ ∨ w.heap.size ≤ k_) ∧ some k_ ≠ (.slice none 0 0 : Value).ownBlock ∧ some k_ ≠ (v427 : Value).ownBlock ∧ k_ ≠ gb403 ∧ k_ ≠ gb404 ∧ k_ ≠ gb405)) ?hr ?hp (fun _ hk => hk) ((show ∀ k_, w54.heap.size ≤ k_ → (fun k_ => (P0_0_ k_ ∨ w.heap.size ≤ k_) ∧ some k_ ≠ (.slice none 0 0 : Value).ownBlock ∧ some k_ ≠ (v427 : Value).ownBlock ∧ k_ ≠ gb403 ∧ k_ ≠ gb404 ∧ k_ ≠ gb405) k_ from fun k_ hk => ⟨(.inr (Nat.le_trans (below_size bl) hk)), Kd.fresh' (Kd.R_lt (uR HO_7.out)) k_ hk, Kd.fresh' (Kd.N_lt (by (with_reducible repeat (first | apply Kd.N_alloc | apply Kd.N_drewN | apply Kd.N_drew)); exact HO428.out)) k_ hk, Kd.freshB (g := gb403) (o := .cells #[.slice A0_0 l0_0.length c0_0] 24 (0, 0)) (uB BK403.out) k_ hk, Kd.freshB (g := gb404) (o := .cells #[.int .i64 a1_0, .int .i64 a1_1, .string a1_2, .int .i64 a1_3] 26 (0, 0)) (uB BK404.out) k_ hk, Kd.freshB (g := gb405) (o := .cells #[.slice none 0 0] 24 (0, 0)) (uB BK405.out) k_ hk⟩) _ (Nat.le_refl _)) (Below.refl _ _) (Nat.le_refl _) (by simp) ?_; (case hd => rfl); (case hg => rfl); (case hr => first | (go_simp; done) | (go_simp; rfl)); (case hp => exact (Reps.c3 (show Kd.FK k59 _ _ (⟨a1_1, a1_2, t422⟩ : S59) [.int .i64 a1_1, .string a1_2, .slice Ao53 t422.length co53] from (k59_mkF _ _ (⟨a1_1, a1_2, t422⟩ : S59) (Kd.R_reads' (Kd.R_mono (ok' := (fun k_ => (P0_0_ k_ ∨ w.heap.size ≤ k_) ∧ some k_ ≠ (.slice none 0 0 : Value).ownBlock ∧ some k_ ≠ (v427 : Value).ownBlock ∧ k_ ≠ gb403 ∧ k_ ≠ gb404 ∧ k_ ≠ gb405)) (Kd.R_types (Kd.R_types (Kd.R_types (Kd.R_apart' (HO425.out) (Kd.N_typed HO428.out) (by decide)) BK403.out (by decide)) BK404.out (by decide)) BK405.out (by decide)) (fun k_ hk => ⟨(.inr (hk.1.1.1.1.1.1)), ⟨hk.1.1.1.1.2, ⟨hk.1.1.1.2, ⟨hk.1.1.2, ⟨hk.1.2, hk.2⟩⟩⟩⟩⟩))).2.1 (Kd.R_F (Kd.R_mono (ok' := (fun k_ => (P0_0_ k_ ∨ w.heap.size ≤ k_) ∧ some k_ ≠ (.slice none 0 0 : Value).ownBlock ∧ some k_ ≠ (v427 : Value).ownBlock ∧ k_ ≠ gb403 ∧ k_ ≠ gb404 ∧ k_ ≠ gb405)) (Kd.R_types (Kd.R_types (Kd.R_types (Kd.R_apart' (HO425.out) (Kd.N_typed HO428.out) (by decide)) BK403.out (by decide)) BK404.out (by decide)) BK405.out (by decide)) (fun k_ hk => ⟨(.inr (hk.1.1.1.1.1.1)), ⟨hk.1.1.1.1.2, ⟨hk.1.1.1.2, ⟨hk.1.1.2, ⟨hk.1.2, hk.2⟩⟩⟩⟩⟩))))) (Reps.none _ _)))
                    intro v438 w56 ho57 hb hg_ hnew_
                    clear hg_ hnew_
                    (first | rw [← Ny437.out] at ho57 | (simp only [Int.reduceToNat] at ho57; rw [← Ny437.out] at ho57))
                    replace HO_7 := cR HO_7 hb
                    replace HO_8 := Aside0.mk (Kd.V_elder' (uV HO_8.out) (Kd.N_base ho57) hb)
                    replace HO_404000 := Aside0.mk (Kd.V_elder' (uV HO_404000.out) (Kd.N_base ho57) hb)
                    replace HL416_2 := Aside0.mk (Kd.V_elder' (uV HL416_2.out) (Kd.N_base ho57) hb)
                    replace HO421 := Aside0.mk (Kd.V_elder' (uV HO421.out) (Kd.N_base ho57) hb)
                    replace HO433 := Aside0.mk (Kd.V_elder' (uV HO433.out) (Kd.N_base ho57) hb)
                    replace HO428 := Aside0.mk (Kd.N_elder' (by (with_reducible repeat (first | apply Kd.N_alloc | apply Kd.N_drewN | apply Kd.N_drew)); exact HO428.out) (Kd.N_base ho57) hb)
                    have HO439 := Aside0.mk (Kd.N_lower ho57 (below_size bl))
                    replace BK403 := cB BK403 hb
                    replace BK404 := cB BK404 hb
                    replace BK405 := cB BK405 hb
                    replace HR416_2 := cC HR416_2 hb
                    replace HB := Aside0.mk (below_step bl hb)
                    clear HO425
                    clear hb ho57
                    refine hK.out _ _ ⟨(blk_cell BK403.out 0).trans rfl, (blk_cell BK404.out 0).trans rfl, (blk_cell BK404.out 1).trans rfl, (blk_cell BK404.out 2).trans rfl, (blk_cell BK404.out 3).trans rfl⟩ (fun hHeld => ?_)
                    clear hK K
                    refine norm_ (a' := ?_) ?_ ?_
                    rotate_left
                    ·
                     show Act.put _ (some 90) _ = _
                     simp only [Act.put, List.setIfInBounds_toArray, List.set_cons_zero, List.set_cons_succ, i64_w, i32_w]
                     rfl
                    refine o1 5 (some 83) rfl rfl (fun K hK => ?_)
                    refine Kd.N_append_rows_step k59 (w0 := w) w.heap.size (by rfl) (.tmp 78) (.tmp 82) 22 59 (.agg #[(.int .i64 0), (.string ⟨#[]⟩), (.slice none 0 0)]) 48 rfl Try.underlying22 info59 rfl (by decide) (by omega) v427 y426 y429 _ _ _ (fun k_ => (P0_0_ k_ ∨ w.heap.size ≤ k_) ∧ some k_ ≠ (.slice none 0 0 : Value).ownBlock ∧ some k_ ≠ (v438 : Value).ownBlock ∧ k_ ≠ gb403 ∧ k_ ≠ gb404 ∧ k_ ≠ gb405) (fun k_ => ((fun k_ => (P0_0_ k_ ∨ w.heap.size ≤ k_) ∧ some k_ ≠ (.slice none 0 0 : Value).ownBlock ∧ some k_ ≠ (v438 : Value).ownBlock ∧ k_ ≠ gb403 ∧ k_ ≠ gb404 ∧ k_ ≠ gb405)) k_ ∧ some k_ ≠ (v427 : Value).ownBlock) rfl rfl ?aO ?aR (fun _ hk => hk) ?aF ?aB ?aS ?aL ?_
                    (case aR => exact (by skip; exact Kd.V_F (Kd.V_mono (ok' := (fun k_ => ((fun k_ => (P0_0_ k_ ∨ w.heap.size ≤ k_) ∧ some k_ ≠ (.slice none 0 0 : Value).ownBlock ∧ some k_ ≠ (v438 : Value).ownBlock ∧ k_ ≠ gb403 ∧ k_ ≠ gb404 ∧ k_ ≠ gb405)) k_ ∧ some k_ ≠ (v427 : Value).ownBlock)) (HO433.out) (fun k_ hk => ⟨⟨hk.1.1.1.1, ⟨hk.1.1.1.2.1, ⟨hk.2, ⟨hk.1.1.1.2.2.1, ⟨hk.1.1.1.2.2.2.1, hk.1.1.1.2.2.2.2⟩⟩⟩⟩⟩, hk.1.2⟩))))
                    (case aB => exact bl)
                    (case aF => exact (fun k_ hk => ⟨(.inr (Nat.le_trans (below_size bl) hk)), Kd.fresh' (Kd.R_lt (uR HO_7.out)) k_ hk, Kd.fresh' (Kd.N_lt (by (with_reducible repeat (first | apply Kd.N_alloc | apply Kd.N_drewN | apply Kd.N_drew)); exact HO439.out)) k_ hk, Kd.freshB (g := gb403) (o := .cells #[.slice A0_0 l0_0.length c0_0] 24 (0, 0)) (uB BK403.out) k_ hk, Kd.freshB (g := gb404) (o := .cells #[.int .i64 a1_0, .int .i64 a1_1, .string a1_2, .int .i64 a1_3] 26 (0, 0)) (uB BK404.out) k_ hk, Kd.freshB (g := gb405) (o := .cells #[.slice none 0 0] 24 (0, 0)) (uB BK405.out) k_ hk⟩))
                    (case aO => exact (by (with_reducible repeat (first | apply Kd.N_alloc | apply Kd.N_drewN | apply Kd.N_drew)); exact Kd.N_mono HO428.out (fun _ hk => ⟨hk.1.1, ⟨hk.1.2.1, ⟨hk.2, ⟨hk.1.2.2.2.1, ⟨hk.1.2.2.2.2.1, hk.1.2.2.2.2.2⟩⟩⟩⟩⟩)))
                    (case aS => exact (below_size bl))
                    (case aL => have := LMc42.out; omega)
                    intro v435 w58 ho hb hg hat
                    rw [← Ny434.out] at ho
                    replace HO_7 := Aside0.mk (Kd.R_over' (uR HO_7.out) (Kd.N_typed (by (with_reducible repeat (first | apply Kd.N_alloc | apply Kd.N_drewN | apply Kd.N_drew)); exact HO428.out)) (by decide) hg)
                    replace HO_8 := Aside0.mk (Kd.V_afterv (ok := (fun k_ => (P0_0_ k_ ∨ w.heap.size ≤ k_) ∧ some k_ ≠ (.slice none 0 0 : Value).ownBlock ∧ some k_ ≠ (v438 : Value).ownBlock ∧ k_ ≠ gb403 ∧ k_ ≠ gb404 ∧ k_ ≠ gb405)) (by exact uV <| Kd.V_mono HO_8.out (fun _ hk => ⟨⟨hk.1.1.1.1, ⟨hk.1.1.1.2.1, ⟨hk.2, ⟨hk.1.1.1.2.2.1, ⟨hk.1.1.1.2.2.2.1, hk.1.1.1.2.2.2.2⟩⟩⟩⟩⟩, hk.1.2⟩)) hg hat)
                    replace HO_404000 := Aside0.mk (Kd.V_afterv (ok := (fun k_ => (P0_0_ k_ ∨ w.heap.size ≤ k_) ∧ some k_ ≠ (.slice none 0 0 : Value).ownBlock ∧ some k_ ≠ (v438 : Value).ownBlock ∧ k_ ≠ gb403 ∧ k_ ≠ gb404 ∧ k_ ≠ gb405)) (by exact uV <| Kd.V_mono HO_404000.out (fun _ hk => ⟨⟨hk.1.1.1.1, ⟨hk.1.1.1.2.1, ⟨hk.2, ⟨hk.1.1.1.2.2.1, ⟨hk.1.1.1.2.2.2.1, hk.1.1.1.2.2.2.2⟩⟩⟩⟩⟩, hk.1.2⟩)) hg hat)
                    replace BK403 := Aside0.mk (blk_grown (g := gb403) (o := .cells #[.slice A0_0 l0_0.length c0_0] 24 (0, 0)) (uB BK403.out) hg (Kd.N_ne HO428.out BK403.out (by decide)))
                    replace BK404 := Aside0.mk (blk_grown (g := gb404) (o := .cells #[.int .i64 a1_0, .int .i64 a1_1, .string a1_2, .int .i64 a1_3] 26 (0, 0)) (uB BK404.out) hg (Kd.N_ne HO428.out BK404.out (by decide)))
                    replace BK405 := Aside0.mk (blk_grown (g := gb405) (o := .cells #[.slice none 0 0] 24 (0, 0)) (uB BK405.out) hg (Kd.N_ne HO428.out BK405.out (by decide)))
                    replace HL416_2 := Aside0.mk (Kd.V_afterv (ok := (fun k_ => (P0_0_ k_ ∨ w.heap.size ≤ k_) ∧ some k_ ≠ (.slice none 0 0 : Value).ownBlock ∧ some k_ ≠ (v438 : Value).ownBlock ∧ k_ ≠ gb403 ∧ k_ ≠ gb404 ∧ k_ ≠ gb405)) (by exact uV <| Kd.V_mono HL416_2.out (fun _ hk => ⟨⟨hk.1.1.1.1, ⟨hk.1.1.1.2.1, ⟨hk.2, ⟨hk.1.1.1.2.2.1, ⟨hk.1.1.1.2.2.2.1, hk.1.1.1.2.2.2.2⟩⟩⟩⟩⟩, hk.1.2⟩)) hg hat)
                    replace HO421 := Aside0.mk (Kd.V_afterv (ok := (fun k_ => (P0_0_ k_ ∨ w.heap.size ≤ k_) ∧ some k_ ≠ (.slice none 0 0 : Value).ownBlock ∧ some k_ ≠ (v438 : Value).ownBlock ∧ k_ ≠ gb403 ∧ k_ ≠ gb404 ∧ k_ ≠ gb405)) (by exact uV <| Kd.V_mono HO421.out (fun _ hk => ⟨⟨hk.1.1.1.1, ⟨hk.1.1.1.2.1, ⟨hk.2, ⟨hk.1.1.1.2.2.1, ⟨hk.1.1.1.2.2.2.1, hk.1.1.1.2.2.2.2⟩⟩⟩⟩⟩, hk.1.2⟩)) hg hat)
                    replace HO433 := Aside0.mk (Kd.V_afterv (ok := (fun k_ => (P0_0_ k_ ∨ w.heap.size ≤ k_) ∧ some k_ ≠ (.slice none 0 0 : Value).ownBlock ∧ some k_ ≠ (v438 : Value).ownBlock ∧ k_ ≠ gb403 ∧ k_ ≠ gb404 ∧ k_ ≠ gb405)) (by exact uV <| Kd.V_mono HO433.out (fun _ hk => ⟨⟨hk.1.1.1.1, ⟨hk.1.1.1.2.1, ⟨hk.2, ⟨hk.1.1.1.2.2.1, ⟨hk.1.1.1.2.2.2.1, hk.1.1.1.2.2.2.2⟩⟩⟩⟩⟩, hk.1.2⟩)) hg hat)
                    replace HO439 := Aside0.mk (Kd.N_afterv (ok := (fun k_ => (P0_0_ k_ ∨ w.heap.size ≤ k_) ∧ some k_ ≠ (.slice none 0 0 : Value).ownBlock ∧ k_ ≠ gb403 ∧ k_ ≠ gb404 ∧ k_ ≠ gb405)) (by (with_reducible repeat (first | apply Kd.N_alloc | apply Kd.N_drewN | apply Kd.N_drew)); exact Kd.N_mono HO439.out (fun _ hk => ⟨⟨hk.1, ⟨hk.2.1, ⟨hk.2.2.2.1, ⟨hk.2.2.2.2.1, hk.2.2.2.2.2⟩⟩⟩⟩, hk.2.2.1⟩)) hg hat)
                    replace HB := Aside0.mk (hb)
                    have HO436 := Aside0.mk (ho)
                    clear HO428
                    clear ho hb hg hat
                    refine hK.out _ _ ⟨(blk_cell BK403.out 0).trans rfl, (blk_cell BK404.out 0).trans rfl, (blk_cell BK404.out 1).trans rfl, (blk_cell BK404.out 2).trans rfl, (blk_cell BK404.out 3).trans rfl⟩ (fun hHeld => ?_)
                    clear hK K
                    refine norm_ (a' := ?_) ?_ ?_
                    rotate_left
                    ·
                     show Act.put _ (some 83) _ = _
                     simp only [Act.put, List.setIfInBounds_toArray, List.set_cons_zero, List.set_cons_succ, i64_w, i32_w]
                     rfl
                    exact norm_ (by simp only [putAll, Act.put, List.setIfInBounds_toArray, List.set_cons_zero, List.set_cons_succ]) (hCont (v427, v435, v438) _ ⟨hHeld, (by exact uV <| Kd.V_mono HL416_2.out (fun _ hk => ⟨hk.1.1, ⟨hk.2, ⟨hk.1.2.2.1, ⟨hk.1.2.1, ⟨hk.1.2.2.2.1, ⟨hk.1.2.2.2.2.1, hk.1.2.2.2.2.2⟩⟩⟩⟩⟩⟩)), (by exact uV <| Kd.V_mono HO421.out (fun _ hk => ⟨hk.1.1, ⟨hk.2, ⟨hk.1.2.2.1, ⟨hk.1.2.1, ⟨hk.1.2.2.2.1, ⟨hk.1.2.2.2.2.1, hk.1.2.2.2.2.2⟩⟩⟩⟩⟩⟩)), (by exact uV <| Kd.V_mono HO433.out (fun _ hk => ⟨hk.1.1, ⟨hk.2, ⟨hk.1.2.2.1, ⟨hk.1.2.1, ⟨hk.1.2.2.2.1, ⟨hk.1.2.2.2.2.1, hk.1.2.2.2.2.2⟩⟩⟩⟩⟩⟩)), (by (with_reducible repeat (first | apply Kd.N_alloc | apply Kd.N_drewN | apply Kd.N_drew)); exact Kd.N_mono HO436.out (fun _ hk => ⟨hk.1, ⟨hk.2.2.1, ⟨hk.2.1, ⟨hk.2.2.2.1, ⟨hk.2.2.2.2.1, hk.2.2.2.2.2⟩⟩⟩⟩⟩)), (by (with_reducible repeat (first | apply Kd.N_alloc | apply Kd.N_drewN | apply Kd.N_drew)); exact Kd.N_mono HO439.out (fun _ hk => ⟨hk.1.1, ⟨hk.2, ⟨hk.1.2.1, ⟨hk.1.2.2.1, ⟨hk.1.2.2.2.1, hk.1.2.2.2.2⟩⟩⟩⟩⟩)), (by exact uV <| Kd.V_mono HO_404000.out (fun _ hk => ⟨hk.1.1, ⟨hk.2, ⟨hk.1.2.2.1, ⟨hk.1.2.1, ⟨hk.1.2.2.2.1, ⟨hk.1.2.2.2.2.1, hk.1.2.2.2.2.2⟩⟩⟩⟩⟩⟩)), (by exact uR <| Kd.R_mono HO_7.out (fun _ hk => hk.1)), (by exact uV <| Kd.V_mono HO_8.out (fun _ hk => ⟨hk.1.1, ⟨hk.2, ⟨hk.1.2.2.1, ⟨hk.1.2.1, ⟨hk.1.2.2.2.1, ⟨hk.1.2.2.2.2.1, hk.1.2.2.2.2.2⟩⟩⟩⟩⟩⟩)), (uB BK403.out), (uB BK404.out), (uB BK405.out), bl⟩)
                  ·
                   skip
                   refine Kd.N_lit_step k59 _ 59 ?hg (N' := 90) ?hd (xs := ([(⟨a1_1, a1_2, t422⟩ : S59)] : List (S59))) (inner := [.int .i64 a1_1, .string a1_2, .slice Ao53 t422.length co53]) (ok := (fun k_ => (P0_0_ k_ ∨ w.heap.size ≤ k_) ∧ some k_ ≠ (.slice none 0 0 : Value).ownBlock ∧ k_ ≠ gb403 ∧ k_ ≠ gb404 ∧ k_ ≠ gb405)) (okp := (fun k_ => (P0_0_ k_ ∨ w.heap.size ≤ k_) ∧ some k_ ≠ (.slice none 0 0 : Value).ownBlock ∧ k_ ≠ gb403 ∧ k_ ≠ gb404 ∧ k_ ≠ gb405)) ?hr ?hp (fun _ hk => hk) ((show ∀ k_, w51.heap.size ≤ k_ → (fun k_ => (P0_0_ k_ ∨ w.heap.size ≤ k_) ∧ some k_ ≠ (.slice none 0 0 : Value).ownBlock ∧ k_ ≠ gb403 ∧ k_ ≠ gb404 ∧ k_ ≠ gb405) k_ from fun k_ hk => ⟨(.inr (Nat.le_trans (below_size bl) hk)), Kd.fresh' (Kd.R_lt (uR HO_7.out)) k_ hk, Kd.freshB (g := gb403) (o := .cells #[.slice A0_0 l0_0.length c0_0] 24 (0, 0)) (uB BK403.out) k_ hk, Kd.freshB (g := gb404) (o := .cells #[.int .i64 a1_0, .int .i64 a1_1, .string a1_2, .int .i64 a1_3] 26 (0, 0)) (uB BK404.out) k_ hk, Kd.freshB (g := gb405) (o := .cells #[.slice none 0 0] 24 (0, 0)) (uB BK405.out) k_ hk⟩) _ (Nat.le_refl _)) (Below.refl _ _) (Nat.le_refl _) (by simp) ?_; (case hd => rfl); (case hg => rfl); (case hr => first | (go_simp; done) | (go_simp; rfl)); (case hp => exact (Reps.c3 (show Kd.FK k59 _ _ (⟨a1_1, a1_2, t422⟩ : S59) [.int .i64 a1_1, .string a1_2, .slice Ao53 t422.length co53] from (k59_mkF _ _ (⟨a1_1, a1_2, t422⟩ : S59) (Kd.R_reads' (Kd.R_mono (ok' := (fun k_ => (P0_0_ k_ ∨ w.heap.size ≤ k_) ∧ some k_ ≠ (.slice none 0 0 : Value).ownBlock ∧ k_ ≠ gb403 ∧ k_ ≠ gb404 ∧ k_ ≠ gb405)) (Kd.R_types (Kd.R_types (Kd.R_types (HO425.out) BK403.out (by decide)) BK404.out (by decide)) BK405.out (by decide)) (fun k_ hk => ⟨(.inr (hk.1.1.1.1.1)), ⟨hk.1.1.1.2, ⟨hk.1.1.2, ⟨hk.1.2, hk.2⟩⟩⟩⟩))).2.1 (Kd.R_F (Kd.R_mono (ok' := (fun k_ => (P0_0_ k_ ∨ w.heap.size ≤ k_) ∧ some k_ ≠ (.slice none 0 0 : Value).ownBlock ∧ k_ ≠ gb403 ∧ k_ ≠ gb404 ∧ k_ ≠ gb405)) (Kd.R_types (Kd.R_types (Kd.R_types (HO425.out) BK403.out (by decide)) BK404.out (by decide)) BK405.out (by decide)) (fun k_ hk => ⟨(.inr (hk.1.1.1.1.1)), ⟨hk.1.1.1.2, ⟨hk.1.1.2, ⟨hk.1.2, hk.2⟩⟩⟩⟩))))) (Reps.none _ _)))
                   intro v438 w54 ho55 hb hg_ hnew_
                   clear hg_ hnew_
                   (first | rw [← Ny437.out] at ho55 | (simp only [Int.reduceToNat] at ho55; rw [← Ny437.out] at ho55))
                   replace HO_7 := cR HO_7 hb
                   replace HO_8 := Aside0.mk (Kd.V_elder' (uV HO_8.out) (Kd.N_base ho55) hb)
                   replace HO_404000 := Aside0.mk (Kd.V_elder' (uV HO_404000.out) (Kd.N_base ho55) hb)
                   replace HL416_2 := Aside0.mk (Kd.V_elder' (uV HL416_2.out) (Kd.N_base ho55) hb)
                   replace HO421 := Aside0.mk (Kd.V_elder' (uV HO421.out) (Kd.N_base ho55) hb)
                   replace HO433 := Aside0.mk (Kd.V_elder' (uV HO433.out) (Kd.N_base ho55) hb)
                   have HO439 := Aside0.mk (Kd.N_lower ho55 (below_size bl))
                   replace BK403 := cB BK403 hb
                   replace BK404 := cB BK404 hb
                   replace BK405 := cB BK405 hb
                   replace HR416_2 := cC HR416_2 hb
                   replace HB := Aside0.mk (below_step bl hb)
                   clear HO425
                   clear hb ho55
                   refine hK.out _ _ ⟨(blk_cell BK403.out 0).trans rfl, (blk_cell BK404.out 0).trans rfl, (blk_cell BK404.out 1).trans rfl, (blk_cell BK404.out 2).trans rfl, (blk_cell BK404.out 3).trans rfl⟩ (fun hHeld => ?_)
                   clear hK K
                   refine norm_ (a' := ?_) ?_ ?_
                   rotate_left
                   ·
                    show Act.put _ (some 90) _ = _
                    simp only [Act.put, List.setIfInBounds_toArray, List.set_cons_zero, List.set_cons_succ, i64_w, i32_w]
                    rfl
                   refine o1 0 (some 78) rfl rfl (fun K hK => ?_)
                   refine Kd.N_lit_step k59 _ 59 ?hg (N' := 78) ?hd (xs := ([] : List (S59))) (inner := []) (ok := (fun k_ => (P0_0_ k_ ∨ w.heap.size ≤ k_) ∧ some k_ ≠ (.slice none 0 0 : Value).ownBlock ∧ some k_ ≠ (v438 : Value).ownBlock ∧ k_ ≠ gb403 ∧ k_ ≠ gb404 ∧ k_ ≠ gb405)) (okp := (fun k_ => (P0_0_ k_ ∨ w.heap.size ≤ k_) ∧ some k_ ≠ (.slice none 0 0 : Value).ownBlock ∧ some k_ ≠ (v438 : Value).ownBlock ∧ k_ ≠ gb403 ∧ k_ ≠ gb404 ∧ k_ ≠ gb405)) ?hr ?hp (fun _ hk => hk) ((show ∀ k_, w54.heap.size ≤ k_ → (fun k_ => (P0_0_ k_ ∨ w.heap.size ≤ k_) ∧ some k_ ≠ (.slice none 0 0 : Value).ownBlock ∧ some k_ ≠ (v438 : Value).ownBlock ∧ k_ ≠ gb403 ∧ k_ ≠ gb404 ∧ k_ ≠ gb405) k_ from fun k_ hk => ⟨(.inr (Nat.le_trans (below_size bl) hk)), Kd.fresh' (Kd.R_lt (uR HO_7.out)) k_ hk, Kd.fresh' (Kd.N_lt (by (with_reducible repeat (first | apply Kd.N_alloc | apply Kd.N_drewN | apply Kd.N_drew)); exact HO439.out)) k_ hk, Kd.freshB (g := gb403) (o := .cells #[.slice A0_0 l0_0.length c0_0] 24 (0, 0)) (uB BK403.out) k_ hk, Kd.freshB (g := gb404) (o := .cells #[.int .i64 a1_0, .int .i64 a1_1, .string a1_2, .int .i64 a1_3] 26 (0, 0)) (uB BK404.out) k_ hk, Kd.freshB (g := gb405) (o := .cells #[.slice none 0 0] 24 (0, 0)) (uB BK405.out) k_ hk⟩) _ (Nat.le_refl _)) (Below.refl _ _) (Nat.le_refl _) (by simp) ?_; (case hd => rfl); (case hg => rfl); (case hr => first | (go_simp; done) | (go_simp; rfl)); (case hp => exact (Reps.none _ _))
                   intro v427 w56 ho57 hb hg_ hnew_
                   clear hg_ hnew_
                   (first | rw [← Ny426.out] at ho57 | (simp only [Int.reduceToNat] at ho57; rw [← Ny426.out] at ho57))
                   replace HO_7 := cR HO_7 hb
                   replace HO_8 := Aside0.mk (Kd.V_elder' (uV HO_8.out) (Kd.N_base ho57) hb)
                   replace HO_404000 := Aside0.mk (Kd.V_elder' (uV HO_404000.out) (Kd.N_base ho57) hb)
                   replace HL416_2 := Aside0.mk (Kd.V_elder' (uV HL416_2.out) (Kd.N_base ho57) hb)
                   replace HO421 := Aside0.mk (Kd.V_elder' (uV HO421.out) (Kd.N_base ho57) hb)
                   replace HO433 := Aside0.mk (Kd.V_elder' (uV HO433.out) (Kd.N_base ho57) hb)
                   replace HO439 := Aside0.mk (Kd.N_elder' (by (with_reducible repeat (first | apply Kd.N_alloc | apply Kd.N_drewN | apply Kd.N_drew)); exact HO439.out) (Kd.N_base ho57) hb)
                   have HO428 := Aside0.mk (Kd.N_lower ho57 (below_size bl))
                   replace BK403 := cB BK403 hb
                   replace BK404 := cB BK404 hb
                   replace BK405 := cB BK405 hb
                   replace HR416_2 := cC HR416_2 hb
                   replace HB := Aside0.mk (below_step bl hb)
                   clear hb ho57
                   refine hK.out _ _ ⟨(blk_cell BK403.out 0).trans rfl, (blk_cell BK404.out 0).trans rfl, (blk_cell BK404.out 1).trans rfl, (blk_cell BK404.out 2).trans rfl, (blk_cell BK404.out 3).trans rfl⟩ (fun hHeld => ?_)
                   clear hK K
                   refine norm_ (a' := ?_) ?_ ?_
                   rotate_left
                   ·
                    show Act.put _ (some 78) _ = _
                    simp only [Act.put, List.setIfInBounds_toArray, List.set_cons_zero, List.set_cons_succ, i64_w, i32_w]
                    rfl
                   refine o1 5 (some 83) rfl rfl (fun K hK => ?_)
                   refine Kd.N_append_rows_step k59 (w0 := w) w.heap.size (by rfl) (.tmp 78) (.tmp 82) 22 59 (.agg #[(.int .i64 0), (.string ⟨#[]⟩), (.slice none 0 0)]) 48 rfl Try.underlying22 info59 rfl (by decide) (by omega) v427 y426 y429 _ _ _ (fun k_ => (P0_0_ k_ ∨ w.heap.size ≤ k_) ∧ some k_ ≠ (.slice none 0 0 : Value).ownBlock ∧ some k_ ≠ (v438 : Value).ownBlock ∧ k_ ≠ gb403 ∧ k_ ≠ gb404 ∧ k_ ≠ gb405) (fun k_ => ((fun k_ => (P0_0_ k_ ∨ w.heap.size ≤ k_) ∧ some k_ ≠ (.slice none 0 0 : Value).ownBlock ∧ some k_ ≠ (v438 : Value).ownBlock ∧ k_ ≠ gb403 ∧ k_ ≠ gb404 ∧ k_ ≠ gb405)) k_ ∧ some k_ ≠ (v427 : Value).ownBlock) rfl rfl ?aO ?aR (fun _ hk => hk) ?aF ?aB ?aS ?aL ?_
                   (case aR => exact (by skip; exact Kd.V_F (Kd.V_mono (ok' := (fun k_ => ((fun k_ => (P0_0_ k_ ∨ w.heap.size ≤ k_) ∧ some k_ ≠ (.slice none 0 0 : Value).ownBlock ∧ some k_ ≠ (v438 : Value).ownBlock ∧ k_ ≠ gb403 ∧ k_ ≠ gb404 ∧ k_ ≠ gb405)) k_ ∧ some k_ ≠ (v427 : Value).ownBlock)) (HO433.out) (fun k_ hk => ⟨⟨hk.1.1.1.1, ⟨hk.1.1.1.2.1, ⟨hk.1.2, ⟨hk.1.1.1.2.2.1, ⟨hk.1.1.1.2.2.2.1, hk.1.1.1.2.2.2.2⟩⟩⟩⟩⟩, hk.2⟩))))
                   (case aB => exact bl)
                   (case aF => exact (fun k_ hk => ⟨(.inr (Nat.le_trans (below_size bl) hk)), Kd.fresh' (Kd.R_lt (uR HO_7.out)) k_ hk, Kd.fresh' (Kd.N_lt (by (with_reducible repeat (first | apply Kd.N_alloc | apply Kd.N_drewN | apply Kd.N_drew)); exact HO439.out)) k_ hk, Kd.freshB (g := gb403) (o := .cells #[.slice A0_0 l0_0.length c0_0] 24 (0, 0)) (uB BK403.out) k_ hk, Kd.freshB (g := gb404) (o := .cells #[.int .i64 a1_0, .int .i64 a1_1, .string a1_2, .int .i64 a1_3] 26 (0, 0)) (uB BK404.out) k_ hk, Kd.freshB (g := gb405) (o := .cells #[.slice none 0 0] 24 (0, 0)) (uB BK405.out) k_ hk⟩))
                   (case aO => exact (by (with_reducible repeat (first | apply Kd.N_alloc | apply Kd.N_drewN | apply Kd.N_drew)); exact HO428.out))
                   (case aS => exact (below_size bl))
                   (case aL => have := LMc42.out; omega)
                   intro v435 w58 ho hb hg hat
                   rw [← Ny434.out] at ho
                   replace HO_7 := Aside0.mk (Kd.R_over' (uR HO_7.out) (Kd.N_typed (by (with_reducible repeat (first | apply Kd.N_alloc | apply Kd.N_drewN | apply Kd.N_drew)); exact HO428.out)) (by decide) hg)
                   replace HO_8 := Aside0.mk (Kd.V_afterv (ok := (fun k_ => (P0_0_ k_ ∨ w.heap.size ≤ k_) ∧ some k_ ≠ (.slice none 0 0 : Value).ownBlock ∧ some k_ ≠ (v438 : Value).ownBlock ∧ k_ ≠ gb403 ∧ k_ ≠ gb404 ∧ k_ ≠ gb405)) (by exact uV <| Kd.V_mono HO_8.out (fun _ hk => ⟨⟨hk.1.1.1.1, ⟨hk.1.1.1.2.1, ⟨hk.1.2, ⟨hk.1.1.1.2.2.1, ⟨hk.1.1.1.2.2.2.1, hk.1.1.1.2.2.2.2⟩⟩⟩⟩⟩, hk.2⟩)) hg hat)
                   replace HO_404000 := Aside0.mk (Kd.V_afterv (ok := (fun k_ => (P0_0_ k_ ∨ w.heap.size ≤ k_) ∧ some k_ ≠ (.slice none 0 0 : Value).ownBlock ∧ some k_ ≠ (v438 : Value).ownBlock ∧ k_ ≠ gb403 ∧ k_ ≠ gb404 ∧ k_ ≠ gb405)) (by exact uV <| Kd.V_mono HO_404000.out (fun _ hk => ⟨⟨hk.1.1.1.1, ⟨hk.1.1.1.2.1, ⟨hk.1.2, ⟨hk.1.1.1.2.2.1, ⟨hk.1.1.1.2.2.2.1, hk.1.1.1.2.2.2.2⟩⟩⟩⟩⟩, hk.2⟩)) hg hat)
                   replace BK403 := Aside0.mk (blk_grown (g := gb403) (o := .cells #[.slice A0_0 l0_0.length c0_0] 24 (0, 0)) (uB BK403.out) hg (Kd.N_ne HO428.out BK403.out (by decide)))
                   replace BK404 := Aside0.mk (blk_grown (g := gb404) (o := .cells #[.int .i64 a1_0, .int .i64 a1_1, .string a1_2, .int .i64 a1_3] 26 (0, 0)) (uB BK404.out) hg (Kd.N_ne HO428.out BK404.out (by decide)))
                   replace BK405 := Aside0.mk (blk_grown (g := gb405) (o := .cells #[.slice none 0 0] 24 (0, 0)) (uB BK405.out) hg (Kd.N_ne HO428.out BK405.out (by decide)))
                   replace HL416_2 := Aside0.mk (Kd.V_afterv (ok := (fun k_ => (P0_0_ k_ ∨ w.heap.size ≤ k_) ∧ some k_ ≠ (.slice none 0 0 : Value).ownBlock ∧ some k_ ≠ (v438 : Value).ownBlock ∧ k_ ≠ gb403 ∧ k_ ≠ gb404 ∧ k_ ≠ gb405)) (by exact uV <| Kd.V_mono HL416_2.out (fun _ hk => ⟨⟨hk.1.1.1.1, ⟨hk.1.1.1.2.1, ⟨hk.1.2, ⟨hk.1.1.1.2.2.1, ⟨hk.1.1.1.2.2.2.1, hk.1.1.1.2.2.2.2⟩⟩⟩⟩⟩, hk.2⟩)) hg hat)
                   replace HO421 := Aside0.mk (Kd.V_afterv (ok := (fun k_ => (P0_0_ k_ ∨ w.heap.size ≤ k_) ∧ some k_ ≠ (.slice none 0 0 : Value).ownBlock ∧ some k_ ≠ (v438 : Value).ownBlock ∧ k_ ≠ gb403 ∧ k_ ≠ gb404 ∧ k_ ≠ gb405)) (by exact uV <| Kd.V_mono HO421.out (fun _ hk => ⟨⟨hk.1.1.1.1, ⟨hk.1.1.1.2.1, ⟨hk.1.2, ⟨hk.1.1.1.2.2.1, ⟨hk.1.1.1.2.2.2.1, hk.1.1.1.2.2.2.2⟩⟩⟩⟩⟩, hk.2⟩)) hg hat)
                   replace HO433 := Aside0.mk (Kd.V_afterv (ok := (fun k_ => (P0_0_ k_ ∨ w.heap.size ≤ k_) ∧ some k_ ≠ (.slice none 0 0 : Value).ownBlock ∧ some k_ ≠ (v438 : Value).ownBlock ∧ k_ ≠ gb403 ∧ k_ ≠ gb404 ∧ k_ ≠ gb405)) (by exact uV <| Kd.V_mono HO433.out (fun _ hk => ⟨⟨hk.1.1.1.1, ⟨hk.1.1.1.2.1, ⟨hk.1.2, ⟨hk.1.1.1.2.2.1, ⟨hk.1.1.1.2.2.2.1, hk.1.1.1.2.2.2.2⟩⟩⟩⟩⟩, hk.2⟩)) hg hat)
                   replace HO439 := Aside0.mk (Kd.N_afterv (ok := (fun k_ => (P0_0_ k_ ∨ w.heap.size ≤ k_) ∧ some k_ ≠ (.slice none 0 0 : Value).ownBlock ∧ k_ ≠ gb403 ∧ k_ ≠ gb404 ∧ k_ ≠ gb405)) (by (with_reducible repeat (first | apply Kd.N_alloc | apply Kd.N_drewN | apply Kd.N_drew)); exact HO439.out) hg hat)
                   replace HB := Aside0.mk (hb)
                   have HO436 := Aside0.mk (ho)
                   clear HO428
                   clear ho hb hg hat
                   refine hK.out _ _ ⟨(blk_cell BK403.out 0).trans rfl, (blk_cell BK404.out 0).trans rfl, (blk_cell BK404.out 1).trans rfl, (blk_cell BK404.out 2).trans rfl, (blk_cell BK404.out 3).trans rfl⟩ (fun hHeld => ?_)
                   clear hK K
                   refine norm_ (a' := ?_) ?_ ?_
                   rotate_left
                   ·
                    show Act.put _ (some 83) _ = _
                    simp only [Act.put, List.setIfInBounds_toArray, List.set_cons_zero, List.set_cons_succ, i64_w, i32_w]
                    rfl
                   exact norm_ (by simp only [putAll, Act.put, List.setIfInBounds_toArray, List.set_cons_zero, List.set_cons_succ]) (hCont (v427, v435, v438) _ ⟨hHeld, (by exact uV <| Kd.V_mono HL416_2.out (fun _ hk => ⟨hk.1.1, ⟨hk.2, ⟨hk.1.2.2.1, ⟨hk.1.2.1, ⟨hk.1.2.2.2.1, ⟨hk.1.2.2.2.2.1, hk.1.2.2.2.2.2⟩⟩⟩⟩⟩⟩)), (by exact uV <| Kd.V_mono HO421.out (fun _ hk => ⟨hk.1.1, ⟨hk.2, ⟨hk.1.2.2.1, ⟨hk.1.2.1, ⟨hk.1.2.2.2.1, ⟨hk.1.2.2.2.2.1, hk.1.2.2.2.2.2⟩⟩⟩⟩⟩⟩)), (by exact uV <| Kd.V_mono HO433.out (fun _ hk => ⟨hk.1.1, ⟨hk.2, ⟨hk.1.2.2.1, ⟨hk.1.2.1, ⟨hk.1.2.2.2.1, ⟨hk.1.2.2.2.2.1, hk.1.2.2.2.2.2⟩⟩⟩⟩⟩⟩)), (by (with_reducible repeat (first | apply Kd.N_alloc | apply Kd.N_drewN | apply Kd.N_drew)); exact Kd.N_mono HO436.out (fun _ hk => ⟨hk.1, ⟨hk.2.2.1, ⟨hk.2.1, ⟨hk.2.2.2.1, ⟨hk.2.2.2.2.1, hk.2.2.2.2.2⟩⟩⟩⟩⟩)), (by (with_reducible repeat (first | apply Kd.N_alloc | apply Kd.N_drewN | apply Kd.N_drew)); exact Kd.N_mono HO439.out (fun _ hk => ⟨hk.1.1, ⟨hk.2, ⟨hk.1.2.1, ⟨hk.1.2.2.1, ⟨hk.1.2.2.2.1, hk.1.2.2.2.2⟩⟩⟩⟩⟩)), (by exact uV <| Kd.V_mono HO_404000.out (fun _ hk => ⟨hk.1.1, ⟨hk.2, ⟨hk.1.2.2.1, ⟨hk.1.2.1, ⟨hk.1.2.2.2.1, ⟨hk.1.2.2.2.2.1, hk.1.2.2.2.2.2⟩⟩⟩⟩⟩⟩)), (by exact uR <| Kd.R_mono HO_7.out (fun _ hk => hk.1)), (by exact uV <| Kd.V_mono HO_8.out (fun _ hk => ⟨hk.1.1, ⟨hk.2, ⟨hk.1.2.2.1, ⟨hk.1.2.1, ⟨hk.1.2.2.2.1, ⟨hk.1.2.2.2.2.1, hk.1.2.2.2.2.2⟩⟩⟩⟩⟩⟩)), (uB BK403.out), (uB BK404.out), (uB BK405.out), bl⟩)
                 rintro ⟨v427, v435, v438⟩ w59 ⟨hS_, h0_, h1_, h2_, h3_, h4_, h5_, h6_, h7_, h8_, h9_, h10_, h11_⟩
                 have n0_ : Aside0 (Kd.V k82 82 w59 w.heap.size (fun k_ => (P0_0_ k_ ∨ w.heap.size ≤ k_) ∧ some k_ ≠ (v435 : Value).ownBlock ∧ some k_ ≠ (v438 : Value).ownBlock ∧ some k_ ≠ (.slice none 0 0 : Value).ownBlock ∧ k_ ≠ gb403 ∧ k_ ≠ gb404 ∧ k_ ≠ gb405) (.slice A416_2 ((rd_T59 y409 0).f2).length c416_2) ((rd_T59 y409 0).f2)) := ⟨h0_⟩
                 have n1_ : Aside0 (Kd.V k59 59 w59 w.heap.size (fun k_ => (P0_0_ k_ ∨ w.heap.size ≤ k_) ∧ some k_ ≠ (v435 : Value).ownBlock ∧ some k_ ≠ (v438 : Value).ownBlock ∧ some k_ ≠ (.slice none 0 0 : Value).ownBlock ∧ k_ ≠ gb403 ∧ k_ ≠ gb404 ∧ k_ ≠ gb405) (.slice A46 y417.length c46) y417) := ⟨h1_⟩
                 have n2_ : Aside0 (Kd.V k59 59 w59 w.heap.size (fun k_ => (P0_0_ k_ ∨ w.heap.size ≤ k_) ∧ some k_ ≠ (v435 : Value).ownBlock ∧ some k_ ≠ (v438 : Value).ownBlock ∧ some k_ ≠ (.slice none 0 0 : Value).ownBlock ∧ k_ ≠ gb403 ∧ k_ ≠ gb404 ∧ k_ ≠ gb405) (.slice A0_0 y429.length c0_0) y429) := ⟨h2_⟩
                 have n3_ : Aside0 (Kd.N k59 59 w59 w.heap.size (fun k_ => (P0_0_ k_ ∨ w.heap.size ≤ k_) ∧ some k_ ≠ (v438 : Value).ownBlock ∧ some k_ ≠ (.slice none 0 0 : Value).ownBlock ∧ k_ ≠ gb403 ∧ k_ ≠ gb404 ∧ k_ ≠ gb405) v435 y434) := ⟨h3_⟩
                 have n4_ : Aside0 (Kd.N k59 59 w59 w.heap.size (fun k_ => (P0_0_ k_ ∨ w.heap.size ≤ k_) ∧ some k_ ≠ (v435 : Value).ownBlock ∧ some k_ ≠ (.slice none 0 0 : Value).ownBlock ∧ k_ ≠ gb403 ∧ k_ ≠ gb404 ∧ k_ ≠ gb405) v438 y437) := ⟨h4_⟩
                 have n5_ : Aside0 (Kd.V k59 59 w59 w.heap.size (fun k_ => (P0_0_ k_ ∨ w.heap.size ≤ k_) ∧ some k_ ≠ (v435 : Value).ownBlock ∧ some k_ ≠ (v438 : Value).ownBlock ∧ some k_ ≠ (.slice none 0 0 : Value).ownBlock ∧ k_ ≠ gb403 ∧ k_ ≠ gb404 ∧ k_ ≠ gb405) (.slice A0_0 l0_0.length c0_0) l0_0) := ⟨h5_⟩
                 have n6_ : Aside0 (Kd.R k82 82 w59 w.heap.size (fun k_ => (w.heap.size ≤ k_)) (.slice none 0 0) ([] : List (S82))) := ⟨h6_⟩
                 have n7_ : Aside0 (Kd.V k59 59 w59 w.heap.size (fun k_ => (P0_0_ k_ ∨ w.heap.size ≤ k_) ∧ some k_ ≠ (v435 : Value).ownBlock ∧ some k_ ≠ (v438 : Value).ownBlock ∧ some k_ ≠ (.slice none 0 0 : Value).ownBlock ∧ k_ ≠ gb403 ∧ k_ ≠ gb404 ∧ k_ ≠ gb405) (.slice (some ad416) y409.length c28) y409) := ⟨h7_⟩
                 have n8_ : Aside0 (w59.heap[gb403]? = some (.cells #[.slice A0_0 l0_0.length c0_0] 24 (0, 0))) := ⟨h8_⟩
                 have n9_ : Aside0 (w59.heap[gb404]? = some (.cells #[.int .i64 a1_0, .int .i64 a1_1, .string a1_2, .int .i64 a1_3] 26 (0, 0))) := ⟨h9_⟩
                 have n10_ : Aside0 (w59.heap[gb405]? = some (.cells #[.slice none 0 0] 24 (0, 0))) := ⟨h10_⟩
                 have n11_ : Aside0 (Below w.heap.size w w59) := ⟨h11_⟩
                 clear HO_7
                 clear HO_8
                 clear HO_404000
                 clear HL416_2
                 clear HO421
                 clear HO425
                 clear BK403
                 clear BK404
                 clear BK405
                 clear HR416_2
                 clear HB
                 clear h0_ h1_ h2_ h3_ h4_ h5_ h6_ h7_ h8_ h9_ h10_ h11_
                 have HL416_2 := n0_
                 have HO421 := n1_
                 have HO433 := n2_
                 have HO436 := n3_
                 have HO439 := n4_
                 have HO_404000 := n5_
                 have HO_7 := n6_
                 have HO_8 := n7_
                 have BK403 := n8_
                 have BK404 := n9_
                 have BK405 := n10_
                 have HB := n11_
                 clear n0_ n1_ n2_ n3_ n4_ n5_ n6_ n7_ n8_ n9_ n10_ n11_
                 have hHeld : w59.cell? ⟨gb403, 0, none⟩ = some (.slice A0_0 l0_0.length c0_0) ∧ w59.cell? ⟨gb404, 0, none⟩ = some (.int .i64 a1_0) ∧ w59.cell? ⟨gb404, 1, none⟩ = some (.int .i64 a1_1) ∧ w59.cell? ⟨gb404, 2, none⟩ = some (.string a1_2) ∧ w59.cell? ⟨gb404, 3, none⟩ = some (.int .i64 a1_3) := hS_
                 obtain ⟨Ao61, co61, eo61⟩ := Kd.N_slice HO439.out
                 (first | subst eo61 | (injection eo61 with f1_ f2_ f3_; have f4_ := f1_.symm; have f5_ := f3_.symm; clear f1_ f2_ f3_; subst f4_; subst f5_))
                 refine norm_ (a' := ?_) ?_ ?_
                 rotate_left
                 ·
                  simp only [putAll, Act.put, List.setIfInBounds_toArray, List.set_cons_zero, List.set_cons_succ]
                  rfl
                 refine o1 13 (some 91) rfl rfl (fun K hK => ?_)
                 refine Kd.N_append_rows_step k59 (w0 := w) w.heap.size (by rfl) (.tmp 83) (.tmp 90) 22 59 (.agg #[(.int .i64 0), (.string ⟨#[]⟩), (.slice none 0 0)]) 48 rfl Try.underlying22 info59 rfl (by decide) (by omega) v435 y434 y437 _ _ _ (fun k_ => (P0_0_ k_ ∨ w.heap.size ≤ k_) ∧ some k_ ≠ (.slice none 0 0 : Value).ownBlock ∧ k_ ≠ gb403 ∧ k_ ≠ gb404 ∧ k_ ≠ gb405) (fun k_ => ((fun k_ => (P0_0_ k_ ∨ w.heap.size ≤ k_) ∧ some k_ ≠ (.slice none 0 0 : Value).ownBlock ∧ k_ ≠ gb403 ∧ k_ ≠ gb404 ∧ k_ ≠ gb405)) k_ ∧ some k_ ≠ (v435 : Value).ownBlock) rfl rfl ?aO ?aR (fun _ hk => hk) ?aF ?aB ?aS ?aL ?_
                 (case aR => exact (by skip; exact Kd.N_F (Kd.N_mono (ok' := (fun k_ => ((fun k_ => (P0_0_ k_ ∨ w.heap.size ≤ k_) ∧ some k_ ≠ (.slice none 0 0 : Value).ownBlock ∧ k_ ≠ gb403 ∧ k_ ≠ gb404 ∧ k_ ≠ gb405)) k_ ∧ some k_ ≠ (v435 : Value).ownBlock)) (HO439.out) (fun k_ hk => ⟨⟨hk.1, ⟨hk.2.2.1, ⟨hk.2.2.2.1, ⟨hk.2.2.2.2.1, hk.2.2.2.2.2⟩⟩⟩⟩, hk.2.1⟩))))
                 (case aB => exact bl)
                 (case aF => exact (fun k_ hk => ⟨(.inr (Nat.le_trans (below_size bl) hk)), Kd.fresh' (Kd.R_lt (uR HO_7.out)) k_ hk, Kd.freshB (g := gb403) (o := .cells #[.slice A0_0 l0_0.length c0_0] 24 (0, 0)) (uB BK403.out) k_ hk, Kd.freshB (g := gb404) (o := .cells #[.int .i64 a1_0, .int .i64 a1_1, .string a1_2, .int .i64 a1_3] 26 (0, 0)) (uB BK404.out) k_ hk, Kd.freshB (g := gb405) (o := .cells #[.slice none 0 0] 24 (0, 0)) (uB BK405.out) k_ hk⟩))
                 (case aO => exact (by (with_reducible repeat (first | apply Kd.N_alloc | apply Kd.N_drewN | apply Kd.N_drew)); exact Kd.N_mono HO436.out (fun _ hk => ⟨hk.1, ⟨hk.2.2.1, ⟨hk.2.2.2.1, ⟨hk.2.2.2.2.1, hk.2.2.2.2.2⟩⟩⟩⟩)))
                 (case aS => exact (below_size bl))
                 (case aL => have := LMc43.out; omega)
                 intro v441 w60 ho hb hg hat
                 rw [← Ny440.out] at ho
                 replace HO_7 := Aside0.mk (Kd.R_over' (uR HO_7.out) (Kd.N_typed (by (with_reducible repeat (first | apply Kd.N_alloc | apply Kd.N_drewN | apply Kd.N_drew)); exact HO436.out)) (by decide) hg)
                 replace HO_8 := Aside0.mk (Kd.V_afterv (ok := (fun k_ => (P0_0_ k_ ∨ w.heap.size ≤ k_) ∧ some k_ ≠ (.slice none 0 0 : Value).ownBlock ∧ some k_ ≠ (.slice Ao61 y437.length co61 : Value).ownBlock ∧ k_ ≠ gb403 ∧ k_ ≠ gb404 ∧ k_ ≠ gb405)) (by exact uV <| Kd.V_mono HO_8.out (fun _ hk => ⟨⟨hk.1, ⟨hk.2.2.2.1, ⟨hk.2.2.1, ⟨hk.2.2.2.2.1, ⟨hk.2.2.2.2.2.1, hk.2.2.2.2.2.2⟩⟩⟩⟩⟩, hk.2.1⟩)) hg hat)
                 replace HO_404000 := Aside0.mk (Kd.V_afterv (ok := (fun k_ => (P0_0_ k_ ∨ w.heap.size ≤ k_) ∧ some k_ ≠ (.slice none 0 0 : Value).ownBlock ∧ some k_ ≠ (.slice Ao61 y437.length co61 : Value).ownBlock ∧ k_ ≠ gb403 ∧ k_ ≠ gb404 ∧ k_ ≠ gb405)) (by exact uV <| Kd.V_mono HO_404000.out (fun _ hk => ⟨⟨hk.1, ⟨hk.2.2.2.1, ⟨hk.2.2.1, ⟨hk.2.2.2.2.1, ⟨hk.2.2.2.2.2.1, hk.2.2.2.2.2.2⟩⟩⟩⟩⟩, hk.2.1⟩)) hg hat)
                 replace BK403 := Aside0.mk (blk_grown (g := gb403) (o := .cells #[.slice A0_0 l0_0.length c0_0] 24 (0, 0)) (uB BK403.out) hg (Kd.N_ne HO436.out BK403.out (by decide)))
                 replace BK404 := Aside0.mk (blk_grown (g := gb404) (o := .cells #[.int .i64 a1_0, .int .i64 a1_1, .string a1_2, .int .i64 a1_3] 26 (0, 0)) (uB BK404.out) hg (Kd.N_ne HO436.out BK404.out (by decide)))
                 replace BK405 := Aside0.mk (blk_grown (g := gb405) (o := .cells #[.slice none 0 0] 24 (0, 0)) (uB BK405.out) hg (Kd.N_ne HO436.out BK405.out (by decide)))
                 replace HL416_2 := Aside0.mk (Kd.V_afterv (ok := (fun k_ => (P0_0_ k_ ∨ w.heap.size ≤ k_) ∧ some k_ ≠ (.slice none 0 0 : Value).ownBlock ∧ some k_ ≠ (.slice Ao61 y437.length co61 : Value).ownBlock ∧ k_ ≠ gb403 ∧ k_ ≠ gb404 ∧ k_ ≠ gb405)) (by exact uV <| Kd.V_mono HL416_2.out (fun _ hk => ⟨⟨hk.1, ⟨hk.2.2.2.1, ⟨hk.2.2.1, ⟨hk.2.2.2.2.1, ⟨hk.2.2.2.2.2.1, hk.2.2.2.2.2.2⟩⟩⟩⟩⟩, hk.2.1⟩)) hg hat)
                 replace HO421 := Aside0.mk (Kd.V_afterv (ok := (fun k_ => (P0_0_ k_ ∨ w.heap.size ≤ k_) ∧ some k_ ≠ (.slice none 0 0 : Value).ownBlock ∧ some k_ ≠ (.slice Ao61 y437.length co61 : Value).ownBlock ∧ k_ ≠ gb403 ∧ k_ ≠ gb404 ∧ k_ ≠ gb405)) (by exact uV <| Kd.V_mono HO421.out (fun _ hk => ⟨⟨hk.1, ⟨hk.2.2.2.1, ⟨hk.2.2.1, ⟨hk.2.2.2.2.1, ⟨hk.2.2.2.2.2.1, hk.2.2.2.2.2.2⟩⟩⟩⟩⟩, hk.2.1⟩)) hg hat)
                 replace HO433 := Aside0.mk (Kd.V_afterv (ok := (fun k_ => (P0_0_ k_ ∨ w.heap.size ≤ k_) ∧ some k_ ≠ (.slice none 0 0 : Value).ownBlock ∧ some k_ ≠ (.slice Ao61 y437.length co61 : Value).ownBlock ∧ k_ ≠ gb403 ∧ k_ ≠ gb404 ∧ k_ ≠ gb405)) (by exact uV <| Kd.V_mono HO433.out (fun _ hk => ⟨⟨hk.1, ⟨hk.2.2.2.1, ⟨hk.2.2.1, ⟨hk.2.2.2.2.1, ⟨hk.2.2.2.2.2.1, hk.2.2.2.2.2.2⟩⟩⟩⟩⟩, hk.2.1⟩)) hg hat)
                 replace HO439 := Aside0.mk (Kd.N_afterv (ok := (fun k_ => (P0_0_ k_ ∨ w.heap.size ≤ k_) ∧ some k_ ≠ (.slice none 0 0 : Value).ownBlock ∧ k_ ≠ gb403 ∧ k_ ≠ gb404 ∧ k_ ≠ gb405)) (by (with_reducible repeat (first | apply Kd.N_alloc | apply Kd.N_drewN | apply Kd.N_drew)); exact Kd.N_mono HO439.out (fun _ hk => ⟨⟨hk.1, ⟨hk.2.2.1, ⟨hk.2.2.2.1, ⟨hk.2.2.2.2.1, hk.2.2.2.2.2⟩⟩⟩⟩, hk.2.1⟩)) hg hat)
                 replace HB := Aside0.mk (hb)
                 have HO442 := Aside0.mk (ho)
                 clear HO436
                 clear ho hb hg hat
                 refine hK.out _ _ ⟨(blk_cell BK403.out 0).trans rfl, (blk_cell BK404.out 0).trans rfl, (blk_cell BK404.out 1).trans rfl, (blk_cell BK404.out 2).trans rfl, (blk_cell BK404.out 3).trans rfl⟩ (fun hHeld => ?_)
                 clear hK K
                 refine norm_ (a' := ?_) ?_ ?_
                 rotate_left
                 ·
                  show Act.put _ (some 91) _ = _
                  simp only [Act.put, List.setIfInBounds_toArray, List.set_cons_zero, List.set_cons_succ, i64_w, i32_w]
                  rfl
                 refine p1 14 (some 10) ?_
                 refine done_ (done_of HT_.out (by kernel_rfl)) ?_
                 try go_wp2_with (first | ((with_reducible refine gate_builtin (b := .append) (xs := #[.tmp 92, .tmp 93]) rfl ?_); at_builtin; refine Kd.N_append_rows k59 (w0 := w) w.heap.size rfl (.tmp 92) (.tmp 93) 22 59 (.agg #[(.int .i64 0), (.string ⟨#[]⟩), (.slice none 0 0)]) 48 rfl Try.underlying22 info59 rfl (by decide) (by omega) v441 y440 y417 _ _ _ (fun k_ => (P0_0_ k_ ∨ w.heap.size ≤ k_) ∧ some k_ ≠ (.slice none 0 0 : Value).ownBlock ∧ k_ ≠ gb403 ∧ k_ ≠ gb404 ∧ k_ ≠ gb405) (fun k_ => ((fun k_ => (P0_0_ k_ ∨ w.heap.size ≤ k_) ∧ some k_ ≠ (.slice none 0 0 : Value).ownBlock ∧ k_ ≠ gb403 ∧ k_ ≠ gb404 ∧ k_ ≠ gb405)) k_ ∧ some k_ ≠ (v441 : Value).ownBlock) rfl rfl ?aO ?aR (fun _ hk => hk) ?aF ?aB ?aS ?aL ?_; (case aR => exact (by skip; exact Kd.V_F (Kd.V_mono (ok' := (fun k_ => ((fun k_ => (P0_0_ k_ ∨ w.heap.size ≤ k_) ∧ some k_ ≠ (.slice none 0 0 : Value).ownBlock ∧ k_ ≠ gb403 ∧ k_ ≠ gb404 ∧ k_ ≠ gb405)) k_ ∧ some k_ ≠ (v441 : Value).ownBlock)) (HO421.out) (fun k_ hk => ⟨⟨hk.1.1, ⟨hk.1.2.1, ⟨hk.1.2.2.2.1, ⟨hk.1.2.2.2.2.1, hk.1.2.2.2.2.2⟩⟩⟩⟩, hk.2⟩)))); (case aB => exact bl); (case aF => exact (fun k_ hk => ⟨(.inr (Nat.le_trans (below_size bl) hk)), Kd.fresh' (Kd.R_lt (uR HO_7.out)) k_ hk, Kd.freshB (g := gb403) (o := .cells #[.slice A0_0 l0_0.length c0_0] 24 (0, 0)) (uB BK403.out) k_ hk, Kd.freshB (g := gb404) (o := .cells #[.int .i64 a1_0, .int .i64 a1_1, .string a1_2, .int .i64 a1_3] 26 (0, 0)) (uB BK404.out) k_ hk, Kd.freshB (g := gb405) (o := .cells #[.slice none 0 0] 24 (0, 0)) (uB BK405.out) k_ hk⟩)); (case aO => exact (by (with_reducible repeat (first | apply Kd.N_alloc | apply Kd.N_drewN | apply Kd.N_drew)); exact HO442.out)); (case aS => exact (below_size bl)); (case aL => have := LMc44.out; omega); intro v444 w62 ho hb hg hat; rw [← Ny443.out] at ho; replace HO_7 := Aside0.mk (Kd.R_over' (uR HO_7.out) (Kd.N_typed (by (with_reducible repeat (first | apply Kd.N_alloc | apply Kd.N_drewN | apply Kd.N_drew)); exact HO442.out)) (by decide) hg); replace HO_8 := Aside0.mk (Kd.V_afterv (ok := (fun k_ => (P0_0_ k_ ∨ w.heap.size ≤ k_) ∧ some k_ ≠ (.slice none 0 0 : Value).ownBlock ∧ some k_ ≠ (.slice Ao61 y437.length co61 : Value).ownBlock ∧ k_ ≠ gb403 ∧ k_ ≠ gb404 ∧ k_ ≠ gb405)) (uV HO_8.out) hg hat); replace HO_404000 := Aside0.mk (Kd.V_afterv (ok := (fun k_ => (P0_0_ k_ ∨ w.heap.size ≤ k_) ∧ some k_ ≠ (.slice none 0 0 : Value).ownBlock ∧ some k_ ≠ (.slice Ao61 y437.length co61 : Value).ownBlock ∧ k_ ≠ gb403 ∧ k_ ≠ gb404 ∧ k_ ≠ gb405)) (uV HO_404000.out) hg hat); replace BK403 := Aside0.mk (blk_grown (g := gb403) (o := .cells #[.slice A0_0 l0_0.length c0_0] 24 (0, 0)) (uB BK403.out) hg (Kd.N_ne HO442.out BK403.out (by decide))); replace BK404 := Aside0.mk (blk_grown (g := gb404) (o := .cells #[.int .i64 a1_0, .int .i64 a1_1, .string a1_2, .int .i64 a1_3] 26 (0, 0)) (uB BK404.out) hg (Kd.N_ne HO442.out BK404.out (by decide))); replace BK405 := Aside0.mk (blk_grown (g := gb405) (o := .cells #[.slice none 0 0] 24 (0, 0)) (uB BK405.out) hg (Kd.N_ne HO442.out BK405.out (by decide))); replace HL416_2 := Aside0.mk (Kd.V_afterv (ok := (fun k_ => (P0_0_ k_ ∨ w.heap.size ≤ k_) ∧ some k_ ≠ (.slice none 0 0 : Value).ownBlock ∧ some k_ ≠ (.slice Ao61 y437.length co61 : Value).ownBlock ∧ k_ ≠ gb403 ∧ k_ ≠ gb404 ∧ k_ ≠ gb405)) (uV HL416_2.out) hg hat); replace HO421 := Aside0.mk (Kd.V_afterv (ok := (fun k_ => (P0_0_ k_ ∨ w.heap.size ≤ k_) ∧ some k_ ≠ (.slice none 0 0 : Value).ownBlock ∧ some k_ ≠ (.slice Ao61 y437.length co61 : Value).ownBlock ∧ k_ ≠ gb403 ∧ k_ ≠ gb404 ∧ k_ ≠ gb405)) (uV HO421.out) hg hat); replace HO433 := Aside0.mk (Kd.V_afterv (ok := (fun k_ => (P0_0_ k_ ∨ w.heap.size ≤ k_) ∧ some k_ ≠ (.slice none 0 0 : Value).ownBlock ∧ some k_ ≠ (.slice Ao61 y437.length co61 : Value).ownBlock ∧ k_ ≠ gb403 ∧ k_ ≠ gb404 ∧ k_ ≠ gb405)) (uV HO433.out) hg hat); replace HO439 := Aside0.mk (Kd.N_afterv (ok := (fun k_ => (P0_0_ k_ ∨ w.heap.size ≤ k_) ∧ some k_ ≠ (.slice none 0 0 : Value).ownBlock ∧ k_ ≠ gb403 ∧ k_ ≠ gb404 ∧ k_ ≠ gb405)) (by (with_reducible repeat (first | apply Kd.N_alloc | apply Kd.N_drewN | apply Kd.N_drew)); exact HO439.out) hg hat); replace HB := Aside0.mk (hb); have HO445 := Aside0.mk (ho); clear HO442; clear ho hb hg hat; obtain ⟨Ao63, co63, eo63⟩ := Kd.N_slice HO445.out; subst eo63; have hnb64 := NB405_403.out; have hnc64 := NB403_405.out; obtain ⟨hcz65_0, hfz65_0⟩ := z1 BK405))
                 refine bodyPost_ret (results_ct rfl _ _ gb405 24 #[.slice Ao63 y443.length co63] (0, 0) _ rfl (by (with_reducible repeat (first | refine blk_drewN ?_ _ | refine blk_drew ?_ | refine blk_alloc ?_ _)); refine blk_put (cs := #[.slice none 0 0]) ?_ 0 _ rfl; exact uB <| BK405.out) Try.underlying24 rfl (by kernel_rfl)) rfl ?_
                 exact ⟨_, re_, by (with_reducible repeat (first | apply Kd.N_alloc | apply Kd.N_drewN | apply Kd.N_drew)); exact Kd.N_mono (Kd.N_far (p := ⟨gb405, 0, none⟩) (Kd.N_mono HO445.out (fun k_ hk => (⟨hk, hk.2.2.2.2⟩ : _ ∧ k_ ≠ gb405))) (fun _ hk => hk.2) (.slice Ao63 y443.length co63)) (fun _ hk => hk.1.1), bl⟩
                ·
                 rw [if_neg c44] at H
                 exact absurd H (by simp)
               ·
                rw [if_neg c43] at H
                exact absurd H (by simp)
              ·
               rw [if_neg c42] at H
               exact absurd H (by simp)
             ·
              rw [if_neg c41] at H
              exact absurd H (by simp)
            ·
             rw [if_neg c40] at H
             exact absurd H (by simp)
           ·
            rw [if_neg c39] at H
            have c39b0 : (t423 == 0) = false := beq_eq_false_iff_ne.mpr c39
            have c39b1 : (t423 != 0) = true := bne_iff_ne.mpr c39
            simp only [Option.some.injEq, Prod.mk.injEq] at H
            obtain ⟨rfl, rfl⟩ := H
            try go_wp2
            replace HO_7 := Aside0.mk (Kd.R_drew HO_7.out)
            replace HO_8 := Aside0.mk (Kd.V_drew HO_8.out)
            replace HO_404000 := Aside0.mk (Kd.V_drew HO_404000.out)
            replace BK403 := Aside0.mk (blk_drew BK403.out)
            replace BK404 := Aside0.mk (blk_drew BK404.out)
            replace BK405 := Aside0.mk (blk_drew BK405.out)
            replace HB := Aside0.mk (below_drew1 HB.out)
            have p416 : 0 ≤ (0 : Int) := (by omega)
            have q416 : 0 < (y409.length : Int) := od
            obtain ⟨ad416, A416_2, c416_2, e416, hx416_0, hx416_1, hx416_2, hl416_2, hi416_2⟩ := at_T59 (Kd.V_reads' HO_8.out).2.2 0 p416 q416
            cases e416
            obtain ⟨ce416, hce416, hMe416, hcc416⟩ := Kd.V_get HO_8.out z59 0 p416 (by first | exact q416 | exact od | (have e_ := (Kd.V_reads' HO_8.out).1; omega))
            obtain ⟨ua416_2, uc416_2, rfl, ul416_2, ge416_2⟩ := k59_openF hMe416
            have hv416_2 := hcc416 2 _ rfl
            rw [add_field _ _ 2 (by omega)] at hv416_2
            replace hv416_2 := Option.some.inj (hv416_2.symm.trans hx416_2)
            injection hv416_2 with hva_ hvn_ hvc_
            rw [hva_] at ge416_2
            rw [hvc_] at ul416_2
            have HL416_2 := Aside0.mk (show Kd.V k82 82 _ w.heap.size _ _ ((rd_T59 y409 0).f2) from Kd.V_mk ul416_2 ge416_2)
            clear hva_ hvn_ hvc_ ge416_2 ul416_2
            clear hcc416 hce416
            have qi416 : (0 < y409.length) = True := eq_true (by omega)
            (try rw [show ((0 : Int)).toNat = 0 from rfl] at hx416_0)
            (try rw [show 0 * 3 = 0 from rfl] at hx416_0)
            (try rw [Addr.add_zero'] at hx416_0)
            (try rw [show ((0 : Int)).toNat = 0 from rfl] at hx416_1)
            (try rw [show 0 * 3 = 0 from rfl] at hx416_1)
            (try rw [Addr.add_zero'] at hx416_1)
            (try rw [show ((0 : Int)).toNat = 0 from rfl] at hx416_2)
            (try rw [show 0 * 3 = 0 from rfl] at hx416_2)
            (try rw [Addr.add_zero'] at hx416_2)
            have HR416_2 := Aside0.mk hi416_2
            have HC416_2 := Aside0.mk hl416_2
            clear hi416_2 hl416_2
            replace p416 := eq_true p416
            replace q416 := eq_true q416
            have q67 : (1 : Int) ≤ ((y409.length : Int) : Int) := od
            obtain ⟨i067, hi067, _, hsz67, _⟩ := info_parts info59
            have hroom67 : y409.length ≤ c28 := (Kd.V_reads' HO_8.out).2.1
            have hC67 : Kd.F k59 _ _ (some ad416) y409.length y409 := (Kd.V_at (base := w.heap.size) HO_8.out).2.2
            have hcut67 := cut_from (P := Try.prog) 22 59 .i64 Try.underlying22 hi067 3 hsz67 (some ad416) y409.length c28 1 (by omega) q67
            have hr67 := Kd.F_cut (m := (1 : Int).toNat) (c := c28) hC67 (by omega) hroom67
            obtain ⟨A67, hA67⟩ : ∃ A1, A1 = (if c28 = (1 : Int).toNat then (some ad416) else ((some ad416) : Option Addr).map (·.add ((1 : Int).toNat * 3))) := ⟨_, rfl⟩
            obtain ⟨c67, hc67⟩ : ∃ c1, c1 = c28 - (1 : Int).toNat := ⟨_, rfl⟩
            have hy67 : y417.length = y409.length - (1 : Int).toNat := (by rw [Ny417.out, List.length_drop] <;> omega)
            rw [show (y409).drop (1 : Int).toNat = y417 from Ny417.out.symm] at hr67
            replace hr67 : Kd.F k59 _ _ A67 y417.length y417 := (by rw [hA67]; exact hr67)
            rw [← hy67, ← hA67, ← hc67] at hcut67
            have HO421 := Aside0.mk (show Kd.V k59 59 _ w.heap.size _ (.slice A67 y417.length c67) y417 from Kd.V_mk (by rw [hy67, hc67]; exact Nat.sub_le_sub_right hroom67 _) hr67)
            have HC421 := Aside0.mk (show y417.length ≤ c67 from by rw [hy67, hc67]; exact Nat.sub_le_sub_right hroom67 _)
            clear hr67 hC67 hroom67 hi067 hsz67 hc67
            have KY67 := Aside0.mk hy67
            have KA67 := Aside0.mk hA67
            clear hy67 hA67
            replace q67 := eq_true q67
            refine start_ (n := 8) (S := fun w' => w'.cell? ad416 = some (.int .i64 ((rd_T59 y409 0).f0)) ∧ w'.cell? ⟨ad416.block, ad416.off + 1, none⟩ = some (.string ((rd_T59 y409 0).f1)) ∧ w'.cell? ⟨ad416.block, ad416.off + 2, none⟩ = some (.slice A416_2 ((rd_T59 y409 0).f2).length c416_2)) (ds := []) _ (by kernel_rfl) rfl rfl ⟨hx416_0, hx416_1, hx416_2⟩ (fun hHeld => ?_); refine with_tabW r11_Apply.tab9 r11_Apply.bits9 (fun HT_ HW_ => ?_)
            generalize wc.drew = w66 at HO_7 HO_8 HO_404000 BK403 BK404 BK405 HB HL416_2 HO421 HR416_2 hx416_0 hx416_1 hx416_2 hHeld ⊢
            refine p1 0 (some 59) ?_
            refine p1 1 (some 60) ?_
            refine p1 2 (some 61) ?_
            refine p1 4 (some 63) ?_
            refine p1 5 (some 64) ?_
            refine t1 3 (some 62) rfl rfl hHeld (Or.inl ⟨by rfl, by rintro w' ⟨s0, s1, s2⟩; go_simp; with_reducible rfl⟩) ?_
            refine p1 6 (some 7) ?_
            refine p1 7 (some 8) ?_
            refine done_ (done_of HT_.out (by kernel_rfl)) ?_
            have hnb68 := NB404_403.out
            have hnc68 := NB403_404.out
            have hnb69 := NB404_405.out
            have hnc69 := NB405_404.out
            obtain ⟨hcz70_0, hcz70_1, hcz70_2, hcz70_3, hfz70_0, hfz70_1, hfz70_2, hfz70_3⟩ := z4 BK404
            try go_wp2_with (first | (refine gL (some 71) rfl Try.func31 #[.slice A416_2 ((rd_T59 y409 0).f2).length c416_2, .int .i64 a1_0, .int .i64 a1_3] ?_; (with_reducible refine (r10_Fold.calls kj23 _ _ ((rd_T59 y409 0).f2) a1_0 a1_3 t422 t423 _ ?side1 ?side2 A38.out).mono ?_); (case side1 => repeat (first | exact (by repeat (first | (with_reducible exact HR416_2.out) | (with_reducible refine Kd.C_alloc ?_ _) | (with_reducible refine Kd.C_drewN ?_ _) | (with_reducible refine Kd.C_drew ?_) | exact HR416_2.out)) | (with_reducible refine Kd.C_alloc ?_ _) | (with_reducible refine Kd.C_drewN ?_ _) | (with_reducible refine Kd.C_drew ?_))); (case side2 => exact HC416_2.out); rintro e w71 ⟨v424, rfl, ho0, hb⟩; refine ⟨_, rfl, ?_⟩; replace HO_8 := Aside0.mk (Kd.V_elder' (uV HO_8.out) (Kd.R_base ho0) hb); replace HO_404000 := Aside0.mk (Kd.V_elder' (uV HO_404000.out) (Kd.R_base ho0) hb); replace HL416_2 := Aside0.mk (Kd.V_elder' (uV HL416_2.out) (Kd.R_base ho0) hb); replace HO421 := Aside0.mk (Kd.V_elder' (uV HO421.out) (Kd.R_base ho0) hb); have HO425 := Aside0.mk (Kd.R_lower (Kd.R_new' (Kd.R_newM (M := fun k_ => (w.heap.size ≤ k_)) ho0 (below_size bl) (fun k_ h_ => h_)) (Kd.R_lt (uR HO_7.out))) (below_size bl)); replace HO_7 := Aside0.mk (Kd.R_elder' (uR HO_7.out) (Kd.R_base ho0) hb); replace BK403 := cB BK403 hb; replace BK404 := cB BK404 hb; replace BK405 := cB BK405 hb; replace HR416_2 := cC HR416_2 hb; replace HB := Aside0.mk (below_step bl hb); (try clear hb); (try clear ho0); have hnb72 := NB405_403.out; have hnc72 := NB403_405.out; obtain ⟨hcz73_0, hfz73_0⟩ := z1 BK405))
            refine bodyPost_ret (results_ct rfl _ _ gb405 24 #[.slice none 0 0] (0, 0) _ rfl (by (with_reducible repeat (first | refine blk_drewN ?_ _ | refine blk_drew ?_ | refine blk_alloc ?_ _)); refine blk_put (cs := #[.slice none 0 0]) ?_ 0 _ rfl; exact uB <| BK405.out) Try.underlying24 rfl (by kernel_rfl)) rfl ?_
            exact ⟨_, re_, by first | exact Kd.S_nil _ _ _ _ _ | exact Kd.N_nil _ _ _ _ _ | exact Kd.V_nil _ _ _ _ _ | exact Kd.Q_nil _ _ _ _ _ | exact Kd.R_nil _ _ _ _ _, bl⟩
          ·
           rw [if_neg c37] at H
           exact absurd H (by simp)
         ·
          rw [if_neg c36] at H
          exact absurd H (by simp)
        ·
         replace c35 := Bool.eq_false_iff.mpr c35
         subst c35
         rw [if_neg (show ¬ (false = true) by decide)] at H
         obtain ⟨⟨t446, t447⟩, A74, H⟩ := bs H
         try dsimp only at H
         by_cases c75 : t447 = 0
         ·
          rw [if_pos c75] at H
          have c75b0 : (t447 == 0) = true := beq_iff_eq.mpr c75
          have c75b1 : (t447 != 0) = false := bne_eq_false_iff_eq.mpr c75
          clear c75
          obtain ⟨y450, Ny450, H⟩ := ys H
          try dsimp only at H
          by_cases c76 : 0 ≤ x6_4
          ·
           rw [if_pos c76] at H
           have c76b0 := eq_true c76
           have c76b1 : decide (0 ≤ x6_4) = true := decide_eq_true c76
           clear c76
           by_cases c77 : x6_4 ≤ (l0_0.length : Int)
           ·
            rw [if_pos c77] at H
            have c77b0 := eq_true c77
            have c77b1 : decide (x6_4 ≤ (l0_0.length : Int)) = true := decide_eq_true c77
            clear c77
            obtain ⟨y453, Ny453, H⟩ := ys H
            try dsimp only at H
            by_cases c78 : y450.length + y453.length < 2932031007402
            ·
             rw [if_pos c78] at H
             have LMc78 := Aside0.mk c78
             clear c78
             obtain ⟨y458, Ny458, H⟩ := ys H
             try dsimp only at H
             obtain ⟨y461, Ny461, H⟩ := ys H
             try dsimp only at H
             by_cases c79 : y458.length + y461.length < 2932031007402
             ·
              rw [if_pos c79] at H
              have LMc79 := Aside0.mk c79
              clear c79
              obtain ⟨y464, Ny464, H⟩ := ys H
              try dsimp only at H
              by_cases c80 : y464.length + y409.length < 2932031007402
              ·
               rw [if_pos c80] at H
               have LMc80 := Aside0.mk c80
               clear c80
               obtain ⟨y467, hy467⟩ : ∃ y_ : List (S59), y_ = (y464 ++ y409) := ⟨_, rfl⟩
               replace H : (some (y467, 0)) = some (r1, r2) := by first | (rw [hy467]; with_reducible exact H) | (have H2_ := (Option.bind_some _ _).symm.trans H; rw [hy467]; with_reducible exact H2_) | (have H2_ := (Option.bind_some _ _).symm.trans H; with_reducible exact H2_) | with_reducible exact H | (rw [hy467]; exact H) | exact H
               have Ny467 := Aside0.mk hy467
               clear hy467
               simp only [Option.some.injEq, Prod.mk.injEq] at H
               obtain ⟨rfl, rfl⟩ := H
               have hnb81 := NB404_403.out
               have hnc81 := NB403_404.out
               have hnb82 := NB404_405.out
               have hnc82 := NB405_404.out
               obtain ⟨hcz83_0, hcz83_1, hcz83_2, hcz83_3, hfz83_0, hfz83_1, hfz83_2, hfz83_3⟩ := z4 BK404
               try go_wp2_with (first | ((with_reducible refine gate_callee (f := 31) rfl ?_); refine goesL_ (some 71) rfl rfl Try.func31 (by kernel_rfl) rfl #[.slice none ([] : List (S82)).length 0, .int .i64 a1_0, .int .i64 a1_3] rfl (by (try simp only [List.map_toArray, List.map_cons, List.map_nil]); first | done | (rw [show ([] : List (S82)).length = 0 from (Kd.R_reads' HO_7.out).1.symm] <;> rfl) | rfl | (simp only [List.length_drop, List.length_take]; rfl)) ?_; (with_reducible refine (r10_Fold.calls kj23 _ _ ([] : List (S82)) a1_0 a1_3 t446 t447 _ ?side1 ?side2 A74.out).mono ?_); (case side1 => exact uC <| (Kd.R_reads' HO_7.out).2.2); (case side2 => rw [show ([] : List (S82)).length = 0 from (Kd.R_reads' HO_7.out).1.symm]; exact (Kd.R_reads' HO_7.out).2.1); rintro e w84 ⟨v448, rfl, ho0, hb⟩; refine ⟨_, rfl, ?_⟩; replace HO_8 := Aside0.mk (Kd.V_elder' (uV HO_8.out) (Kd.R_base ho0) hb); replace HO_404000 := Aside0.mk (Kd.V_elder' (uV HO_404000.out) (Kd.R_base ho0) hb); have HO449 := Aside0.mk (Kd.R_lower (Kd.R_new' (Kd.R_newM (M := fun k_ => (w.heap.size ≤ k_)) ho0 (below_size bl) (fun k_ h_ => h_)) (Kd.R_lt (uR HO_7.out))) (below_size bl)); replace HO_7 := Aside0.mk (Kd.R_elder' (uR HO_7.out) (Kd.R_base ho0) hb); replace BK403 := cB BK403 hb; replace BK404 := cB BK404 hb; replace BK405 := cB BK405 hb; replace HB := Aside0.mk (below_step bl hb); (try clear hb); (try clear ho0)))
               replace HO_7 := Aside0.mk (Kd.R_drew HO_7.out)
               replace HO_8 := Aside0.mk (Kd.V_drew HO_8.out)
               replace HO_404000 := Aside0.mk (Kd.V_drew HO_404000.out)
               replace HO449 := Aside0.mk (Kd.R_drew HO449.out)
               replace BK403 := Aside0.mk (blk_drew BK403.out)
               replace BK404 := Aside0.mk (blk_drew BK404.out)
               replace BK405 := Aside0.mk (blk_drew BK405.out)
               replace HB := Aside0.mk (below_drew1 HB.out)
               have q86 : (x6_4 : Int) ≤ ((l0_0.length : Int) : Int) := od
               obtain ⟨i086, hi086, _, hsz86, _⟩ := info_parts info59
               have hroom86 : l0_0.length ≤ c0_0 := (Kd.V_reads' HO_404000.out).2.1
               have hC86 : Kd.F k59 _ _ A0_0 l0_0.length l0_0 := (Kd.V_at (base := w.heap.size) HO_404000.out).2.2
               have hcut86 := cut_to (P := Try.prog) 22 59 .i64 Try.underlying22 hi086 A0_0 l0_0.length c0_0 x6_4 (od) q86 hroom86
               have hr86 := Kd.F_take (m := (x6_4 : Int).toNat) hC86 (by omega)
               have hy86 : y453.length = (x6_4 : Int).toNat := (by rw [Ny453.out, List.length_take]; omega)
               rw [← Ny453.out] at hr86
               rw [← hy86] at hcut86
               have HO457 := Aside0.mk (show Kd.V k59 59 _ w.heap.size _ (.slice A0_0 y453.length c0_0) y453 from Kd.V_mk (by omega) hr86)
               have HC457 := Aside0.mk (show y453.length ≤ c0_0 from by omega)
               clear hr86 hC86 hroom86 hi086 hsz86
               have KY86 := Aside0.mk hy86
               clear hy86
               replace q86 := eq_true q86
               obtain ⟨Ao87, co87, eo87⟩ := Kd.R_slice HO449.out
               (first | subst eo87 | (injection eo87 with f1_ f2_ f3_; have f4_ := f1_.symm; have f5_ := f3_.symm; clear f1_ f2_ f3_; subst f4_; subst f5_))
               refine start_ (n := 15) (S := fun w' => w'.cell? ⟨gb403, 0, none⟩ = some (.slice A0_0 l0_0.length c0_0) ∧ w'.cell? ⟨gb404, 0, none⟩ = some (.int .i64 a1_0) ∧ w'.cell? ⟨gb404, 1, none⟩ = some (.int .i64 a1_1) ∧ w'.cell? ⟨gb404, 2, none⟩ = some (.string a1_2) ∧ w'.cell? ⟨gb404, 3, none⟩ = some (.int .i64 a1_3)) (ds := []) _ (by kernel_rfl) rfl rfl ⟨(blk_cell BK403.out 0).trans rfl, (blk_cell BK404.out 0).trans rfl, (blk_cell BK404.out 1).trans rfl, (blk_cell BK404.out 2).trans rfl, (blk_cell BK404.out 3).trans rfl⟩ (fun hHeld => ?_); refine with_tabW r11_Apply.tab13 r11_Apply.bits13 (fun HT_ HW_ => ?_)
               generalize w84.drew = w85 at HO_7 HO_8 HO_404000 HO449 BK403 BK404 BK405 HB HO457 hHeld ⊢
               refine p1 1 (some 79) ?_
               refine p1 3 (some 81) ?_
               refine p1 6 (some 84) ?_
               refine p1 8 (some 86) ?_
               refine p1 10 (some 88) ?_
               refine t1 2 (some 80) rfl rfl hHeld (Or.inl ⟨by rfl, by rintro w' ⟨s0, s1, s2, s3, s4⟩; go_simp; with_reducible rfl⟩) ?_
               refine p1 4 (some 82) ?_
               refine t1 7 (some 85) rfl rfl hHeld (Or.inl ⟨by rfl, by rintro w' ⟨s0, s1, s2, s3, s4⟩; go_simp; with_reducible rfl⟩) ?_
               refine t1 9 (some 87) rfl rfl hHeld (Or.inl ⟨by rfl, by rintro w' ⟨s0, s1, s2, s3, s4⟩; go_simp; with_reducible rfl⟩) ?_
               refine p1 11 (some 89) ?_
               refine join_ (σ := Value × Value × Value) 2 #[true, true, true, true, true, true, true, true, true, true, true, true, true, false, false] (fun s_ => [(78, s_.1), (83, s_.2.1), (90, s_.2.2)]) (fun s_ w' => (w'.cell? ⟨gb403, 0, none⟩ = some (.slice A0_0 l0_0.length c0_0) ∧ w'.cell? ⟨gb404, 0, none⟩ = some (.int .i64 a1_0) ∧ w'.cell? ⟨gb404, 1, none⟩ = some (.int .i64 a1_1) ∧ w'.cell? ⟨gb404, 2, none⟩ = some (.string a1_2) ∧ w'.cell? ⟨gb404, 3, none⟩ = some (.int .i64 a1_3)) ∧ (Kd.V k59 59 w' w.heap.size (fun k_ => (P0_0_ k_ ∨ w.heap.size ≤ k_) ∧ some k_ ≠ (s_.2.1 : Value).ownBlock ∧ some k_ ≠ (s_.2.2 : Value).ownBlock ∧ some k_ ≠ (.slice none 0 0 : Value).ownBlock ∧ k_ ≠ gb403 ∧ k_ ≠ gb404 ∧ k_ ≠ gb405) (.slice A0_0 y453.length c0_0) y453) ∧ (Kd.N k59 59 w' w.heap.size (fun k_ => (P0_0_ k_ ∨ w.heap.size ≤ k_) ∧ some k_ ≠ (s_.2.2 : Value).ownBlock ∧ some k_ ≠ (.slice none 0 0 : Value).ownBlock ∧ k_ ≠ gb403 ∧ k_ ≠ gb404 ∧ k_ ≠ gb405) s_.2.1 y458) ∧ (Kd.N k59 59 w' w.heap.size (fun k_ => (P0_0_ k_ ∨ w.heap.size ≤ k_) ∧ some k_ ≠ (s_.2.1 : Value).ownBlock ∧ some k_ ≠ (.slice none 0 0 : Value).ownBlock ∧ k_ ≠ gb403 ∧ k_ ≠ gb404 ∧ k_ ≠ gb405) s_.2.2 y461) ∧ (Kd.V k59 59 w' w.heap.size (fun k_ => (P0_0_ k_ ∨ w.heap.size ≤ k_) ∧ some k_ ≠ (s_.2.1 : Value).ownBlock ∧ some k_ ≠ (s_.2.2 : Value).ownBlock ∧ some k_ ≠ (.slice none 0 0 : Value).ownBlock ∧ k_ ≠ gb403 ∧ k_ ≠ gb404 ∧ k_ ≠ gb405) (.slice A0_0 l0_0.length c0_0) l0_0) ∧ (Kd.R k82 82 w' w.heap.size (fun k_ => (w.heap.size ≤ k_)) (.slice none 0 0) ([] : List (S82))) ∧ (Kd.V k59 59 w' w.heap.size (fun k_ => (P0_0_ k_ ∨ w.heap.size ≤ k_) ∧ some k_ ≠ (s_.2.1 : Value).ownBlock ∧ some k_ ≠ (s_.2.2 : Value).ownBlock ∧ some k_ ≠ (.slice none 0 0 : Value).ownBlock ∧ k_ ≠ gb403 ∧ k_ ≠ gb404 ∧ k_ ≠ gb405) (.slice A28 y409.length c28) y409) ∧ (w'.heap[gb403]? = some (.cells #[.slice A0_0 l0_0.length c0_0] 24 (0, 0))) ∧ (w'.heap[gb404]? = some (.cells #[.int .i64 a1_0, .int .i64 a1_1, .string a1_2, .int .i64 a1_3] 26 (0, 0))) ∧ (w'.heap[gb405]? = some (.cells #[.slice none 0 0] 24 (0, 0))) ∧ (Below w.heap.size w w')) ?_ ?_
               rotate_left
               ·
                intro hCont
                refine two_ (i := 0) (j := 12) (Ni := some 78) (Nj := some 90) #[true, true, true, true, true, false, true, true, true, true, true, true, false, false, false] #[false, true, true, true, true, false, true, true, true, true, true, true, true, false, false] rfl rfl rfl rfl (two_of HT_.out (by kernel_rfl)) (by decide) (by decide) (fun K hK => ?_) (fun K hK => ?_)
                ·
                 skip
                 refine Kd.N_lit_step k59 _ 59 ?hg (N' := 78) ?hd (xs := ([] : List (S59))) (inner := []) (ok := (fun k_ => (P0_0_ k_ ∨ w.heap.size ≤ k_) ∧ some k_ ≠ (.slice none 0 0 : Value).ownBlock ∧ some k_ ≠ (.slice Ao87 t446.length co87 : Value).ownBlock ∧ k_ ≠ gb403 ∧ k_ ≠ gb404 ∧ k_ ≠ gb405)) (okp := (fun k_ => (P0_0_ k_ ∨ w.heap.size ≤ k_) ∧ some k_ ≠ (.slice none 0 0 : Value).ownBlock ∧ some k_ ≠ (.slice Ao87 t446.length co87 : Value).ownBlock ∧ k_ ≠ gb403 ∧ k_ ≠ gb404 ∧ k_ ≠ gb405)) ?hr ?hp (fun _ hk => hk) ((show ∀ k_, w85.heap.size ≤ k_ → (fun k_ => (P0_0_ k_ ∨ w.heap.size ≤ k_) ∧ some k_ ≠ (.slice none 0 0 : Value).ownBlock ∧ some k_ ≠ (.slice Ao87 t446.length co87 : Value).ownBlock ∧ k_ ≠ gb403 ∧ k_ ≠ gb404 ∧ k_ ≠ gb405) k_ from fun k_ hk => ⟨(.inr (Nat.le_trans (below_size bl) hk)), Kd.fresh' (Kd.R_lt (uR HO_7.out)) k_ hk, Kd.fresh' (Kd.R_lt (uR HO449.out)) k_ hk, Kd.freshB (g := gb403) (o := .cells #[.slice A0_0 l0_0.length c0_0] 24 (0, 0)) (uB BK403.out) k_ hk, Kd.freshB (g := gb404) (o := .cells #[.int .i64 a1_0, .int .i64 a1_1, .string a1_2, .int .i64 a1_3] 26 (0, 0)) (uB BK404.out) k_ hk, Kd.freshB (g := gb405) (o := .cells #[.slice none 0 0] 24 (0, 0)) (uB BK405.out) k_ hk⟩) _ (Nat.le_refl _)) (Below.refl _ _) (Nat.le_refl _) (by simp) ?_; (case hd => rfl); (case hg => rfl); (case hr => first | (go_simp; done) | (go_simp; rfl)); (case hp => exact (Reps.none _ _))
                 intro v451 w88 ho89 hb hg_ hnew_
                 clear hg_ hnew_
                 (first | rw [← Ny450.out] at ho89 | (simp only [Int.reduceToNat] at ho89; rw [← Ny450.out] at ho89))
                 replace HO_7 := cR HO_7 hb
                 replace HO_8 := Aside0.mk (Kd.V_elder' (uV HO_8.out) (Kd.N_base ho89) hb)
                 replace HO_404000 := Aside0.mk (Kd.V_elder' (uV HO_404000.out) (Kd.N_base ho89) hb)
                 replace HO449 := cR HO449 hb
                 replace HO457 := Aside0.mk (Kd.V_elder' (uV HO457.out) (Kd.N_base ho89) hb)
                 have HO452 := Aside0.mk (Kd.N_lower ho89 (below_size bl))
                 replace BK403 := cB BK403 hb
                 replace BK404 := cB BK404 hb
                 replace BK405 := cB BK405 hb
                 replace HB := Aside0.mk (below_step bl hb)
                 clear hb ho89
                 refine hK.out _ _ ⟨(blk_cell BK403.out 0).trans rfl, (blk_cell BK404.out 0).trans rfl, (blk_cell BK404.out 1).trans rfl, (blk_cell BK404.out 2).trans rfl, (blk_cell BK404.out 3).trans rfl⟩ (fun hHeld => ?_)
                 clear hK K
                 refine norm_ (a' := ?_) ?_ ?_
                 rotate_left
                 ·
                  show Act.put _ (some 78) _ = _
                  simp only [Act.put, List.setIfInBounds_toArray, List.set_cons_zero, List.set_cons_succ, i64_w, i32_w]
                  rfl
                 refine two_ (i := 5) (j := 12) (Ni := some 83) (Nj := some 90) #[true, true, true, true, true, true, true, true, true, true, true, true, false, false, false] #[true, true, true, true, true, false, true, true, true, true, true, true, true, false, false] rfl rfl rfl rfl (two_of HT_.out (by kernel_rfl)) (by decide) (by decide) (fun K hK => ?_) (fun K hK => ?_)
                 ·
                  skip
                  refine Kd.N_append_rows_step k59 (w0 := w) w.heap.size (by rfl) (.tmp 78) (.tmp 82) 22 59 (.agg #[(.int .i64 0), (.string ⟨#[]⟩), (.slice none 0 0)]) 48 rfl Try.underlying22 info59 rfl (by decide) (by omega) v451 y450 y453 _ _ _ (fun k_ => (P0_0_ k_ ∨ w.heap.size ≤ k_) ∧ some k_ ≠ (.slice none 0 0 : Value).ownBlock ∧ some k_ ≠ (.slice Ao87 t446.length co87 : Value).ownBlock ∧ k_ ≠ gb403 ∧ k_ ≠ gb404 ∧ k_ ≠ gb405) (fun k_ => ((fun k_ => (P0_0_ k_ ∨ w.heap.size ≤ k_) ∧ some k_ ≠ (.slice none 0 0 : Value).ownBlock ∧ some k_ ≠ (.slice Ao87 t446.length co87 : Value).ownBlock ∧ k_ ≠ gb403 ∧ k_ ≠ gb404 ∧ k_ ≠ gb405)) k_ ∧ some k_ ≠ (v451 : Value).ownBlock) rfl rfl ?aO ?aR (fun _ hk => hk) ?aF ?aB ?aS ?aL ?_
                  (case aR => exact (by skip; exact Kd.V_F (Kd.V_mono (ok' := (fun k_ => ((fun k_ => (P0_0_ k_ ∨ w.heap.size ≤ k_) ∧ some k_ ≠ (.slice none 0 0 : Value).ownBlock ∧ some k_ ≠ (.slice Ao87 t446.length co87 : Value).ownBlock ∧ k_ ≠ gb403 ∧ k_ ≠ gb404 ∧ k_ ≠ gb405)) k_ ∧ some k_ ≠ (v451 : Value).ownBlock)) (HO457.out) (fun k_ hk => ⟨⟨hk.1.1.1, ⟨hk.1.1.2.1, ⟨hk.1.2, ⟨hk.1.1.2.2.1, ⟨hk.1.1.2.2.2.1, hk.1.1.2.2.2.2⟩⟩⟩⟩⟩, hk.2⟩))))
                  (case aB => exact bl)
                  (case aF => exact (fun k_ hk => ⟨(.inr (Nat.le_trans (below_size bl) hk)), Kd.fresh' (Kd.R_lt (uR HO_7.out)) k_ hk, Kd.fresh' (Kd.R_lt (uR HO449.out)) k_ hk, Kd.freshB (g := gb403) (o := .cells #[.slice A0_0 l0_0.length c0_0] 24 (0, 0)) (uB BK403.out) k_ hk, Kd.freshB (g := gb404) (o := .cells #[.int .i64 a1_0, .int .i64 a1_1, .string a1_2, .int .i64 a1_3] 26 (0, 0)) (uB BK404.out) k_ hk, Kd.freshB (g := gb405) (o := .cells #[.slice none 0 0] 24 (0, 0)) (uB BK405.out) k_ hk⟩))
                  (case aO => exact (by (with_reducible repeat (first | apply Kd.N_alloc | apply Kd.N_drewN | apply Kd.N_drew)); exact HO452.out))
                  (case aS => exact (below_size bl))
                  (case aL => have := LMc78.out; omega)
                  intro v459 w90 ho hb hg hat
                  rw [← Ny458.out] at ho
                  replace HO_7 := Aside0.mk (Kd.R_over' (uR HO_7.out) (Kd.N_typed (by (with_reducible repeat (first | apply Kd.N_alloc | apply Kd.N_drewN | apply Kd.N_drew)); exact HO452.out)) (by decide) hg)
                  replace HO_8 := Aside0.mk (Kd.V_afterv (ok := (fun k_ => (P0_0_ k_ ∨ w.heap.size ≤ k_) ∧ some k_ ≠ (.slice none 0 0 : Value).ownBlock ∧ some k_ ≠ (.slice Ao87 t446.length co87 : Value).ownBlock ∧ k_ ≠ gb403 ∧ k_ ≠ gb404 ∧ k_ ≠ gb405)) (by exact uV <| Kd.V_mono HO_8.out (fun _ hk => ⟨⟨hk.1.1.1, ⟨hk.1.1.2.1, ⟨hk.1.2, ⟨hk.1.1.2.2.1, ⟨hk.1.1.2.2.2.1, hk.1.1.2.2.2.2⟩⟩⟩⟩⟩, hk.2⟩)) hg hat)
                  replace HO_404000 := Aside0.mk (Kd.V_afterv (ok := (fun k_ => (P0_0_ k_ ∨ w.heap.size ≤ k_) ∧ some k_ ≠ (.slice none 0 0 : Value).ownBlock ∧ some k_ ≠ (.slice Ao87 t446.length co87 : Value).ownBlock ∧ k_ ≠ gb403 ∧ k_ ≠ gb404 ∧ k_ ≠ gb405)) (by exact uV <| Kd.V_mono HO_404000.out (fun _ hk => ⟨⟨hk.1.1.1, ⟨hk.1.1.2.1, ⟨hk.1.2, ⟨hk.1.1.2.2.1, ⟨hk.1.1.2.2.2.1, hk.1.1.2.2.2.2⟩⟩⟩⟩⟩, hk.2⟩)) hg hat)
                  replace BK403 := Aside0.mk (blk_grown (g := gb403) (o := .cells #[.slice A0_0 l0_0.length c0_0] 24 (0, 0)) (uB BK403.out) hg (Kd.N_ne HO452.out BK403.out (by decide)))
                  replace BK404 := Aside0.mk (blk_grown (g := gb404) (o := .cells #[.int .i64 a1_0, .int .i64 a1_1, .string a1_2, .int .i64 a1_3] 26 (0, 0)) (uB BK404.out) hg (Kd.N_ne HO452.out BK404.out (by decide)))
                  replace BK405 := Aside0.mk (blk_grown (g := gb405) (o := .cells #[.slice none 0 0] 24 (0, 0)) (uB BK405.out) hg (Kd.N_ne HO452.out BK405.out (by decide)))
                  replace HO449 := Aside0.mk (Kd.R_over' (uR HO449.out) (Kd.N_typed (by (with_reducible repeat (first | apply Kd.N_alloc | apply Kd.N_drewN | apply Kd.N_drew)); exact HO452.out)) (by decide) hg)
                  replace HO457 := Aside0.mk (Kd.V_afterv (ok := (fun k_ => (P0_0_ k_ ∨ w.heap.size ≤ k_) ∧ some k_ ≠ (.slice none 0 0 : Value).ownBlock ∧ some k_ ≠ (.slice Ao87 t446.length co87 : Value).ownBlock ∧ k_ ≠ gb403 ∧ k_ ≠ gb404 ∧ k_ ≠ gb405)) (by exact uV <| Kd.V_mono HO457.out (fun _ hk => ⟨⟨hk.1.1.1, ⟨hk.1.1.2.1, ⟨hk.1.2, ⟨hk.1.1.2.2.1, ⟨hk.1.1.2.2.2.1, hk.1.1.2.2.2.2⟩⟩⟩⟩⟩, hk.2⟩)) hg hat)
                  replace HB := Aside0.mk (hb)
                  have HO460 := Aside0.mk (ho)
                  clear HO452
                  clear ho hb hg hat
                  refine hK.out _ _ ⟨(blk_cell BK403.out 0).trans rfl, (blk_cell BK404.out 0).trans rfl, (blk_cell BK404.out 1).trans rfl, (blk_cell BK404.out 2).trans rfl, (blk_cell BK404.out 3).trans rfl⟩ (fun hHeld => ?_)
                  clear hK K
                  refine norm_ (a' := ?_) ?_ ?_
                  rotate_left
                  ·
                   show Act.put _ (some 83) _ = _
                   simp only [Act.put, List.setIfInBounds_toArray, List.set_cons_zero, List.set_cons_succ, i64_w, i32_w]
                   rfl
                  refine o1 12 (some 90) rfl rfl (fun K hK => ?_)
                  refine Kd.N_lit_step k59 _ 59 ?hg (N' := 90) ?hd (xs := ([(⟨a1_1, a1_2, t446⟩ : S59)] : List (S59))) (inner := [.int .i64 a1_1, .string a1_2, .slice Ao87 t446.length co87]) (ok := (fun k_ => (P0_0_ k_ ∨ w.heap.size ≤ k_) ∧ some k_ ≠ (.slice none 0 0 : Value).ownBlock ∧ some k_ ≠ (v459 : Value).ownBlock ∧ k_ ≠ gb403 ∧ k_ ≠ gb404 ∧ k_ ≠ gb405)) (okp := (fun k_ => (P0_0_ k_ ∨ w.heap.size ≤ k_) ∧ some k_ ≠ (.slice none 0 0 : Value).ownBlock ∧ some k_ ≠ (v459 : Value).ownBlock ∧ k_ ≠ gb403 ∧ k_ ≠ gb404 ∧ k_ ≠ gb405)) ?hr ?hp (fun _ hk => hk) ((show ∀ k_, w90.heap.size ≤ k_ → (fun k_ => (P0_0_ k_ ∨ w.heap.size ≤ k_) ∧ some k_ ≠ (.slice none 0 0 : Value).ownBlock ∧ some k_ ≠ (v459 : Value).ownBlock ∧ k_ ≠ gb403 ∧ k_ ≠ gb404 ∧ k_ ≠ gb405) k_ from fun k_ hk => ⟨(.inr (Nat.le_trans (below_size bl) hk)), Kd.fresh' (Kd.R_lt (uR HO_7.out)) k_ hk, Kd.fresh' (Kd.N_lt (by (with_reducible repeat (first | apply Kd.N_alloc | apply Kd.N_drewN | apply Kd.N_drew)); exact HO460.out)) k_ hk, Kd.freshB (g := gb403) (o := .cells #[.slice A0_0 l0_0.length c0_0] 24 (0, 0)) (uB BK403.out) k_ hk, Kd.freshB (g := gb404) (o := .cells #[.int .i64 a1_0, .int .i64 a1_1, .string a1_2, .int .i64 a1_3] 26 (0, 0)) (uB BK404.out) k_ hk, Kd.freshB (g := gb405) (o := .cells #[.slice none 0 0] 24 (0, 0)) (uB BK405.out) k_ hk⟩) _ (Nat.le_refl _)) (Below.refl _ _) (Nat.le_refl _) (by simp) ?_; (case hd => rfl); (case hg => rfl); (case hr => first | (go_simp; done) | (go_simp; rfl)); (case hp => exact (Reps.c3 (show Kd.FK k59 _ _ (⟨a1_1, a1_2, t446⟩ : S59) [.int .i64 a1_1, .string a1_2, .slice Ao87 t446.length co87] from (k59_mkF _ _ (⟨a1_1, a1_2, t446⟩ : S59) (Kd.R_reads' (Kd.R_mono (ok' := (fun k_ => (P0_0_ k_ ∨ w.heap.size ≤ k_) ∧ some k_ ≠ (.slice none 0 0 : Value).ownBlock ∧ some k_ ≠ (v459 : Value).ownBlock ∧ k_ ≠ gb403 ∧ k_ ≠ gb404 ∧ k_ ≠ gb405)) (Kd.R_types (Kd.R_types (Kd.R_types (Kd.R_apart' (HO449.out) (Kd.N_typed HO460.out) (by decide)) BK403.out (by decide)) BK404.out (by decide)) BK405.out (by decide)) (fun k_ hk => ⟨(.inr (hk.1.1.1.1.1.1)), ⟨hk.1.1.1.1.2, ⟨hk.1.1.1.2, ⟨hk.1.1.2, ⟨hk.1.2, hk.2⟩⟩⟩⟩⟩))).2.1 (Kd.R_F (Kd.R_mono (ok' := (fun k_ => (P0_0_ k_ ∨ w.heap.size ≤ k_) ∧ some k_ ≠ (.slice none 0 0 : Value).ownBlock ∧ some k_ ≠ (v459 : Value).ownBlock ∧ k_ ≠ gb403 ∧ k_ ≠ gb404 ∧ k_ ≠ gb405)) (Kd.R_types (Kd.R_types (Kd.R_types (Kd.R_apart' (HO449.out) (Kd.N_typed HO460.out) (by decide)) BK403.out (by decide)) BK404.out (by decide)) BK405.out (by decide)) (fun k_ hk => ⟨(.inr (hk.1.1.1.1.1.1)), ⟨hk.1.1.1.1.2, ⟨hk.1.1.1.2, ⟨hk.1.1.2, ⟨hk.1.2, hk.2⟩⟩⟩⟩⟩))))) (Reps.none _ _)))
                  intro v462 w91 ho92 hb hg_ hnew_
                  clear hg_ hnew_
                  (first | rw [← Ny461.out] at ho92 | (simp only [Int.reduceToNat] at ho92; rw [← Ny461.out] at ho92))
                  replace HO_7 := cR HO_7 hb
                  replace HO_8 := Aside0.mk (Kd.V_elder' (uV HO_8.out) (Kd.N_base ho92) hb)
                  replace HO_404000 := Aside0.mk (Kd.V_elder' (uV HO_404000.out) (Kd.N_base ho92) hb)
                  replace HO457 := Aside0.mk (Kd.V_elder' (uV HO457.out) (Kd.N_base ho92) hb)
                  replace HO460 := Aside0.mk (Kd.N_elder' (by (with_reducible repeat (first | apply Kd.N_alloc | apply Kd.N_drewN | apply Kd.N_drew)); exact HO460.out) (Kd.N_base ho92) hb)
                  have HO463 := Aside0.mk (Kd.N_lower ho92 (below_size bl))
                  replace BK403 := cB BK403 hb
                  replace BK404 := cB BK404 hb
                  replace BK405 := cB BK405 hb
                  replace HB := Aside0.mk (below_step bl hb)
                  clear HO449
                  clear hb ho92
                  refine hK.out _ _ ⟨(blk_cell BK403.out 0).trans rfl, (blk_cell BK404.out 0).trans rfl, (blk_cell BK404.out 1).trans rfl, (blk_cell BK404.out 2).trans rfl, (blk_cell BK404.out 3).trans rfl⟩ (fun hHeld => ?_)
                  clear hK K
                  refine norm_ (a' := ?_) ?_ ?_
                  rotate_left
                  ·
                   show Act.put _ (some 90) _ = _
                   simp only [Act.put, List.setIfInBounds_toArray, List.set_cons_zero, List.set_cons_succ, i64_w, i32_w]
                   rfl
                  exact norm_ (by simp only [putAll, Act.put, List.setIfInBounds_toArray, List.set_cons_zero, List.set_cons_succ]) (hCont (v451, v459, v462) _ ⟨hHeld, (by exact uV <| Kd.V_mono HO457.out (fun _ hk => ⟨hk.1.1.1, ⟨hk.1.2, ⟨hk.2, ⟨hk.1.1.2.1, ⟨hk.1.1.2.2.2.1, ⟨hk.1.1.2.2.2.2.1, hk.1.1.2.2.2.2.2⟩⟩⟩⟩⟩⟩)), (by (with_reducible repeat (first | apply Kd.N_alloc | apply Kd.N_drewN | apply Kd.N_drew)); exact Kd.N_mono HO460.out (fun _ hk => ⟨hk.1.1, ⟨hk.2, ⟨hk.1.2.1, ⟨hk.1.2.2.2.1, ⟨hk.1.2.2.2.2.1, hk.1.2.2.2.2.2⟩⟩⟩⟩⟩)), (by (with_reducible repeat (first | apply Kd.N_alloc | apply Kd.N_drewN | apply Kd.N_drew)); exact Kd.N_mono HO463.out (fun _ hk => ⟨hk.1, ⟨hk.2.2.1, ⟨hk.2.1, ⟨hk.2.2.2.1, ⟨hk.2.2.2.2.1, hk.2.2.2.2.2⟩⟩⟩⟩⟩)), (by exact uV <| Kd.V_mono HO_404000.out (fun _ hk => ⟨hk.1.1.1, ⟨hk.1.2, ⟨hk.2, ⟨hk.1.1.2.1, ⟨hk.1.1.2.2.2.1, ⟨hk.1.1.2.2.2.2.1, hk.1.1.2.2.2.2.2⟩⟩⟩⟩⟩⟩)), (by exact uR <| Kd.R_mono HO_7.out (fun _ hk => hk.1)), (by exact uV <| Kd.V_mono HO_8.out (fun _ hk => ⟨hk.1.1.1, ⟨hk.1.2, ⟨hk.2, ⟨hk.1.1.2.1, ⟨hk.1.1.2.2.2.1, ⟨hk.1.1.2.2.2.2.1, hk.1.1.2.2.2.2.2⟩⟩⟩⟩⟩⟩)), (uB BK403.out), (uB BK404.out), (uB BK405.out), bl⟩)
                 ·
                  skip
                  refine Kd.N_lit_step k59 _ 59 ?hg (N' := 90) ?hd (xs := ([(⟨a1_1, a1_2, t446⟩ : S59)] : List (S59))) (inner := [.int .i64 a1_1, .string a1_2, .slice Ao87 t446.length co87]) (ok := (fun k_ => (P0_0_ k_ ∨ w.heap.size ≤ k_) ∧ some k_ ≠ (.slice none 0 0 : Value).ownBlock ∧ some k_ ≠ (v451 : Value).ownBlock ∧ k_ ≠ gb403 ∧ k_ ≠ gb404 ∧ k_ ≠ gb405)) (okp := (fun k_ => (P0_0_ k_ ∨ w.heap.size ≤ k_) ∧ some k_ ≠ (.slice none 0 0 : Value).ownBlock ∧ some k_ ≠ (v451 : Value).ownBlock ∧ k_ ≠ gb403 ∧ k_ ≠ gb404 ∧ k_ ≠ gb405)) ?hr ?hp (fun _ hk => hk) ((show ∀ k_, w88.heap.size ≤ k_ → (fun k_ => (P0_0_ k_ ∨ w.heap.size ≤ k_) ∧ some k_ ≠ (.slice none 0 0 : Value).ownBlock ∧ some k_ ≠ (v451 : Value).ownBlock ∧ k_ ≠ gb403 ∧ k_ ≠ gb404 ∧ k_ ≠ gb405) k_ from fun k_ hk => ⟨(.inr (Nat.le_trans (below_size bl) hk)), Kd.fresh' (Kd.R_lt (uR HO_7.out)) k_ hk, Kd.fresh' (Kd.N_lt (by (with_reducible repeat (first | apply Kd.N_alloc | apply Kd.N_drewN | apply Kd.N_drew)); exact HO452.out)) k_ hk, Kd.freshB (g := gb403) (o := .cells #[.slice A0_0 l0_0.length c0_0] 24 (0, 0)) (uB BK403.out) k_ hk, Kd.freshB (g := gb404) (o := .cells #[.int .i64 a1_0, .int .i64 a1_1, .string a1_2, .int .i64 a1_3] 26 (0, 0)) (uB BK404.out) k_ hk, Kd.freshB (g := gb405) (o := .cells #[.slice none 0 0] 24 (0, 0)) (uB BK405.out) k_ hk⟩) _ (Nat.le_refl _)) (Below.refl _ _) (Nat.le_refl _) (by simp) ?_; (case hd => rfl); (case hg => rfl); (case hr => first | (go_simp; done) | (go_simp; rfl)); (case hp => exact (Reps.c3 (show Kd.FK k59 _ _ (⟨a1_1, a1_2, t446⟩ : S59) [.int .i64 a1_1, .string a1_2, .slice Ao87 t446.length co87] from (k59_mkF _ _ (⟨a1_1, a1_2, t446⟩ : S59) (Kd.R_reads' (Kd.R_mono (ok' := (fun k_ => (P0_0_ k_ ∨ w.heap.size ≤ k_) ∧ some k_ ≠ (.slice none 0 0 : Value).ownBlock ∧ some k_ ≠ (v451 : Value).ownBlock ∧ k_ ≠ gb403 ∧ k_ ≠ gb404 ∧ k_ ≠ gb405)) (Kd.R_types (Kd.R_types (Kd.R_types (Kd.R_apart' (HO449.out) (Kd.N_typed HO452.out) (by decide)) BK403.out (by decide)) BK404.out (by decide)) BK405.out (by decide)) (fun k_ hk => ⟨(.inr (hk.1.1.1.1.1.1)), ⟨hk.1.1.1.1.2, ⟨hk.1.1.1.2, ⟨hk.1.1.2, ⟨hk.1.2, hk.2⟩⟩⟩⟩⟩))).2.1 (Kd.R_F (Kd.R_mono (ok' := (fun k_ => (P0_0_ k_ ∨ w.heap.size ≤ k_) ∧ some k_ ≠ (.slice none 0 0 : Value).ownBlock ∧ some k_ ≠ (v451 : Value).ownBlock ∧ k_ ≠ gb403 ∧ k_ ≠ gb404 ∧ k_ ≠ gb405)) (Kd.R_types (Kd.R_types (Kd.R_types (Kd.R_apart' (HO449.out) (Kd.N_typed HO452.out) (by decide)) BK403.out (by decide)) BK404.out (by decide)) BK405.out (by decide)) (fun k_ hk => ⟨(.inr (hk.1.1.1.1.1.1)), ⟨hk.1.1.1.1.2, ⟨hk.1.1.1.2, ⟨hk.1.1.2, ⟨hk.1.2, hk.2⟩⟩⟩⟩⟩))))) (Reps.none _ _)))
                  intro v462 w90 ho91 hb hg_ hnew_
                  clear hg_ hnew_
                  (first | rw [← Ny461.out] at ho91 | (simp only [Int.reduceToNat] at ho91; rw [← Ny461.out] at ho91))
                  replace HO_7 := cR HO_7 hb
                  replace HO_8 := Aside0.mk (Kd.V_elder' (uV HO_8.out) (Kd.N_base ho91) hb)
                  replace HO_404000 := Aside0.mk (Kd.V_elder' (uV HO_404000.out) (Kd.N_base ho91) hb)
                  replace HO457 := Aside0.mk (Kd.V_elder' (uV HO457.out) (Kd.N_base ho91) hb)
                  replace HO452 := Aside0.mk (Kd.N_elder' (by (with_reducible repeat (first | apply Kd.N_alloc | apply Kd.N_drewN | apply Kd.N_drew)); exact HO452.out) (Kd.N_base ho91) hb)
                  have HO463 := Aside0.mk (Kd.N_lower ho91 (below_size bl))
                  replace BK403 := cB BK403 hb
                  replace BK404 := cB BK404 hb
                  replace BK405 := cB BK405 hb
                  replace HB := Aside0.mk (below_step bl hb)
                  clear HO449
                  clear hb ho91
                  refine hK.out _ _ ⟨(blk_cell BK403.out 0).trans rfl, (blk_cell BK404.out 0).trans rfl, (blk_cell BK404.out 1).trans rfl, (blk_cell BK404.out 2).trans rfl, (blk_cell BK404.out 3).trans rfl⟩ (fun hHeld => ?_)
                  clear hK K
                  refine norm_ (a' := ?_) ?_ ?_
                  rotate_left
                  ·
                   show Act.put _ (some 90) _ = _
                   simp only [Act.put, List.setIfInBounds_toArray, List.set_cons_zero, List.set_cons_succ, i64_w, i32_w]
                   rfl
                  refine o1 5 (some 83) rfl rfl (fun K hK => ?_)
                  refine Kd.N_append_rows_step k59 (w0 := w) w.heap.size (by rfl) (.tmp 78) (.tmp 82) 22 59 (.agg #[(.int .i64 0), (.string ⟨#[]⟩), (.slice none 0 0)]) 48 rfl Try.underlying22 info59 rfl (by decide) (by omega) v451 y450 y453 _ _ _ (fun k_ => (P0_0_ k_ ∨ w.heap.size ≤ k_) ∧ some k_ ≠ (.slice none 0 0 : Value).ownBlock ∧ some k_ ≠ (v462 : Value).ownBlock ∧ k_ ≠ gb403 ∧ k_ ≠ gb404 ∧ k_ ≠ gb405) (fun k_ => ((fun k_ => (P0_0_ k_ ∨ w.heap.size ≤ k_) ∧ some k_ ≠ (.slice none 0 0 : Value).ownBlock ∧ some k_ ≠ (v462 : Value).ownBlock ∧ k_ ≠ gb403 ∧ k_ ≠ gb404 ∧ k_ ≠ gb405)) k_ ∧ some k_ ≠ (v451 : Value).ownBlock) rfl rfl ?aO ?aR (fun _ hk => hk) ?aF ?aB ?aS ?aL ?_
                  (case aR => exact (by skip; exact Kd.V_F (Kd.V_mono (ok' := (fun k_ => ((fun k_ => (P0_0_ k_ ∨ w.heap.size ≤ k_) ∧ some k_ ≠ (.slice none 0 0 : Value).ownBlock ∧ some k_ ≠ (v462 : Value).ownBlock ∧ k_ ≠ gb403 ∧ k_ ≠ gb404 ∧ k_ ≠ gb405)) k_ ∧ some k_ ≠ (v451 : Value).ownBlock)) (HO457.out) (fun k_ hk => ⟨⟨hk.1.1.1.1, ⟨hk.1.1.1.2.1, ⟨hk.2, ⟨hk.1.1.1.2.2.1, ⟨hk.1.1.1.2.2.2.1, hk.1.1.1.2.2.2.2⟩⟩⟩⟩⟩, hk.1.2⟩))))
                  (case aB => exact bl)
                  (case aF => exact (fun k_ hk => ⟨(.inr (Nat.le_trans (below_size bl) hk)), Kd.fresh' (Kd.R_lt (uR HO_7.out)) k_ hk, Kd.fresh' (Kd.N_lt (by (with_reducible repeat (first | apply Kd.N_alloc | apply Kd.N_drewN | apply Kd.N_drew)); exact HO463.out)) k_ hk, Kd.freshB (g := gb403) (o := .cells #[.slice A0_0 l0_0.length c0_0] 24 (0, 0)) (uB BK403.out) k_ hk, Kd.freshB (g := gb404) (o := .cells #[.int .i64 a1_0, .int .i64 a1_1, .string a1_2, .int .i64 a1_3] 26 (0, 0)) (uB BK404.out) k_ hk, Kd.freshB (g := gb405) (o := .cells #[.slice none 0 0] 24 (0, 0)) (uB BK405.out) k_ hk⟩))
                  (case aO => exact (by (with_reducible repeat (first | apply Kd.N_alloc | apply Kd.N_drewN | apply Kd.N_drew)); exact Kd.N_mono HO452.out (fun _ hk => ⟨hk.1.1, ⟨hk.1.2.1, ⟨hk.2, ⟨hk.1.2.2.2.1, ⟨hk.1.2.2.2.2.1, hk.1.2.2.2.2.2⟩⟩⟩⟩⟩)))
                  (case aS => exact (below_size bl))
                  (case aL => have := LMc78.out; omega)
                  intro v459 w92 ho hb hg hat
                  rw [← Ny458.out] at ho
                  replace HO_7 := Aside0.mk (Kd.R_over' (uR HO_7.out) (Kd.N_typed (by (with_reducible repeat (first | apply Kd.N_alloc | apply Kd.N_drewN | apply Kd.N_drew)); exact HO452.out)) (by decide) hg)
                  replace HO_8 := Aside0.mk (Kd.V_afterv (ok := (fun k_ => (P0_0_ k_ ∨ w.heap.size ≤ k_) ∧ some k_ ≠ (.slice none 0 0 : Value).ownBlock ∧ some k_ ≠ (v462 : Value).ownBlock ∧ k_ ≠ gb403 ∧ k_ ≠ gb404 ∧ k_ ≠ gb405)) (by exact uV <| Kd.V_mono HO_8.out (fun _ hk => ⟨⟨hk.1.1.1.1, ⟨hk.1.1.1.2.1, ⟨hk.2, ⟨hk.1.1.1.2.2.1, ⟨hk.1.1.1.2.2.2.1, hk.1.1.1.2.2.2.2⟩⟩⟩⟩⟩, hk.1.2⟩)) hg hat)
                  replace HO_404000 := Aside0.mk (Kd.V_afterv (ok := (fun k_ => (P0_0_ k_ ∨ w.heap.size ≤ k_) ∧ some k_ ≠ (.slice none 0 0 : Value).ownBlock ∧ some k_ ≠ (v462 : Value).ownBlock ∧ k_ ≠ gb403 ∧ k_ ≠ gb404 ∧ k_ ≠ gb405)) (by exact uV <| Kd.V_mono HO_404000.out (fun _ hk => ⟨⟨hk.1.1.1.1, ⟨hk.1.1.1.2.1, ⟨hk.2, ⟨hk.1.1.1.2.2.1, ⟨hk.1.1.1.2.2.2.1, hk.1.1.1.2.2.2.2⟩⟩⟩⟩⟩, hk.1.2⟩)) hg hat)
                  replace BK403 := Aside0.mk (blk_grown (g := gb403) (o := .cells #[.slice A0_0 l0_0.length c0_0] 24 (0, 0)) (uB BK403.out) hg (Kd.N_ne HO452.out BK403.out (by decide)))
                  replace BK404 := Aside0.mk (blk_grown (g := gb404) (o := .cells #[.int .i64 a1_0, .int .i64 a1_1, .string a1_2, .int .i64 a1_3] 26 (0, 0)) (uB BK404.out) hg (Kd.N_ne HO452.out BK404.out (by decide)))
                  replace BK405 := Aside0.mk (blk_grown (g := gb405) (o := .cells #[.slice none 0 0] 24 (0, 0)) (uB BK405.out) hg (Kd.N_ne HO452.out BK405.out (by decide)))
                  replace HO457 := Aside0.mk (Kd.V_afterv (ok := (fun k_ => (P0_0_ k_ ∨ w.heap.size ≤ k_) ∧ some k_ ≠ (.slice none 0 0 : Value).ownBlock ∧ some k_ ≠ (v462 : Value).ownBlock ∧ k_ ≠ gb403 ∧ k_ ≠ gb404 ∧ k_ ≠ gb405)) (by exact uV <| Kd.V_mono HO457.out (fun _ hk => ⟨⟨hk.1.1.1.1, ⟨hk.1.1.1.2.1, ⟨hk.2, ⟨hk.1.1.1.2.2.1, ⟨hk.1.1.1.2.2.2.1, hk.1.1.1.2.2.2.2⟩⟩⟩⟩⟩, hk.1.2⟩)) hg hat)
                  replace HO463 := Aside0.mk (Kd.N_afterv (ok := (fun k_ => (P0_0_ k_ ∨ w.heap.size ≤ k_) ∧ some k_ ≠ (.slice none 0 0 : Value).ownBlock ∧ k_ ≠ gb403 ∧ k_ ≠ gb404 ∧ k_ ≠ gb405)) (by (with_reducible repeat (first | apply Kd.N_alloc | apply Kd.N_drewN | apply Kd.N_drew)); exact Kd.N_mono HO463.out (fun _ hk => ⟨⟨hk.1, ⟨hk.2.1, ⟨hk.2.2.2.1, ⟨hk.2.2.2.2.1, hk.2.2.2.2.2⟩⟩⟩⟩, hk.2.2.1⟩)) hg hat)
                  replace HB := Aside0.mk (hb)
                  have HO460 := Aside0.mk (ho)
                  clear HO452
                  clear ho hb hg hat
                  refine hK.out _ _ ⟨(blk_cell BK403.out 0).trans rfl, (blk_cell BK404.out 0).trans rfl, (blk_cell BK404.out 1).trans rfl, (blk_cell BK404.out 2).trans rfl, (blk_cell BK404.out 3).trans rfl⟩ (fun hHeld => ?_)
                  clear hK K
                  refine norm_ (a' := ?_) ?_ ?_
                  rotate_left
                  ·
                   show Act.put _ (some 83) _ = _
                   simp only [Act.put, List.setIfInBounds_toArray, List.set_cons_zero, List.set_cons_succ, i64_w, i32_w]
                   rfl
                  exact norm_ (by simp only [putAll, Act.put, List.setIfInBounds_toArray, List.set_cons_zero, List.set_cons_succ]) (hCont (v451, v459, v462) _ ⟨hHeld, (by exact uV <| Kd.V_mono HO457.out (fun _ hk => ⟨hk.1.1, ⟨hk.2, ⟨hk.1.2.2.1, ⟨hk.1.2.1, ⟨hk.1.2.2.2.1, ⟨hk.1.2.2.2.2.1, hk.1.2.2.2.2.2⟩⟩⟩⟩⟩⟩)), (by (with_reducible repeat (first | apply Kd.N_alloc | apply Kd.N_drewN | apply Kd.N_drew)); exact Kd.N_mono HO460.out (fun _ hk => ⟨hk.1, ⟨hk.2.2.1, ⟨hk.2.1, ⟨hk.2.2.2.1, ⟨hk.2.2.2.2.1, hk.2.2.2.2.2⟩⟩⟩⟩⟩)), (by (with_reducible repeat (first | apply Kd.N_alloc | apply Kd.N_drewN | apply Kd.N_drew)); exact Kd.N_mono HO463.out (fun _ hk => ⟨hk.1.1, ⟨hk.2, ⟨hk.1.2.1, ⟨hk.1.2.2.1, ⟨hk.1.2.2.2.1, hk.1.2.2.2.2⟩⟩⟩⟩⟩)), (by exact uV <| Kd.V_mono HO_404000.out (fun _ hk => ⟨hk.1.1, ⟨hk.2, ⟨hk.1.2.2.1, ⟨hk.1.2.1, ⟨hk.1.2.2.2.1, ⟨hk.1.2.2.2.2.1, hk.1.2.2.2.2.2⟩⟩⟩⟩⟩⟩)), (by exact uR <| Kd.R_mono HO_7.out (fun _ hk => hk.1)), (by exact uV <| Kd.V_mono HO_8.out (fun _ hk => ⟨hk.1.1, ⟨hk.2, ⟨hk.1.2.2.1, ⟨hk.1.2.1, ⟨hk.1.2.2.2.1, ⟨hk.1.2.2.2.2.1, hk.1.2.2.2.2.2⟩⟩⟩⟩⟩⟩)), (uB BK403.out), (uB BK404.out), (uB BK405.out), bl⟩)
                ·
                 skip
                 refine Kd.N_lit_step k59 _ 59 ?hg (N' := 90) ?hd (xs := ([(⟨a1_1, a1_2, t446⟩ : S59)] : List (S59))) (inner := [.int .i64 a1_1, .string a1_2, .slice Ao87 t446.length co87]) (ok := (fun k_ => (P0_0_ k_ ∨ w.heap.size ≤ k_) ∧ some k_ ≠ (.slice none 0 0 : Value).ownBlock ∧ k_ ≠ gb403 ∧ k_ ≠ gb404 ∧ k_ ≠ gb405)) (okp := (fun k_ => (P0_0_ k_ ∨ w.heap.size ≤ k_) ∧ some k_ ≠ (.slice none 0 0 : Value).ownBlock ∧ k_ ≠ gb403 ∧ k_ ≠ gb404 ∧ k_ ≠ gb405)) ?hr ?hp (fun _ hk => hk) ((show ∀ k_, w85.heap.size ≤ k_ → (fun k_ => (P0_0_ k_ ∨ w.heap.size ≤ k_) ∧ some k_ ≠ (.slice none 0 0 : Value).ownBlock ∧ k_ ≠ gb403 ∧ k_ ≠ gb404 ∧ k_ ≠ gb405) k_ from fun k_ hk => ⟨(.inr (Nat.le_trans (below_size bl) hk)), Kd.fresh' (Kd.R_lt (uR HO_7.out)) k_ hk, Kd.freshB (g := gb403) (o := .cells #[.slice A0_0 l0_0.length c0_0] 24 (0, 0)) (uB BK403.out) k_ hk, Kd.freshB (g := gb404) (o := .cells #[.int .i64 a1_0, .int .i64 a1_1, .string a1_2, .int .i64 a1_3] 26 (0, 0)) (uB BK404.out) k_ hk, Kd.freshB (g := gb405) (o := .cells #[.slice none 0 0] 24 (0, 0)) (uB BK405.out) k_ hk⟩) _ (Nat.le_refl _)) (Below.refl _ _) (Nat.le_refl _) (by simp) ?_; (case hd => rfl); (case hg => rfl); (case hr => first | (go_simp; done) | (go_simp; rfl)); (case hp => exact (Reps.c3 (show Kd.FK k59 _ _ (⟨a1_1, a1_2, t446⟩ : S59) [.int .i64 a1_1, .string a1_2, .slice Ao87 t446.length co87] from (k59_mkF _ _ (⟨a1_1, a1_2, t446⟩ : S59) (Kd.R_reads' (Kd.R_mono (ok' := (fun k_ => (P0_0_ k_ ∨ w.heap.size ≤ k_) ∧ some k_ ≠ (.slice none 0 0 : Value).ownBlock ∧ k_ ≠ gb403 ∧ k_ ≠ gb404 ∧ k_ ≠ gb405)) (Kd.R_types (Kd.R_types (Kd.R_types (HO449.out) BK403.out (by decide)) BK404.out (by decide)) BK405.out (by decide)) (fun k_ hk => ⟨(.inr (hk.1.1.1.1.1)), ⟨hk.1.1.1.2, ⟨hk.1.1.2, ⟨hk.1.2, hk.2⟩⟩⟩⟩))).2.1 (Kd.R_F (Kd.R_mono (ok' := (fun k_ => (P0_0_ k_ ∨ w.heap.size ≤ k_) ∧ some k_ ≠ (.slice none 0 0 : Value).ownBlock ∧ k_ ≠ gb403 ∧ k_ ≠ gb404 ∧ k_ ≠ gb405)) (Kd.R_types (Kd.R_types (Kd.R_types (HO449.out) BK403.out (by decide)) BK404.out (by decide)) BK405.out (by decide)) (fun k_ hk => ⟨(.inr (hk.1.1.1.1.1)), ⟨hk.1.1.1.2, ⟨hk.1.1.2, ⟨hk.1.2, hk.2⟩⟩⟩⟩))))) (Reps.none _ _)))
                 intro v462 w88 ho89 hb hg_ hnew_
                 clear hg_ hnew_
                 (first | rw [← Ny461.out] at ho89 | (simp only [Int.reduceToNat] at ho89; rw [← Ny461.out] at ho89))
                 replace HO_7 := cR HO_7 hb
                 replace HO_8 := Aside0.mk (Kd.V_elder' (uV HO_8.out) (Kd.N_base ho89) hb)
                 replace HO_404000 := Aside0.mk (Kd.V_elder' (uV HO_404000.out) (Kd.N_base ho89) hb)
                 replace HO457 := Aside0.mk (Kd.V_elder' (uV HO457.out) (Kd.N_base ho89) hb)
                 have HO463 := Aside0.mk (Kd.N_lower ho89 (below_size bl))
                 replace BK403 := cB BK403 hb
                 replace BK404 := cB BK404 hb
                 replace BK405 := cB BK405 hb
                 replace HB := Aside0.mk (below_step bl hb)
                 clear HO449
                 clear hb ho89
                 refine hK.out _ _ ⟨(blk_cell BK403.out 0).trans rfl, (blk_cell BK404.out 0).trans rfl, (blk_cell BK404.out 1).trans rfl, (blk_cell BK404.out 2).trans rfl, (blk_cell BK404.out 3).trans rfl⟩ (fun hHeld => ?_)
                 clear hK K
                 refine norm_ (a' := ?_) ?_ ?_
                 rotate_left
                 ·
                  show Act.put _ (some 90) _ = _
                  simp only [Act.put, List.setIfInBounds_toArray, List.set_cons_zero, List.set_cons_succ, i64_w, i32_w]
                  rfl
                 refine o1 0 (some 78) rfl rfl (fun K hK => ?_)
                 refine Kd.N_lit_step k59 _ 59 ?hg (N' := 78) ?hd (xs := ([] : List (S59))) (inner := []) (ok := (fun k_ => (P0_0_ k_ ∨ w.heap.size ≤ k_) ∧ some k_ ≠ (.slice none 0 0 : Value).ownBlock ∧ some k_ ≠ (v462 : Value).ownBlock ∧ k_ ≠ gb403 ∧ k_ ≠ gb404 ∧ k_ ≠ gb405)) (okp := (fun k_ => (P0_0_ k_ ∨ w.heap.size ≤ k_) ∧ some k_ ≠ (.slice none 0 0 : Value).ownBlock ∧ some k_ ≠ (v462 : Value).ownBlock ∧ k_ ≠ gb403 ∧ k_ ≠ gb404 ∧ k_ ≠ gb405)) ?hr ?hp (fun _ hk => hk) ((show ∀ k_, w88.heap.size ≤ k_ → (fun k_ => (P0_0_ k_ ∨ w.heap.size ≤ k_) ∧ some k_ ≠ (.slice none 0 0 : Value).ownBlock ∧ some k_ ≠ (v462 : Value).ownBlock ∧ k_ ≠ gb403 ∧ k_ ≠ gb404 ∧ k_ ≠ gb405) k_ from fun k_ hk => ⟨(.inr (Nat.le_trans (below_size bl) hk)), Kd.fresh' (Kd.R_lt (uR HO_7.out)) k_ hk, Kd.fresh' (Kd.N_lt (by (with_reducible repeat (first | apply Kd.N_alloc | apply Kd.N_drewN | apply Kd.N_drew)); exact HO463.out)) k_ hk, Kd.freshB (g := gb403) (o := .cells #[.slice A0_0 l0_0.length c0_0] 24 (0, 0)) (uB BK403.out) k_ hk, Kd.freshB (g := gb404) (o := .cells #[.int .i64 a1_0, .int .i64 a1_1, .string a1_2, .int .i64 a1_3] 26 (0, 0)) (uB BK404.out) k_ hk, Kd.freshB (g := gb405) (o := .cells #[.slice none 0 0] 24 (0, 0)) (uB BK405.out) k_ hk⟩) _ (Nat.le_refl _)) (Below.refl _ _) (Nat.le_refl _) (by simp) ?_; (case hd => rfl); (case hg => rfl); (case hr => first | (go_simp; done) | (go_simp; rfl)); (case hp => exact (Reps.none _ _))
                 intro v451 w90 ho91 hb hg_ hnew_
                 clear hg_ hnew_
                 (first | rw [← Ny450.out] at ho91 | (simp only [Int.reduceToNat] at ho91; rw [← Ny450.out] at ho91))
                 replace HO_7 := cR HO_7 hb
                 replace HO_8 := Aside0.mk (Kd.V_elder' (uV HO_8.out) (Kd.N_base ho91) hb)
                 replace HO_404000 := Aside0.mk (Kd.V_elder' (uV HO_404000.out) (Kd.N_base ho91) hb)
                 replace HO457 := Aside0.mk (Kd.V_elder' (uV HO457.out) (Kd.N_base ho91) hb)
                 replace HO463 := Aside0.mk (Kd.N_elder' (by (with_reducible repeat (first | apply Kd.N_alloc | apply Kd.N_drewN | apply Kd.N_drew)); exact HO463.out) (Kd.N_base ho91) hb)
                 have HO452 := Aside0.mk (Kd.N_lower ho91 (below_size bl))
                 replace BK403 := cB BK403 hb
                 replace BK404 := cB BK404 hb
                 replace BK405 := cB BK405 hb
                 replace HB := Aside0.mk (below_step bl hb)
                 clear hb ho91
                 refine hK.out _ _ ⟨(blk_cell BK403.out 0).trans rfl, (blk_cell BK404.out 0).trans rfl, (blk_cell BK404.out 1).trans rfl, (blk_cell BK404.out 2).trans rfl, (blk_cell BK404.out 3).trans rfl⟩ (fun hHeld => ?_)
                 clear hK K
                 refine norm_ (a' := ?_) ?_ ?_
                 rotate_left
                 ·
                  show Act.put _ (some 78) _ = _
                  simp only [Act.put, List.setIfInBounds_toArray, List.set_cons_zero, List.set_cons_succ, i64_w, i32_w]
                  rfl
                 refine o1 5 (some 83) rfl rfl (fun K hK => ?_)
                 refine Kd.N_append_rows_step k59 (w0 := w) w.heap.size (by rfl) (.tmp 78) (.tmp 82) 22 59 (.agg #[(.int .i64 0), (.string ⟨#[]⟩), (.slice none 0 0)]) 48 rfl Try.underlying22 info59 rfl (by decide) (by omega) v451 y450 y453 _ _ _ (fun k_ => (P0_0_ k_ ∨ w.heap.size ≤ k_) ∧ some k_ ≠ (.slice none 0 0 : Value).ownBlock ∧ some k_ ≠ (v462 : Value).ownBlock ∧ k_ ≠ gb403 ∧ k_ ≠ gb404 ∧ k_ ≠ gb405) (fun k_ => ((fun k_ => (P0_0_ k_ ∨ w.heap.size ≤ k_) ∧ some k_ ≠ (.slice none 0 0 : Value).ownBlock ∧ some k_ ≠ (v462 : Value).ownBlock ∧ k_ ≠ gb403 ∧ k_ ≠ gb404 ∧ k_ ≠ gb405)) k_ ∧ some k_ ≠ (v451 : Value).ownBlock) rfl rfl ?aO ?aR (fun _ hk => hk) ?aF ?aB ?aS ?aL ?_
                 (case aR => exact (by skip; exact Kd.V_F (Kd.V_mono (ok' := (fun k_ => ((fun k_ => (P0_0_ k_ ∨ w.heap.size ≤ k_) ∧ some k_ ≠ (.slice none 0 0 : Value).ownBlock ∧ some k_ ≠ (v462 : Value).ownBlock ∧ k_ ≠ gb403 ∧ k_ ≠ gb404 ∧ k_ ≠ gb405)) k_ ∧ some k_ ≠ (v451 : Value).ownBlock)) (HO457.out) (fun k_ hk => ⟨⟨hk.1.1.1.1, ⟨hk.1.1.1.2.1, ⟨hk.1.2, ⟨hk.1.1.1.2.2.1, ⟨hk.1.1.1.2.2.2.1, hk.1.1.1.2.2.2.2⟩⟩⟩⟩⟩, hk.2⟩))))
                 (case aB => exact bl)
                 (case aF => exact (fun k_ hk => ⟨(.inr (Nat.le_trans (below_size bl) hk)), Kd.fresh' (Kd.R_lt (uR HO_7.out)) k_ hk, Kd.fresh' (Kd.N_lt (by (with_reducible repeat (first | apply Kd.N_alloc | apply Kd.N_drewN | apply Kd.N_drew)); exact HO463.out)) k_ hk, Kd.freshB (g := gb403) (o := .cells #[.slice A0_0 l0_0.length c0_0] 24 (0, 0)) (uB BK403.out) k_ hk, Kd.freshB (g := gb404) (o := .cells #[.int .i64 a1_0, .int .i64 a1_1, .string a1_2, .int .i64 a1_3] 26 (0, 0)) (uB BK404.out) k_ hk, Kd.freshB (g := gb405) (o := .cells #[.slice none 0 0] 24 (0, 0)) (uB BK405.out) k_ hk⟩))
                 (case aO => exact (by (with_reducible repeat (first | apply Kd.N_alloc | apply Kd.N_drewN | apply Kd.N_drew)); exact HO452.out))
                 (case aS => exact (below_size bl))
                 (case aL => have := LMc78.out; omega)
                 intro v459 w92 ho hb hg hat
                 rw [← Ny458.out] at ho
                 replace HO_7 := Aside0.mk (Kd.R_over' (uR HO_7.out) (Kd.N_typed (by (with_reducible repeat (first | apply Kd.N_alloc | apply Kd.N_drewN | apply Kd.N_drew)); exact HO452.out)) (by decide) hg)
                 replace HO_8 := Aside0.mk (Kd.V_afterv (ok := (fun k_ => (P0_0_ k_ ∨ w.heap.size ≤ k_) ∧ some k_ ≠ (.slice none 0 0 : Value).ownBlock ∧ some k_ ≠ (v462 : Value).ownBlock ∧ k_ ≠ gb403 ∧ k_ ≠ gb404 ∧ k_ ≠ gb405)) (by exact uV <| Kd.V_mono HO_8.out (fun _ hk => ⟨⟨hk.1.1.1.1, ⟨hk.1.1.1.2.1, ⟨hk.1.2, ⟨hk.1.1.1.2.2.1, ⟨hk.1.1.1.2.2.2.1, hk.1.1.1.2.2.2.2⟩⟩⟩⟩⟩, hk.2⟩)) hg hat)
                 replace HO_404000 := Aside0.mk (Kd.V_afterv (ok := (fun k_ => (P0_0_ k_ ∨ w.heap.size ≤ k_) ∧ some k_ ≠ (.slice none 0 0 : Value).ownBlock ∧ some k_ ≠ (v462 : Value).ownBlock ∧ k_ ≠ gb403 ∧ k_ ≠ gb404 ∧ k_ ≠ gb405)) (by exact uV <| Kd.V_mono HO_404000.out (fun _ hk => ⟨⟨hk.1.1.1.1, ⟨hk.1.1.1.2.1, ⟨hk.1.2, ⟨hk.1.1.1.2.2.1, ⟨hk.1.1.1.2.2.2.1, hk.1.1.1.2.2.2.2⟩⟩⟩⟩⟩, hk.2⟩)) hg hat)
                 replace BK403 := Aside0.mk (blk_grown (g := gb403) (o := .cells #[.slice A0_0 l0_0.length c0_0] 24 (0, 0)) (uB BK403.out) hg (Kd.N_ne HO452.out BK403.out (by decide)))
                 replace BK404 := Aside0.mk (blk_grown (g := gb404) (o := .cells #[.int .i64 a1_0, .int .i64 a1_1, .string a1_2, .int .i64 a1_3] 26 (0, 0)) (uB BK404.out) hg (Kd.N_ne HO452.out BK404.out (by decide)))
                 replace BK405 := Aside0.mk (blk_grown (g := gb405) (o := .cells #[.slice none 0 0] 24 (0, 0)) (uB BK405.out) hg (Kd.N_ne HO452.out BK405.out (by decide)))
                 replace HO457 := Aside0.mk (Kd.V_afterv (ok := (fun k_ => (P0_0_ k_ ∨ w.heap.size ≤ k_) ∧ some k_ ≠ (.slice none 0 0 : Value).ownBlock ∧ some k_ ≠ (v462 : Value).ownBlock ∧ k_ ≠ gb403 ∧ k_ ≠ gb404 ∧ k_ ≠ gb405)) (by exact uV <| Kd.V_mono HO457.out (fun _ hk => ⟨⟨hk.1.1.1.1, ⟨hk.1.1.1.2.1, ⟨hk.1.2, ⟨hk.1.1.1.2.2.1, ⟨hk.1.1.1.2.2.2.1, hk.1.1.1.2.2.2.2⟩⟩⟩⟩⟩, hk.2⟩)) hg hat)
                 replace HO463 := Aside0.mk (Kd.N_afterv (ok := (fun k_ => (P0_0_ k_ ∨ w.heap.size ≤ k_) ∧ some k_ ≠ (.slice none 0 0 : Value).ownBlock ∧ k_ ≠ gb403 ∧ k_ ≠ gb404 ∧ k_ ≠ gb405)) (by (with_reducible repeat (first | apply Kd.N_alloc | apply Kd.N_drewN | apply Kd.N_drew)); exact HO463.out) hg hat)
                 replace HB := Aside0.mk (hb)
                 have HO460 := Aside0.mk (ho)
                 clear HO452
                 clear ho hb hg hat
                 refine hK.out _ _ ⟨(blk_cell BK403.out 0).trans rfl, (blk_cell BK404.out 0).trans rfl, (blk_cell BK404.out 1).trans rfl, (blk_cell BK404.out 2).trans rfl, (blk_cell BK404.out 3).trans rfl⟩ (fun hHeld => ?_)
                 clear hK K
                 refine norm_ (a' := ?_) ?_ ?_
                 rotate_left
                 ·
                  show Act.put _ (some 83) _ = _
                  simp only [Act.put, List.setIfInBounds_toArray, List.set_cons_zero, List.set_cons_succ, i64_w, i32_w]
                  rfl
                 exact norm_ (by simp only [putAll, Act.put, List.setIfInBounds_toArray, List.set_cons_zero, List.set_cons_succ]) (hCont (v451, v459, v462) _ ⟨hHeld, (by exact uV <| Kd.V_mono HO457.out (fun _ hk => ⟨hk.1.1, ⟨hk.2, ⟨hk.1.2.2.1, ⟨hk.1.2.1, ⟨hk.1.2.2.2.1, ⟨hk.1.2.2.2.2.1, hk.1.2.2.2.2.2⟩⟩⟩⟩⟩⟩)), (by (with_reducible repeat (first | apply Kd.N_alloc | apply Kd.N_drewN | apply Kd.N_drew)); exact Kd.N_mono HO460.out (fun _ hk => ⟨hk.1, ⟨hk.2.2.1, ⟨hk.2.1, ⟨hk.2.2.2.1, ⟨hk.2.2.2.2.1, hk.2.2.2.2.2⟩⟩⟩⟩⟩)), (by (with_reducible repeat (first | apply Kd.N_alloc | apply Kd.N_drewN | apply Kd.N_drew)); exact Kd.N_mono HO463.out (fun _ hk => ⟨hk.1.1, ⟨hk.2, ⟨hk.1.2.1, ⟨hk.1.2.2.1, ⟨hk.1.2.2.2.1, hk.1.2.2.2.2⟩⟩⟩⟩⟩)), (by exact uV <| Kd.V_mono HO_404000.out (fun _ hk => ⟨hk.1.1, ⟨hk.2, ⟨hk.1.2.2.1, ⟨hk.1.2.1, ⟨hk.1.2.2.2.1, ⟨hk.1.2.2.2.2.1, hk.1.2.2.2.2.2⟩⟩⟩⟩⟩⟩)), (by exact uR <| Kd.R_mono HO_7.out (fun _ hk => hk.1)), (by exact uV <| Kd.V_mono HO_8.out (fun _ hk => ⟨hk.1.1, ⟨hk.2, ⟨hk.1.2.2.1, ⟨hk.1.2.1, ⟨hk.1.2.2.2.1, ⟨hk.1.2.2.2.2.1, hk.1.2.2.2.2.2⟩⟩⟩⟩⟩⟩)), (uB BK403.out), (uB BK404.out), (uB BK405.out), bl⟩)
               rintro ⟨v451, v459, v462⟩ w93 ⟨hS_, h0_, h1_, h2_, h3_, h4_, h5_, h6_, h7_, h8_, h9_⟩
               have n0_ : Aside0 (Kd.V k59 59 w93 w.heap.size (fun k_ => (P0_0_ k_ ∨ w.heap.size ≤ k_) ∧ some k_ ≠ (v459 : Value).ownBlock ∧ some k_ ≠ (v462 : Value).ownBlock ∧ some k_ ≠ (.slice none 0 0 : Value).ownBlock ∧ k_ ≠ gb403 ∧ k_ ≠ gb404 ∧ k_ ≠ gb405) (.slice A0_0 y453.length c0_0) y453) := ⟨h0_⟩
               have n1_ : Aside0 (Kd.N k59 59 w93 w.heap.size (fun k_ => (P0_0_ k_ ∨ w.heap.size ≤ k_) ∧ some k_ ≠ (v462 : Value).ownBlock ∧ some k_ ≠ (.slice none 0 0 : Value).ownBlock ∧ k_ ≠ gb403 ∧ k_ ≠ gb404 ∧ k_ ≠ gb405) v459 y458) := ⟨h1_⟩
               have n2_ : Aside0 (Kd.N k59 59 w93 w.heap.size (fun k_ => (P0_0_ k_ ∨ w.heap.size ≤ k_) ∧ some k_ ≠ (v459 : Value).ownBlock ∧ some k_ ≠ (.slice none 0 0 : Value).ownBlock ∧ k_ ≠ gb403 ∧ k_ ≠ gb404 ∧ k_ ≠ gb405) v462 y461) := ⟨h2_⟩
               have n3_ : Aside0 (Kd.V k59 59 w93 w.heap.size (fun k_ => (P0_0_ k_ ∨ w.heap.size ≤ k_) ∧ some k_ ≠ (v459 : Value).ownBlock ∧ some k_ ≠ (v462 : Value).ownBlock ∧ some k_ ≠ (.slice none 0 0 : Value).ownBlock ∧ k_ ≠ gb403 ∧ k_ ≠ gb404 ∧ k_ ≠ gb405) (.slice A0_0 l0_0.length c0_0) l0_0) := ⟨h3_⟩
               have n4_ : Aside0 (Kd.R k82 82 w93 w.heap.size (fun k_ => (w.heap.size ≤ k_)) (.slice none 0 0) ([] : List (S82))) := ⟨h4_⟩
               have n5_ : Aside0 (Kd.V k59 59 w93 w.heap.size (fun k_ => (P0_0_ k_ ∨ w.heap.size ≤ k_) ∧ some k_ ≠ (v459 : Value).ownBlock ∧ some k_ ≠ (v462 : Value).ownBlock ∧ some k_ ≠ (.slice none 0 0 : Value).ownBlock ∧ k_ ≠ gb403 ∧ k_ ≠ gb404 ∧ k_ ≠ gb405) (.slice A28 y409.length c28) y409) := ⟨h5_⟩
               have n6_ : Aside0 (w93.heap[gb403]? = some (.cells #[.slice A0_0 l0_0.length c0_0] 24 (0, 0))) := ⟨h6_⟩
               have n7_ : Aside0 (w93.heap[gb404]? = some (.cells #[.int .i64 a1_0, .int .i64 a1_1, .string a1_2, .int .i64 a1_3] 26 (0, 0))) := ⟨h7_⟩
               have n8_ : Aside0 (w93.heap[gb405]? = some (.cells #[.slice none 0 0] 24 (0, 0))) := ⟨h8_⟩
               have n9_ : Aside0 (Below w.heap.size w w93) := ⟨h9_⟩
               clear HO_7
               clear HO_8
               clear HO_404000
               clear HO449
               clear BK403
               clear BK404
               clear BK405
               clear HB
               clear h0_ h1_ h2_ h3_ h4_ h5_ h6_ h7_ h8_ h9_
               have HO457 := n0_
               have HO460 := n1_
               have HO463 := n2_
               have HO_404000 := n3_
               have HO_7 := n4_
               have HO_8 := n5_
               have BK403 := n6_
               have BK404 := n7_
               have BK405 := n8_
               have HB := n9_
               clear n0_ n1_ n2_ n3_ n4_ n5_ n6_ n7_ n8_ n9_
               have hHeld : w93.cell? ⟨gb403, 0, none⟩ = some (.slice A0_0 l0_0.length c0_0) ∧ w93.cell? ⟨gb404, 0, none⟩ = some (.int .i64 a1_0) ∧ w93.cell? ⟨gb404, 1, none⟩ = some (.int .i64 a1_1) ∧ w93.cell? ⟨gb404, 2, none⟩ = some (.string a1_2) ∧ w93.cell? ⟨gb404, 3, none⟩ = some (.int .i64 a1_3) := hS_
               obtain ⟨Ao95, co95, eo95⟩ := Kd.N_slice HO463.out
               (first | subst eo95 | (injection eo95 with f1_ f2_ f3_; have f4_ := f1_.symm; have f5_ := f3_.symm; clear f1_ f2_ f3_; subst f4_; subst f5_))
               refine norm_ (a' := ?_) ?_ ?_
               rotate_left
               ·
                simp only [putAll, Act.put, List.setIfInBounds_toArray, List.set_cons_zero, List.set_cons_succ]
                rfl
               refine o1 13 (some 91) rfl rfl (fun K hK => ?_)
               refine Kd.N_append_rows_step k59 (w0 := w) w.heap.size (by rfl) (.tmp 83) (.tmp 90) 22 59 (.agg #[(.int .i64 0), (.string ⟨#[]⟩), (.slice none 0 0)]) 48 rfl Try.underlying22 info59 rfl (by decide) (by omega) v459 y458 y461 _ _ _ (fun k_ => (P0_0_ k_ ∨ w.heap.size ≤ k_) ∧ some k_ ≠ (.slice none 0 0 : Value).ownBlock ∧ k_ ≠ gb403 ∧ k_ ≠ gb404 ∧ k_ ≠ gb405) (fun k_ => ((fun k_ => (P0_0_ k_ ∨ w.heap.size ≤ k_) ∧ some k_ ≠ (.slice none 0 0 : Value).ownBlock ∧ k_ ≠ gb403 ∧ k_ ≠ gb404 ∧ k_ ≠ gb405)) k_ ∧ some k_ ≠ (v459 : Value).ownBlock) rfl rfl ?aO ?aR (fun _ hk => hk) ?aF ?aB ?aS ?aL ?_
               (case aR => exact (by skip; exact Kd.N_F (Kd.N_mono (ok' := (fun k_ => ((fun k_ => (P0_0_ k_ ∨ w.heap.size ≤ k_) ∧ some k_ ≠ (.slice none 0 0 : Value).ownBlock ∧ k_ ≠ gb403 ∧ k_ ≠ gb404 ∧ k_ ≠ gb405)) k_ ∧ some k_ ≠ (v459 : Value).ownBlock)) (HO463.out) (fun k_ hk => ⟨⟨hk.1, ⟨hk.2.2.1, ⟨hk.2.2.2.1, ⟨hk.2.2.2.2.1, hk.2.2.2.2.2⟩⟩⟩⟩, hk.2.1⟩))))
               (case aB => exact bl)
               (case aF => exact (fun k_ hk => ⟨(.inr (Nat.le_trans (below_size bl) hk)), Kd.fresh' (Kd.R_lt (uR HO_7.out)) k_ hk, Kd.freshB (g := gb403) (o := .cells #[.slice A0_0 l0_0.length c0_0] 24 (0, 0)) (uB BK403.out) k_ hk, Kd.freshB (g := gb404) (o := .cells #[.int .i64 a1_0, .int .i64 a1_1, .string a1_2, .int .i64 a1_3] 26 (0, 0)) (uB BK404.out) k_ hk, Kd.freshB (g := gb405) (o := .cells #[.slice none 0 0] 24 (0, 0)) (uB BK405.out) k_ hk⟩))
               (case aO => exact (by (with_reducible repeat (first | apply Kd.N_alloc | apply Kd.N_drewN | apply Kd.N_drew)); exact Kd.N_mono HO460.out (fun _ hk => ⟨hk.1, ⟨hk.2.2.1, ⟨hk.2.2.2.1, ⟨hk.2.2.2.2.1, hk.2.2.2.2.2⟩⟩⟩⟩)))
               (case aS => exact (below_size bl))
               (case aL => have := LMc79.out; omega)
               intro v465 w94 ho hb hg hat
               rw [← Ny464.out] at ho
               replace HO_7 := Aside0.mk (Kd.R_over' (uR HO_7.out) (Kd.N_typed (by (with_reducible repeat (first | apply Kd.N_alloc | apply Kd.N_drewN | apply Kd.N_drew)); exact HO460.out)) (by decide) hg)
               replace HO_8 := Aside0.mk (Kd.V_afterv (ok := (fun k_ => (P0_0_ k_ ∨ w.heap.size ≤ k_) ∧ some k_ ≠ (.slice none 0 0 : Value).ownBlock ∧ some k_ ≠ (.slice Ao95 y461.length co95 : Value).ownBlock ∧ k_ ≠ gb403 ∧ k_ ≠ gb404 ∧ k_ ≠ gb405)) (by exact uV <| Kd.V_mono HO_8.out (fun _ hk => ⟨⟨hk.1, ⟨hk.2.2.2.1, ⟨hk.2.2.1, ⟨hk.2.2.2.2.1, ⟨hk.2.2.2.2.2.1, hk.2.2.2.2.2.2⟩⟩⟩⟩⟩, hk.2.1⟩)) hg hat)
               replace HO_404000 := Aside0.mk (Kd.V_afterv (ok := (fun k_ => (P0_0_ k_ ∨ w.heap.size ≤ k_) ∧ some k_ ≠ (.slice none 0 0 : Value).ownBlock ∧ some k_ ≠ (.slice Ao95 y461.length co95 : Value).ownBlock ∧ k_ ≠ gb403 ∧ k_ ≠ gb404 ∧ k_ ≠ gb405)) (by exact uV <| Kd.V_mono HO_404000.out (fun _ hk => ⟨⟨hk.1, ⟨hk.2.2.2.1, ⟨hk.2.2.1, ⟨hk.2.2.2.2.1, ⟨hk.2.2.2.2.2.1, hk.2.2.2.2.2.2⟩⟩⟩⟩⟩, hk.2.1⟩)) hg hat)
               replace BK403 := Aside0.mk (blk_grown (g := gb403) (o := .cells #[.slice A0_0 l0_0.length c0_0] 24 (0, 0)) (uB BK403.out) hg (Kd.N_ne HO460.out BK403.out (by decide)))
               replace BK404 := Aside0.mk (blk_grown (g := gb404) (o := .cells #[.int .i64 a1_0, .int .i64 a1_1, .string a1_2, .int .i64 a1_3] 26 (0, 0)) (uB BK404.out) hg (Kd.N_ne HO460.out BK404.out (by decide)))
               replace BK405 := Aside0.mk (blk_grown (g := gb405) (o := .cells #[.slice none 0 0] 24 (0, 0)) (uB BK405.out) hg (Kd.N_ne HO460.out BK405.out (by decide)))
               replace HO457 := Aside0.mk (Kd.V_afterv (ok := (fun k_ => (P0_0_ k_ ∨ w.heap.size ≤ k_) ∧ some k_ ≠ (.slice none 0 0 : Value).ownBlock ∧ some k_ ≠ (.slice Ao95 y461.length co95 : Value).ownBlock ∧ k_ ≠ gb403 ∧ k_ ≠ gb404 ∧ k_ ≠ gb405)) (by exact uV <| Kd.V_mono HO457.out (fun _ hk => ⟨⟨hk.1, ⟨hk.2.2.2.1, ⟨hk.2.2.1, ⟨hk.2.2.2.2.1, ⟨hk.2.2.2.2.2.1, hk.2.2.2.2.2.2⟩⟩⟩⟩⟩, hk.2.1⟩)) hg hat)
               replace HO463 := Aside0.mk (Kd.N_afterv (ok := (fun k_ => (P0_0_ k_ ∨ w.heap.size ≤ k_) ∧ some k_ ≠ (.slice none 0 0 : Value).ownBlock ∧ k_ ≠ gb403 ∧ k_ ≠ gb404 ∧ k_ ≠ gb405)) (by (with_reducible repeat (first | apply Kd.N_alloc | apply Kd.N_drewN | apply Kd.N_drew)); exact Kd.N_mono HO463.out (fun _ hk => ⟨⟨hk.1, ⟨hk.2.2.1, ⟨hk.2.2.2.1, ⟨hk.2.2.2.2.1, hk.2.2.2.2.2⟩⟩⟩⟩, hk.2.1⟩)) hg hat)
               replace HB := Aside0.mk (hb)
               have HO466 := Aside0.mk (ho)
               clear HO460
               clear ho hb hg hat
               refine hK.out _ _ ⟨(blk_cell BK403.out 0).trans rfl, (blk_cell BK404.out 0).trans rfl, (blk_cell BK404.out 1).trans rfl, (blk_cell BK404.out 2).trans rfl, (blk_cell BK404.out 3).trans rfl⟩ (fun hHeld => ?_)
               clear hK K
               refine norm_ (a' := ?_) ?_ ?_
               rotate_left
               ·
                show Act.put _ (some 91) _ = _
                simp only [Act.put, List.setIfInBounds_toArray, List.set_cons_zero, List.set_cons_succ, i64_w, i32_w]
                rfl
               refine p1 14 (some 10) ?_
               refine done_ (done_of HT_.out (by kernel_rfl)) ?_
               try go_wp2_with (first | ((with_reducible refine gate_builtin (b := .append) (xs := #[.tmp 92, .tmp 93]) rfl ?_); at_builtin; refine Kd.N_append_rows k59 (w0 := w) w.heap.size rfl (.tmp 92) (.tmp 93) 22 59 (.agg #[(.int .i64 0), (.string ⟨#[]⟩), (.slice none 0 0)]) 48 rfl Try.underlying22 info59 rfl (by decide) (by omega) v465 y464 y409 _ _ _ (fun k_ => (P0_0_ k_ ∨ w.heap.size ≤ k_) ∧ some k_ ≠ (.slice none 0 0 : Value).ownBlock ∧ k_ ≠ gb403 ∧ k_ ≠ gb404 ∧ k_ ≠ gb405) (fun k_ => ((fun k_ => (P0_0_ k_ ∨ w.heap.size ≤ k_) ∧ some k_ ≠ (.slice none 0 0 : Value).ownBlock ∧ k_ ≠ gb403 ∧ k_ ≠ gb404 ∧ k_ ≠ gb405)) k_ ∧ some k_ ≠ (v465 : Value).ownBlock) rfl rfl ?aO ?aR (fun _ hk => hk) ?aF ?aB ?aS ?aL ?_; (case aR => exact (by skip; exact Kd.V_F (Kd.V_mono (ok' := (fun k_ => ((fun k_ => (P0_0_ k_ ∨ w.heap.size ≤ k_) ∧ some k_ ≠ (.slice none 0 0 : Value).ownBlock ∧ k_ ≠ gb403 ∧ k_ ≠ gb404 ∧ k_ ≠ gb405)) k_ ∧ some k_ ≠ (v465 : Value).ownBlock)) (HO_8.out) (fun k_ hk => ⟨⟨hk.1.1, ⟨hk.1.2.1, ⟨hk.1.2.2.2.1, ⟨hk.1.2.2.2.2.1, hk.1.2.2.2.2.2⟩⟩⟩⟩, hk.2⟩)))); (case aB => exact bl); (case aF => exact (fun k_ hk => ⟨(.inr (Nat.le_trans (below_size bl) hk)), Kd.fresh' (Kd.R_lt (uR HO_7.out)) k_ hk, Kd.freshB (g := gb403) (o := .cells #[.slice A0_0 l0_0.length c0_0] 24 (0, 0)) (uB BK403.out) k_ hk, Kd.freshB (g := gb404) (o := .cells #[.int .i64 a1_0, .int .i64 a1_1, .string a1_2, .int .i64 a1_3] 26 (0, 0)) (uB BK404.out) k_ hk, Kd.freshB (g := gb405) (o := .cells #[.slice none 0 0] 24 (0, 0)) (uB BK405.out) k_ hk⟩)); (case aO => exact (by (with_reducible repeat (first | apply Kd.N_alloc | apply Kd.N_drewN | apply Kd.N_drew)); exact HO466.out)); (case aS => exact (below_size bl)); (case aL => have := LMc80.out; omega); intro v468 w96 ho hb hg hat; rw [← Ny467.out] at ho; replace HO_7 := Aside0.mk (Kd.R_over' (uR HO_7.out) (Kd.N_typed (by (with_reducible repeat (first | apply Kd.N_alloc | apply Kd.N_drewN | apply Kd.N_drew)); exact HO466.out)) (by decide) hg); replace HO_8 := Aside0.mk (Kd.V_afterv (ok := (fun k_ => (P0_0_ k_ ∨ w.heap.size ≤ k_) ∧ some k_ ≠ (.slice none 0 0 : Value).ownBlock ∧ some k_ ≠ (.slice Ao95 y461.length co95 : Value).ownBlock ∧ k_ ≠ gb403 ∧ k_ ≠ gb404 ∧ k_ ≠ gb405)) (uV HO_8.out) hg hat); replace HO_404000 := Aside0.mk (Kd.V_afterv (ok := (fun k_ => (P0_0_ k_ ∨ w.heap.size ≤ k_) ∧ some k_ ≠ (.slice none 0 0 : Value).ownBlock ∧ some k_ ≠ (.slice Ao95 y461.length co95 : Value).ownBlock ∧ k_ ≠ gb403 ∧ k_ ≠ gb404 ∧ k_ ≠ gb405)) (uV HO_404000.out) hg hat); replace BK403 := Aside0.mk (blk_grown (g := gb403) (o := .cells #[.slice A0_0 l0_0.length c0_0] 24 (0, 0)) (uB BK403.out) hg (Kd.N_ne HO466.out BK403.out (by decide))); replace BK404 := Aside0.mk (blk_grown (g := gb404) (o := .cells #[.int .i64 a1_0, .int .i64 a1_1, .string a1_2, .int .i64 a1_3] 26 (0, 0)) (uB BK404.out) hg (Kd.N_ne HO466.out BK404.out (by decide))); replace BK405 := Aside0.mk (blk_grown (g := gb405) (o := .cells #[.slice none 0 0] 24 (0, 0)) (uB BK405.out) hg (Kd.N_ne HO466.out BK405.out (by decide))); replace HO457 := Aside0.mk (Kd.V_afterv (ok := (fun k_ => (P0_0_ k_ ∨ w.heap.size ≤ k_) ∧ some k_ ≠ (.slice none 0 0 : Value).ownBlock ∧ some k_ ≠ (.slice Ao95 y461.length co95 : Value).ownBlock ∧ k_ ≠ gb403 ∧ k_ ≠ gb404 ∧ k_ ≠ gb405)) (uV HO457.out) hg hat); replace HO463 := Aside0.mk (Kd.N_afterv (ok := (fun k_ => (P0_0_ k_ ∨ w.heap.size ≤ k_) ∧ some k_ ≠ (.slice none 0 0 : Value).ownBlock ∧ k_ ≠ gb403 ∧ k_ ≠ gb404 ∧ k_ ≠ gb405)) (by (with_reducible repeat (first | apply Kd.N_alloc | apply Kd.N_drewN | apply Kd.N_drew)); exact HO463.out) hg hat); replace HB := Aside0.mk (hb); have HO469 := Aside0.mk (ho); clear HO466; clear ho hb hg hat; obtain ⟨Ao97, co97, eo97⟩ := Kd.N_slice HO469.out; subst eo97; have hnb98 := NB405_403.out; have hnc98 := NB403_405.out; obtain ⟨hcz99_0, hfz99_0⟩ := z1 BK405))
               refine bodyPost_ret (results_ct rfl _ _ gb405 24 #[.slice Ao97 y467.length co97] (0, 0) _ rfl (by (with_reducible repeat (first | refine blk_drewN ?_ _ | refine blk_drew ?_ | refine blk_alloc ?_ _)); refine blk_put (cs := #[.slice none 0 0]) ?_ 0 _ rfl; exact uB <| BK405.out) Try.underlying24 rfl (by kernel_rfl)) rfl ?_
               exact ⟨_, re_, by (with_reducible repeat (first | apply Kd.N_alloc | apply Kd.N_drewN | apply Kd.N_drew)); exact Kd.N_mono (Kd.N_far (p := ⟨gb405, 0, none⟩) (Kd.N_mono HO469.out (fun k_ hk => (⟨hk, hk.2.2.2.2⟩ : _ ∧ k_ ≠ gb405))) (fun _ hk => hk.2) (.slice Ao97 y467.length co97)) (fun _ hk => hk.1.1), bl⟩
              ·
               rw [if_neg c80] at H
               exact absurd H (by simp)
             ·
              rw [if_neg c79] at H
              exact absurd H (by simp)
            ·
             rw [if_neg c78] at H
             exact absurd H (by simp)
           ·
            rw [if_neg c77] at H
            exact absurd H (by simp)
          ·
           rw [if_neg c76] at H
           exact absurd H (by simp)
         ·
          rw [if_neg c75] at H
          have c75b0 : (t447 == 0) = false := beq_eq_false_iff_ne.mpr c75
          have c75b1 : (t447 != 0) = true := bne_iff_ne.mpr c75
          simp only [Option.some.injEq, Prod.mk.injEq] at H
          obtain ⟨rfl, rfl⟩ := H
          have hnb100 := NB404_403.out
          have hnc100 := NB403_404.out
          have hnb101 := NB404_405.out
          have hnc101 := NB405_404.out
          obtain ⟨hcz102_0, hcz102_1, hcz102_2, hcz102_3, hfz102_0, hfz102_1, hfz102_2, hfz102_3⟩ := z4 BK404
          go_wp2_with (first | ((with_reducible refine gate_callee (f := 31) rfl ?_); refine goesL_ (some 71) rfl rfl Try.func31 (by kernel_rfl) rfl #[.slice none ([] : List (S82)).length 0, .int .i64 a1_0, .int .i64 a1_3] rfl (by (try simp only [List.map_toArray, List.map_cons, List.map_nil]); first | done | (rw [show ([] : List (S82)).length = 0 from (Kd.R_reads' HO_7.out).1.symm] <;> rfl) | rfl | (simp only [List.length_drop, List.length_take]; rfl)) ?_; (with_reducible refine (r10_Fold.calls kj23 _ _ ([] : List (S82)) a1_0 a1_3 t446 t447 _ ?side1 ?side2 A74.out).mono ?_); (case side1 => exact uC <| (Kd.R_reads' HO_7.out).2.2); (case side2 => rw [show ([] : List (S82)).length = 0 from (Kd.R_reads' HO_7.out).1.symm]; exact (Kd.R_reads' HO_7.out).2.1); rintro e w103 ⟨v448, rfl, ho0, hb⟩; refine ⟨_, rfl, ?_⟩; replace HO_8 := Aside0.mk (Kd.V_elder' (uV HO_8.out) (Kd.R_base ho0) hb); replace HO_404000 := Aside0.mk (Kd.V_elder' (uV HO_404000.out) (Kd.R_base ho0) hb); have HO449 := Aside0.mk (Kd.R_lower (Kd.R_new' (Kd.R_newM (M := fun k_ => (w.heap.size ≤ k_)) ho0 (below_size bl) (fun k_ h_ => h_)) (Kd.R_lt (uR HO_7.out))) (below_size bl)); replace HO_7 := Aside0.mk (Kd.R_elder' (uR HO_7.out) (Kd.R_base ho0) hb); replace BK403 := cB BK403 hb; replace BK404 := cB BK404 hb; replace BK405 := cB BK405 hb; replace HB := Aside0.mk (below_step bl hb); (try clear hb); (try clear ho0); have hnb104 := NB405_403.out; have hnc104 := NB403_405.out; obtain ⟨hcz105_0, hfz105_0⟩ := z1 BK405))
          refine bodyPost_ret (results_ct rfl _ _ gb405 24 #[.slice none 0 0] (0, 0) _ rfl (by (with_reducible repeat (first | refine blk_drewN ?_ _ | refine blk_drew ?_ | refine blk_alloc ?_ _)); refine blk_put (cs := #[.slice none 0 0]) ?_ 0 _ rfl; exact uB <| BK405.out) Try.underlying24 rfl (by kernel_rfl)) rfl ?_
          exact ⟨_, re_, by first | exact Kd.S_nil _ _ _ _ _ | exact Kd.N_nil _ _ _ _ _ | exact Kd.V_nil _ _ _ _ _ | exact Kd.Q_nil _ _ _ _ _ | exact Kd.R_nil _ _ _ _ _, bl⟩
     ·
      rw [if_neg c23] at H
      exact absurd H (by simp)
    ·
     rw [if_neg c22] at H
     exact absurd H (by simp)
 ·
  replace c4 := Bool.eq_false_iff.mpr c4
  subst c4
  rw [if_neg (show ¬ (false = true) by decide)] at H
  simp only [Option.some.injEq, Prod.mk.injEq] at H
  obtain ⟨rfl, rfl⟩ := H
  go_enter Try.func12, Try.ntmps12
  go_wp2_with (first | ((with_reducible refine gate_dst (N := 2) rfl ?_); refine bx (N := 2) #[.slice A0_0 l0_0.length c0_0] 24 ?_; intro gb403 hg w106 hbox hb; replace HO0_0 := Aside0.mk (Kd.V_below (Kd.V_elderB (uV HO0_0.out) gb403 (Nat.le_of_eq hg.symm)) hb); have BK403 := Aside0.mk (hbox); have GW403 := gw hg (uW HB.out); have GE403 := GW403; replace HB := cW HB hb; clear hb hbox hg) | ((with_reducible refine gate_dst (N := 3) rfl ?_); refine bx (N := 3) #[.int .i64 a1_0, .int .i64 a1_1, .string a1_2, .int .i64 a1_3] 26 ?_; intro gb404 hg w107 hbox hb; replace HO0_0 := Aside0.mk (Kd.V_below (Kd.V_elderB (uV HO0_0.out) gb404 (Nat.le_of_eq hg.symm)) hb); have BK404 := Aside0.mk (hbox); have GW404 := gw hg bl; have GE404 := GW404; replace HB := Aside0.mk (below_step bl hb); have NB403_404 := Aside0.mk ((by rw [hg]; exact Nat.ne_of_lt (blk_lt (g := gb403) (o := .cells #[.slice A0_0 l0_0.length c0_0] 24 (0, 0)) (uB BK403.out)) : gb403 ≠ gb404)); have NB404_403 := Aside0.mk ((by rw [hg]; exact Nat.ne_of_gt (blk_lt (g := gb403) (o := .cells #[.slice A0_0 l0_0.length c0_0] 24 (0, 0)) (uB BK403.out)) : gb404 ≠ gb403)); replace BK403 := cB BK403 hb; clear hb hbox hg) | ((with_reducible refine gate_dst (N := 4) rfl ?_); refine bx (N := 4) #[.slice none 0 0] 24 ?_; intro gb405 hg w108 hbox hb; replace HO0_0 := Aside0.mk (Kd.V_below (Kd.V_elderB (uV HO0_0.out) gb405 (Nat.le_of_eq hg.symm)) hb); have BK405 := Aside0.mk (hbox); have GW405 := gw hg bl; have GE405 := GW405; replace HB := Aside0.mk (below_step bl hb); have NB403_405 := Aside0.mk ((by rw [hg]; exact Nat.ne_of_lt (blk_lt (g := gb403) (o := .cells #[.slice A0_0 l0_0.length c0_0] 24 (0, 0)) (uB BK403.out)) : gb403 ≠ gb405)); have NB405_403 := Aside0.mk ((by rw [hg]; exact Nat.ne_of_gt (blk_lt (g := gb403) (o := .cells #[.slice A0_0 l0_0.length c0_0] 24 (0, 0)) (uB BK403.out)) : gb405 ≠ gb403)); replace BK403 := cB BK403 hb; have NB404_405 := Aside0.mk ((by rw [hg]; exact Nat.ne_of_lt (blk_lt (g := gb404) (o := .cells #[.int .i64 a1_0, .int .i64 a1_1, .string a1_2, .int .i64 a1_3] 26 (0, 0)) (uB BK404.out)) : gb404 ≠ gb405)); have NB405_404 := Aside0.mk ((by rw [hg]; exact Nat.ne_of_gt (blk_lt (g := gb404) (o := .cells #[.int .i64 a1_0, .int .i64 a1_1, .string a1_2, .int .i64 a1_3] 26 (0, 0)) (uB BK404.out)) : gb405 ≠ gb404)); replace BK404 := cB BK404 hb; clear hb hbox hg; have hnb109 := NB403_404.out; have hnc109 := NB404_403.out; have hnb110 := NB403_405.out; have hnc110 := NB405_403.out; obtain ⟨hcz111_0, hfz111_0⟩ := z1 BK403) | (refine gL (some 12) rfl Try.func15 #[.agg #[.slice A0_0 l0_0.length c0_0]] ?_; (with_reducible refine (r11_Right.calls k _ _ l0_0 false _ ?side1 ?side2 A3.out).mono ?_); (case side1 => exact uC <| (Kd.V_reads' HO0_0.out).2.2); (case side2 => exact (Kd.V_reads' HO0_0.out).2.1); rintro e w112 ⟨rfl, hb⟩; refine ⟨_, rfl, ?_⟩; replace HO0_0 := cV HO0_0 hb; replace BK403 := cB BK403 hb; replace BK404 := cB BK404 hb; replace BK405 := cB BK405 hb; replace HB := Aside0.mk (below_step bl hb); (try clear hb); have hnb113 := NB405_404.out; have hnc113 := NB404_405.out; obtain ⟨hcz114_0, hfz114_0⟩ := z1 BK405))
  refine bodyPost_ret (results_ct rfl _ _ gb405 24 #[.slice none 0 0] (0, 0) _ rfl (by (with_reducible repeat (first | refine blk_drewN ?_ _ | refine blk_drew ?_ | refine blk_alloc ?_ _)); refine blk_put (cs := #[.slice none 0 0]) ?_ 0 _ rfl; exact uB <| BK405.out) Try.underlying24 rfl (by kernel_rfl)) rfl ?_
  exact ⟨_, re_, by first | exact Kd.S_nil _ _ _ _ _ | exact Kd.N_nil _ _ _ _ _ | exact Kd.V_nil _ _ _ _ _ | exact Kd.Q_nil _ _ _ _ _ | exact Kd.R_nil _ _ _ _ _, bl⟩
end Go.Proofs.Ytofaindjbhmopaa.X
