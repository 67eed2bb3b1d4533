/- Printed by a program of this session's own: what functions of the program compute, and that the machine computes it. No condition of its own. -/
import Derived.Test.YtklhjponikgkkaaM3
import Derived.Test.YtklhjponikgkkaaM5
import Derived.Test.YtklhjponikgkkaaM6
namespace Go.Proofs.Ytklhjponikgkkaa.X
open Go.RowKit Go.Proofs.YtklhjponikgkkaaW.PrintWords Go.Proofs.YtklhjponikgkkaaW.PrintLast Go.Proofs.YtklhjponikgkkaaW.PrintMore
attribute [local go_sem] max2_int min2_int max_two min_two max_three min_three max_four min_four
set_option linter.unusedVariables false
set_option linter.unusedSimpArgs false
set_option maxHeartbeats 8000000
set_option maxRecDepth 100000
mutual
def ebbtideref11_Apply.j1 : Nat → Int → List (S70) → Int → Int → ByteArray → Int → Option ((List (S70)) × Int)
 | 0, _, _, _, _, _, _ => none
 | k + 1, x6, x205000, x206000, x206001, x206002, x206003 => if 0 ≤ x6 then (if x6 ≤ (x205000.length : Int) then ((some (x205000.drop (x6 : Int).toNat : List (S70))).bind fun y210 => (if (y210.length : Int) > 0 then (if 0 < (y210.length : Int) then (if ((rd_T70 y210 0).f0) = x206001 then (ebbtideref11_Apply.j2 k x6 ([] : List (S96)) y210 (((rd_T70 y210 0).f1).toList == x206002.toList) x205000 x206000 x206001 x206002 x206003) else (ebbtideref11_Apply.j2 k x6 ([] : List (S96)) y210 false x205000 x206000 x206001 x206002 x206003)) else (none)) else (ebbtideref11_Apply.j2 k x6 ([] : List (S96)) y210 false x205000 x206000 x206001 x206002 x206003))) else (none)) else (none)
def ebbtideref11_Apply.j2 : Nat → Int → List (S96) → List (S70) → Bool → List (S70) → Int → Int → ByteArray → Int → Option ((List (S70)) × Int)
 | 0, _, _, _, _, _, _, _, _, _ => none
 | k + 1, x6, x7, x8, x58, x205000, x206000, x206001, x206002, x206003 => if x58 = true then (none) else ((ebbtideref10_Fold.f k x7 x206000 x206003).bind fun bt217 => (if bt217.2 = 0 then ((some (([] : List (S70)) : List (S70))).bind fun y221 => (if 0 ≤ x6 then (if x6 ≤ (x205000.length : Int) then ((some (x205000.take (x6 : Int).toNat : List (S70))).bind fun y224 => (if y221.length + y224.length < 2932031007402 then ((some (y221 ++ y224 : List (S70))).bind fun y229 => ((some (([(⟨x206001, x206002, bt217.1⟩ : S70)] : List (S70)) : List (S70))).bind fun y232 => (if y229.length + y232.length < 2932031007402 then ((some (y229 ++ y232 : List (S70))).bind fun y235 => (if y235.length + x8.length < 2932031007402 then (some ((y235 ++ x8), 0)) else (none))) else (none)))) else (none))) else (none)) else (none))) else (none)))
def ebbtideref11_Apply.l0 : Nat → Int → List (S70) → Int → Int → ByteArray → Int → Option ((List (S70)) × Int)
 | 0, _, _, _, _, _, _ => none
 | k + 1, x6, x205000, x206000, x206001, x206002, x206003 => if x6 < (x205000.length : Int) then (if 0 ≤ x6 then ((ebbtideref11_less.f ((rd_T70 x205000 x6).f0) ((rd_T70 x205000 x6).f1) ((rd_T70 x205000 x6).f2) x206001 x206002).bind fun t209 => (if t209 = true then (ebbtideref11_Apply.l0 k (wrap64 (x6 + 1)) x205000 x206000 x206001 x206002 x206003) else (ebbtideref11_Apply.j1 k x6 x205000 x206000 x206001 x206002 x206003))) else (none)) else (ebbtideref11_Apply.j1 k x6 x205000 x206000 x206001 x206002 x206003)
end
def ebbtideref11_Apply.f (k : Nat) (l0_0 : List (S70)) (a1_0 : Int) (a1_1 : Int) (a1_2 : ByteArray) (a1_3 : Int) : Option ((List (S70)) × Int) := (ebbtideref11_Right.f k l0_0).bind fun t207 => (if t207 = true then (ebbtideref11_Apply.l0 k 0 l0_0 a1_0 a1_1 a1_2 a1_3) else (none))
theorem ebbtideref11_Apply.mono_l : ∀ k, (∀ y0 y1 y2 y3 y4 y5, LeC (ebbtideref11_Apply.j1 k y0 y1 y2 y3 y4 y5) (ebbtideref11_Apply.j1 (k + 1) y0 y1 y2 y3 y4 y5)) ∧ (∀ y0 y1 y2 y3 y4 y5 y6 y7 y8, LeC (ebbtideref11_Apply.j2 k y0 y1 y2 y3 y4 y5 y6 y7 y8) (ebbtideref11_Apply.j2 (k + 1) y0 y1 y2 y3 y4 y5 y6 y7 y8)) ∧ (∀ y0 y1 y2 y3 y4 y5, LeC (ebbtideref11_Apply.l0 k y0 y1 y2 y3 y4 y5) (ebbtideref11_Apply.l0 (k + 1) y0 y1 y2 y3 y4 y5))
 | 0 => ⟨fun _ _ _ _ _ _ => ⟨fun r h => by simp [ebbtideref11_Apply.j1] at h⟩, fun _ _ _ _ _ _ _ _ _ => ⟨fun r h => by simp [ebbtideref11_Apply.j2] at h⟩, fun _ _ _ _ _ _ => ⟨fun r h => by simp [ebbtideref11_Apply.l0] at h⟩⟩
 | k + 1 => by obtain ⟨ih0, ih1, ih2⟩ := ebbtideref11_Apply.mono_l k; exact ⟨fun _ _ _ _ _ _ => by unfold ebbtideref11_Apply.j1; exact lm, fun _ _ _ _ _ _ _ _ _ => by unfold ebbtideref11_Apply.j2; exact lm, fun _ _ _ _ _ _ => by unfold ebbtideref11_Apply.l0; exact lm⟩
theorem ebbtideref11_Apply.mono : ∀ a0 a1 a2 a3 a4 k, LeO (ebbtideref11_Apply.f k a0 a1 a2 a3 a4) (ebbtideref11_Apply.f (k + 1) a0 a1 a2 a3 a4) := by
 intro a0 a1 a2 a3 a4 k
 obtain ⟨ih0, ih1, ih2⟩ := ebbtideref11_Apply.mono_l k
 unfold ebbtideref11_Apply.f
 exact lo
instance ebbtideref11_Apply.mI {a0 a1 a2 a3 a4 k} : LeC (ebbtideref11_Apply.f k a0 a1 a2 a3 a4) (ebbtideref11_Apply.f (k + 1) a0 a1 a2 a3 a4) := ⟨ebbtideref11_Apply.mono _ _ _ _ _ _⟩
def ebbtideref11_Apply.T4 : Bool × List (List Nat × List Nat) := (true, [([], []), ([], []), ([1], [1]), ([2], [2]), ([0, 3], [0, 3]), ([4], [4]), ([5], [5]), ([6, 5], [5, 6]), ([5], [5]), ([7, 8, 5], [5, 7, 8]), ([9, 5], [5, 9]), ([5], [5]), ([11, 5], [5, 11]), ([5], [5]), ([13, 5], [5, 13]), ([10, 12, 14, 5, 5], [5, 10, 12, 14]), ([5, 15], [5, 15])])
def ebbtideref11_Apply.B4 : List Nat := [0, 0, 2, 6, 15, 31, 63, 127, 63, 511, 1023, 63, 2111, 63, 8255, 32767, 65535]
theorem ebbtideref11_Apply.tab4 : rtab .any (opsOf Try.f19 4) = ebbtideref11_Apply.T4 := by kernel_rfl
theorem ebbtideref11_Apply.bits4 : waitsOk ebbtideref11_Apply.T4.2 ebbtideref11_Apply.B4 = true := by kernel_rfl
def ebbtideref11_Apply.T8 : Bool × List (List Nat × List Nat) := (true, [([], []), ([0], [0]), ([1], [1]), ([2], [2]), ([3], [3]), ([4, 3], [3, 4]), ([5, 3], [3, 5]), ([6, 3], [3, 6]), ([3], [3]), ([8, 3], [3, 8]), ([7, 9, 3], [3, 7, 9]), ([3, 10], [3, 10]), ([11, 3], [11]), ([12], [12]), ([13, 12], [12, 13]), ([14, 12], [12, 14]), ([15, 12], [12, 15]), ([12], [12]), ([17, 12], [12, 17]), ([16, 18, 12], [12, 16, 18]), ([12, 19], [12, 19])])
def ebbtideref11_Apply.B8 : List Nat := [0, 1, 3, 7, 15, 31, 63, 127, 15, 271, 1023, 2047, 4095, 8191, 16383, 32767, 65535, 8191, 139263, 524287, 1048575]
theorem ebbtideref11_Apply.tab8 : rtab .any (opsOf Try.f19 8) = ebbtideref11_Apply.T8 := by kernel_rfl
theorem ebbtideref11_Apply.bits8 : waitsOk ebbtideref11_Apply.T8.2 ebbtideref11_Apply.B8 = true := by kernel_rfl
def ebbtideref11_Apply.T13 : Bool × List (List Nat × List Nat) := (true, [([], []), ([], []), ([1], [1]), ([], []), ([2, 3], [2, 3]), ([0, 4], [0, 4]), ([], []), ([6], [6]), ([], []), ([8], [8]), ([], []), ([7, 9, 10], [7, 9, 10]), ([11], [11]), ([5, 12, 5], [5, 12]), ([13, 13, 0, 1, 2, 3, 4, 5, 6, 7, 8, 9, 10, 11, 12, 13], [13])])
def ebbtideref11_Apply.B13 : List Nat := [0, 0, 2, 0, 14, 31, 0, 64, 0, 256, 0, 1984, 4032, 8191, 16383]
theorem ebbtideref11_Apply.tab13 : rtab .any (opsOf Try.f19 13) = ebbtideref11_Apply.T13 := by kernel_rfl
theorem ebbtideref11_Apply.bits13 : waitsOk ebbtideref11_Apply.T13.2 ebbtideref11_Apply.B13 = true := by kernel_rfl
theorem ebbtideref11_Apply.calls (k : Nat) (P0_0_ : Nat → Prop) (A0_0 : Option Addr) (c0_0 : Nat) (l0_0 : List (S70)) (a1_0 : Int) (a1_1 : Int) (a1_2 : ByteArray) (a1_3 : Int) (r1 : List (S70)) (r2 : Int) (w : World) (hs0_0 : Kd.V k70 70 w w.heap.size (fun k_ => P0_0_ k_) (.slice A0_0 l0_0.length c0_0) l0_0) (h : ebbtideref11_Apply.f k l0_0 a1_0 a1_1 a1_2 a1_3 = some (r1, r2)) :
 Calls Try.prog 19 #[.agg #[.slice A0_0 l0_0.length c0_0], .agg #[.int .i64 a1_0, .int .i64 a1_1, .string a1_2, .int .i64 a1_3]] w fun e w' => ∃ v0_ : Value, e = .returned (.tuple #[.agg #[v0_], .int .i64 r2]) ∧ Kd.N k70 70 w' w.heap.size (fun k_ => (P0_0_ k_ ∨ w.heap.size ≤ k_)) v0_ r1 ∧ Below w.heap.size w w' := by
 have hu50 := Try.underlying50
 have hu61 := Try.underlying61
 have hu70 := Try.underlying70
 have HO0_0 := Aside0.mk (show Kd.V k70 70 w w.heap.size (fun k_ => (P0_0_ k_ ∨ w.heap.size ≤ k_)) (.slice A0_0 l0_0.length c0_0) l0_0 from Kd.V_mono hs0_0 (fun k_ hk => .inl hk))
 have HB := Aside0.mk (Below.refl w.heap.size w)
 have H : ((ebbtideref11_Right.f k l0_0).bind fun t207 => (if t207 = true then (ebbtideref11_Apply.l0 k 0 l0_0 a1_0 a1_1 a1_2 a1_3) else (none))) = some (r1, r2) := h
 clear h
 obtain ⟨t207, A3, H⟩ := bs H
 try dsimp only at H
 by_cases c4 : t207 = true
 ·
  subst c4
  rw [if_pos rfl] at H
  have HC5 := Aside0.mk H
  clear H
  go_enter Try.func19, Try.ntmps19
  go_upto_block 0 with (first | ((with_reducible refine gate_dst (N := 2) rfl ?_); refine bx (N := 2) #[.slice A0_0 l0_0.length c0_0] 50 ?_; intro gb204 hg w6 hbox hb; replace HO0_0 := Aside0.mk (Kd.V_below (Kd.V_elderB (uV HO0_0.out) gb204 (Nat.le_of_eq hg.symm)) hb); have BK204 := Aside0.mk (hbox); have GW204 := gw hg (uW HB.out); have GE204 := GW204; replace HB := cW HB hb; clear hb hbox hg) | ((with_reducible refine gate_dst (N := 3) rfl ?_); refine bx (N := 3) #[.int .i64 a1_0, .int .i64 a1_1, .string a1_2, .int .i64 a1_3] 61 ?_; intro gb205 hg w7 hbox hb; replace HO0_0 := Aside0.mk (Kd.V_below (Kd.V_elderB (uV HO0_0.out) gb205 (Nat.le_of_eq hg.symm)) hb); have BK205 := Aside0.mk (hbox); have GW205 := gw hg bl; have GE205 := GW205; replace HB := Aside0.mk (below_step bl hb); have NB204_205 := Aside0.mk ((by rw [hg]; exact Nat.ne_of_lt (blk_lt (g := gb204) (o := .cells #[.slice A0_0 l0_0.length c0_0] 50 (0, 0)) (uB BK204.out)) : gb204 ≠ gb205)); have NB205_204 := Aside0.mk ((by rw [hg]; exact Nat.ne_of_gt (blk_lt (g := gb204) (o := .cells #[.slice A0_0 l0_0.length c0_0] 50 (0, 0)) (uB BK204.out)) : gb205 ≠ gb204)); replace BK204 := cB BK204 hb; clear hb hbox hg) | ((with_reducible refine gate_dst (N := 4) rfl ?_); refine bx (N := 4) #[.slice none 0 0] 50 ?_; intro gb206 hg w8 hbox hb; replace HO0_0 := Aside0.mk (Kd.V_below (Kd.V_elderB (uV HO0_0.out) gb206 (Nat.le_of_eq hg.symm)) hb); have BK206 := Aside0.mk (hbox); have GW206 := gw hg bl; have GE206 := GW206; replace HB := Aside0.mk (below_step bl hb); have NB204_206 := Aside0.mk ((by rw [hg]; exact Nat.ne_of_lt (blk_lt (g := gb204) (o := .cells #[.slice A0_0 l0_0.length c0_0] 50 (0, 0)) (uB BK204.out)) : gb204 ≠ gb206)); have NB206_204 := Aside0.mk ((by rw [hg]; exact Nat.ne_of_gt (blk_lt (g := gb204) (o := .cells #[.slice A0_0 l0_0.length c0_0] 50 (0, 0)) (uB BK204.out)) : gb206 ≠ gb204)); replace BK204 := cB BK204 hb; have NB205_206 := Aside0.mk ((by rw [hg]; exact Nat.ne_of_lt (blk_lt (g := gb205) (o := .cells #[.int .i64 a1_0, .int .i64 a1_1, .string a1_2, .int .i64 a1_3] 61 (0, 0)) (uB BK205.out)) : gb205 ≠ gb206)); have NB206_205 := Aside0.mk ((by rw [hg]; exact Nat.ne_of_gt (blk_lt (g := gb205) (o := .cells #[.int .i64 a1_0, .int .i64 a1_1, .string a1_2, .int .i64 a1_3] 61 (0, 0)) (uB BK205.out)) : gb206 ≠ gb205)); replace BK205 := cB BK205 hb; clear hb hbox hg; have hnb9 := NB204_205.out; have hnc9 := NB205_204.out; have hnb10 := NB204_206.out; have hnc10 := NB206_204.out; obtain ⟨hcz11_0, hfz11_0⟩ := z1 BK204) | (refine gL (some 12) rfl Try.func40 #[.agg #[.slice A0_0 l0_0.length c0_0]] ?_; (with_reducible refine (ebbtideref11_Right.calls k _ _ l0_0 true _ ?side1 ?side2 A3.out).mono ?_); (case side1 => exact uC <| (Kd.V_reads' HO0_0.out).2.2); (case side2 => exact (Kd.V_reads' HO0_0.out).2.1); rintro e w12 ⟨rfl, hb⟩; refine ⟨_, rfl, ?_⟩; replace HO0_0 := cV HO0_0 hb; replace BK204 := cB BK204 hb; replace BK205 := cB BK205 hb; replace BK206 := cB BK206 hb; replace HB := Aside0.mk (below_step bl hb); (try clear hb)))
  (try simp only [Act.put, List.setIfInBounds_toArray, List.set_cons_zero, List.set_cons_succ])
  go_cut [6] (fun v6 wc => ∃ (kq : Nat) (x6_4 : Int), v6 = .int .i64 x6_4 ∧ Aside0 (ebbtideref11_Apply.j1 kq x6_4 l0_0 a1_0 a1_1 a1_2 a1_3 = some (r1, r2)) ∧ Aside0 (kq ≤ k) ∧ Aside0 (Kd.V k70 70 wc w.heap.size (fun k_ => (P0_0_ k_ ∨ w.heap.size ≤ k_) ∧ k_ ≠ gb204 ∧ k_ ≠ gb205 ∧ k_ ≠ gb206) (.slice A0_0 l0_0.length c0_0) l0_0) ∧ Aside0 (wc.heap[gb204]? = some (.cells #[(.slice A0_0 l0_0.length c0_0)] 50 (0, 0))) ∧ Aside0 (wc.heap[gb205]? = some (.cells #[.int .i64 a1_0, .int .i64 a1_1, .string a1_2, .int .i64 a1_3] 61 (0, 0))) ∧ Aside0 (wc.heap[gb206]? = some (.cells #[(.slice none 0 0)] 50 (0, 0))) ∧ Aside0 (Below w.heap.size w wc))
  case first =>
   have H := HC5.out
   clear HC5
   have H' := Aside0.mk H
   clear H
   go_wp2
   go_loopg [6] k (fun kq v6 w' => ∃ (x6_1 : Int), v6 = .int .i64 x6_1 ∧ Aside0 (ebbtideref11_Apply.l0 kq x6_1 l0_0 a1_0 a1_1 a1_2 a1_3 = some (r1, r2)) ∧ Aside0 (kq ≤ k) ∧ Aside0 (Kd.V k70 70 w' w.heap.size (fun k_ => (P0_0_ k_ ∨ w.heap.size ≤ k_) ∧ k_ ≠ gb204 ∧ k_ ≠ gb205 ∧ k_ ≠ gb206) (.slice A0_0 l0_0.length c0_0) l0_0) ∧ Aside0 (w'.heap[gb204]? = some (.cells #[(.slice A0_0 l0_0.length c0_0)] 50 (0, 0))) ∧ Aside0 (w'.heap[gb205]? = some (.cells #[.int .i64 a1_0, .int .i64 a1_1, .string a1_2, .int .i64 a1_3] 61 (0, 0))) ∧ Aside0 (w'.heap[gb206]? = some (.cells #[(.slice none 0 0)] 50 (0, 0))) ∧ Aside0 (Below w.heap.size w w'))
   case atStart => exact ⟨(0), rs_, H', ⟨Nat.le_refl _⟩, ⟨by exact uV <| Kd.V_mono HO0_0.out (fun _ hk => ⟨hk.1.1.1, ⟨hk.1.1.2, ⟨hk.1.2, hk.2⟩⟩⟩)⟩, ⟨uB BK204.out⟩, ⟨uB BK205.out⟩, ⟨uB BK206.out⟩, ⟨bl⟩⟩
   case round =>
    clear H'
    try clear c1
    try clear p2
    try clear c4
    try clear c9
    try clear c10
    try clear hcz11_0
    try clear hfz11_0
    obtain ⟨x6_1, rfl, HA, HK1, HO_205000, BK204, BK205, BK206, HB⟩ := hrel
    cases gk with
    | zero => exact absurd HA.out (by simp [ebbtideref11_Apply.l0])
    | succ k1 =>
     have H := HA.out
     clear HA
     simp only [ebbtideref11_Apply.l0] at H
     by_cases c13 : x6_1 < (l0_0.length : Int)
     ·
      rw [if_pos c13] at H
      have c13b0 : decide (x6_1 < (l0_0.length : Int)) = true := decide_eq_true c13
      clear c13
      (first | rw [c13b0] | (simp only [i64_w, i32_w]; rw [c13b0]) | skip)
      obtain ⟨c14b0, H⟩ := gdd H
      obtain ⟨t209, A15, H⟩ := bs H
      try dsimp only at H
      by_cases c16 : t209 = true
      ·
       subst c16
       rw [if_pos rfl] at H
       have H' := Aside0.mk H
       clear H
       try go_wp2
       have n0_ := Aside0.mk (Kd.V_drew HO_205000.out)
       have n1_ := Aside0.mk (blk_drew BK204.out)
       have n2_ := Aside0.mk (blk_drew BK205.out)
       have n3_ := Aside0.mk (blk_drew BK206.out)
       have n4_ := Aside0.mk (below_drew1 HB.out)
       clear HO_205000
       clear BK204
       clear BK205
       clear BK206
       clear HB
       have HO_205000 := n0_
       have BK204 := n1_
       have BK205 := n2_
       have BK206 := n3_
       have HB := n4_
       clear n0_ n1_ n2_ n3_ n4_
       have p208 : 0 ≤ (x6_1 : Int) := od
       have q208 : x6_1 < (l0_0.length : Int) := od
       obtain ⟨ad208, A208_2, c208_2, e208, hx208_0, hx208_1, hx208_2, hl208_2, hi208_2⟩ := at_T70 (Kd.V_reads' HO_205000.out).2.2 x6_1 p208 q208
       cases e208
       obtain ⟨ce208, hce208, hMe208, hcc208⟩ := Kd.V_get HO_205000.out z70 x6_1 p208 (by first | exact q208 | exact od | (have e_ := (Kd.V_reads' HO_205000.out).1; omega))
       obtain ⟨ua208_2, uc208_2, rfl, ul208_2, ge208_2⟩ := k70_openF hMe208
       have hv208_2 := hcc208 2 _ rfl
       rw [add_field _ _ 2 (by omega)] at hv208_2
       replace hv208_2 := Option.some.inj (hv208_2.symm.trans hx208_2)
       injection hv208_2 with hva_ hvn_ hvc_
       rw [hva_] at ge208_2
       rw [hvc_] at ul208_2
       have HL208_2 := Aside0.mk (show Kd.V k96 96 _ w.heap.size _ _ ((rd_T70 l0_0 x6_1).f2) from Kd.V_mk ul208_2 ge208_2)
       clear hva_ hvn_ hvc_ ge208_2 ul208_2
       clear hcc208 hce208
       have HR208_2 := Aside0.mk hi208_2
       have HC208_2 := Aside0.mk hl208_2
       clear hi208_2 hl208_2
       replace p208 := eq_true p208
       replace q208 := eq_true q208
       refine start_ (n := 17) (S := fun w' => w'.cell? ⟨gb204, 0, none⟩ = some (.slice (some ad208) l0_0.length c0_0) ∧ w'.cell? ⟨gb205, 0, none⟩ = some (.int .i64 a1_0) ∧ w'.cell? ⟨gb205, 1, none⟩ = some (.int .i64 a1_1) ∧ w'.cell? ⟨gb205, 2, none⟩ = some (.string a1_2) ∧ w'.cell? ⟨gb205, 3, none⟩ = some (.int .i64 a1_3) ∧ w'.cell? (ad208.add ((x6_1).toNat * 3)) = some (.int .i64 ((rd_T70 l0_0 x6_1).f0)) ∧ w'.cell? ⟨(ad208.add ((x6_1).toNat * 3)).block, (ad208.add ((x6_1).toNat * 3)).off + 1, none⟩ = some (.string ((rd_T70 l0_0 x6_1).f1)) ∧ w'.cell? ⟨(ad208.add ((x6_1).toNat * 3)).block, (ad208.add ((x6_1).toNat * 3)).off + 2, none⟩ = some (.slice A208_2 ((rd_T70 l0_0 x6_1).f2).length c208_2)) (ds := []) #[false, false, false, false, false, false, false, false, false, false, false, false, false, false, false, false, false] (by kernel_rfl) rfl rfl ⟨(blk_cell BK204.out 0).trans rfl, (blk_cell BK205.out 0).trans rfl, (blk_cell BK205.out 1).trans rfl, (blk_cell BK205.out 2).trans rfl, (blk_cell BK205.out 3).trans rfl, hx208_0, hx208_1, hx208_2⟩ (fun hHeld => ?_); refine with_tabW ebbtideref11_Apply.tab4 ebbtideref11_Apply.bits4 (fun HT_ HW_ => ?_)
       generalize wr.drew = w17 at HO_205000 BK204 BK205 BK206 HB HL208_2 HR208_2 hx208_0 hx208_1 hx208_2 hHeld ⊢
       refine p1 0 (some 15) ?_
       refine p1 1 (some 16) ?_
       refine t1 2 (some 17) rfl rfl hHeld (Or.inl ⟨by rfl, by rintro w' ⟨s0, s1, s2, s3, s4, s5, s6, s7⟩; go_simp; with_reducible rfl⟩) ?_
       refine p1 3 (some 18) ?_
       refine p1 4 (some 19) ?_
       refine p1 5 (some 20) ?_
       refine p1 6 (some 21) ?_
       refine p1 8 (some 23) ?_
       refine p1 11 (some 26) ?_
       refine p1 13 (some 28) ?_
       refine t1 7 (some 22) rfl rfl hHeld (Or.inl ⟨by rfl, by rintro w' ⟨s0, s1, s2, s3, s4, s5, s6, s7⟩; go_simp; with_reducible rfl⟩) ?_
       refine p1 9 (some 24) ?_
       refine t1 10 (some 25) rfl rfl hHeld (Or.inl ⟨by rfl, by rintro w' ⟨s0, s1, s2, s3, s4, s5, s6, s7⟩; go_simp; with_reducible rfl⟩) ?_
       refine t1 12 (some 27) rfl rfl hHeld (Or.inl ⟨by rfl, by rintro w' ⟨s0, s1, s2, s3, s4, s5, s6, s7⟩; go_simp; with_reducible rfl⟩) ?_
       refine t1 14 (some 29) rfl rfl hHeld (Or.inl ⟨by rfl, by rintro w' ⟨s0, s1, s2, s3, s4, s5, s6, s7⟩; go_simp; with_reducible rfl⟩) ?_
       refine one_ (i := 15) (N := some 30) #[true, true, true, true, true, true, true, true, true, true, true, true, true, true, true, true, false] rfl rfl (one_of HT_.out (by kernel_rfl)) (by decide) (fun K hK => ?_)
       refine goes_ Try.func41 (by kernel_rfl) rfl #[.agg #[.int .i64 ((rd_T70 l0_0 x6_1).f0), .string ((rd_T70 l0_0 x6_1).f1), .slice A208_2 ((rd_T70 l0_0 x6_1).f2).length c208_2], .int .i64 a1_1, .string a1_2] (by rfl) rfl rfl (by (try simp only [List.map_toArray, List.map_cons, List.map_nil]); first | done | rfl | (simp only [List.length_drop, List.length_take]; rfl)) ?_
       with_reducible refine (ebbtideref11_less.calls ((rd_T70 l0_0 x6_1).f0) ((rd_T70 l0_0 x6_1).f1) _ _ ((rd_T70 l0_0 x6_1).f2) a1_1 a1_2 true _ ?side1 ?side2 A15.out).mono ?_
       (case side1 => repeat (first | exact (by repeat (first | (with_reducible exact HR208_2.out) | (with_reducible refine Kd.C_alloc ?_ _) | (with_reducible refine Kd.C_drewN ?_ _) | (with_reducible refine Kd.C_drew ?_) | exact HR208_2.out)) | (with_reducible refine Kd.C_alloc ?_ _) | (with_reducible refine Kd.C_drewN ?_ _) | (with_reducible refine Kd.C_drew ?_)))
       (case side2 => exact HC208_2.out)
       rintro e w18 ⟨rfl, hb⟩
       have HS5_ := (hb.cell (World.block_lt_of_cell? _ _ (hHeld.2.2.2.2.2.1))).trans (hHeld.2.2.2.2.2.1)
       have HS6_ := (hb.cell (World.block_lt_of_cell? _ _ (hHeld.2.2.2.2.2.2.1))).trans (hHeld.2.2.2.2.2.2.1)
       have HS7_ := (hb.cell (World.block_lt_of_cell? _ _ (hHeld.2.2.2.2.2.2.2))).trans (hHeld.2.2.2.2.2.2.2)
       refine ⟨_, rfl, ?_⟩
       have n0_ := cV HO_205000 hb
       have n1_ := cV HL208_2 hb
       have n2_ := cB BK204 hb
       have n3_ := cB BK205 hb
       have n4_ := cB BK206 hb
       have n5_ := cC HR208_2 hb
       have n6_ := Aside0.mk (below_step bl hb)
       clear HO_205000
       clear HL208_2
       clear BK204
       clear BK205
       clear BK206
       clear HR208_2
       clear HB
       have HO_205000 := n0_
       have HL208_2 := n1_
       have BK204 := n2_
       have BK205 := n3_
       have BK206 := n4_
       have HR208_2 := n5_
       have HB := n6_
       clear n0_ n1_ n2_ n3_ n4_ n5_ n6_
       (try clear hb)
       (try clear hb2)
       (try clear hk)
       (try clear hi)
       refine hK.out _ _ ⟨(blk_cell BK204.out 0).trans rfl, (blk_cell BK205.out 0).trans rfl, (blk_cell BK205.out 1).trans rfl, (blk_cell BK205.out 2).trans rfl, (blk_cell BK205.out 3).trans rfl, HS5_, HS6_, HS7_⟩ (fun hHeld => ?_)
       clear hK K
       refine norm_ (a' := ?_) ?_ ?_
       rotate_left
       ·
        show Act.put _ (some 30) _ = _
        simp only [Act.put, List.setIfInBounds_toArray, List.set_cons_zero, List.set_cons_succ, i64_w, i32_w]
        rfl
       refine p1 16 (some 31) ?_
       refine done_ (done_of HT_.out (by kernel_rfl)) ?_
       try go_wp2
       go_roundg k1
       case measure => have := HK1.out; omega
       case rel => exact ⟨(wrap64 (x6_1 + 1)), rs_, H', ⟨by have := HK1.out; omega⟩, ⟨uV HO_205000.out⟩, ⟨uB BK204.out⟩, ⟨uB BK205.out⟩, ⟨uB BK206.out⟩, ⟨bl⟩⟩
      ·
       replace c16 := Bool.eq_false_iff.mpr c16
       subst c16
       rw [if_neg (show ¬ (false = true) by decide)] at H
       have H' := Aside0.mk H
       clear H
       try go_wp2
       have n0_ := Aside0.mk (Kd.V_drew HO_205000.out)
       have n1_ := Aside0.mk (blk_drew BK204.out)
       have n2_ := Aside0.mk (blk_drew BK205.out)
       have n3_ := Aside0.mk (blk_drew BK206.out)
       have n4_ := Aside0.mk (below_drew1 HB.out)
       clear HO_205000
       clear BK204
       clear BK205
       clear BK206
       clear HB
       have HO_205000 := n0_
       have BK204 := n1_
       have BK205 := n2_
       have BK206 := n3_
       have HB := n4_
       clear n0_ n1_ n2_ n3_ n4_
       have p208 : 0 ≤ (x6_1 : Int) := od
       have q208 : x6_1 < (l0_0.length : Int) := od
       obtain ⟨ad208, A208_2, c208_2, e208, hx208_0, hx208_1, hx208_2, hl208_2, hi208_2⟩ := at_T70 (Kd.V_reads' HO_205000.out).2.2 x6_1 p208 q208
       cases e208
       obtain ⟨ce208, hce208, hMe208, hcc208⟩ := Kd.V_get HO_205000.out z70 x6_1 p208 (by first | exact q208 | exact od | (have e_ := (Kd.V_reads' HO_205000.out).1; omega))
       obtain ⟨ua208_2, uc208_2, rfl, ul208_2, ge208_2⟩ := k70_openF hMe208
       have hv208_2 := hcc208 2 _ rfl
       rw [add_field _ _ 2 (by omega)] at hv208_2
       replace hv208_2 := Option.some.inj (hv208_2.symm.trans hx208_2)
       injection hv208_2 with hva_ hvn_ hvc_
       rw [hva_] at ge208_2
       rw [hvc_] at ul208_2
       have HL208_2 := Aside0.mk (show Kd.V k96 96 _ w.heap.size _ _ ((rd_T70 l0_0 x6_1).f2) from Kd.V_mk ul208_2 ge208_2)
       clear hva_ hvn_ hvc_ ge208_2 ul208_2
       clear hcc208 hce208
       have HR208_2 := Aside0.mk hi208_2
       have HC208_2 := Aside0.mk hl208_2
       clear hi208_2 hl208_2
       replace p208 := eq_true p208
       replace q208 := eq_true q208
       refine start_ (n := 17) (S := fun w' => w'.cell? ⟨gb204, 0, none⟩ = some (.slice (some ad208) l0_0.length c0_0) ∧ w'.cell? ⟨gb205, 0, none⟩ = some (.int .i64 a1_0) ∧ w'.cell? ⟨gb205, 1, none⟩ = some (.int .i64 a1_1) ∧ w'.cell? ⟨gb205, 2, none⟩ = some (.string a1_2) ∧ w'.cell? ⟨gb205, 3, none⟩ = some (.int .i64 a1_3) ∧ w'.cell? (ad208.add ((x6_1).toNat * 3)) = some (.int .i64 ((rd_T70 l0_0 x6_1).f0)) ∧ w'.cell? ⟨(ad208.add ((x6_1).toNat * 3)).block, (ad208.add ((x6_1).toNat * 3)).off + 1, none⟩ = some (.string ((rd_T70 l0_0 x6_1).f1)) ∧ w'.cell? ⟨(ad208.add ((x6_1).toNat * 3)).block, (ad208.add ((x6_1).toNat * 3)).off + 2, none⟩ = some (.slice A208_2 ((rd_T70 l0_0 x6_1).f2).length c208_2)) (ds := []) #[false, false, false, false, false, false, false, false, false, false, false, false, false, false, false, false, false] (by kernel_rfl) rfl rfl ⟨(blk_cell BK204.out 0).trans rfl, (blk_cell BK205.out 0).trans rfl, (blk_cell BK205.out 1).trans rfl, (blk_cell BK205.out 2).trans rfl, (blk_cell BK205.out 3).trans rfl, hx208_0, hx208_1, hx208_2⟩ (fun hHeld => ?_); refine with_tabW ebbtideref11_Apply.tab4 ebbtideref11_Apply.bits4 (fun HT_ HW_ => ?_)
       generalize wr.drew = w19 at HO_205000 BK204 BK205 BK206 HB HL208_2 HR208_2 hx208_0 hx208_1 hx208_2 hHeld ⊢
       refine p1 0 (some 15) ?_
       refine p1 1 (some 16) ?_
       refine t1 2 (some 17) rfl rfl hHeld (Or.inl ⟨by rfl, by rintro w' ⟨s0, s1, s2, s3, s4, s5, s6, s7⟩; go_simp; with_reducible rfl⟩) ?_
       refine p1 3 (some 18) ?_
       refine p1 4 (some 19) ?_
       refine p1 5 (some 20) ?_
       refine p1 6 (some 21) ?_
       refine p1 8 (some 23) ?_
       refine p1 11 (some 26) ?_
       refine p1 13 (some 28) ?_
       refine t1 7 (some 22) rfl rfl hHeld (Or.inl ⟨by rfl, by rintro w' ⟨s0, s1, s2, s3, s4, s5, s6, s7⟩; go_simp; with_reducible rfl⟩) ?_
       refine p1 9 (some 24) ?_
       refine t1 10 (some 25) rfl rfl hHeld (Or.inl ⟨by rfl, by rintro w' ⟨s0, s1, s2, s3, s4, s5, s6, s7⟩; go_simp; with_reducible rfl⟩) ?_
       refine t1 12 (some 27) rfl rfl hHeld (Or.inl ⟨by rfl, by rintro w' ⟨s0, s1, s2, s3, s4, s5, s6, s7⟩; go_simp; with_reducible rfl⟩) ?_
       refine t1 14 (some 29) rfl rfl hHeld (Or.inl ⟨by rfl, by rintro w' ⟨s0, s1, s2, s3, s4, s5, s6, s7⟩; go_simp; with_reducible rfl⟩) ?_
       refine one_ (i := 15) (N := some 30) #[true, true, true, true, true, true, true, true, true, true, true, true, true, true, true, true, false] rfl rfl (one_of HT_.out (by kernel_rfl)) (by decide) (fun K hK => ?_)
       refine goes_ Try.func41 (by kernel_rfl) rfl #[.agg #[.int .i64 ((rd_T70 l0_0 x6_1).f0), .string ((rd_T70 l0_0 x6_1).f1), .slice A208_2 ((rd_T70 l0_0 x6_1).f2).length c208_2], .int .i64 a1_1, .string a1_2] (by rfl) rfl rfl (by (try simp only [List.map_toArray, List.map_cons, List.map_nil]); first | done | rfl | (simp only [List.length_drop, List.length_take]; rfl)) ?_
       with_reducible refine (ebbtideref11_less.calls ((rd_T70 l0_0 x6_1).f0) ((rd_T70 l0_0 x6_1).f1) _ _ ((rd_T70 l0_0 x6_1).f2) a1_1 a1_2 false _ ?side1 ?side2 A15.out).mono ?_
       (case side1 => repeat (first | exact (by repeat (first | (with_reducible exact HR208_2.out) | (with_reducible refine Kd.C_alloc ?_ _) | (with_reducible refine Kd.C_drewN ?_ _) | (with_reducible refine Kd.C_drew ?_) | exact HR208_2.out)) | (with_reducible refine Kd.C_alloc ?_ _) | (with_reducible refine Kd.C_drewN ?_ _) | (with_reducible refine Kd.C_drew ?_)))
       (case side2 => exact HC208_2.out)
       rintro e w20 ⟨rfl, hb⟩
       have HS5_ := (hb.cell (World.block_lt_of_cell? _ _ (hHeld.2.2.2.2.2.1))).trans (hHeld.2.2.2.2.2.1)
       have HS6_ := (hb.cell (World.block_lt_of_cell? _ _ (hHeld.2.2.2.2.2.2.1))).trans (hHeld.2.2.2.2.2.2.1)
       have HS7_ := (hb.cell (World.block_lt_of_cell? _ _ (hHeld.2.2.2.2.2.2.2))).trans (hHeld.2.2.2.2.2.2.2)
       refine ⟨_, rfl, ?_⟩
       have n0_ := cV HO_205000 hb
       have n1_ := cV HL208_2 hb
       have n2_ := cB BK204 hb
       have n3_ := cB BK205 hb
       have n4_ := cB BK206 hb
       have n5_ := cC HR208_2 hb
       have n6_ := Aside0.mk (below_step bl hb)
       clear HO_205000
       clear HL208_2
       clear BK204
       clear BK205
       clear BK206
       clear HR208_2
       clear HB
       have HO_205000 := n0_
       have HL208_2 := n1_
       have BK204 := n2_
       have BK205 := n3_
       have BK206 := n4_
       have HR208_2 := n5_
       have HB := n6_
       clear n0_ n1_ n2_ n3_ n4_ n5_ n6_
       (try clear hb)
       (try clear hb2)
       (try clear hk)
       (try clear hi)
       refine hK.out _ _ ⟨(blk_cell BK204.out 0).trans rfl, (blk_cell BK205.out 0).trans rfl, (blk_cell BK205.out 1).trans rfl, (blk_cell BK205.out 2).trans rfl, (blk_cell BK205.out 3).trans rfl, HS5_, HS6_, HS7_⟩ (fun hHeld => ?_)
       clear hK K
       refine norm_ (a' := ?_) ?_ ?_
       rotate_left
       ·
        show Act.put _ (some 30) _ = _
        simp only [Act.put, List.setIfInBounds_toArray, List.set_cons_zero, List.set_cons_succ, i64_w, i32_w]
        rfl
       refine p1 16 (some 31) ?_
       refine done_ (done_of HT_.out (by kernel_rfl)) ?_
       try go_wp2
       go_meet
       case rel => exact ⟨_, (x6_1), rs_, H', ⟨by have := HK1.out; first | omega | exact Nat.le_refl _⟩, ⟨uV HO_205000.out⟩, ⟨uB BK204.out⟩, ⟨uB BK205.out⟩, ⟨uB BK206.out⟩, ⟨bl⟩⟩
     ·
      rw [if_neg c13] at H
      have c13b0 : decide (x6_1 < (l0_0.length : Int)) = false := decide_eq_false c13
      clear c13
      (first | rw [c13b0] | (simp only [i64_w, i32_w]; rw [c13b0]) | skip)
      have H' := Aside0.mk H
      clear H
      try go_wp2
      have n0_ := Aside0.mk (Kd.V_drew HO_205000.out)
      have n1_ := Aside0.mk (blk_drew BK204.out)
      have n2_ := Aside0.mk (blk_drew BK205.out)
      have n3_ := Aside0.mk (blk_drew BK206.out)
      have n4_ := Aside0.mk (below_drew1 HB.out)
      clear HO_205000
      clear BK204
      clear BK205
      clear BK206
      clear HB
      have HO_205000 := n0_
      have BK204 := n1_
      have BK205 := n2_
      have BK206 := n3_
      have HB := n4_
      clear n0_ n1_ n2_ n3_ n4_
      refine start_ (n := 17) (S := fun w' => w'.cell? ⟨gb204, 0, none⟩ = some (.slice A0_0 l0_0.length c0_0)) (ds := []) #[false, false, false, false, false, false, false, false, false, false, false, false, false, false, false, false, false] (by kernel_rfl) rfl rfl ((blk_cell BK204.out 0).trans rfl) (fun hHeld => ?_); refine with_tabW ebbtideref11_Apply.tab4 ebbtideref11_Apply.bits4 (fun HT_ HW_ => ?_)
      generalize wr.drew = w21 at HO_205000 BK204 BK205 BK206 HB hHeld ⊢
      refine p1 0 (some 15) ?_
      refine p1 1 (some 16) ?_
      refine t1 2 (some 17) rfl rfl hHeld (Or.inl ⟨by rfl, by intro w' s0; go_simp; with_reducible rfl⟩) ?_
      refine p1 3 (some 18) ?_
      refine p1 4 (some 19) ?_
      refine p1 5 (some 20) ?_
      refine p2 6 (some 21) ?_
      refine p2 7 (some 22) ?_
      refine p2 8 (some 23) ?_
      refine p2 9 (some 24) ?_
      refine p2 10 (some 25) ?_
      refine p2 11 (some 26) ?_
      refine p2 12 (some 27) ?_
      refine p2 13 (some 28) ?_
      refine p2 14 (some 29) ?_
      refine p2 15 (some 30) ?_
      refine p1 16 (some 31) ?_
      refine done_ (done_of HT_.out (by kernel_rfl)) ?_
      try go_wp2
      go_meet
      case rel => exact ⟨_, (x6_1), rs_, H', ⟨by have := HK1.out; first | omega | exact Nat.le_refl _⟩, ⟨uV HO_205000.out⟩, ⟨uB BK204.out⟩, ⟨uB BK205.out⟩, ⟨uB BK206.out⟩, ⟨bl⟩⟩
  case rest =>
   clear HC5
   try clear c1
   try clear c2
   try clear p2
   try clear q2
   try clear hx2
   try clear c4
   try clear p6
   try clear c9
   try clear c10
   try clear c13
   try clear c13b0
   try clear c14
   try clear c14b0
   try clear c16
   try clear c20
   try clear p20
   try clear q20
   try clear hx20
   try clear hcz11_0
   try clear hfz11_0
   try clear hx208_0
   try clear hx208_1
   try clear hx208_2
   try clear p208
   try clear q208
   obtain ⟨kq, x6_4, rfl, HA, HJ4, HO_205000, BK204, BK205, BK206, HB⟩ := hcut
   cases kq with
   | zero => exact absurd HA.out (by simp [ebbtideref11_Apply.j1])
   | succ kj4 =>
    have H := HA.out
    clear HA
    simp only [ebbtideref11_Apply.j1] at H
    obtain ⟨c22, H⟩ := gd H
    have c22b0 := eq_true c22
    have c22b1 : decide (0 ≤ x6_4) = true := decide_eq_true c22
    clear c22
    obtain ⟨c23, H⟩ := gd H
    have c23b0 := eq_true c23
    have c23b1 : decide (x6_4 ≤ (l0_0.length : Int)) = true := decide_eq_true c23
    clear c23
    obtain ⟨y210, Ny210, H⟩ := ys H
    try dsimp only at H
    have HC24 := Aside0.mk H
    clear H
    have hnb25 := NB204_205.out
    have hnc25 := NB205_204.out
    have hnb26 := NB204_206.out
    have hnc26 := NB206_204.out
    obtain ⟨hcz27_0, hfz27_0⟩ := z1 BK204
    have q28 : (x6_4 : Int) ≤ ((l0_0.length : Int) : Int) := od
    obtain ⟨i028, hi028, _, hsz28, _⟩ := info_parts info70
    have hroom28 : l0_0.length ≤ c0_0 := (Kd.V_reads' HO_205000.out).2.1
    have hC28 : Kd.F k70 _ _ A0_0 l0_0.length l0_0 := (Kd.V_at (base := w.heap.size) HO_205000.out).2.2
    have q028 : (0 : Int) ≤ (x6_4 : Int) := od
    have hcut28 := cut_from (P := Try.prog) 48 70 .i64 Try.underlying48 hi028 3 hsz28 A0_0 l0_0.length c0_0 x6_4 q028 q28
    have hr28 := Kd.F_cut (m := (x6_4 : Int).toNat) (c := c0_0) hC28 (by omega) hroom28
    obtain ⟨A28, hA28⟩ : ∃ A1, A1 = (if c0_0 = (x6_4 : Int).toNat then A0_0 else (A0_0 : Option Addr).map (·.add ((x6_4 : Int).toNat * 3))) := ⟨_, rfl⟩
    obtain ⟨c28, hc28⟩ : ∃ c1, c1 = c0_0 - (x6_4 : Int).toNat := ⟨_, rfl⟩
    have hy28 : y210.length = l0_0.length - (x6_4 : Int).toNat := (by rw [Ny210.out, List.length_drop] <;> omega)
    rw [show (l0_0).drop (x6_4 : Int).toNat = y210 from Ny210.out.symm] at hr28
    replace hr28 : Kd.F k70 _ _ A28 y210.length y210 := (by rw [hA28]; exact hr28)
    rw [← hy28, ← hA28, ← hc28] at hcut28
    have HO214 := Aside0.mk (show Kd.V k70 70 _ w.heap.size _ (.slice A28 y210.length c28) y210 from Kd.V_mk (by rw [hy28, hc28]; exact Nat.sub_le_sub_right hroom28 _) hr28)
    have HC214 := Aside0.mk (show y210.length ≤ c28 from by rw [hy28, hc28]; exact Nat.sub_le_sub_right hroom28 _)
    clear hr28 hC28 hroom28 hi028 hsz28 hc28
    have KY28 := Aside0.mk hy28
    have KA28 := Aside0.mk hA28
    clear hy28 hA28
    replace q28 := eq_true q28
    go_upto_region 8 with (fail)
    go_cut [58] (fun v58 wc => ∃ (kq : Nat) (x58_23 : Bool), v58 = .bool x58_23 ∧ Aside0 (ebbtideref11_Apply.j2 kq x6_4 ([] : List (S96)) y210 x58_23 l0_0 a1_0 a1_1 a1_2 a1_3 = some (r1, r2)) ∧ Aside0 (kq ≤ kj4) ∧ Aside0 (Kd.R k96 96 wc w.heap.size (fun k_ => (w.heap.size ≤ k_)) (.slice none 0 0) ([] : List (S96))) ∧ Aside0 (Kd.V k70 70 wc w.heap.size (fun k_ => (P0_0_ k_ ∨ w.heap.size ≤ k_) ∧ some k_ ≠ ((.slice none 0 0) : Value).ownBlock ∧ k_ ≠ gb204 ∧ k_ ≠ gb205 ∧ k_ ≠ gb206) (.slice A28 y210.length c28) y210) ∧ Aside0 (Kd.V k70 70 wc w.heap.size (fun k_ => (P0_0_ k_ ∨ w.heap.size ≤ k_) ∧ some k_ ≠ ((.slice none 0 0) : Value).ownBlock ∧ k_ ≠ gb204 ∧ k_ ≠ gb205 ∧ k_ ≠ gb206) (.slice A0_0 l0_0.length c0_0) l0_0) ∧ Aside0 (wc.heap[gb204]? = some (.cells #[(.slice A0_0 l0_0.length c0_0)] 50 (0, 0))) ∧ Aside0 (wc.heap[gb205]? = some (.cells #[.int .i64 a1_0, .int .i64 a1_1, .string a1_2, .int .i64 a1_3] 61 (0, 0))) ∧ Aside0 (wc.heap[gb206]? = some (.cells #[(.slice none 0 0)] 50 (0, 0))) ∧ Aside0 (Below w.heap.size w wc))
    case first =>
     have H := HC24.out
     clear HC24
     by_cases c29 : (y210.length : Int) > 0
     ·
      rw [if_pos c29] at H
      have c29b0 : decide (0 < (y210.length : Int)) = true := decide_eq_true c29
      have c29b1 : decide (0 < y210.length) = true := decide_eq_true (by omega)
      clear c29
      (first | rw [c29b0] | (simp only [i64_w, i32_w]; rw [c29b0]) | skip)
      obtain ⟨c30, H⟩ := gd H
      have c30b0 : decide (0 < (y210.length : Int)) = true := decide_eq_true c30
      have c30b1 : decide (0 < y210.length) = true := decide_eq_true (by omega)
      clear c30
      by_cases c31 : ((rd_T70 y210 0).f0) = a1_1
      ·
       rw [if_pos c31] at H
       have c31b0 : (((rd_T70 y210 0).f0) == a1_1) = true := beq_iff_eq.mpr c31
       have c31b1 : (((rd_T70 y210 0).f0) != a1_1) = false := bne_eq_false_iff_eq.mpr c31
       clear c31
       have H' := Aside0.mk H
       clear H
       try go_wp2
       have n0_ := Aside0.mk (Kd.V_drew HO_205000.out)
       have n1_ := Aside0.mk (Kd.V_drew HO214.out)
       have n2_ := Aside0.mk (blk_drew BK204.out)
       have n3_ := Aside0.mk (blk_drew BK205.out)
       have n4_ := Aside0.mk (blk_drew BK206.out)
       have n5_ := Aside0.mk (below_drew1 HB.out)
       clear HO_205000
       clear HO214
       clear BK204
       clear BK205
       clear BK206
       clear HB
       have HO_205000 := n0_
       have HO214 := n1_
       have BK204 := n2_
       have BK205 := n3_
       have BK206 := n4_
       have HB := n5_
       clear n0_ n1_ n2_ n3_ n4_ n5_
       have p215 : 0 ≤ (0 : Int) := (by omega)
       have q215 : 0 < (y210.length : Int) := od
       obtain ⟨ad215, A215_2, c215_2, e215, hx215_0, hx215_1, hx215_2, hl215_2, hi215_2⟩ := at_T70 (Kd.V_reads' HO214.out).2.2 0 p215 q215
       cases e215
       obtain ⟨ce215, hce215, hMe215, hcc215⟩ := Kd.V_get HO214.out z70 0 p215 (by first | exact q215 | exact od | (have e_ := (Kd.V_reads' HO214.out).1; omega))
       obtain ⟨ua215_2, uc215_2, rfl, ul215_2, ge215_2⟩ := k70_openF hMe215
       have hv215_2 := hcc215 2 _ rfl
       rw [add_field _ _ 2 (by omega)] at hv215_2
       replace hv215_2 := Option.some.inj (hv215_2.symm.trans hx215_2)
       injection hv215_2 with hva_ hvn_ hvc_
       rw [hva_] at ge215_2
       rw [hvc_] at ul215_2
       have HL215_2 := Aside0.mk (show Kd.V k96 96 _ w.heap.size _ _ ((rd_T70 y210 0).f2) from Kd.V_mk ul215_2 ge215_2)
       clear hva_ hvn_ hvc_ ge215_2 ul215_2
       clear hcc215 hce215
       have qi215 : (0 < y210.length) = True := eq_true (by omega)
       (try rw [show ((0 : Int)).toNat = 0 from rfl] at hx215_0)
       (try rw [show 0 * 3 = 0 from rfl] at hx215_0)
       (try rw [Addr.add_zero'] at hx215_0)
       (try rw [show ((0 : Int)).toNat = 0 from rfl] at hx215_1)
       (try rw [show 0 * 3 = 0 from rfl] at hx215_1)
       (try rw [Addr.add_zero'] at hx215_1)
       (try rw [show ((0 : Int)).toNat = 0 from rfl] at hx215_2)
       (try rw [show 0 * 3 = 0 from rfl] at hx215_2)
       (try rw [Addr.add_zero'] at hx215_2)
       have HR215_2 := Aside0.mk hi215_2
       have HC215_2 := Aside0.mk hl215_2
       clear hi215_2 hl215_2
       replace p215 := eq_true p215
       replace q215 := eq_true q215
       have p216 : 0 ≤ (0 : Int) := (by omega)
       have q216 : 0 < (y210.length : Int) := od
       obtain ⟨ad216, A216_2, c216_2, e216, hx216_0, hx216_1, hx216_2, hl216_2, hi216_2⟩ := at_T70 (Kd.V_reads' HO214.out).2.2 0 p216 q216
       obtain rfl : ad215 = ad216 := (by injection e216)
       obtain ⟨ce216, hce216, hMe216, hcc216⟩ := Kd.V_get HO214.out z70 0 p216 (by first | exact q216 | exact od | (have e_ := (Kd.V_reads' HO214.out).1; omega))
       obtain ⟨ua216_2, uc216_2, rfl, ul216_2, ge216_2⟩ := k70_openF hMe216
       have hv216_2 := hcc216 2 _ rfl
       rw [add_field _ _ 2 (by omega)] at hv216_2
       replace hv216_2 := Option.some.inj (hv216_2.symm.trans hx216_2)
       injection hv216_2 with hva_ hvn_ hvc_
       rw [hva_] at ge216_2
       rw [hvc_] at ul216_2
       have HL216_2 := Aside0.mk (show Kd.V k96 96 _ w.heap.size _ _ ((rd_T70 y210 0).f2) from Kd.V_mk ul216_2 ge216_2)
       clear hva_ hvn_ hvc_ ge216_2 ul216_2
       clear hcc216 hce216
       have qi216 : (0 < y210.length) = True := eq_true (by omega)
       (try rw [show ((0 : Int)).toNat = 0 from rfl] at hx216_0)
       (try rw [show 0 * 3 = 0 from rfl] at hx216_0)
       (try rw [Addr.add_zero'] at hx216_0)
       (try rw [show ((0 : Int)).toNat = 0 from rfl] at hx216_1)
       (try rw [show 0 * 3 = 0 from rfl] at hx216_1)
       (try rw [Addr.add_zero'] at hx216_1)
       (try rw [show ((0 : Int)).toNat = 0 from rfl] at hx216_2)
       (try rw [show 0 * 3 = 0 from rfl] at hx216_2)
       (try rw [Addr.add_zero'] at hx216_2)
       have HR216_2 := Aside0.mk hi216_2
       have HC216_2 := Aside0.mk hl216_2
       clear hi216_2 hl216_2
       replace p216 := eq_true p216
       replace q216 := eq_true q216
       have ea_ := Option.some.inj (hx215_2.symm.trans hx216_2)
       injection ea_ with ea_ en_ ec_
       subst ea_
       subst ec_
       clear en_
       refine start_ (n := 21) (S := fun w' => w'.cell? ⟨gb205, 0, none⟩ = some (.int .i64 a1_0) ∧ w'.cell? ⟨gb205, 1, none⟩ = some (.int .i64 a1_1) ∧ w'.cell? ⟨gb205, 2, none⟩ = some (.string a1_2) ∧ w'.cell? ⟨gb205, 3, none⟩ = some (.int .i64 a1_3) ∧ w'.cell? ad215 = some (.int .i64 ((rd_T70 y210 0).f0)) ∧ w'.cell? ⟨ad215.block, ad215.off + 1, none⟩ = some (.string ((rd_T70 y210 0).f1)) ∧ w'.cell? ⟨ad215.block, ad215.off + 2, none⟩ = some (.slice A215_2 ((rd_T70 y210 0).f2).length c215_2) ∧ w'.cell? ad215 = some (.int .i64 ((rd_T70 y210 0).f0)) ∧ w'.cell? ⟨ad215.block, ad215.off + 1, none⟩ = some (.string ((rd_T70 y210 0).f1)) ∧ w'.cell? ⟨ad215.block, ad215.off + 2, none⟩ = some (.slice A215_2 ((rd_T70 y210 0).f2).length c215_2)) (ds := []) #[false, false, false, false, false, false, false, false, false, false, false, false, false, false, false, false, false, false, false, false, false] (by kernel_rfl) rfl rfl ⟨(blk_cell BK205.out 0).trans rfl, (blk_cell BK205.out 1).trans rfl, (blk_cell BK205.out 2).trans rfl, (blk_cell BK205.out 3).trans rfl, hx215_0, hx215_1, hx215_2, hx216_0, hx216_1, hx216_2⟩ (fun hHeld => ?_); refine with_tabW ebbtideref11_Apply.tab8 ebbtideref11_Apply.bits8 (fun HT_ HW_ => ?_)
       generalize wc.drew = w32 at HO_205000 HO214 BK204 BK205 BK206 HB HL215_2 HL216_2 HR215_2 HR216_2 hx215_0 hx215_1 hx215_2 hx216_0 hx216_1 hx216_2 hHeld ⊢
       refine p1 0 (some 38) ?_
       refine p1 1 (some 39) ?_
       refine p1 2 (some 40) ?_
       refine p1 3 (some 41) ?_
       refine p1 4 (some 42) ?_
       refine p1 5 (some 43) ?_
       refine p1 6 (some 44) ?_
       refine p1 8 (some 46) ?_
       refine t1 7 (some 45) rfl rfl hHeld (Or.inl ⟨by rfl, by rintro w' ⟨s0, s1, s2, s3, s4, s5, s6, s7, s8, s9⟩; go_simp; with_reducible rfl⟩) ?_
       refine t1 9 (some 47) rfl rfl hHeld (Or.inl ⟨by rfl, by rintro w' ⟨s0, s1, s2, s3, s4, s5, s6, s7, s8, s9⟩; go_simp; with_reducible rfl⟩) ?_
       refine p1 10 (some 48) ?_
       refine p1 11 (some 49) ?_
       refine p1 12 (some 50) ?_
       refine p1 13 (some 51) ?_
       refine p1 14 (some 52) ?_
       refine p1 15 (some 53) ?_
       refine p1 17 (some 55) ?_
       refine t1 16 (some 54) rfl rfl hHeld (Or.inl ⟨by rfl, by rintro w' ⟨s0, s1, s2, s3, s4, s5, s6, s7, s8, s9⟩; go_simp; with_reducible rfl⟩) ?_
       refine t1 18 (some 56) rfl rfl hHeld (Or.inl ⟨by rfl, by rintro w' ⟨s0, s1, s2, s3, s4, s5, s6, s7, s8, s9⟩; go_simp; with_reducible rfl⟩) ?_
       refine p1 19 (some 57) ?_
       refine p1 20 (some 58) ?_
       refine done_ (done_of HT_.out (by kernel_rfl)) ?_
       try go_wp2
       go_meet
       case rel => exact ⟨_, ((((rd_T70 y210 0).f1).toList == a1_2.toList)), rs_, H', ⟨by have := HJ4.out; first | omega | exact Nat.le_refl _⟩, ⟨nl_⟩, ⟨by exact uV <| Kd.V_mono HO214.out (fun _ hk => ⟨hk.1, ⟨(by simp [Value.ownBlock]), ⟨hk.2.1, ⟨hk.2.2.1, hk.2.2.2⟩⟩⟩⟩)⟩, ⟨by exact uV <| Kd.V_mono HO_205000.out (fun _ hk => ⟨hk.1, ⟨(by simp [Value.ownBlock]), ⟨hk.2.1, ⟨hk.2.2.1, hk.2.2.2⟩⟩⟩⟩)⟩, ⟨uB BK204.out⟩, ⟨uB BK205.out⟩, ⟨uB BK206.out⟩, ⟨bl⟩⟩
      ·
       rw [if_neg c31] at H
       have c31b0 : (((rd_T70 y210 0).f0) == a1_1) = false := beq_eq_false_iff_ne.mpr c31
       have c31b1 : (((rd_T70 y210 0).f0) != a1_1) = true := bne_iff_ne.mpr c31
       have H' := Aside0.mk H
       clear H
       try go_wp2
       have n0_ := Aside0.mk (Kd.V_drew HO_205000.out)
       have n1_ := Aside0.mk (Kd.V_drew HO214.out)
       have n2_ := Aside0.mk (blk_drew BK204.out)
       have n3_ := Aside0.mk (blk_drew BK205.out)
       have n4_ := Aside0.mk (blk_drew BK206.out)
       have n5_ := Aside0.mk (below_drew1 HB.out)
       clear HO_205000
       clear HO214
       clear BK204
       clear BK205
       clear BK206
       clear HB
       have HO_205000 := n0_
       have HO214 := n1_
       have BK204 := n2_
       have BK205 := n3_
       have BK206 := n4_
       have HB := n5_
       clear n0_ n1_ n2_ n3_ n4_ n5_
       have p215 : 0 ≤ (0 : Int) := (by omega)
       have q215 : 0 < (y210.length : Int) := od
       obtain ⟨ad215, A215_2, c215_2, e215, hx215_0, hx215_1, hx215_2, hl215_2, hi215_2⟩ := at_T70 (Kd.V_reads' HO214.out).2.2 0 p215 q215
       cases e215
       obtain ⟨ce215, hce215, hMe215, hcc215⟩ := Kd.V_get HO214.out z70 0 p215 (by first | exact q215 | exact od | (have e_ := (Kd.V_reads' HO214.out).1; omega))
       obtain ⟨ua215_2, uc215_2, rfl, ul215_2, ge215_2⟩ := k70_openF hMe215
       have hv215_2 := hcc215 2 _ rfl
       rw [add_field _ _ 2 (by omega)] at hv215_2
       replace hv215_2 := Option.some.inj (hv215_2.symm.trans hx215_2)
       injection hv215_2 with hva_ hvn_ hvc_
       rw [hva_] at ge215_2
       rw [hvc_] at ul215_2
       have HL215_2 := Aside0.mk (show Kd.V k96 96 _ w.heap.size _ _ ((rd_T70 y210 0).f2) from Kd.V_mk ul215_2 ge215_2)
       clear hva_ hvn_ hvc_ ge215_2 ul215_2
       clear hcc215 hce215
       have qi215 : (0 < y210.length) = True := eq_true (by omega)
       (try rw [show ((0 : Int)).toNat = 0 from rfl] at hx215_0)
       (try rw [show 0 * 3 = 0 from rfl] at hx215_0)
       (try rw [Addr.add_zero'] at hx215_0)
       (try rw [show ((0 : Int)).toNat = 0 from rfl] at hx215_1)
       (try rw [show 0 * 3 = 0 from rfl] at hx215_1)
       (try rw [Addr.add_zero'] at hx215_1)
       (try rw [show ((0 : Int)).toNat = 0 from rfl] at hx215_2)
       (try rw [show 0 * 3 = 0 from rfl] at hx215_2)
       (try rw [Addr.add_zero'] at hx215_2)
       have HR215_2 := Aside0.mk hi215_2
       have HC215_2 := Aside0.mk hl215_2
       clear hi215_2 hl215_2
       replace p215 := eq_true p215
       replace q215 := eq_true q215
       refine start_ (n := 21) (S := fun w' => w'.cell? ⟨gb205, 0, none⟩ = some (.int .i64 a1_0) ∧ w'.cell? ⟨gb205, 1, none⟩ = some (.int .i64 a1_1) ∧ w'.cell? ⟨gb205, 2, none⟩ = some (.string a1_2) ∧ w'.cell? ⟨gb205, 3, none⟩ = some (.int .i64 a1_3) ∧ w'.cell? ad215 = some (.int .i64 ((rd_T70 y210 0).f0)) ∧ w'.cell? ⟨ad215.block, ad215.off + 1, none⟩ = some (.string ((rd_T70 y210 0).f1)) ∧ w'.cell? ⟨ad215.block, ad215.off + 2, none⟩ = some (.slice A215_2 ((rd_T70 y210 0).f2).length c215_2)) (ds := []) #[false, false, false, false, false, false, false, false, false, false, false, false, false, false, false, false, false, false, false, false, false] (by kernel_rfl) rfl rfl ⟨(blk_cell BK205.out 0).trans rfl, (blk_cell BK205.out 1).trans rfl, (blk_cell BK205.out 2).trans rfl, (blk_cell BK205.out 3).trans rfl, hx215_0, hx215_1, hx215_2⟩ (fun hHeld => ?_); refine with_tabW ebbtideref11_Apply.tab8 ebbtideref11_Apply.bits8 (fun HT_ HW_ => ?_)
       generalize wc.drew = w33 at HO_205000 HO214 BK204 BK205 BK206 HB HL215_2 HR215_2 hx215_0 hx215_1 hx215_2 hHeld ⊢
       refine p1 0 (some 38) ?_
       refine p1 1 (some 39) ?_
       refine p1 2 (some 40) ?_
       refine p1 3 (some 41) ?_
       refine p1 4 (some 42) ?_
       refine p1 5 (some 43) ?_
       refine p1 6 (some 44) ?_
       refine p1 8 (some 46) ?_
       refine t1 7 (some 45) rfl rfl hHeld (Or.inl ⟨by rfl, by rintro w' ⟨s0, s1, s2, s3, s4, s5, s6⟩; go_simp; with_reducible rfl⟩) ?_
       refine t1 9 (some 47) rfl rfl hHeld (Or.inl ⟨by rfl, by rintro w' ⟨s0, s1, s2, s3, s4, s5, s6⟩; go_simp; with_reducible rfl⟩) ?_
       refine p1 10 (some 48) ?_
       refine p1 11 (some 49) ?_
       refine p1 12 (some 50) ?_
       refine p2 13 (some 51) ?_
       refine p2 14 (some 52) ?_
       refine p2 15 (some 53) ?_
       refine p2 16 (some 54) ?_
       refine p2 17 (some 55) ?_
       refine p2 18 (some 56) ?_
       refine p2 19 (some 57) ?_
       refine p1 20 (some 58) ?_
       refine done_ (done_of HT_.out (by kernel_rfl)) ?_
       try go_wp2
       go_meet
       case rel => exact ⟨_, (false), rs_, H', ⟨by have := HJ4.out; first | omega | exact Nat.le_refl _⟩, ⟨nl_⟩, ⟨by exact uV <| Kd.V_mono HO214.out (fun _ hk => ⟨hk.1, ⟨(by simp [Value.ownBlock]), ⟨hk.2.1, ⟨hk.2.2.1, hk.2.2.2⟩⟩⟩⟩)⟩, ⟨by exact uV <| Kd.V_mono HO_205000.out (fun _ hk => ⟨hk.1, ⟨(by simp [Value.ownBlock]), ⟨hk.2.1, ⟨hk.2.2.1, hk.2.2.2⟩⟩⟩⟩)⟩, ⟨uB BK204.out⟩, ⟨uB BK205.out⟩, ⟨uB BK206.out⟩, ⟨bl⟩⟩
     ·
      rw [if_neg c29] at H
      have c29b0 : decide (0 < (y210.length : Int)) = false := decide_eq_false c29
      have c29b1 : decide (0 < y210.length) = false := decide_eq_false (by omega)
      clear c29
      (first | rw [c29b0] | (simp only [i64_w, i32_w]; rw [c29b0]) | skip)
      have H' := Aside0.mk H
      clear H
      try go_wp2
      have n0_ := Aside0.mk (Kd.V_drew HO_205000.out)
      have n1_ := Aside0.mk (Kd.V_drew HO214.out)
      have n2_ := Aside0.mk (blk_drew BK204.out)
      have n3_ := Aside0.mk (blk_drew BK205.out)
      have n4_ := Aside0.mk (blk_drew BK206.out)
      have n5_ := Aside0.mk (below_drew1 HB.out)
      clear HO_205000
      clear HO214
      clear BK204
      clear BK205
      clear BK206
      clear HB
      have HO_205000 := n0_
      have HO214 := n1_
      have BK204 := n2_
      have BK205 := n3_
      have BK206 := n4_
      have HB := n5_
      clear n0_ n1_ n2_ n3_ n4_ n5_
      refine start_ (n := 21) (S := fun w' => True) (ds := []) #[false, false, false, false, false, false, false, false, false, false, false, false, false, false, false, false, false, false, false, false, false] (by kernel_rfl) rfl rfl trivial (fun hHeld => ?_); refine with_tabW ebbtideref11_Apply.tab8 ebbtideref11_Apply.bits8 (fun HT_ HW_ => ?_)
      generalize wc.drew = w34 at HO_205000 HO214 BK204 BK205 BK206 HB hHeld ⊢
      refine p1 0 (some 38) ?_
      refine p1 1 (some 39) ?_
      refine p1 2 (some 40) ?_
      refine p1 3 (some 41) ?_
      refine p2 4 (some 42) ?_
      refine p2 5 (some 43) ?_
      refine p2 6 (some 44) ?_
      refine p2 7 (some 45) ?_
      refine p2 8 (some 46) ?_
      refine p2 9 (some 47) ?_
      refine p2 10 (some 48) ?_
      refine p1 11 (some 49) ?_
      refine p1 12 (some 50) ?_
      refine p2 13 (some 51) ?_
      refine p2 14 (some 52) ?_
      refine p2 15 (some 53) ?_
      refine p2 16 (some 54) ?_
      refine p2 17 (some 55) ?_
      refine p2 18 (some 56) ?_
      refine p2 19 (some 57) ?_
      refine p1 20 (some 58) ?_
      refine done_ (done_of HT_.out (by kernel_rfl)) ?_
      try go_wp2
      go_meet
      case rel => exact ⟨_, (false), rs_, H', ⟨by have := HJ4.out; first | omega | exact Nat.le_refl _⟩, ⟨nl_⟩, ⟨by exact uV <| Kd.V_mono HO214.out (fun _ hk => ⟨hk.1, ⟨(by simp [Value.ownBlock]), ⟨hk.2.1, ⟨hk.2.2.1, hk.2.2.2⟩⟩⟩⟩)⟩, ⟨by exact uV <| Kd.V_mono HO_205000.out (fun _ hk => ⟨hk.1, ⟨(by simp [Value.ownBlock]), ⟨hk.2.1, ⟨hk.2.2.1, hk.2.2.2⟩⟩⟩⟩)⟩, ⟨uB BK204.out⟩, ⟨uB BK205.out⟩, ⟨uB BK206.out⟩, ⟨bl⟩⟩
    case rest =>
     clear HC24
     try clear c2
     try clear p2
     try clear q2
     try clear hx2
     try clear qi2
     try clear c3
     try clear c21
     try clear p21
     try clear q21
     try clear hx21
     try clear qi21
     try clear c29
     try clear c29b0
     try clear c29b1
     try clear c30
     try clear c31
     try clear c31b0
     try clear c31b1
     try clear hx215_0
     try clear hx215_1
     try clear hx215_2
     try clear hx216_0
     try clear hx216_1
     try clear hx216_2
     try clear p215
     try clear p216
     try clear q215
     try clear q216
     obtain ⟨kq, x58_23, rfl, HA, HJ23, HO_7, HO_8, HO_205000, BK204, BK205, BK206, HB⟩ := hcut
     cases kq with
     | zero => exact absurd HA.out (by simp [ebbtideref11_Apply.j2])
     | succ kj23 =>
      have H := HA.out
      clear HA
      simp only [ebbtideref11_Apply.j2] at H
      by_cases c35 : x58_23 = true
      ·
       subst c35
       rw [if_pos rfl] at H
       exact absurd H (by simp)
      ·
       replace c35 := Bool.eq_false_iff.mpr c35
       subst c35
       rw [if_neg (show ¬ (false = true) by decide)] at H
       obtain ⟨⟨t217, t218⟩, A36, H⟩ := bs H
       try dsimp only at H
       obtain ⟨c37, H⟩ := gd H
       have c37b0 : (t218 == 0) = true := beq_iff_eq.mpr c37
       have c37b1 : (t218 != 0) = false := bne_eq_false_iff_eq.mpr c37
       clear c37
       obtain ⟨y221, Ny221, H⟩ := ys H
       try dsimp only at H
       obtain ⟨c38, H⟩ := gd H
       have c38b0 := eq_true c38
       have c38b1 : decide (0 ≤ x6_4) = true := decide_eq_true c38
       clear c38
       obtain ⟨c39, H⟩ := gd H
       have c39b0 := eq_true c39
       have c39b1 : decide (x6_4 ≤ (l0_0.length : Int)) = true := decide_eq_true c39
       clear c39
       obtain ⟨y224, Ny224, H⟩ := ys H
       try dsimp only at H
       obtain ⟨c40, H⟩ := gd H
       have LMc40 := Aside0.mk c40
       clear c40
       obtain ⟨y229, Ny229, H⟩ := ys H
       try dsimp only at H
       obtain ⟨y232, Ny232, H⟩ := ys H
       try dsimp only at H
       obtain ⟨c41, H⟩ := gd H
       have LMc41 := Aside0.mk c41
       clear c41
       obtain ⟨y235, Ny235, H⟩ := ys H
       try dsimp only at H
       obtain ⟨c42, H⟩ := gd H
       have LMc42 := Aside0.mk c42
       clear c42
       obtain ⟨y238, hy238⟩ : ∃ y_ : List (S70), y_ = (y235 ++ y210) := ⟨_, rfl⟩
       replace H : (some (y238, 0)) = some (r1, r2) := by first | (rw [hy238]; with_reducible exact H) | (have H2_ := (Option.bind_some _ _).symm.trans H; rw [hy238]; with_reducible exact H2_) | (have H2_ := (Option.bind_some _ _).symm.trans H; with_reducible exact H2_) | with_reducible exact H | (rw [hy238]; exact H) | exact H
       have Ny238 := Aside0.mk hy238
       clear hy238
       simp only [Option.some.injEq, Prod.mk.injEq] at H
       obtain ⟨rfl, rfl⟩ := H
       have hnb43 := NB205_204.out
       have hnc43 := NB204_205.out
       have hnb44 := NB205_206.out
       have hnc44 := NB206_205.out
       obtain ⟨hcz45_0, hcz45_1, hcz45_2, hcz45_3, hfz45_0, hfz45_1, hfz45_2, hfz45_3⟩ := z4 BK205
       try go_wp2_with (first | ((with_reducible refine gate_callee (f := 42) rfl ?_); refine goesL_ (some 71) rfl rfl Try.func42 (by kernel_rfl) rfl #[.slice none ([] : List (S96)).length 0, .int .i64 a1_0, .int .i64 a1_3] rfl (by (try simp only [List.map_toArray, List.map_cons, List.map_nil]); first | done | (rw [show ([] : List (S96)).length = 0 from (Kd.R_reads' HO_7.out).1.symm] <;> rfl) | rfl | (simp only [List.length_drop, List.length_take]; rfl)) ?_; (with_reducible refine (ebbtideref10_Fold.calls kj23 _ _ ([] : List (S96)) a1_0 a1_3 t217 t218 _ ?side1 ?side2 A36.out).mono ?_); (case side1 => exact uC <| (Kd.R_reads' HO_7.out).2.2); (case side2 => rw [show ([] : List (S96)).length = 0 from (Kd.R_reads' HO_7.out).1.symm]; exact (Kd.R_reads' HO_7.out).2.1); rintro e w46 ⟨v219, rfl, ho0, hb⟩; refine ⟨_, rfl, ?_⟩; replace HO_8 := Aside0.mk (Kd.V_elder' (uV HO_8.out) (Kd.R_base ho0) hb); replace HO_205000 := Aside0.mk (Kd.V_elder' (uV HO_205000.out) (Kd.R_base ho0) hb); have HO220 := Aside0.mk (Kd.R_lower (Kd.R_new' (Kd.R_newM (M := fun k_ => (w.heap.size ≤ k_)) ho0 (below_size bl) (fun k_ h_ => h_)) (Kd.R_lt (uR HO_7.out))) (below_size bl)); replace HO_7 := Aside0.mk (Kd.R_elder' (uR HO_7.out) (Kd.R_base ho0) hb); replace BK204 := cB BK204 hb; replace BK205 := cB BK205 hb; replace BK206 := cB BK206 hb; replace HB := Aside0.mk (below_step bl hb); (try clear hb); (try clear ho0)))
       have n0_ := Aside0.mk (Kd.R_drew HO_7.out)
       have n1_ := Aside0.mk (Kd.V_drew HO_8.out)
       have n2_ := Aside0.mk (Kd.V_drew HO_205000.out)
       have n3_ := Aside0.mk (Kd.R_drew HO220.out)
       have n4_ := Aside0.mk (blk_drew BK204.out)
       have n5_ := Aside0.mk (blk_drew BK205.out)
       have n6_ := Aside0.mk (blk_drew BK206.out)
       have n7_ := Aside0.mk (below_drew1 HB.out)
       clear HO_7
       clear HO_8
       clear HO_205000
       clear HO220
       clear BK204
       clear BK205
       clear BK206
       clear HB
       have HO_7 := n0_
       have HO_8 := n1_
       have HO_205000 := n2_
       have HO220 := n3_
       have BK204 := n4_
       have BK205 := n5_
       have BK206 := n6_
       have HB := n7_
       clear n0_ n1_ n2_ n3_ n4_ n5_ n6_ n7_
       have q48 : (x6_4 : Int) ≤ ((l0_0.length : Int) : Int) := od
       obtain ⟨i048, hi048, _, hsz48, _⟩ := info_parts info70
       have hroom48 : l0_0.length ≤ c0_0 := (Kd.V_reads' HO_205000.out).2.1
       have hC48 : Kd.F k70 _ _ A0_0 l0_0.length l0_0 := (Kd.V_at (base := w.heap.size) HO_205000.out).2.2
       have hcut48 := cut_to (P := Try.prog) 48 70 .i64 Try.underlying48 hi048 A0_0 l0_0.length c0_0 x6_4 (od) q48 hroom48
       have hr48 := Kd.F_take (m := (x6_4 : Int).toNat) hC48 (by omega)
       have hy48 : y224.length = (x6_4 : Int).toNat := (by rw [Ny224.out, List.length_take]; omega)
       rw [← Ny224.out] at hr48
       rw [← hy48] at hcut48
       have HO228 := Aside0.mk (show Kd.V k70 70 _ w.heap.size _ (.slice A0_0 y224.length c0_0) y224 from Kd.V_mk (by omega) hr48)
       have HC228 := Aside0.mk (show y224.length ≤ c0_0 from by omega)
       clear hr48 hC48 hroom48 hi048 hsz48
       have KY48 := Aside0.mk hy48
       clear hy48
       replace q48 := eq_true q48
       obtain ⟨Ao49, co49, eo49⟩ := Kd.R_slice HO220.out
       (first | subst eo49 | (injection eo49 with f1_ f2_ f3_; have f4_ := f1_.symm; have f5_ := f3_.symm; clear f1_ f2_ f3_; subst f4_; subst f5_))
       refine start_ (n := 15) (S := fun w' => w'.cell? ⟨gb204, 0, none⟩ = some (.slice A0_0 l0_0.length c0_0) ∧ w'.cell? ⟨gb205, 0, none⟩ = some (.int .i64 a1_0) ∧ w'.cell? ⟨gb205, 1, none⟩ = some (.int .i64 a1_1) ∧ w'.cell? ⟨gb205, 2, none⟩ = some (.string a1_2) ∧ w'.cell? ⟨gb205, 3, none⟩ = some (.int .i64 a1_3)) (ds := []) #[false, false, false, false, false, false, false, false, false, false, false, false, false, false, false] (by kernel_rfl) rfl rfl ⟨(blk_cell BK204.out 0).trans rfl, (blk_cell BK205.out 0).trans rfl, (blk_cell BK205.out 1).trans rfl, (blk_cell BK205.out 2).trans rfl, (blk_cell BK205.out 3).trans rfl⟩ (fun hHeld => ?_); refine with_tabW ebbtideref11_Apply.tab13 ebbtideref11_Apply.bits13 (fun HT_ HW_ => ?_)
       generalize w46.drew = w47 at HO_7 HO_8 HO_205000 HO220 BK204 BK205 BK206 HB HO228 hHeld ⊢
       refine p1 1 (some 79) ?_
       refine p1 3 (some 81) ?_
       refine p1 6 (some 84) ?_
       refine p1 8 (some 86) ?_
       refine p1 10 (some 88) ?_
       refine t1 2 (some 80) rfl rfl hHeld (Or.inl ⟨by rfl, by rintro w' ⟨s0, s1, s2, s3, s4⟩; go_simp; with_reducible rfl⟩) ?_
       refine p1 4 (some 82) ?_
       refine t1 7 (some 85) rfl rfl hHeld (Or.inl ⟨by rfl, by rintro w' ⟨s0, s1, s2, s3, s4⟩; go_simp; with_reducible rfl⟩) ?_
       refine t1 9 (some 87) rfl rfl hHeld (Or.inl ⟨by rfl, by rintro w' ⟨s0, s1, s2, s3, s4⟩; go_simp; with_reducible rfl⟩) ?_
       refine p1 11 (some 89) ?_
       refine join_ (σ := Value × Value × Value) 2 #[true, true, true, true, true, true, true, true, true, true, true, true, true, false, false] (fun s_ => [(78, s_.1), (83, s_.2.1), (90, s_.2.2)]) (fun s_ w' => (w'.cell? ⟨gb204, 0, none⟩ = some (.slice A0_0 l0_0.length c0_0) ∧ w'.cell? ⟨gb205, 0, none⟩ = some (.int .i64 a1_0) ∧ w'.cell? ⟨gb205, 1, none⟩ = some (.int .i64 a1_1) ∧ w'.cell? ⟨gb205, 2, none⟩ = some (.string a1_2) ∧ w'.cell? ⟨gb205, 3, none⟩ = some (.int .i64 a1_3)) ∧ (Kd.V k70 70 w' w.heap.size (fun k_ => (P0_0_ k_ ∨ w.heap.size ≤ k_) ∧ some k_ ≠ (s_.2.1 : Value).ownBlock ∧ some k_ ≠ (s_.2.2 : Value).ownBlock ∧ some k_ ≠ (.slice none 0 0 : Value).ownBlock ∧ k_ ≠ gb204 ∧ k_ ≠ gb205 ∧ k_ ≠ gb206) (.slice A0_0 y224.length c0_0) y224) ∧ (Kd.N k70 70 w' w.heap.size (fun k_ => (P0_0_ k_ ∨ w.heap.size ≤ k_) ∧ some k_ ≠ (s_.2.2 : Value).ownBlock ∧ some k_ ≠ (.slice none 0 0 : Value).ownBlock ∧ k_ ≠ gb204 ∧ k_ ≠ gb205 ∧ k_ ≠ gb206) s_.2.1 y229) ∧ (Kd.N k70 70 w' w.heap.size (fun k_ => (P0_0_ k_ ∨ w.heap.size ≤ k_) ∧ some k_ ≠ (s_.2.1 : Value).ownBlock ∧ some k_ ≠ (.slice none 0 0 : Value).ownBlock ∧ k_ ≠ gb204 ∧ k_ ≠ gb205 ∧ k_ ≠ gb206) s_.2.2 y232) ∧ (Kd.V k70 70 w' w.heap.size (fun k_ => (P0_0_ k_ ∨ w.heap.size ≤ k_) ∧ some k_ ≠ (s_.2.1 : Value).ownBlock ∧ some k_ ≠ (s_.2.2 : Value).ownBlock ∧ some k_ ≠ (.slice none 0 0 : Value).ownBlock ∧ k_ ≠ gb204 ∧ k_ ≠ gb205 ∧ k_ ≠ gb206) (.slice A0_0 l0_0.length c0_0) l0_0) ∧ (Kd.R k96 96 w' w.heap.size (fun k_ => (w.heap.size ≤ k_)) (.slice none 0 0) ([] : List (S96))) ∧ (Kd.V k70 70 w' w.heap.size (fun k_ => (P0_0_ k_ ∨ w.heap.size ≤ k_) ∧ some k_ ≠ (s_.2.1 : Value).ownBlock ∧ some k_ ≠ (s_.2.2 : Value).ownBlock ∧ some k_ ≠ (.slice none 0 0 : Value).ownBlock ∧ k_ ≠ gb204 ∧ k_ ≠ gb205 ∧ k_ ≠ gb206) (.slice A28 y210.length c28) y210) ∧ (w'.heap[gb204]? = some (.cells #[.slice A0_0 l0_0.length c0_0] 50 (0, 0))) ∧ (w'.heap[gb205]? = some (.cells #[.int .i64 a1_0, .int .i64 a1_1, .string a1_2, .int .i64 a1_3] 61 (0, 0))) ∧ (w'.heap[gb206]? = some (.cells #[.slice none 0 0] 50 (0, 0))) ∧ (Below w.heap.size w w')) ?_ ?_
       rotate_left
       ·
        intro hCont
        refine two_ (i := 0) (j := 12) (Ni := some 78) (Nj := some 90) #[true, true, true, true, true, false, true, true, true, true, true, true, false, false, false] #[false, true, true, true, true, false, true, true, true, true, true, true, true, false, false] rfl rfl rfl rfl (two_of HT_.out (by kernel_rfl)) (by decide) (by decide) (fun K hK => ?_) (fun K hK => ?_)
        ·
         skip
         refine Kd.N_lit_step k70 _ 70 ?hg (N' := 78) ?hd (xs := ([] : List (S70))) (inner := []) (ok := (fun k_ => (P0_0_ k_ ∨ w.heap.size ≤ k_) ∧ some k_ ≠ (.slice none 0 0 : Value).ownBlock ∧ some k_ ≠ (.slice Ao49 t217.length co49 : Value).ownBlock ∧ k_ ≠ gb204 ∧ k_ ≠ gb205 ∧ k_ ≠ gb206)) (okp := (fun k_ => (P0_0_ k_ ∨ w.heap.size ≤ k_) ∧ some k_ ≠ (.slice none 0 0 : Value).ownBlock ∧ some k_ ≠ (.slice Ao49 t217.length co49 : Value).ownBlock ∧ k_ ≠ gb204 ∧ k_ ≠ gb205 ∧ k_ ≠ gb206)) ?hr ?hp (fun _ hk => hk) ((show ∀ k_, w47.heap.size ≤ k_ → (fun k_ => (P0_0_ k_ ∨ w.heap.size ≤ k_) ∧ some k_ ≠ (.slice none 0 0 : Value).ownBlock ∧ some k_ ≠ (.slice Ao49 t217.length co49 : Value).ownBlock ∧ k_ ≠ gb204 ∧ k_ ≠ gb205 ∧ k_ ≠ gb206) k_ from fun k_ hk => ⟨(.inr (Nat.le_trans (below_size bl) hk)), Kd.fresh' (Kd.R_lt (uR HO_7.out)) k_ hk, Kd.fresh' (Kd.R_lt (uR HO220.out)) k_ hk, Kd.freshB (g := gb204) (o := .cells #[.slice A0_0 l0_0.length c0_0] 50 (0, 0)) (uB BK204.out) k_ hk, Kd.freshB (g := gb205) (o := .cells #[.int .i64 a1_0, .int .i64 a1_1, .string a1_2, .int .i64 a1_3] 61 (0, 0)) (uB BK205.out) k_ hk, Kd.freshB (g := gb206) (o := .cells #[.slice none 0 0] 50 (0, 0)) (uB BK206.out) k_ hk⟩) _ (Nat.le_refl _)) (Below.refl _ _) (Nat.le_refl _) (by simp) ?_; (case hd => rfl); (case hg => rfl); (case hr => first | (go_simp; done) | (go_simp; rfl)); (case hp => exact (Reps.none _ _))
         intro v222 w50 ho51 hb hg_ hnew_
         clear hg_ hnew_
         (first | rw [← Ny221.out] at ho51 | (simp only [Int.reduceToNat] at ho51; rw [← Ny221.out] at ho51))
         have n0_ := cR HO_7 hb
         have n1_ := Aside0.mk (Kd.V_elder' (uV HO_8.out) (Kd.N_base ho51) hb)
         have n2_ := Aside0.mk (Kd.V_elder' (uV HO_205000.out) (Kd.N_base ho51) hb)
         have n3_ := cR HO220 hb
         have n4_ := Aside0.mk (Kd.V_elder' (uV HO228.out) (Kd.N_base ho51) hb)
         have n5_ := Aside0.mk (Kd.N_lower ho51 (below_size bl))
         have n6_ := cB BK204 hb
         have n7_ := cB BK205 hb
         have n8_ := cB BK206 hb
         have n9_ := Aside0.mk (below_step bl hb)
         clear HO_7
         clear HO_8
         clear HO_205000
         clear HO220
         clear HO228
         clear BK204
         clear BK205
         clear BK206
         clear HB
         have HO_7 := n0_
         have HO_8 := n1_
         have HO_205000 := n2_
         have HO220 := n3_
         have HO228 := n4_
         have HO223 := n5_
         have BK204 := n6_
         have BK205 := n7_
         have BK206 := n8_
         have HB := n9_
         clear n0_ n1_ n2_ n3_ n4_ n5_ n6_ n7_ n8_ n9_
         clear hb ho51
         refine hK.out _ _ ⟨(blk_cell BK204.out 0).trans rfl, (blk_cell BK205.out 0).trans rfl, (blk_cell BK205.out 1).trans rfl, (blk_cell BK205.out 2).trans rfl, (blk_cell BK205.out 3).trans rfl⟩ (fun hHeld => ?_)
         clear hK K
         refine norm_ (a' := ?_) ?_ ?_
         rotate_left
         ·
          show Act.put _ (some 78) _ = _
          simp only [Act.put, List.setIfInBounds_toArray, List.set_cons_zero, List.set_cons_succ, i64_w, i32_w]
          rfl
         refine two_ (i := 5) (j := 12) (Ni := some 83) (Nj := some 90) #[true, true, true, true, true, true, true, true, true, true, true, true, false, false, false] #[true, true, true, true, true, false, true, true, true, true, true, true, true, false, false] rfl rfl rfl rfl (two_of HT_.out (by kernel_rfl)) (by decide) (by decide) (fun K hK => ?_) (fun K hK => ?_)
         ·
          skip
          refine Kd.N_append_rows_step k70 (w0 := w) w.heap.size (by rfl) (.tmp 78) (.tmp 82) 48 70 (.agg #[(.int .i64 0), (.string ⟨#[]⟩), (.slice none 0 0)]) 48 rfl Try.underlying48 info70 rfl (by decide) (by omega) v222 y221 y224 _ _ _ (fun k_ => (P0_0_ k_ ∨ w.heap.size ≤ k_) ∧ some k_ ≠ (.slice none 0 0 : Value).ownBlock ∧ some k_ ≠ (.slice Ao49 t217.length co49 : Value).ownBlock ∧ k_ ≠ gb204 ∧ k_ ≠ gb205 ∧ k_ ≠ gb206) (fun k_ => ((fun k_ => (P0_0_ k_ ∨ w.heap.size ≤ k_) ∧ some k_ ≠ (.slice none 0 0 : Value).ownBlock ∧ some k_ ≠ (.slice Ao49 t217.length co49 : Value).ownBlock ∧ k_ ≠ gb204 ∧ k_ ≠ gb205 ∧ k_ ≠ gb206)) k_ ∧ some k_ ≠ (v222 : Value).ownBlock) rfl rfl ?aO ?aR (fun _ hk => hk) ?aF ?aB ?aS ?aL ?_
          (case aR => exact (by skip; exact Kd.V_F (Kd.V_mono (ok' := (fun k_ => ((fun k_ => (P0_0_ k_ ∨ w.heap.size ≤ k_) ∧ some k_ ≠ (.slice none 0 0 : Value).ownBlock ∧ some k_ ≠ (.slice Ao49 t217.length co49 : Value).ownBlock ∧ k_ ≠ gb204 ∧ k_ ≠ gb205 ∧ k_ ≠ gb206)) k_ ∧ some k_ ≠ (v222 : Value).ownBlock)) (HO228.out) (fun k_ hk => ⟨⟨hk.1.1.1, ⟨hk.1.1.2.1, ⟨hk.1.2, ⟨hk.1.1.2.2.1, ⟨hk.1.1.2.2.2.1, hk.1.1.2.2.2.2⟩⟩⟩⟩⟩, hk.2⟩))))
          (case aB => exact bl)
          (case aF => exact (fun k_ hk => ⟨(.inr (Nat.le_trans (below_size bl) hk)), Kd.fresh' (Kd.R_lt (uR HO_7.out)) k_ hk, Kd.fresh' (Kd.R_lt (uR HO220.out)) k_ hk, Kd.freshB (g := gb204) (o := .cells #[.slice A0_0 l0_0.length c0_0] 50 (0, 0)) (uB BK204.out) k_ hk, Kd.freshB (g := gb205) (o := .cells #[.int .i64 a1_0, .int .i64 a1_1, .string a1_2, .int .i64 a1_3] 61 (0, 0)) (uB BK205.out) k_ hk, Kd.freshB (g := gb206) (o := .cells #[.slice none 0 0] 50 (0, 0)) (uB BK206.out) k_ hk⟩))
          (case aO => exact (by (with_reducible repeat (first | apply Kd.N_alloc | apply Kd.N_drewN | apply Kd.N_drew)); exact HO223.out))
          (case aS => exact (below_size bl))
          (case aL => have := LMc40.out; omega)
          intro v230 w52 ho hb hg hat
          rw [← Ny229.out] at ho
          have n0_ := Aside0.mk (Kd.R_over' (uR HO_7.out) (Kd.N_typed (by (with_reducible repeat (first | apply Kd.N_alloc | apply Kd.N_drewN | apply Kd.N_drew)); exact HO223.out)) (by decide) hg)
          have n1_ := Aside0.mk (Kd.V_afterv (ok := (fun k_ => (P0_0_ k_ ∨ w.heap.size ≤ k_) ∧ some k_ ≠ (.slice none 0 0 : Value).ownBlock ∧ some k_ ≠ (.slice Ao49 t217.length co49 : Value).ownBlock ∧ k_ ≠ gb204 ∧ k_ ≠ gb205 ∧ k_ ≠ gb206)) (by exact uV <| Kd.V_mono HO_8.out (fun _ hk => ⟨⟨hk.1.1.1, ⟨hk.1.1.2.1, ⟨hk.1.2, ⟨hk.1.1.2.2.1, ⟨hk.1.1.2.2.2.1, hk.1.1.2.2.2.2⟩⟩⟩⟩⟩, hk.2⟩)) hg hat)
          have n2_ := Aside0.mk (Kd.V_afterv (ok := (fun k_ => (P0_0_ k_ ∨ w.heap.size ≤ k_) ∧ some k_ ≠ (.slice none 0 0 : Value).ownBlock ∧ some k_ ≠ (.slice Ao49 t217.length co49 : Value).ownBlock ∧ k_ ≠ gb204 ∧ k_ ≠ gb205 ∧ k_ ≠ gb206)) (by exact uV <| Kd.V_mono HO_205000.out (fun _ hk => ⟨⟨hk.1.1.1, ⟨hk.1.1.2.1, ⟨hk.1.2, ⟨hk.1.1.2.2.1, ⟨hk.1.1.2.2.2.1, hk.1.1.2.2.2.2⟩⟩⟩⟩⟩, hk.2⟩)) hg hat)
          have n3_ := Aside0.mk (blk_grown (g := gb204) (o := .cells #[.slice A0_0 l0_0.length c0_0] 50 (0, 0)) (uB BK204.out) hg (Kd.N_ne HO223.out BK204.out (by decide)))
          have n4_ := Aside0.mk (blk_grown (g := gb205) (o := .cells #[.int .i64 a1_0, .int .i64 a1_1, .string a1_2, .int .i64 a1_3] 61 (0, 0)) (uB BK205.out) hg (Kd.N_ne HO223.out BK205.out (by decide)))
          have n5_ := Aside0.mk (blk_grown (g := gb206) (o := .cells #[.slice none 0 0] 50 (0, 0)) (uB BK206.out) hg (Kd.N_ne HO223.out BK206.out (by decide)))
          have n6_ := Aside0.mk (Kd.R_over' (uR HO220.out) (Kd.N_typed (by (with_reducible repeat (first | apply Kd.N_alloc | apply Kd.N_drewN | apply Kd.N_drew)); exact HO223.out)) (by decide) hg)
          have n7_ := Aside0.mk (Kd.V_afterv (ok := (fun k_ => (P0_0_ k_ ∨ w.heap.size ≤ k_) ∧ some k_ ≠ (.slice none 0 0 : Value).ownBlock ∧ some k_ ≠ (.slice Ao49 t217.length co49 : Value).ownBlock ∧ k_ ≠ gb204 ∧ k_ ≠ gb205 ∧ k_ ≠ gb206)) (by exact uV <| Kd.V_mono HO228.out (fun _ hk => ⟨⟨hk.1.1.1, ⟨hk.1.1.2.1, ⟨hk.1.2, ⟨hk.1.1.2.2.1, ⟨hk.1.1.2.2.2.1, hk.1.1.2.2.2.2⟩⟩⟩⟩⟩, hk.2⟩)) hg hat)
          have n8_ := Aside0.mk (hb)
          have n9_ := Aside0.mk (ho)
          clear HO_7
          clear HO_8
          clear HO_205000
          clear BK204
          clear BK205
          clear BK206
          clear HO220
          clear HO228
          clear HB
          clear HO223
          have HO_7 := n0_
          have HO_8 := n1_
          have HO_205000 := n2_
          have BK204 := n3_
          have BK205 := n4_
          have BK206 := n5_
          have HO220 := n6_
          have HO228 := n7_
          have HB := n8_
          have HO231 := n9_
          clear n0_ n1_ n2_ n3_ n4_ n5_ n6_ n7_ n8_ n9_
          clear ho hb hg hat
          refine hK.out _ _ ⟨(blk_cell BK204.out 0).trans rfl, (blk_cell BK205.out 0).trans rfl, (blk_cell BK205.out 1).trans rfl, (blk_cell BK205.out 2).trans rfl, (blk_cell BK205.out 3).trans rfl⟩ (fun hHeld => ?_)
          clear hK K
          refine norm_ (a' := ?_) ?_ ?_
          rotate_left
          ·
           show Act.put _ (some 83) _ = _
           simp only [Act.put, List.setIfInBounds_toArray, List.set_cons_zero, List.set_cons_succ, i64_w, i32_w]
           rfl
          refine one_ (i := 12) (N := some 90) #[true, true, true, true, true, true, true, true, true, true, true, true, true, false, false] rfl rfl (one_of HT_.out (by kernel_rfl)) (by decide) (fun K hK => ?_)
          refine Kd.N_lit_step k70 _ 70 ?hg (N' := 90) ?hd (xs := ([(⟨a1_1, a1_2, t217⟩ : S70)] : List (S70))) (inner := [.int .i64 a1_1, .string a1_2, .slice Ao49 t217.length co49]) (ok := (fun k_ => (P0_0_ k_ ∨ w.heap.size ≤ k_) ∧ some k_ ≠ (.slice none 0 0 : Value).ownBlock ∧ some k_ ≠ (v230 : Value).ownBlock ∧ k_ ≠ gb204 ∧ k_ ≠ gb205 ∧ k_ ≠ gb206)) (okp := (fun k_ => (P0_0_ k_ ∨ w.heap.size ≤ k_) ∧ some k_ ≠ (.slice none 0 0 : Value).ownBlock ∧ some k_ ≠ (v230 : Value).ownBlock ∧ k_ ≠ gb204 ∧ k_ ≠ gb205 ∧ k_ ≠ gb206)) ?hr ?hp (fun _ hk => hk) ((show ∀ k_, w52.heap.size ≤ k_ → (fun k_ => (P0_0_ k_ ∨ w.heap.size ≤ k_) ∧ some k_ ≠ (.slice none 0 0 : Value).ownBlock ∧ some k_ ≠ (v230 : Value).ownBlock ∧ k_ ≠ gb204 ∧ k_ ≠ gb205 ∧ k_ ≠ gb206) k_ from fun k_ hk => ⟨(.inr (Nat.le_trans (below_size bl) hk)), Kd.fresh' (Kd.R_lt (uR HO_7.out)) k_ hk, Kd.fresh' (Kd.N_lt (by (with_reducible repeat (first | apply Kd.N_alloc | apply Kd.N_drewN | apply Kd.N_drew)); exact HO231.out)) k_ hk, Kd.freshB (g := gb204) (o := .cells #[.slice A0_0 l0_0.length c0_0] 50 (0, 0)) (uB BK204.out) k_ hk, Kd.freshB (g := gb205) (o := .cells #[.int .i64 a1_0, .int .i64 a1_1, .string a1_2, .int .i64 a1_3] 61 (0, 0)) (uB BK205.out) k_ hk, Kd.freshB (g := gb206) (o := .cells #[.slice none 0 0] 50 (0, 0)) (uB BK206.out) k_ hk⟩) _ (Nat.le_refl _)) (Below.refl _ _) (Nat.le_refl _) (by simp) ?_; (case hd => rfl); (case hg => rfl); (case hr => first | (go_simp; done) | (go_simp; rfl)); (case hp => exact (Reps.c3 (show Kd.FK k70 _ _ (⟨a1_1, a1_2, t217⟩ : S70) [.int .i64 a1_1, .string a1_2, .slice Ao49 t217.length co49] from (k70_mkF _ _ (⟨a1_1, a1_2, t217⟩ : S70) (Kd.R_reads' (Kd.R_mono (ok' := (fun k_ => (P0_0_ k_ ∨ w.heap.size ≤ k_) ∧ some k_ ≠ (.slice none 0 0 : Value).ownBlock ∧ some k_ ≠ (v230 : Value).ownBlock ∧ k_ ≠ gb204 ∧ k_ ≠ gb205 ∧ k_ ≠ gb206)) (Kd.R_types (Kd.R_types (Kd.R_types (Kd.R_apart' (HO220.out) (Kd.N_typed HO231.out) (by decide)) BK204.out (by decide)) BK205.out (by decide)) BK206.out (by decide)) (fun k_ hk => ⟨(.inr (hk.1.1.1.1.1.1)), ⟨hk.1.1.1.1.2, ⟨hk.1.1.1.2, ⟨hk.1.1.2, ⟨hk.1.2, hk.2⟩⟩⟩⟩⟩))).2.1 (Kd.R_F (Kd.R_mono (ok' := (fun k_ => (P0_0_ k_ ∨ w.heap.size ≤ k_) ∧ some k_ ≠ (.slice none 0 0 : Value).ownBlock ∧ some k_ ≠ (v230 : Value).ownBlock ∧ k_ ≠ gb204 ∧ k_ ≠ gb205 ∧ k_ ≠ gb206)) (Kd.R_types (Kd.R_types (Kd.R_types (Kd.R_apart' (HO220.out) (Kd.N_typed HO231.out) (by decide)) BK204.out (by decide)) BK205.out (by decide)) BK206.out (by decide)) (fun k_ hk => ⟨(.inr (hk.1.1.1.1.1.1)), ⟨hk.1.1.1.1.2, ⟨hk.1.1.1.2, ⟨hk.1.1.2, ⟨hk.1.2, hk.2⟩⟩⟩⟩⟩))))) (Reps.none _ _)))
          intro v233 w53 ho54 hb hg_ hnew_
          clear hg_ hnew_
          (first | rw [← Ny232.out] at ho54 | (simp only [Int.reduceToNat] at ho54; rw [← Ny232.out] at ho54))
          have n0_ := cR HO_7 hb
          have n1_ := Aside0.mk (Kd.V_elder' (uV HO_8.out) (Kd.N_base ho54) hb)
          have n2_ := Aside0.mk (Kd.V_elder' (uV HO_205000.out) (Kd.N_base ho54) hb)
          have n3_ := Aside0.mk (Kd.V_elder' (uV HO228.out) (Kd.N_base ho54) hb)
          have n4_ := Aside0.mk (Kd.N_elder' (by (with_reducible repeat (first | apply Kd.N_alloc | apply Kd.N_drewN | apply Kd.N_drew)); exact HO231.out) (Kd.N_base ho54) hb)
          have n5_ := Aside0.mk (Kd.N_lower ho54 (below_size bl))
          have n6_ := cB BK204 hb
          have n7_ := cB BK205 hb
          have n8_ := cB BK206 hb
          have n9_ := Aside0.mk (below_step bl hb)
          clear HO_7
          clear HO_8
          clear HO_205000
          clear HO228
          clear HO231
          clear BK204
          clear BK205
          clear BK206
          clear HB
          clear HO220
          have HO_7 := n0_
          have HO_8 := n1_
          have HO_205000 := n2_
          have HO228 := n3_
          have HO231 := n4_
          have HO234 := n5_
          have BK204 := n6_
          have BK205 := n7_
          have BK206 := n8_
          have HB := n9_
          clear n0_ n1_ n2_ n3_ n4_ n5_ n6_ n7_ n8_ n9_
          clear hb ho54
          refine hK.out _ _ ⟨(blk_cell BK204.out 0).trans rfl, (blk_cell BK205.out 0).trans rfl, (blk_cell BK205.out 1).trans rfl, (blk_cell BK205.out 2).trans rfl, (blk_cell BK205.out 3).trans rfl⟩ (fun hHeld => ?_)
          clear hK K
          refine norm_ (a' := ?_) ?_ ?_
          rotate_left
          ·
           show Act.put _ (some 90) _ = _
           simp only [Act.put, List.setIfInBounds_toArray, List.set_cons_zero, List.set_cons_succ, i64_w, i32_w]
           rfl
          exact norm_ (by simp only [putAll, Act.put, List.setIfInBounds_toArray, List.set_cons_zero, List.set_cons_succ]) (hCont (v222, v230, v233) _ ⟨hHeld, (by exact uV <| Kd.V_mono HO228.out (fun _ hk => ⟨hk.1.1.1, ⟨hk.1.2, ⟨hk.2, ⟨hk.1.1.2.1, ⟨hk.1.1.2.2.2.1, ⟨hk.1.1.2.2.2.2.1, hk.1.1.2.2.2.2.2⟩⟩⟩⟩⟩⟩)), (by (with_reducible repeat (first | apply Kd.N_alloc | apply Kd.N_drewN | apply Kd.N_drew)); exact Kd.N_mono HO231.out (fun _ hk => ⟨hk.1.1, ⟨hk.2, ⟨hk.1.2.1, ⟨hk.1.2.2.2.1, ⟨hk.1.2.2.2.2.1, hk.1.2.2.2.2.2⟩⟩⟩⟩⟩)), (by (with_reducible repeat (first | apply Kd.N_alloc | apply Kd.N_drewN | apply Kd.N_drew)); exact Kd.N_mono HO234.out (fun _ hk => ⟨hk.1, ⟨hk.2.2.1, ⟨hk.2.1, ⟨hk.2.2.2.1, ⟨hk.2.2.2.2.1, hk.2.2.2.2.2⟩⟩⟩⟩⟩)), (by exact uV <| Kd.V_mono HO_205000.out (fun _ hk => ⟨hk.1.1.1, ⟨hk.1.2, ⟨hk.2, ⟨hk.1.1.2.1, ⟨hk.1.1.2.2.2.1, ⟨hk.1.1.2.2.2.2.1, hk.1.1.2.2.2.2.2⟩⟩⟩⟩⟩⟩)), (by exact uR <| Kd.R_mono HO_7.out (fun _ hk => hk.1)), (by exact uV <| Kd.V_mono HO_8.out (fun _ hk => ⟨hk.1.1.1, ⟨hk.1.2, ⟨hk.2, ⟨hk.1.1.2.1, ⟨hk.1.1.2.2.2.1, ⟨hk.1.1.2.2.2.2.1, hk.1.1.2.2.2.2.2⟩⟩⟩⟩⟩⟩)), (uB BK204.out), (uB BK205.out), (uB BK206.out), bl⟩)
         ·
          skip
          refine Kd.N_lit_step k70 _ 70 ?hg (N' := 90) ?hd (xs := ([(⟨a1_1, a1_2, t217⟩ : S70)] : List (S70))) (inner := [.int .i64 a1_1, .string a1_2, .slice Ao49 t217.length co49]) (ok := (fun k_ => (P0_0_ k_ ∨ w.heap.size ≤ k_) ∧ some k_ ≠ (.slice none 0 0 : Value).ownBlock ∧ some k_ ≠ (v222 : Value).ownBlock ∧ k_ ≠ gb204 ∧ k_ ≠ gb205 ∧ k_ ≠ gb206)) (okp := (fun k_ => (P0_0_ k_ ∨ w.heap.size ≤ k_) ∧ some k_ ≠ (.slice none 0 0 : Value).ownBlock ∧ some k_ ≠ (v222 : Value).ownBlock ∧ k_ ≠ gb204 ∧ k_ ≠ gb205 ∧ k_ ≠ gb206)) ?hr ?hp (fun _ hk => hk) ((show ∀ k_, w50.heap.size ≤ k_ → (fun k_ => (P0_0_ k_ ∨ w.heap.size ≤ k_) ∧ some k_ ≠ (.slice none 0 0 : Value).ownBlock ∧ some k_ ≠ (v222 : Value).ownBlock ∧ k_ ≠ gb204 ∧ k_ ≠ gb205 ∧ k_ ≠ gb206) k_ from fun k_ hk => ⟨(.inr (Nat.le_trans (below_size bl) hk)), Kd.fresh' (Kd.R_lt (uR HO_7.out)) k_ hk, Kd.fresh' (Kd.N_lt (by (with_reducible repeat (first | apply Kd.N_alloc | apply Kd.N_drewN | apply Kd.N_drew)); exact HO223.out)) k_ hk, Kd.freshB (g := gb204) (o := .cells #[.slice A0_0 l0_0.length c0_0] 50 (0, 0)) (uB BK204.out) k_ hk, Kd.freshB (g := gb205) (o := .cells #[.int .i64 a1_0, .int .i64 a1_1, .string a1_2, .int .i64 a1_3] 61 (0, 0)) (uB BK205.out) k_ hk, Kd.freshB (g := gb206) (o := .cells #[.slice none 0 0] 50 (0, 0)) (uB BK206.out) k_ hk⟩) _ (Nat.le_refl _)) (Below.refl _ _) (Nat.le_refl _) (by simp) ?_; (case hd => rfl); (case hg => rfl); (case hr => first | (go_simp; done) | (go_simp; rfl)); (case hp => exact (Reps.c3 (show Kd.FK k70 _ _ (⟨a1_1, a1_2, t217⟩ : S70) [.int .i64 a1_1, .string a1_2, .slice Ao49 t217.length co49] from (k70_mkF _ _ (⟨a1_1, a1_2, t217⟩ : S70) (Kd.R_reads' (Kd.R_mono (ok' := (fun k_ => (P0_0_ k_ ∨ w.heap.size ≤ k_) ∧ some k_ ≠ (.slice none 0 0 : Value).ownBlock ∧ some k_ ≠ (v222 : Value).ownBlock ∧ k_ ≠ gb204 ∧ k_ ≠ gb205 ∧ k_ ≠ gb206)) (Kd.R_types (Kd.R_types (Kd.R_types (Kd.R_apart' (HO220.out) (Kd.N_typed HO223.out) (by decide)) BK204.out (by decide)) BK205.out (by decide)) BK206.out (by decide)) (fun k_ hk => ⟨(.inr (hk.1.1.1.1.1.1)), ⟨hk.1.1.1.1.2, ⟨hk.1.1.1.2, ⟨hk.1.1.2, ⟨hk.1.2, hk.2⟩⟩⟩⟩⟩))).2.1 (Kd.R_F (Kd.R_mono (ok' := (fun k_ => (P0_0_ k_ ∨ w.heap.size ≤ k_) ∧ some k_ ≠ (.slice none 0 0 : Value).ownBlock ∧ some k_ ≠ (v222 : Value).ownBlock ∧ k_ ≠ gb204 ∧ k_ ≠ gb205 ∧ k_ ≠ gb206)) (Kd.R_types (Kd.R_types (Kd.R_types (Kd.R_apart' (HO220.out) (Kd.N_typed HO223.out) (by decide)) BK204.out (by decide)) BK205.out (by decide)) BK206.out (by decide)) (fun k_ hk => ⟨(.inr (hk.1.1.1.1.1.1)), ⟨hk.1.1.1.1.2, ⟨hk.1.1.1.2, ⟨hk.1.1.2, ⟨hk.1.2, hk.2⟩⟩⟩⟩⟩))))) (Reps.none _ _)))
          intro v233 w52 ho53 hb hg_ hnew_
          clear hg_ hnew_
          (first | rw [← Ny232.out] at ho53 | (simp only [Int.reduceToNat] at ho53; rw [← Ny232.out] at ho53))
          have n0_ := cR HO_7 hb
          have n1_ := Aside0.mk (Kd.V_elder' (uV HO_8.out) (Kd.N_base ho53) hb)
          have n2_ := Aside0.mk (Kd.V_elder' (uV HO_205000.out) (Kd.N_base ho53) hb)
          have n3_ := Aside0.mk (Kd.V_elder' (uV HO228.out) (Kd.N_base ho53) hb)
          have n4_ := Aside0.mk (Kd.N_elder' (by (with_reducible repeat (first | apply Kd.N_alloc | apply Kd.N_drewN | apply Kd.N_drew)); exact HO223.out) (Kd.N_base ho53) hb)
          have n5_ := Aside0.mk (Kd.N_lower ho53 (below_size bl))
          have n6_ := cB BK204 hb
          have n7_ := cB BK205 hb
          have n8_ := cB BK206 hb
          have n9_ := Aside0.mk (below_step bl hb)
          clear HO_7
          clear HO_8
          clear HO_205000
          clear HO228
          clear HO223
          clear BK204
          clear BK205
          clear BK206
          clear HB
          clear HO220
          have HO_7 := n0_
          have HO_8 := n1_
          have HO_205000 := n2_
          have HO228 := n3_
          have HO223 := n4_
          have HO234 := n5_
          have BK204 := n6_
          have BK205 := n7_
          have BK206 := n8_
          have HB := n9_
          clear n0_ n1_ n2_ n3_ n4_ n5_ n6_ n7_ n8_ n9_
          clear hb ho53
          refine hK.out _ _ ⟨(blk_cell BK204.out 0).trans rfl, (blk_cell BK205.out 0).trans rfl, (blk_cell BK205.out 1).trans rfl, (blk_cell BK205.out 2).trans rfl, (blk_cell BK205.out 3).trans rfl⟩ (fun hHeld => ?_)
          clear hK K
          refine norm_ (a' := ?_) ?_ ?_
          rotate_left
          ·
           show Act.put _ (some 90) _ = _
           simp only [Act.put, List.setIfInBounds_toArray, List.set_cons_zero, List.set_cons_succ, i64_w, i32_w]
           rfl
          refine one_ (i := 5) (N := some 83) #[true, true, true, true, true, true, true, true, true, true, true, true, true, false, false] rfl rfl (one_of HT_.out (by kernel_rfl)) (by decide) (fun K hK => ?_)
          refine Kd.N_append_rows_step k70 (w0 := w) w.heap.size (by rfl) (.tmp 78) (.tmp 82) 48 70 (.agg #[(.int .i64 0), (.string ⟨#[]⟩), (.slice none 0 0)]) 48 rfl Try.underlying48 info70 rfl (by decide) (by omega) v222 y221 y224 _ _ _ (fun k_ => (P0_0_ k_ ∨ w.heap.size ≤ k_) ∧ some k_ ≠ (.slice none 0 0 : Value).ownBlock ∧ some k_ ≠ (v233 : Value).ownBlock ∧ k_ ≠ gb204 ∧ k_ ≠ gb205 ∧ k_ ≠ gb206) (fun k_ => ((fun k_ => (P0_0_ k_ ∨ w.heap.size ≤ k_) ∧ some k_ ≠ (.slice none 0 0 : Value).ownBlock ∧ some k_ ≠ (v233 : Value).ownBlock ∧ k_ ≠ gb204 ∧ k_ ≠ gb205 ∧ k_ ≠ gb206)) k_ ∧ some k_ ≠ (v222 : Value).ownBlock) rfl rfl ?aO ?aR (fun _ hk => hk) ?aF ?aB ?aS ?aL ?_
          (case aR => exact (by skip; exact Kd.V_F (Kd.V_mono (ok' := (fun k_ => ((fun k_ => (P0_0_ k_ ∨ w.heap.size ≤ k_) ∧ some k_ ≠ (.slice none 0 0 : Value).ownBlock ∧ some k_ ≠ (v233 : Value).ownBlock ∧ k_ ≠ gb204 ∧ k_ ≠ gb205 ∧ k_ ≠ gb206)) k_ ∧ some k_ ≠ (v222 : Value).ownBlock)) (HO228.out) (fun k_ hk => ⟨⟨hk.1.1.1.1, ⟨hk.1.1.1.2.1, ⟨hk.2, ⟨hk.1.1.1.2.2.1, ⟨hk.1.1.1.2.2.2.1, hk.1.1.1.2.2.2.2⟩⟩⟩⟩⟩, hk.1.2⟩))))
          (case aB => exact bl)
          (case aF => exact (fun k_ hk => ⟨(.inr (Nat.le_trans (below_size bl) hk)), Kd.fresh' (Kd.R_lt (uR HO_7.out)) k_ hk, Kd.fresh' (Kd.N_lt (by (with_reducible repeat (first | apply Kd.N_alloc | apply Kd.N_drewN | apply Kd.N_drew)); exact HO234.out)) k_ hk, Kd.freshB (g := gb204) (o := .cells #[.slice A0_0 l0_0.length c0_0] 50 (0, 0)) (uB BK204.out) k_ hk, Kd.freshB (g := gb205) (o := .cells #[.int .i64 a1_0, .int .i64 a1_1, .string a1_2, .int .i64 a1_3] 61 (0, 0)) (uB BK205.out) k_ hk, Kd.freshB (g := gb206) (o := .cells #[.slice none 0 0] 50 (0, 0)) (uB BK206.out) k_ hk⟩))
          (case aO => exact (by (with_reducible repeat (first | apply Kd.N_alloc | apply Kd.N_drewN | apply Kd.N_drew)); exact Kd.N_mono HO223.out (fun _ hk => ⟨hk.1.1, ⟨hk.1.2.1, ⟨hk.2, ⟨hk.1.2.2.2.1, ⟨hk.1.2.2.2.2.1, hk.1.2.2.2.2.2⟩⟩⟩⟩⟩)))
          (case aS => exact (below_size bl))
          (case aL => have := LMc40.out; omega)
          intro v230 w54 ho hb hg hat
          rw [← Ny229.out] at ho
          have n0_ := Aside0.mk (Kd.R_over' (uR HO_7.out) (Kd.N_typed (by (with_reducible repeat (first | apply Kd.N_alloc | apply Kd.N_drewN | apply Kd.N_drew)); exact HO223.out)) (by decide) hg)
          have n1_ := Aside0.mk (Kd.V_afterv (ok := (fun k_ => (P0_0_ k_ ∨ w.heap.size ≤ k_) ∧ some k_ ≠ (.slice none 0 0 : Value).ownBlock ∧ some k_ ≠ (v233 : Value).ownBlock ∧ k_ ≠ gb204 ∧ k_ ≠ gb205 ∧ k_ ≠ gb206)) (by exact uV <| Kd.V_mono HO_8.out (fun _ hk => ⟨⟨hk.1.1.1.1, ⟨hk.1.1.1.2.1, ⟨hk.2, ⟨hk.1.1.1.2.2.1, ⟨hk.1.1.1.2.2.2.1, hk.1.1.1.2.2.2.2⟩⟩⟩⟩⟩, hk.1.2⟩)) hg hat)
          have n2_ := Aside0.mk (Kd.V_afterv (ok := (fun k_ => (P0_0_ k_ ∨ w.heap.size ≤ k_) ∧ some k_ ≠ (.slice none 0 0 : Value).ownBlock ∧ some k_ ≠ (v233 : Value).ownBlock ∧ k_ ≠ gb204 ∧ k_ ≠ gb205 ∧ k_ ≠ gb206)) (by exact uV <| Kd.V_mono HO_205000.out (fun _ hk => ⟨⟨hk.1.1.1.1, ⟨hk.1.1.1.2.1, ⟨hk.2, ⟨hk.1.1.1.2.2.1, ⟨hk.1.1.1.2.2.2.1, hk.1.1.1.2.2.2.2⟩⟩⟩⟩⟩, hk.1.2⟩)) hg hat)
          have n3_ := Aside0.mk (blk_grown (g := gb204) (o := .cells #[.slice A0_0 l0_0.length c0_0] 50 (0, 0)) (uB BK204.out) hg (Kd.N_ne HO223.out BK204.out (by decide)))
          have n4_ := Aside0.mk (blk_grown (g := gb205) (o := .cells #[.int .i64 a1_0, .int .i64 a1_1, .string a1_2, .int .i64 a1_3] 61 (0, 0)) (uB BK205.out) hg (Kd.N_ne HO223.out BK205.out (by decide)))
          have n5_ := Aside0.mk (blk_grown (g := gb206) (o := .cells #[.slice none 0 0] 50 (0, 0)) (uB BK206.out) hg (Kd.N_ne HO223.out BK206.out (by decide)))
          have n6_ := Aside0.mk (Kd.V_afterv (ok := (fun k_ => (P0_0_ k_ ∨ w.heap.size ≤ k_) ∧ some k_ ≠ (.slice none 0 0 : Value).ownBlock ∧ some k_ ≠ (v233 : Value).ownBlock ∧ k_ ≠ gb204 ∧ k_ ≠ gb205 ∧ k_ ≠ gb206)) (by exact uV <| Kd.V_mono HO228.out (fun _ hk => ⟨⟨hk.1.1.1.1, ⟨hk.1.1.1.2.1, ⟨hk.2, ⟨hk.1.1.1.2.2.1, ⟨hk.1.1.1.2.2.2.1, hk.1.1.1.2.2.2.2⟩⟩⟩⟩⟩, hk.1.2⟩)) hg hat)
          have n7_ := Aside0.mk (Kd.N_afterv (ok := (fun k_ => (P0_0_ k_ ∨ w.heap.size ≤ k_) ∧ some k_ ≠ (.slice none 0 0 : Value).ownBlock ∧ k_ ≠ gb204 ∧ k_ ≠ gb205 ∧ k_ ≠ gb206)) (by (with_reducible repeat (first | apply Kd.N_alloc | apply Kd.N_drewN | apply Kd.N_drew)); exact Kd.N_mono HO234.out (fun _ hk => ⟨⟨hk.1, ⟨hk.2.1, ⟨hk.2.2.2.1, ⟨hk.2.2.2.2.1, hk.2.2.2.2.2⟩⟩⟩⟩, hk.2.2.1⟩)) hg hat)
          have n8_ := Aside0.mk (hb)
          have n9_ := Aside0.mk (ho)
          clear HO_7
          clear HO_8
          clear HO_205000
          clear BK204
          clear BK205
          clear BK206
          clear HO228
          clear HO234
          clear HB
          clear HO223
          have HO_7 := n0_
          have HO_8 := n1_
          have HO_205000 := n2_
          have BK204 := n3_
          have BK205 := n4_
          have BK206 := n5_
          have HO228 := n6_
          have HO234 := n7_
          have HB := n8_
          have HO231 := n9_
          clear n0_ n1_ n2_ n3_ n4_ n5_ n6_ n7_ n8_ n9_
          clear ho hb hg hat
          refine hK.out _ _ ⟨(blk_cell BK204.out 0).trans rfl, (blk_cell BK205.out 0).trans rfl, (blk_cell BK205.out 1).trans rfl, (blk_cell BK205.out 2).trans rfl, (blk_cell BK205.out 3).trans rfl⟩ (fun hHeld => ?_)
          clear hK K
          refine norm_ (a' := ?_) ?_ ?_
          rotate_left
          ·
           show Act.put _ (some 83) _ = _
           simp only [Act.put, List.setIfInBounds_toArray, List.set_cons_zero, List.set_cons_succ, i64_w, i32_w]
           rfl
          exact norm_ (by simp only [putAll, Act.put, List.setIfInBounds_toArray, List.set_cons_zero, List.set_cons_succ]) (hCont (v222, v230, v233) _ ⟨hHeld, (by exact uV <| Kd.V_mono HO228.out (fun _ hk => ⟨hk.1.1, ⟨hk.2, ⟨hk.1.2.2.1, ⟨hk.1.2.1, ⟨hk.1.2.2.2.1, ⟨hk.1.2.2.2.2.1, hk.1.2.2.2.2.2⟩⟩⟩⟩⟩⟩)), (by (with_reducible repeat (first | apply Kd.N_alloc | apply Kd.N_drewN | apply Kd.N_drew)); exact Kd.N_mono HO231.out (fun _ hk => ⟨hk.1, ⟨hk.2.2.1, ⟨hk.2.1, ⟨hk.2.2.2.1, ⟨hk.2.2.2.2.1, hk.2.2.2.2.2⟩⟩⟩⟩⟩)), (by (with_reducible repeat (first | apply Kd.N_alloc | apply Kd.N_drewN | apply Kd.N_drew)); exact Kd.N_mono HO234.out (fun _ hk => ⟨hk.1.1, ⟨hk.2, ⟨hk.1.2.1, ⟨hk.1.2.2.1, ⟨hk.1.2.2.2.1, hk.1.2.2.2.2⟩⟩⟩⟩⟩)), (by exact uV <| Kd.V_mono HO_205000.out (fun _ hk => ⟨hk.1.1, ⟨hk.2, ⟨hk.1.2.2.1, ⟨hk.1.2.1, ⟨hk.1.2.2.2.1, ⟨hk.1.2.2.2.2.1, hk.1.2.2.2.2.2⟩⟩⟩⟩⟩⟩)), (by exact uR <| Kd.R_mono HO_7.out (fun _ hk => hk.1)), (by exact uV <| Kd.V_mono HO_8.out (fun _ hk => ⟨hk.1.1, ⟨hk.2, ⟨hk.1.2.2.1, ⟨hk.1.2.1, ⟨hk.1.2.2.2.1, ⟨hk.1.2.2.2.2.1, hk.1.2.2.2.2.2⟩⟩⟩⟩⟩⟩)), (uB BK204.out), (uB BK205.out), (uB BK206.out), bl⟩)
        ·
         skip
         refine Kd.N_lit_step k70 _ 70 ?hg (N' := 90) ?hd (xs := ([(⟨a1_1, a1_2, t217⟩ : S70)] : List (S70))) (inner := [.int .i64 a1_1, .string a1_2, .slice Ao49 t217.length co49]) (ok := (fun k_ => (P0_0_ k_ ∨ w.heap.size ≤ k_) ∧ some k_ ≠ (.slice none 0 0 : Value).ownBlock ∧ k_ ≠ gb204 ∧ k_ ≠ gb205 ∧ k_ ≠ gb206)) (okp := (fun k_ => (P0_0_ k_ ∨ w.heap.size ≤ k_) ∧ some k_ ≠ (.slice none 0 0 : Value).ownBlock ∧ k_ ≠ gb204 ∧ k_ ≠ gb205 ∧ k_ ≠ gb206)) ?hr ?hp (fun _ hk => hk) ((show ∀ k_, w47.heap.size ≤ k_ → (fun k_ => (P0_0_ k_ ∨ w.heap.size ≤ k_) ∧ some k_ ≠ (.slice none 0 0 : Value).ownBlock ∧ k_ ≠ gb204 ∧ k_ ≠ gb205 ∧ k_ ≠ gb206) k_ from fun k_ hk => ⟨(.inr (Nat.le_trans (below_size bl) hk)), Kd.fresh' (Kd.R_lt (uR HO_7.out)) k_ hk, Kd.freshB (g := gb204) (o := .cells #[.slice A0_0 l0_0.length c0_0] 50 (0, 0)) (uB BK204.out) k_ hk, Kd.freshB (g := gb205) (o := .cells #[.int .i64 a1_0, .int .i64 a1_1, .string a1_2, .int .i64 a1_3] 61 (0, 0)) (uB BK205.out) k_ hk, Kd.freshB (g := gb206) (o := .cells #[.slice none 0 0] 50 (0, 0)) (uB BK206.out) k_ hk⟩) _ (Nat.le_refl _)) (Below.refl _ _) (Nat.le_refl _) (by simp) ?_; (case hd => rfl); (case hg => rfl); (case hr => first | (go_simp; done) | (go_simp; rfl)); (case hp => exact (Reps.c3 (show Kd.FK k70 _ _ (⟨a1_1, a1_2, t217⟩ : S70) [.int .i64 a1_1, .string a1_2, .slice Ao49 t217.length co49] from (k70_mkF _ _ (⟨a1_1, a1_2, t217⟩ : S70) (Kd.R_reads' (Kd.R_mono (ok' := (fun k_ => (P0_0_ k_ ∨ w.heap.size ≤ k_) ∧ some k_ ≠ (.slice none 0 0 : Value).ownBlock ∧ k_ ≠ gb204 ∧ k_ ≠ gb205 ∧ k_ ≠ gb206)) (Kd.R_types (Kd.R_types (Kd.R_types (HO220.out) BK204.out (by decide)) BK205.out (by decide)) BK206.out (by decide)) (fun k_ hk => ⟨(.inr (hk.1.1.1.1.1)), ⟨hk.1.1.1.2, ⟨hk.1.1.2, ⟨hk.1.2, hk.2⟩⟩⟩⟩))).2.1 (Kd.R_F (Kd.R_mono (ok' := (fun k_ => (P0_0_ k_ ∨ w.heap.size ≤ k_) ∧ some k_ ≠ (.slice none 0 0 : Value).ownBlock ∧ k_ ≠ gb204 ∧ k_ ≠ gb205 ∧ k_ ≠ gb206)) (Kd.R_types (Kd.R_types (Kd.R_types (HO220.out) BK204.out (by decide)) BK205.out (by decide)) BK206.out (by decide)) (fun k_ hk => ⟨(.inr (hk.1.1.1.1.1)), ⟨hk.1.1.1.2, ⟨hk.1.1.2, ⟨hk.1.2, hk.2⟩⟩⟩⟩))))) (Reps.none _ _)))
         intro v233 w50 ho51 hb hg_ hnew_
         clear hg_ hnew_
         (first | rw [← Ny232.out] at ho51 | (simp only [Int.reduceToNat] at ho51; rw [← Ny232.out] at ho51))
         have n0_ := cR HO_7 hb
         have n1_ := Aside0.mk (Kd.V_elder' (uV HO_8.out) (Kd.N_base ho51) hb)
         have n2_ := Aside0.mk (Kd.V_elder' (uV HO_205000.out) (Kd.N_base ho51) hb)
         have n3_ := Aside0.mk (Kd.V_elder' (uV HO228.out) (Kd.N_base ho51) hb)
         have n4_ := Aside0.mk (Kd.N_lower ho51 (below_size bl))
         have n5_ := cB BK204 hb
         have n6_ := cB BK205 hb
         have n7_ := cB BK206 hb
         have n8_ := Aside0.mk (below_step bl hb)
         clear HO_7
         clear HO_8
         clear HO_205000
         clear HO228
         clear BK204
         clear BK205
         clear BK206
         clear HB
         clear HO220
         have HO_7 := n0_
         have HO_8 := n1_
         have HO_205000 := n2_
         have HO228 := n3_
         have HO234 := n4_
         have BK204 := n5_
         have BK205 := n6_
         have BK206 := n7_
         have HB := n8_
         clear n0_ n1_ n2_ n3_ n4_ n5_ n6_ n7_ n8_
         clear hb ho51
         refine hK.out _ _ ⟨(blk_cell BK204.out 0).trans rfl, (blk_cell BK205.out 0).trans rfl, (blk_cell BK205.out 1).trans rfl, (blk_cell BK205.out 2).trans rfl, (blk_cell BK205.out 3).trans rfl⟩ (fun hHeld => ?_)
         clear hK K
         refine norm_ (a' := ?_) ?_ ?_
         rotate_left
         ·
          show Act.put _ (some 90) _ = _
          simp only [Act.put, List.setIfInBounds_toArray, List.set_cons_zero, List.set_cons_succ, i64_w, i32_w]
          rfl
         refine one_ (i := 0) (N := some 78) #[true, true, true, true, true, false, true, true, true, true, true, true, true, false, false] rfl rfl (one_of HT_.out (by kernel_rfl)) (by decide) (fun K hK => ?_)
         refine Kd.N_lit_step k70 _ 70 ?hg (N' := 78) ?hd (xs := ([] : List (S70))) (inner := []) (ok := (fun k_ => (P0_0_ k_ ∨ w.heap.size ≤ k_) ∧ some k_ ≠ (.slice none 0 0 : Value).ownBlock ∧ some k_ ≠ (v233 : Value).ownBlock ∧ k_ ≠ gb204 ∧ k_ ≠ gb205 ∧ k_ ≠ gb206)) (okp := (fun k_ => (P0_0_ k_ ∨ w.heap.size ≤ k_) ∧ some k_ ≠ (.slice none 0 0 : Value).ownBlock ∧ some k_ ≠ (v233 : Value).ownBlock ∧ k_ ≠ gb204 ∧ k_ ≠ gb205 ∧ k_ ≠ gb206)) ?hr ?hp (fun _ hk => hk) ((show ∀ k_, w50.heap.size ≤ k_ → (fun k_ => (P0_0_ k_ ∨ w.heap.size ≤ k_) ∧ some k_ ≠ (.slice none 0 0 : Value).ownBlock ∧ some k_ ≠ (v233 : Value).ownBlock ∧ k_ ≠ gb204 ∧ k_ ≠ gb205 ∧ k_ ≠ gb206) k_ from fun k_ hk => ⟨(.inr (Nat.le_trans (below_size bl) hk)), Kd.fresh' (Kd.R_lt (uR HO_7.out)) k_ hk, Kd.fresh' (Kd.N_lt (by (with_reducible repeat (first | apply Kd.N_alloc | apply Kd.N_drewN | apply Kd.N_drew)); exact HO234.out)) k_ hk, Kd.freshB (g := gb204) (o := .cells #[.slice A0_0 l0_0.length c0_0] 50 (0, 0)) (uB BK204.out) k_ hk, Kd.freshB (g := gb205) (o := .cells #[.int .i64 a1_0, .int .i64 a1_1, .string a1_2, .int .i64 a1_3] 61 (0, 0)) (uB BK205.out) k_ hk, Kd.freshB (g := gb206) (o := .cells #[.slice none 0 0] 50 (0, 0)) (uB BK206.out) k_ hk⟩) _ (Nat.le_refl _)) (Below.refl _ _) (Nat.le_refl _) (by simp) ?_; (case hd => rfl); (case hg => rfl); (case hr => first | (go_simp; done) | (go_simp; rfl)); (case hp => exact (Reps.none _ _))
         intro v222 w52 ho53 hb hg_ hnew_
         clear hg_ hnew_
         (first | rw [← Ny221.out] at ho53 | (simp only [Int.reduceToNat] at ho53; rw [← Ny221.out] at ho53))
         have n0_ := cR HO_7 hb
         have n1_ := Aside0.mk (Kd.V_elder' (uV HO_8.out) (Kd.N_base ho53) hb)
         have n2_ := Aside0.mk (Kd.V_elder' (uV HO_205000.out) (Kd.N_base ho53) hb)
         have n3_ := Aside0.mk (Kd.V_elder' (uV HO228.out) (Kd.N_base ho53) hb)
         have n4_ := Aside0.mk (Kd.N_elder' (by (with_reducible repeat (first | apply Kd.N_alloc | apply Kd.N_drewN | apply Kd.N_drew)); exact HO234.out) (Kd.N_base ho53) hb)
         have n5_ := Aside0.mk (Kd.N_lower ho53 (below_size bl))
         have n6_ := cB BK204 hb
         have n7_ := cB BK205 hb
         have n8_ := cB BK206 hb
         have n9_ := Aside0.mk (below_step bl hb)
         clear HO_7
         clear HO_8
         clear HO_205000
         clear HO228
         clear HO234
         clear BK204
         clear BK205
         clear BK206
         clear HB
         have HO_7 := n0_
         have HO_8 := n1_
         have HO_205000 := n2_
         have HO228 := n3_
         have HO234 := n4_
         have HO223 := n5_
         have BK204 := n6_
         have BK205 := n7_
         have BK206 := n8_
         have HB := n9_
         clear n0_ n1_ n2_ n3_ n4_ n5_ n6_ n7_ n8_ n9_
         clear hb ho53
         refine hK.out _ _ ⟨(blk_cell BK204.out 0).trans rfl, (blk_cell BK205.out 0).trans rfl, (blk_cell BK205.out 1).trans rfl, (blk_cell BK205.out 2).trans rfl, (blk_cell BK205.out 3).trans rfl⟩ (fun hHeld => ?_)
         clear hK K
         refine norm_ (a' := ?_) ?_ ?_
         rotate_left
         ·
          show Act.put _ (some 78) _ = _
          simp only [Act.put, List.setIfInBounds_toArray, List.set_cons_zero, List.set_cons_succ, i64_w, i32_w]
          rfl
         refine one_ (i := 5) (N := some 83) #[true, true, true, true, true, true, true, true, true, true, true, true, true, false, false] rfl rfl (one_of HT_.out (by kernel_rfl)) (by decide) (fun K hK => ?_)
         refine Kd.N_append_rows_step k70 (w0 := w) w.heap.size (by rfl) (.tmp 78) (.tmp 82) 48 70 (.agg #[(.int .i64 0), (.string ⟨#[]⟩), (.slice none 0 0)]) 48 rfl Try.underlying48 info70 rfl (by decide) (by omega) v222 y221 y224 _ _ _ (fun k_ => (P0_0_ k_ ∨ w.heap.size ≤ k_) ∧ some k_ ≠ (.slice none 0 0 : Value).ownBlock ∧ some k_ ≠ (v233 : Value).ownBlock ∧ k_ ≠ gb204 ∧ k_ ≠ gb205 ∧ k_ ≠ gb206) (fun k_ => ((fun k_ => (P0_0_ k_ ∨ w.heap.size ≤ k_) ∧ some k_ ≠ (.slice none 0 0 : Value).ownBlock ∧ some k_ ≠ (v233 : Value).ownBlock ∧ k_ ≠ gb204 ∧ k_ ≠ gb205 ∧ k_ ≠ gb206)) k_ ∧ some k_ ≠ (v222 : Value).ownBlock) rfl rfl ?aO ?aR (fun _ hk => hk) ?aF ?aB ?aS ?aL ?_
         (case aR => exact (by skip; exact Kd.V_F (Kd.V_mono (ok' := (fun k_ => ((fun k_ => (P0_0_ k_ ∨ w.heap.size ≤ k_) ∧ some k_ ≠ (.slice none 0 0 : Value).ownBlock ∧ some k_ ≠ (v233 : Value).ownBlock ∧ k_ ≠ gb204 ∧ k_ ≠ gb205 ∧ k_ ≠ gb206)) k_ ∧ some k_ ≠ (v222 : Value).ownBlock)) (HO228.out) (fun k_ hk => ⟨⟨hk.1.1.1.1, ⟨hk.1.1.1.2.1, ⟨hk.1.2, ⟨hk.1.1.1.2.2.1, ⟨hk.1.1.1.2.2.2.1, hk.1.1.1.2.2.2.2⟩⟩⟩⟩⟩, hk.2⟩))))
         (case aB => exact bl)
         (case aF => exact (fun k_ hk => ⟨(.inr (Nat.le_trans (below_size bl) hk)), Kd.fresh' (Kd.R_lt (uR HO_7.out)) k_ hk, Kd.fresh' (Kd.N_lt (by (with_reducible repeat (first | apply Kd.N_alloc | apply Kd.N_drewN | apply Kd.N_drew)); exact HO234.out)) k_ hk, Kd.freshB (g := gb204) (o := .cells #[.slice A0_0 l0_0.length c0_0] 50 (0, 0)) (uB BK204.out) k_ hk, Kd.freshB (g := gb205) (o := .cells #[.int .i64 a1_0, .int .i64 a1_1, .string a1_2, .int .i64 a1_3] 61 (0, 0)) (uB BK205.out) k_ hk, Kd.freshB (g := gb206) (o := .cells #[.slice none 0 0] 50 (0, 0)) (uB BK206.out) k_ hk⟩))
         (case aO => exact (by (with_reducible repeat (first | apply Kd.N_alloc | apply Kd.N_drewN | apply Kd.N_drew)); exact HO223.out))
         (case aS => exact (below_size bl))
         (case aL => have := LMc40.out; omega)
         intro v230 w54 ho hb hg hat
         rw [← Ny229.out] at ho
         have n0_ := Aside0.mk (Kd.R_over' (uR HO_7.out) (Kd.N_typed (by (with_reducible repeat (first | apply Kd.N_alloc | apply Kd.N_drewN | apply Kd.N_drew)); exact HO223.out)) (by decide) hg)
         have n1_ := Aside0.mk (Kd.V_afterv (ok := (fun k_ => (P0_0_ k_ ∨ w.heap.size ≤ k_) ∧ some k_ ≠ (.slice none 0 0 : Value).ownBlock ∧ some k_ ≠ (v233 : Value).ownBlock ∧ k_ ≠ gb204 ∧ k_ ≠ gb205 ∧ k_ ≠ gb206)) (by exact uV <| Kd.V_mono HO_8.out (fun _ hk => ⟨⟨hk.1.1.1.1, ⟨hk.1.1.1.2.1, ⟨hk.1.2, ⟨hk.1.1.1.2.2.1, ⟨hk.1.1.1.2.2.2.1, hk.1.1.1.2.2.2.2⟩⟩⟩⟩⟩, hk.2⟩)) hg hat)
         have n2_ := Aside0.mk (Kd.V_afterv (ok := (fun k_ => (P0_0_ k_ ∨ w.heap.size ≤ k_) ∧ some k_ ≠ (.slice none 0 0 : Value).ownBlock ∧ some k_ ≠ (v233 : Value).ownBlock ∧ k_ ≠ gb204 ∧ k_ ≠ gb205 ∧ k_ ≠ gb206)) (by exact uV <| Kd.V_mono HO_205000.out (fun _ hk => ⟨⟨hk.1.1.1.1, ⟨hk.1.1.1.2.1, ⟨hk.1.2, ⟨hk.1.1.1.2.2.1, ⟨hk.1.1.1.2.2.2.1, hk.1.1.1.2.2.2.2⟩⟩⟩⟩⟩, hk.2⟩)) hg hat)
         have n3_ := Aside0.mk (blk_grown (g := gb204) (o := .cells #[.slice A0_0 l0_0.length c0_0] 50 (0, 0)) (uB BK204.out) hg (Kd.N_ne HO223.out BK204.out (by decide)))
         have n4_ := Aside0.mk (blk_grown (g := gb205) (o := .cells #[.int .i64 a1_0, .int .i64 a1_1, .string a1_2, .int .i64 a1_3] 61 (0, 0)) (uB BK205.out) hg (Kd.N_ne HO223.out BK205.out (by decide)))
         have n5_ := Aside0.mk (blk_grown (g := gb206) (o := .cells #[.slice none 0 0] 50 (0, 0)) (uB BK206.out) hg (Kd.N_ne HO223.out BK206.out (by decide)))
         have n6_ := Aside0.mk (Kd.V_afterv (ok := (fun k_ => (P0_0_ k_ ∨ w.heap.size ≤ k_) ∧ some k_ ≠ (.slice none 0 0 : Value).ownBlock ∧ some k_ ≠ (v233 : Value).ownBlock ∧ k_ ≠ gb204 ∧ k_ ≠ gb205 ∧ k_ ≠ gb206)) (by exact uV <| Kd.V_mono HO228.out (fun _ hk => ⟨⟨hk.1.1.1.1, ⟨hk.1.1.1.2.1, ⟨hk.1.2, ⟨hk.1.1.1.2.2.1, ⟨hk.1.1.1.2.2.2.1, hk.1.1.1.2.2.2.2⟩⟩⟩⟩⟩, hk.2⟩)) hg hat)
         have n7_ := Aside0.mk (Kd.N_afterv (ok := (fun k_ => (P0_0_ k_ ∨ w.heap.size ≤ k_) ∧ some k_ ≠ (.slice none 0 0 : Value).ownBlock ∧ k_ ≠ gb204 ∧ k_ ≠ gb205 ∧ k_ ≠ gb206)) (by (with_reducible repeat (first | apply Kd.N_alloc | apply Kd.N_drewN | apply Kd.N_drew)); exact HO234.out) hg hat)
         have n8_ := Aside0.mk (hb)
         have n9_ := Aside0.mk (ho)
         clear HO_7
         clear HO_8
         clear HO_205000
         clear BK204
         clear BK205
         clear BK206
         clear HO228
         clear HO234
         clear HB
         clear HO223
         have HO_7 := n0_
         have HO_8 := n1_
         have HO_205000 := n2_
         have BK204 := n3_
         have BK205 := n4_
         have BK206 := n5_
         have HO228 := n6_
         have HO234 := n7_
         have HB := n8_
         have HO231 := n9_
         clear n0_ n1_ n2_ n3_ n4_ n5_ n6_ n7_ n8_ n9_
         clear ho hb hg hat
         refine hK.out _ _ ⟨(blk_cell BK204.out 0).trans rfl, (blk_cell BK205.out 0).trans rfl, (blk_cell BK205.out 1).trans rfl, (blk_cell BK205.out 2).trans rfl, (blk_cell BK205.out 3).trans rfl⟩ (fun hHeld => ?_)
         clear hK K
         refine norm_ (a' := ?_) ?_ ?_
         rotate_left
         ·
          show Act.put _ (some 83) _ = _
          simp only [Act.put, List.setIfInBounds_toArray, List.set_cons_zero, List.set_cons_succ, i64_w, i32_w]
          rfl
         exact norm_ (by simp only [putAll, Act.put, List.setIfInBounds_toArray, List.set_cons_zero, List.set_cons_succ]) (hCont (v222, v230, v233) _ ⟨hHeld, (by exact uV <| Kd.V_mono HO228.out (fun _ hk => ⟨hk.1.1, ⟨hk.2, ⟨hk.1.2.2.1, ⟨hk.1.2.1, ⟨hk.1.2.2.2.1, ⟨hk.1.2.2.2.2.1, hk.1.2.2.2.2.2⟩⟩⟩⟩⟩⟩)), (by (with_reducible repeat (first | apply Kd.N_alloc | apply Kd.N_drewN | apply Kd.N_drew)); exact Kd.N_mono HO231.out (fun _ hk => ⟨hk.1, ⟨hk.2.2.1, ⟨hk.2.1, ⟨hk.2.2.2.1, ⟨hk.2.2.2.2.1, hk.2.2.2.2.2⟩⟩⟩⟩⟩)), (by (with_reducible repeat (first | apply Kd.N_alloc | apply Kd.N_drewN | apply Kd.N_drew)); exact Kd.N_mono HO234.out (fun _ hk => ⟨hk.1.1, ⟨hk.2, ⟨hk.1.2.1, ⟨hk.1.2.2.1, ⟨hk.1.2.2.2.1, hk.1.2.2.2.2⟩⟩⟩⟩⟩)), (by exact uV <| Kd.V_mono HO_205000.out (fun _ hk => ⟨hk.1.1, ⟨hk.2, ⟨hk.1.2.2.1, ⟨hk.1.2.1, ⟨hk.1.2.2.2.1, ⟨hk.1.2.2.2.2.1, hk.1.2.2.2.2.2⟩⟩⟩⟩⟩⟩)), (by exact uR <| Kd.R_mono HO_7.out (fun _ hk => hk.1)), (by exact uV <| Kd.V_mono HO_8.out (fun _ hk => ⟨hk.1.1, ⟨hk.2, ⟨hk.1.2.2.1, ⟨hk.1.2.1, ⟨hk.1.2.2.2.1, ⟨hk.1.2.2.2.2.1, hk.1.2.2.2.2.2⟩⟩⟩⟩⟩⟩)), (uB BK204.out), (uB BK205.out), (uB BK206.out), bl⟩)
       rintro ⟨v222, v230, v233⟩ w55 ⟨hS_, h0_, h1_, h2_, h3_, h4_, h5_, h6_, h7_, h8_, h9_⟩
       have n0_ : Aside0 (Kd.V k70 70 w55 w.heap.size (fun k_ => (P0_0_ k_ ∨ w.heap.size ≤ k_) ∧ some k_ ≠ (v230 : Value).ownBlock ∧ some k_ ≠ (v233 : Value).ownBlock ∧ some k_ ≠ (.slice none 0 0 : Value).ownBlock ∧ k_ ≠ gb204 ∧ k_ ≠ gb205 ∧ k_ ≠ gb206) (.slice A0_0 y224.length c0_0) y224) := ⟨h0_⟩
       have n1_ : Aside0 (Kd.N k70 70 w55 w.heap.size (fun k_ => (P0_0_ k_ ∨ w.heap.size ≤ k_) ∧ some k_ ≠ (v233 : Value).ownBlock ∧ some k_ ≠ (.slice none 0 0 : Value).ownBlock ∧ k_ ≠ gb204 ∧ k_ ≠ gb205 ∧ k_ ≠ gb206) v230 y229) := ⟨h1_⟩
       have n2_ : Aside0 (Kd.N k70 70 w55 w.heap.size (fun k_ => (P0_0_ k_ ∨ w.heap.size ≤ k_) ∧ some k_ ≠ (v230 : Value).ownBlock ∧ some k_ ≠ (.slice none 0 0 : Value).ownBlock ∧ k_ ≠ gb204 ∧ k_ ≠ gb205 ∧ k_ ≠ gb206) v233 y232) := ⟨h2_⟩
       have n3_ : Aside0 (Kd.V k70 70 w55 w.heap.size (fun k_ => (P0_0_ k_ ∨ w.heap.size ≤ k_) ∧ some k_ ≠ (v230 : Value).ownBlock ∧ some k_ ≠ (v233 : Value).ownBlock ∧ some k_ ≠ (.slice none 0 0 : Value).ownBlock ∧ k_ ≠ gb204 ∧ k_ ≠ gb205 ∧ k_ ≠ gb206) (.slice A0_0 l0_0.length c0_0) l0_0) := ⟨h3_⟩
       have n4_ : Aside0 (Kd.R k96 96 w55 w.heap.size (fun k_ => (w.heap.size ≤ k_)) (.slice none 0 0) ([] : List (S96))) := ⟨h4_⟩
       have n5_ : Aside0 (Kd.V k70 70 w55 w.heap.size (fun k_ => (P0_0_ k_ ∨ w.heap.size ≤ k_) ∧ some k_ ≠ (v230 : Value).ownBlock ∧ some k_ ≠ (v233 : Value).ownBlock ∧ some k_ ≠ (.slice none 0 0 : Value).ownBlock ∧ k_ ≠ gb204 ∧ k_ ≠ gb205 ∧ k_ ≠ gb206) (.slice A28 y210.length c28) y210) := ⟨h5_⟩
       have n6_ : Aside0 (w55.heap[gb204]? = some (.cells #[.slice A0_0 l0_0.length c0_0] 50 (0, 0))) := ⟨h6_⟩
       have n7_ : Aside0 (w55.heap[gb205]? = some (.cells #[.int .i64 a1_0, .int .i64 a1_1, .string a1_2, .int .i64 a1_3] 61 (0, 0))) := ⟨h7_⟩
       have n8_ : Aside0 (w55.heap[gb206]? = some (.cells #[.slice none 0 0] 50 (0, 0))) := ⟨h8_⟩
       have n9_ : Aside0 (Below w.heap.size w w55) := ⟨h9_⟩
       clear HO_7
       clear HO_8
       clear HO_205000
       clear HO220
       clear BK204
       clear BK205
       clear BK206
       clear HB
       clear h0_ h1_ h2_ h3_ h4_ h5_ h6_ h7_ h8_ h9_
       have HO228 := n0_
       have HO231 := n1_
       have HO234 := n2_
       have HO_205000 := n3_
       have HO_7 := n4_
       have HO_8 := n5_
       have BK204 := n6_
       have BK205 := n7_
       have BK206 := n8_
       have HB := n9_
       clear n0_ n1_ n2_ n3_ n4_ n5_ n6_ n7_ n8_ n9_
       have hHeld : w55.cell? ⟨gb204, 0, none⟩ = some (.slice A0_0 l0_0.length c0_0) ∧ w55.cell? ⟨gb205, 0, none⟩ = some (.int .i64 a1_0) ∧ w55.cell? ⟨gb205, 1, none⟩ = some (.int .i64 a1_1) ∧ w55.cell? ⟨gb205, 2, none⟩ = some (.string a1_2) ∧ w55.cell? ⟨gb205, 3, none⟩ = some (.int .i64 a1_3) := hS_
       obtain ⟨Ao57, co57, eo57⟩ := Kd.N_slice HO234.out
       (first | subst eo57 | (injection eo57 with f1_ f2_ f3_; have f4_ := f1_.symm; have f5_ := f3_.symm; clear f1_ f2_ f3_; subst f4_; subst f5_))
       refine norm_ (a' := ?_) ?_ ?_
       rotate_left
       ·
        simp only [putAll, Act.put, List.setIfInBounds_toArray, List.set_cons_zero, List.set_cons_succ]
        rfl
       refine one_ (i := 13) (N := some 91) #[true, true, true, true, true, true, true, true, true, true, true, true, true, true, false] rfl rfl (one_of HT_.out (by kernel_rfl)) (by decide) (fun K hK => ?_)
       refine Kd.N_append_rows_step k70 (w0 := w) w.heap.size (by rfl) (.tmp 83) (.tmp 90) 48 70 (.agg #[(.int .i64 0), (.string ⟨#[]⟩), (.slice none 0 0)]) 48 rfl Try.underlying48 info70 rfl (by decide) (by omega) v230 y229 y232 _ _ _ (fun k_ => (P0_0_ k_ ∨ w.heap.size ≤ k_) ∧ some k_ ≠ (.slice none 0 0 : Value).ownBlock ∧ k_ ≠ gb204 ∧ k_ ≠ gb205 ∧ k_ ≠ gb206) (fun k_ => ((fun k_ => (P0_0_ k_ ∨ w.heap.size ≤ k_) ∧ some k_ ≠ (.slice none 0 0 : Value).ownBlock ∧ k_ ≠ gb204 ∧ k_ ≠ gb205 ∧ k_ ≠ gb206)) k_ ∧ some k_ ≠ (v230 : Value).ownBlock) rfl rfl ?aO ?aR (fun _ hk => hk) ?aF ?aB ?aS ?aL ?_
       (case aR => exact (by skip; exact Kd.N_F (Kd.N_mono (ok' := (fun k_ => ((fun k_ => (P0_0_ k_ ∨ w.heap.size ≤ k_) ∧ some k_ ≠ (.slice none 0 0 : Value).ownBlock ∧ k_ ≠ gb204 ∧ k_ ≠ gb205 ∧ k_ ≠ gb206)) k_ ∧ some k_ ≠ (v230 : Value).ownBlock)) (HO234.out) (fun k_ hk => ⟨⟨hk.1, ⟨hk.2.2.1, ⟨hk.2.2.2.1, ⟨hk.2.2.2.2.1, hk.2.2.2.2.2⟩⟩⟩⟩, hk.2.1⟩))))
       (case aB => exact bl)
       (case aF => exact (fun k_ hk => ⟨(.inr (Nat.le_trans (below_size bl) hk)), Kd.fresh' (Kd.R_lt (uR HO_7.out)) k_ hk, Kd.freshB (g := gb204) (o := .cells #[.slice A0_0 l0_0.length c0_0] 50 (0, 0)) (uB BK204.out) k_ hk, Kd.freshB (g := gb205) (o := .cells #[.int .i64 a1_0, .int .i64 a1_1, .string a1_2, .int .i64 a1_3] 61 (0, 0)) (uB BK205.out) k_ hk, Kd.freshB (g := gb206) (o := .cells #[.slice none 0 0] 50 (0, 0)) (uB BK206.out) k_ hk⟩))
       (case aO => exact (by (with_reducible repeat (first | apply Kd.N_alloc | apply Kd.N_drewN | apply Kd.N_drew)); exact Kd.N_mono HO231.out (fun _ hk => ⟨hk.1, ⟨hk.2.2.1, ⟨hk.2.2.2.1, ⟨hk.2.2.2.2.1, hk.2.2.2.2.2⟩⟩⟩⟩)))
       (case aS => exact (below_size bl))
       (case aL => have := LMc41.out; omega)
       intro v236 w56 ho hb hg hat
       rw [← Ny235.out] at ho
       have n0_ := Aside0.mk (Kd.R_over' (uR HO_7.out) (Kd.N_typed (by (with_reducible repeat (first | apply Kd.N_alloc | apply Kd.N_drewN | apply Kd.N_drew)); exact HO231.out)) (by decide) hg)
       have n1_ := Aside0.mk (Kd.V_afterv (ok := (fun k_ => (P0_0_ k_ ∨ w.heap.size ≤ k_) ∧ some k_ ≠ (.slice none 0 0 : Value).ownBlock ∧ some k_ ≠ (.slice Ao57 y232.length co57 : Value).ownBlock ∧ k_ ≠ gb204 ∧ k_ ≠ gb205 ∧ k_ ≠ gb206)) (by exact uV <| Kd.V_mono HO_8.out (fun _ hk => ⟨⟨hk.1, ⟨hk.2.2.2.1, ⟨hk.2.2.1, ⟨hk.2.2.2.2.1, ⟨hk.2.2.2.2.2.1, hk.2.2.2.2.2.2⟩⟩⟩⟩⟩, hk.2.1⟩)) hg hat)
       have n2_ := Aside0.mk (Kd.V_afterv (ok := (fun k_ => (P0_0_ k_ ∨ w.heap.size ≤ k_) ∧ some k_ ≠ (.slice none 0 0 : Value).ownBlock ∧ some k_ ≠ (.slice Ao57 y232.length co57 : Value).ownBlock ∧ k_ ≠ gb204 ∧ k_ ≠ gb205 ∧ k_ ≠ gb206)) (by exact uV <| Kd.V_mono HO_205000.out (fun _ hk => ⟨⟨hk.1, ⟨hk.2.2.2.1, ⟨hk.2.2.1, ⟨hk.2.2.2.2.1, ⟨hk.2.2.2.2.2.1, hk.2.2.2.2.2.2⟩⟩⟩⟩⟩, hk.2.1⟩)) hg hat)
       have n3_ := Aside0.mk (blk_grown (g := gb204) (o := .cells #[.slice A0_0 l0_0.length c0_0] 50 (0, 0)) (uB BK204.out) hg (Kd.N_ne HO231.out BK204.out (by decide)))
       have n4_ := Aside0.mk (blk_grown (g := gb205) (o := .cells #[.int .i64 a1_0, .int .i64 a1_1, .string a1_2, .int .i64 a1_3] 61 (0, 0)) (uB BK205.out) hg (Kd.N_ne HO231.out BK205.out (by decide)))
       have n5_ := Aside0.mk (blk_grown (g := gb206) (o := .cells #[.slice none 0 0] 50 (0, 0)) (uB BK206.out) hg (Kd.N_ne HO231.out BK206.out (by decide)))
       have n6_ := Aside0.mk (Kd.V_afterv (ok := (fun k_ => (P0_0_ k_ ∨ w.heap.size ≤ k_) ∧ some k_ ≠ (.slice none 0 0 : Value).ownBlock ∧ some k_ ≠ (.slice Ao57 y232.length co57 : Value).ownBlock ∧ k_ ≠ gb204 ∧ k_ ≠ gb205 ∧ k_ ≠ gb206)) (by exact uV <| Kd.V_mono HO228.out (fun _ hk => ⟨⟨hk.1, ⟨hk.2.2.2.1, ⟨hk.2.2.1, ⟨hk.2.2.2.2.1, ⟨hk.2.2.2.2.2.1, hk.2.2.2.2.2.2⟩⟩⟩⟩⟩, hk.2.1⟩)) hg hat)
       have n7_ := Aside0.mk (Kd.N_afterv (ok := (fun k_ => (P0_0_ k_ ∨ w.heap.size ≤ k_) ∧ some k_ ≠ (.slice none 0 0 : Value).ownBlock ∧ k_ ≠ gb204 ∧ k_ ≠ gb205 ∧ k_ ≠ gb206)) (by (with_reducible repeat (first | apply Kd.N_alloc | apply Kd.N_drewN | apply Kd.N_drew)); exact Kd.N_mono HO234.out (fun _ hk => ⟨⟨hk.1, ⟨hk.2.2.1, ⟨hk.2.2.2.1, ⟨hk.2.2.2.2.1, hk.2.2.2.2.2⟩⟩⟩⟩, hk.2.1⟩)) hg hat)
       have n8_ := Aside0.mk (hb)
       have n9_ := Aside0.mk (ho)
       clear HO_7
       clear HO_8
       clear HO_205000
       clear BK204
       clear BK205
       clear BK206
       clear HO228
       clear HO234
       clear HB
       clear HO231
       have HO_7 := n0_
       have HO_8 := n1_
       have HO_205000 := n2_
       have BK204 := n3_
       have BK205 := n4_
       have BK206 := n5_
       have HO228 := n6_
       have HO234 := n7_
       have HB := n8_
       have HO237 := n9_
       clear n0_ n1_ n2_ n3_ n4_ n5_ n6_ n7_ n8_ n9_
       clear ho hb hg hat
       refine hK.out _ _ ⟨(blk_cell BK204.out 0).trans rfl, (blk_cell BK205.out 0).trans rfl, (blk_cell BK205.out 1).trans rfl, (blk_cell BK205.out 2).trans rfl, (blk_cell BK205.out 3).trans rfl⟩ (fun hHeld => ?_)
       clear hK K
       refine norm_ (a' := ?_) ?_ ?_
       rotate_left
       ·
        show Act.put _ (some 91) _ = _
        simp only [Act.put, List.setIfInBounds_toArray, List.set_cons_zero, List.set_cons_succ, i64_w, i32_w]
        rfl
       refine p1 14 (some 10) ?_
       refine done_ (done_of HT_.out (by kernel_rfl)) ?_
       try go_wp2_with (first | ((with_reducible refine gate_builtin (b := .append) (xs := #[.tmp 92, .tmp 93]) rfl ?_); at_builtin; refine Kd.N_append_rows k70 (w0 := w) w.heap.size rfl (.tmp 92) (.tmp 93) 48 70 (.agg #[(.int .i64 0), (.string ⟨#[]⟩), (.slice none 0 0)]) 48 rfl Try.underlying48 info70 rfl (by decide) (by omega) v236 y235 y210 _ _ _ (fun k_ => (P0_0_ k_ ∨ w.heap.size ≤ k_) ∧ some k_ ≠ (.slice none 0 0 : Value).ownBlock ∧ k_ ≠ gb204 ∧ k_ ≠ gb205 ∧ k_ ≠ gb206) (fun k_ => ((fun k_ => (P0_0_ k_ ∨ w.heap.size ≤ k_) ∧ some k_ ≠ (.slice none 0 0 : Value).ownBlock ∧ k_ ≠ gb204 ∧ k_ ≠ gb205 ∧ k_ ≠ gb206)) k_ ∧ some k_ ≠ (v236 : Value).ownBlock) rfl rfl ?aO ?aR (fun _ hk => hk) ?aF ?aB ?aS ?aL ?_; (case aR => exact (by skip; exact Kd.V_F (Kd.V_mono (ok' := (fun k_ => ((fun k_ => (P0_0_ k_ ∨ w.heap.size ≤ k_) ∧ some k_ ≠ (.slice none 0 0 : Value).ownBlock ∧ k_ ≠ gb204 ∧ k_ ≠ gb205 ∧ k_ ≠ gb206)) k_ ∧ some k_ ≠ (v236 : Value).ownBlock)) (HO_8.out) (fun k_ hk => ⟨⟨hk.1.1, ⟨hk.1.2.1, ⟨hk.1.2.2.2.1, ⟨hk.1.2.2.2.2.1, hk.1.2.2.2.2.2⟩⟩⟩⟩, hk.2⟩)))); (case aB => exact bl); (case aF => exact (fun k_ hk => ⟨(.inr (Nat.le_trans (below_size bl) hk)), Kd.fresh' (Kd.R_lt (uR HO_7.out)) k_ hk, Kd.freshB (g := gb204) (o := .cells #[.slice A0_0 l0_0.length c0_0] 50 (0, 0)) (uB BK204.out) k_ hk, Kd.freshB (g := gb205) (o := .cells #[.int .i64 a1_0, .int .i64 a1_1, .string a1_2, .int .i64 a1_3] 61 (0, 0)) (uB BK205.out) k_ hk, Kd.freshB (g := gb206) (o := .cells #[.slice none 0 0] 50 (0, 0)) (uB BK206.out) k_ hk⟩)); (case aO => exact (by (with_reducible repeat (first | apply Kd.N_alloc | apply Kd.N_drewN | apply Kd.N_drew)); exact HO237.out)); (case aS => exact (below_size bl)); (case aL => have := LMc42.out; omega); intro v239 w58 ho hb hg hat; rw [← Ny238.out] at ho; replace HO_7 := Aside0.mk (Kd.R_over' (uR HO_7.out) (Kd.N_typed (by (with_reducible repeat (first | apply Kd.N_alloc | apply Kd.N_drewN | apply Kd.N_drew)); exact HO237.out)) (by decide) hg); replace HO_8 := Aside0.mk (Kd.V_afterv (ok := (fun k_ => (P0_0_ k_ ∨ w.heap.size ≤ k_) ∧ some k_ ≠ (.slice none 0 0 : Value).ownBlock ∧ some k_ ≠ (.slice Ao57 y232.length co57 : Value).ownBlock ∧ k_ ≠ gb204 ∧ k_ ≠ gb205 ∧ k_ ≠ gb206)) (uV HO_8.out) hg hat); replace HO_205000 := Aside0.mk (Kd.V_afterv (ok := (fun k_ => (P0_0_ k_ ∨ w.heap.size ≤ k_) ∧ some k_ ≠ (.slice none 0 0 : Value).ownBlock ∧ some k_ ≠ (.slice Ao57 y232.length co57 : Value).ownBlock ∧ k_ ≠ gb204 ∧ k_ ≠ gb205 ∧ k_ ≠ gb206)) (uV HO_205000.out) hg hat); replace BK204 := Aside0.mk (blk_grown (g := gb204) (o := .cells #[.slice A0_0 l0_0.length c0_0] 50 (0, 0)) (uB BK204.out) hg (Kd.N_ne HO237.out BK204.out (by decide))); replace BK205 := Aside0.mk (blk_grown (g := gb205) (o := .cells #[.int .i64 a1_0, .int .i64 a1_1, .string a1_2, .int .i64 a1_3] 61 (0, 0)) (uB BK205.out) hg (Kd.N_ne HO237.out BK205.out (by decide))); replace BK206 := Aside0.mk (blk_grown (g := gb206) (o := .cells #[.slice none 0 0] 50 (0, 0)) (uB BK206.out) hg (Kd.N_ne HO237.out BK206.out (by decide))); replace HO228 := Aside0.mk (Kd.V_afterv (ok := (fun k_ => (P0_0_ k_ ∨ w.heap.size ≤ k_) ∧ some k_ ≠ (.slice none 0 0 : Value).ownBlock ∧ some k_ ≠ (.slice Ao57 y232.length co57 : Value).ownBlock ∧ k_ ≠ gb204 ∧ k_ ≠ gb205 ∧ k_ ≠ gb206)) (uV HO228.out) hg hat); replace HO234 := Aside0.mk (Kd.N_afterv (ok := (fun k_ => (P0_0_ k_ ∨ w.heap.size ≤ k_) ∧ some k_ ≠ (.slice none 0 0 : Value).ownBlock ∧ k_ ≠ gb204 ∧ k_ ≠ gb205 ∧ k_ ≠ gb206)) (by (with_reducible repeat (first | apply Kd.N_alloc | apply Kd.N_drewN | apply Kd.N_drew)); exact HO234.out) hg hat); replace HB := Aside0.mk (hb); have HO240 := Aside0.mk (ho); clear HO237; clear ho hb hg hat; obtain ⟨Ao59, co59, eo59⟩ := Kd.N_slice HO240.out; subst eo59; have hnb60 := NB206_204.out; have hnc60 := NB204_206.out; obtain ⟨hcz61_0, hfz61_0⟩ := z1 BK206))
       refine bodyPost_ret (results_ct rfl _ _ gb206 50 #[.slice Ao59 y238.length co59] (0, 0) _ rfl (by (with_reducible repeat (first | refine blk_drewN ?_ _ | refine blk_drew ?_ | refine blk_alloc ?_ _)); refine blk_put (cs := #[.slice none 0 0]) ?_ 0 _ rfl; exact uB <| BK206.out) Try.underlying50 rfl (by kernel_rfl)) rfl ?_
       exact ⟨_, re_, by (with_reducible repeat (first | apply Kd.N_alloc | apply Kd.N_drewN | apply Kd.N_drew)); exact Kd.N_mono (Kd.N_far (p := ⟨gb206, 0, none⟩) (Kd.N_mono HO240.out (fun k_ hk => (⟨hk, hk.2.2.2.2⟩ : _ ∧ k_ ≠ gb206))) (fun _ hk => hk.2) (.slice Ao59 y238.length co59)) (fun _ hk => hk.1.1), bl⟩
 ·
  replace c4 := Bool.eq_false_iff.mpr c4
  subst c4
  rw [if_neg (show ¬ (false = true) by decide)] at H
  exact absurd H (by simp)
end Go.Proofs.Ytklhjponikgkkaa.X
