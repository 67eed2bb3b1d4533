/- Printed by a program of this session's own: what functions of the program compute, and that the machine computes it. No condition of its own. -/
import Derived.Test.YtklhjponikgkkaaM3
import Derived.Test.YtklhjponikgkkaaM5
import Derived.Test.YtklhjponikgkkaaM4
namespace Go.Proofs.Ytklhjponikgkkaa.X
open Go.RowKit Go.Proofs.YtklhjponikgkkaaW.PrintWords Go.Proofs.YtklhjponikgkkaaW.PrintLast Go.Proofs.YtklhjponikgkkaaW.PrintMore
attribute [local go_sem] max2_int min2_int max_two min_two max_three min_three max_four min_four
set_option linter.unusedVariables false
set_option linter.unusedSimpArgs false
set_option maxHeartbeats 8000000
set_option maxRecDepth 100000
mutual
def r11_Apply.j1 : Nat → Int → List (S70) → Int → Int → ByteArray → Int → Option ((List (S70)) × Int)
 | 0, _, _, _, _, _, _ => none
 | k + 1, x6, x238000, x239000, x239001, x239002, x239003 => if 0 ≤ x6 then (if x6 ≤ (x238000.length : Int) then ((some (x238000.drop (x6 : Int).toNat : List (S70))).bind fun y243 => (if (y243.length : Int) > 0 then (if 0 < (y243.length : Int) then (if ((rd_T70 y243 0).f0) = x239001 then (r11_Apply.j2 k x6 ([] : List (S96)) y243 (((rd_T70 y243 0).f1).toList == x239002.toList) x238000 x239000 x239001 x239002 x239003) else (r11_Apply.j2 k x6 ([] : List (S96)) y243 false x238000 x239000 x239001 x239002 x239003)) else (none)) else (r11_Apply.j2 k x6 ([] : List (S96)) y243 false x238000 x239000 x239001 x239002 x239003))) else (none)) else (none)
def r11_Apply.j2 : Nat → Int → List (S96) → List (S70) → Bool → List (S70) → Int → Int → ByteArray → Int → Option ((List (S70)) × Int)
 | 0, _, _, _, _, _, _, _, _, _ => none
 | k + 1, x6, x7, x8, x58, x238000, x239000, x239001, x239002, x239003 => if x58 = true then (none) else ((r10_Fold.f k x7 x239000 x239003).bind fun bt250 => (if bt250.2 = 0 then ((some (([] : List (S70)) : List (S70))).bind fun y254 => (if 0 ≤ x6 then (if x6 ≤ (x238000.length : Int) then ((some (x238000.take (x6 : Int).toNat : List (S70))).bind fun y257 => (if y254.length + y257.length < 2932031007402 then ((some (y254 ++ y257 : List (S70))).bind fun y262 => ((some (([(⟨x239001, x239002, bt250.1⟩ : S70)] : List (S70)) : List (S70))).bind fun y265 => (if y262.length + y265.length < 2932031007402 then ((some (y262 ++ y265 : List (S70))).bind fun y268 => (if y268.length + x8.length < 2932031007402 then (some ((y268 ++ x8), 0)) else (none))) else (none)))) else (none))) else (none)) else (none))) else (none)))
def r11_Apply.l0 : Nat → Int → List (S70) → Int → Int → ByteArray → Int → Option ((List (S70)) × Int)
 | 0, _, _, _, _, _, _ => none
 | k + 1, x6, x238000, x239000, x239001, x239002, x239003 => if x6 < (x238000.length : Int) then (if 0 ≤ x6 then ((r11_less.f ((rd_T70 x238000 x6).f0) ((rd_T70 x238000 x6).f1) ((rd_T70 x238000 x6).f2) x239001 x239002).bind fun t242 => (if t242 = true then (none) else (r11_Apply.j1 k x6 x238000 x239000 x239001 x239002 x239003))) else (none)) else (r11_Apply.j1 k x6 x238000 x239000 x239001 x239002 x239003)
end
def r11_Apply.f (k : Nat) (l0_0 : List (S70)) (a1_0 : Int) (a1_1 : Int) (a1_2 : ByteArray) (a1_3 : Int) : Option ((List (S70)) × Int) := (r11_Right.f k l0_0).bind fun t240 => (if t240 = true then (r11_Apply.l0 k 0 l0_0 a1_0 a1_1 a1_2 a1_3) else (none))
theorem r11_Apply.mono_l : ∀ k, (∀ y0 y1 y2 y3 y4 y5, LeC (r11_Apply.j1 k y0 y1 y2 y3 y4 y5) (r11_Apply.j1 (k + 1) y0 y1 y2 y3 y4 y5)) ∧ (∀ y0 y1 y2 y3 y4 y5 y6 y7 y8, LeC (r11_Apply.j2 k y0 y1 y2 y3 y4 y5 y6 y7 y8) (r11_Apply.j2 (k + 1) y0 y1 y2 y3 y4 y5 y6 y7 y8)) ∧ (∀ y0 y1 y2 y3 y4 y5, LeC (r11_Apply.l0 k y0 y1 y2 y3 y4 y5) (r11_Apply.l0 (k + 1) y0 y1 y2 y3 y4 y5))
 | 0 => ⟨fun _ _ _ _ _ _ => ⟨fun r h => by simp [r11_Apply.j1] at h⟩, fun _ _ _ _ _ _ _ _ _ => ⟨fun r h => by simp [r11_Apply.j2] at h⟩, fun _ _ _ _ _ _ => ⟨fun r h => by simp [r11_Apply.l0] at h⟩⟩
 | k + 1 => by obtain ⟨ih0, ih1, ih2⟩ := r11_Apply.mono_l k; exact ⟨fun _ _ _ _ _ _ => by unfold r11_Apply.j1; exact lm, fun _ _ _ _ _ _ _ _ _ => by unfold r11_Apply.j2; exact lm, fun _ _ _ _ _ _ => by unfold r11_Apply.l0; exact lm⟩
theorem r11_Apply.mono : ∀ a0 a1 a2 a3 a4 k, LeO (r11_Apply.f k a0 a1 a2 a3 a4) (r11_Apply.f (k + 1) a0 a1 a2 a3 a4) := by
 intro a0 a1 a2 a3 a4 k
 obtain ⟨ih0, ih1, ih2⟩ := r11_Apply.mono_l k
 unfold r11_Apply.f
 exact lo
instance r11_Apply.mI {a0 a1 a2 a3 a4 k} : LeC (r11_Apply.f k a0 a1 a2 a3 a4) (r11_Apply.f (k + 1) a0 a1 a2 a3 a4) := ⟨r11_Apply.mono _ _ _ _ _ _⟩
def r11_Apply.T4 : Bool × List (List Nat × List Nat) := (true, [([], []), ([], []), ([1], [1]), ([2], [2]), ([0, 3], [0, 3]), ([4], [4]), ([5], [5]), ([6, 5], [5, 6]), ([5], [5]), ([7, 8, 5], [5, 7, 8]), ([9, 5], [5, 9]), ([5], [5]), ([11, 5], [5, 11]), ([5], [5]), ([13, 5], [5, 13]), ([10, 12, 14, 5, 5], [5, 10, 12, 14]), ([5, 15], [5, 15])])
def r11_Apply.B4 : List Nat := [0, 0, 2, 6, 15, 31, 63, 127, 63, 511, 1023, 63, 2111, 63, 8255, 32767, 65535]
theorem r11_Apply.tab4 : rtab .any (opsOf Try.f19 4) = r11_Apply.T4 := by kernel_rfl
theorem r11_Apply.bits4 : waitsOk r11_Apply.T4.2 r11_Apply.B4 = true := by kernel_rfl
def r11_Apply.T8 : Bool × List (List Nat × List Nat) := (true, [([], []), ([0], [0]), ([1], [1]), ([2], [2]), ([3], [3]), ([4, 3], [3, 4]), ([5, 3], [3, 5]), ([6, 3], [3, 6]), ([3], [3]), ([8, 3], [3, 8]), ([7, 9, 3], [3, 7, 9]), ([3, 10], [3, 10]), ([11, 3], [11]), ([12], [12]), ([13, 12], [12, 13]), ([14, 12], [12, 14]), ([15, 12], [12, 15]), ([12], [12]), ([17, 12], [12, 17]), ([16, 18, 12], [12, 16, 18]), ([12, 19], [12, 19])])
def r11_Apply.B8 : List Nat := [0, 1, 3, 7, 15, 31, 63, 127, 15, 271, 1023, 2047, 4095, 8191, 16383, 32767, 65535, 8191, 139263, 524287, 1048575]
theorem r11_Apply.tab8 : rtab .any (opsOf Try.f19 8) = r11_Apply.T8 := by kernel_rfl
theorem r11_Apply.bits8 : waitsOk r11_Apply.T8.2 r11_Apply.B8 = true := by kernel_rfl
def r11_Apply.T13 : Bool × List (List Nat × List Nat) := (true, [([], []), ([], []), ([1], [1]), ([], []), ([2, 3], [2, 3]), ([0, 4], [0, 4]), ([], []), ([6], [6]), ([], []), ([8], [8]), ([], []), ([7, 9, 10], [7, 9, 10]), ([11], [11]), ([5, 12, 5], [5, 12]), ([13, 13, 0, 1, 2, 3, 4, 5, 6, 7, 8, 9, 10, 11, 12, 13], [13])])
def r11_Apply.B13 : List Nat := [0, 0, 2, 0, 14, 31, 0, 64, 0, 256, 0, 1984, 4032, 8191, 16383]
theorem r11_Apply.tab13 : rtab .any (opsOf Try.f19 13) = r11_Apply.T13 := by kernel_rfl
theorem r11_Apply.bits13 : waitsOk r11_Apply.T13.2 r11_Apply.B13 = true := by kernel_rfl
theorem r11_Apply.calls (k : Nat) (P0_0_ : Nat → Prop) (A0_0 : Option Addr) (c0_0 : Nat) (l0_0 : List (S70)) (a1_0 : Int) (a1_1 : Int) (a1_2 : ByteArray) (a1_3 : Int) (r1 : List (S70)) (r2 : Int) (w : World) (hs0_0 : Kd.V k70 70 w w.heap.size (fun k_ => P0_0_ k_) (.slice A0_0 l0_0.length c0_0) l0_0) (h : r11_Apply.f k l0_0 a1_0 a1_1 a1_2 a1_3 = some (r1, r2)) :
 Calls Try.prog 19 #[.agg #[.slice A0_0 l0_0.length c0_0], .agg #[.int .i64 a1_0, .int .i64 a1_1, .string a1_2, .int .i64 a1_3]] w fun e w' => ∃ v0_ : Value, e = .returned (.tuple #[.agg #[v0_], .int .i64 r2]) ∧ Kd.N k70 70 w' w.heap.size (fun k_ => (P0_0_ k_ ∨ w.heap.size ≤ k_)) v0_ r1 ∧ Below w.heap.size w w' := by
 have hu50 := Try.underlying50
 have hu61 := Try.underlying61
 have hu70 := Try.underlying70
 have HO0_0 := Aside0.mk (show Kd.V k70 70 w w.heap.size (fun k_ => (P0_0_ k_ ∨ w.heap.size ≤ k_)) (.slice A0_0 l0_0.length c0_0) l0_0 from Kd.V_mono hs0_0 (fun k_ hk => .inl hk))
 have HB := Aside0.mk (Below.refl w.heap.size w)
 have H : ((r11_Right.f k l0_0).bind fun t240 => (if t240 = true then (r11_Apply.l0 k 0 l0_0 a1_0 a1_1 a1_2 a1_3) else (none))) = some (r1, r2) := h
 clear h
 obtain ⟨t240, A3, H⟩ := bs H
 try dsimp only at H
 by_cases c4 : t240 = true
 ·
  subst c4
  rw [if_pos rfl] at H
  have HC5 := Aside0.mk H
  clear H
  go_enter Try.func19, Try.ntmps19
  go_upto_block 0 with (first | ((with_reducible refine gate_dst (N := 2) rfl ?_); refine bx (N := 2) #[.slice A0_0 l0_0.length c0_0] 50 ?_; intro gb237 hg w6 hbox hb; replace HO0_0 := Aside0.mk (Kd.V_below (Kd.V_elderB (uV HO0_0.out) gb237 (Nat.le_of_eq hg.symm)) hb); have BK237 := Aside0.mk (hbox); have GW237 := gw hg (uW HB.out); have GE237 := GW237; replace HB := cW HB hb; clear hb hbox hg) | ((with_reducible refine gate_dst (N := 3) rfl ?_); refine bx (N := 3) #[.int .i64 a1_0, .int .i64 a1_1, .string a1_2, .int .i64 a1_3] 61 ?_; intro gb238 hg w7 hbox hb; replace HO0_0 := Aside0.mk (Kd.V_below (Kd.V_elderB (uV HO0_0.out) gb238 (Nat.le_of_eq hg.symm)) hb); have BK238 := Aside0.mk (hbox); have GW238 := gw hg bl; have GE238 := GW238; replace HB := Aside0.mk (below_step bl hb); have NB237_238 := nl BK237 hg; have NB238_237 := nr BK237 hg; replace BK237 := cB BK237 hb; clear hb hbox hg) | ((with_reducible refine gate_dst (N := 4) rfl ?_); refine bx (N := 4) #[.slice none 0 0] 50 ?_; intro gb239 hg w8 hbox hb; replace HO0_0 := Aside0.mk (Kd.V_below (Kd.V_elderB (uV HO0_0.out) gb239 (Nat.le_of_eq hg.symm)) hb); have BK239 := Aside0.mk (hbox); have GW239 := gw hg bl; have GE239 := GW239; replace HB := Aside0.mk (below_step bl hb); have NB237_239 := nl BK237 hg; have NB239_237 := nr BK237 hg; replace BK237 := cB BK237 hb; have NB238_239 := nl BK238 hg; have NB239_238 := nr BK238 hg; replace BK238 := cB BK238 hb; clear hb hbox hg; have hnb9 := NB237_238.out; have hnc9 := NB238_237.out; have hnb10 := NB237_239.out; have hnc10 := NB239_237.out; obtain ⟨hcz11_0, hfz11_0⟩ := z1 BK237) | (refine gL (some 12) rfl Try.func40 #[.agg #[.slice A0_0 l0_0.length c0_0]] ?_; (with_reducible refine (r11_Right.calls k _ _ l0_0 true _ ?side1 ?side2 A3.out).mono ?_); (case side1 => exact uC <| (Kd.V_reads' HO0_0.out).2.2); (case side2 => exact (Kd.V_reads' HO0_0.out).2.1); rintro e w12 ⟨rfl, hb⟩; refine ⟨_, rfl, ?_⟩; replace HO0_0 := cV HO0_0 hb; replace BK237 := cB BK237 hb; replace BK238 := cB BK238 hb; replace BK239 := cB BK239 hb; replace HB := Aside0.mk (below_step bl hb); (try clear hb)))
  (try simp only [Act.put, List.setIfInBounds_toArray, List.set_cons_zero, List.set_cons_succ])
  go_cut [6] (fun v6 wc => ∃ (kq : Nat) (x6_4 : Int), v6 = .int .i64 x6_4 ∧ Aside0 (r11_Apply.j1 kq x6_4 l0_0 a1_0 a1_1 a1_2 a1_3 = some (r1, r2)) ∧ Aside0 (kq ≤ k) ∧ Aside0 (Kd.V k70 70 wc w.heap.size (fun k_ => (P0_0_ k_ ∨ w.heap.size ≤ k_) ∧ k_ ≠ gb237 ∧ k_ ≠ gb238 ∧ k_ ≠ gb239) (.slice A0_0 l0_0.length c0_0) l0_0) ∧ Aside0 (wc.heap[gb237]? = some (.cells #[(.slice A0_0 l0_0.length c0_0)] 50 (0, 0))) ∧ Aside0 (wc.heap[gb238]? = some (.cells #[.int .i64 a1_0, .int .i64 a1_1, .string a1_2, .int .i64 a1_3] 61 (0, 0))) ∧ Aside0 (wc.heap[gb239]? = some (.cells #[(.slice none 0 0)] 50 (0, 0))) ∧ Aside0 (Below w.heap.size w wc))
  case first =>
   have H := HC5.out
   clear HC5
   have H' := Aside0.mk H
   clear H
   go_wp2
   go_loopg [6] k (fun kq v6 w' => ∃ (x6_1 : Int), v6 = .int .i64 x6_1 ∧ Aside0 (r11_Apply.l0 kq x6_1 l0_0 a1_0 a1_1 a1_2 a1_3 = some (r1, r2)) ∧ Aside0 (kq ≤ k) ∧ Aside0 (Kd.V k70 70 w' w.heap.size (fun k_ => (P0_0_ k_ ∨ w.heap.size ≤ k_) ∧ k_ ≠ gb237 ∧ k_ ≠ gb238 ∧ k_ ≠ gb239) (.slice A0_0 l0_0.length c0_0) l0_0) ∧ Aside0 (w'.heap[gb237]? = some (.cells #[(.slice A0_0 l0_0.length c0_0)] 50 (0, 0))) ∧ Aside0 (w'.heap[gb238]? = some (.cells #[.int .i64 a1_0, .int .i64 a1_1, .string a1_2, .int .i64 a1_3] 61 (0, 0))) ∧ Aside0 (w'.heap[gb239]? = some (.cells #[(.slice none 0 0)] 50 (0, 0))) ∧ Aside0 (Below w.heap.size w w'))
   case atStart => exact ⟨(0), rs_, H', ⟨Nat.le_refl _⟩, ⟨by exact uV <| Kd.V_mono HO0_0.out (fun _ hk => ⟨hk.1.1.1, ⟨hk.1.1.2, ⟨hk.1.2, hk.2⟩⟩⟩)⟩, ⟨uB BK237.out⟩, ⟨uB BK238.out⟩, ⟨uB BK239.out⟩, ⟨bl⟩⟩
   case round =>
    clear H'
    try clear c4
    try clear hcz11_0 hfz11_0
    obtain ⟨x6_1, rfl, HA, HK1, HO_238000, BK237, BK238, BK239, HB⟩ := hrel
    cases gk with
    | zero => exact absurd HA.out (by simp [r11_Apply.l0])
    | succ k1 =>
     have H := HA.out
     clear HA
     simp only [r11_Apply.l0] at H
     by_cases c13 : x6_1 < (l0_0.length : Int)
     ·
      rw [if_pos c13] at H
      have c13b0 : decide (x6_1 < (l0_0.length : Int)) = true := decide_eq_true c13
      clear c13
      (first | rw [c13b0] | (simp only [i64_w, i32_w]; rw [c13b0]) | skip)
      obtain ⟨c14b0, H⟩ := gdd H
      obtain ⟨t242, A15, H⟩ := bs H
      try dsimp only at H
      by_cases c16 : t242 = true
      ·
       subst c16
       rw [if_pos rfl] at H
       exact absurd H (by simp)
      ·
       replace c16 := Bool.eq_false_iff.mpr c16
       subst c16
       rw [if_neg (show ¬ (false = true) by decide)] at H
       have H' := Aside0.mk H
       clear H
       try go_wp2
       replace HO_238000 := Aside0.mk (Kd.V_drew HO_238000.out)
       replace BK237 := Aside0.mk (blk_drew BK237.out)
       replace BK238 := Aside0.mk (blk_drew BK238.out)
       replace BK239 := Aside0.mk (blk_drew BK239.out)
       replace HB := Aside0.mk (below_drew1 HB.out)
       have p241 : 0 ≤ (x6_1 : Int) := od
       have q241 : x6_1 < (l0_0.length : Int) := od
       obtain ⟨ad241, A241_2, c241_2, e241, hx241_0, hx241_1, hx241_2, hl241_2, hi241_2⟩ := at_T70 (Kd.V_reads' HO_238000.out).2.2 x6_1 p241 q241
       cases e241
       obtain ⟨ce241, hce241, hMe241, hcc241⟩ := Kd.V_get HO_238000.out z70 x6_1 p241 (by first | exact q241 | exact od | (have e_ := (Kd.V_reads' HO_238000.out).1; omega))
       obtain ⟨ua241_2, uc241_2, rfl, ul241_2, ge241_2⟩ := k70_openF hMe241
       have hv241_2 := hcc241 2 _ rfl
       rw [add_field _ _ 2 (by omega)] at hv241_2
       replace hv241_2 := Option.some.inj (hv241_2.symm.trans hx241_2)
       injection hv241_2 with hva_ hvn_ hvc_
       rw [hva_] at ge241_2
       rw [hvc_] at ul241_2
       have HL241_2 := Aside0.mk (show Kd.V k96 96 _ w.heap.size _ _ ((rd_T70 l0_0 x6_1).f2) from Kd.V_mk ul241_2 ge241_2)
       clear hva_ hvn_ hvc_ ge241_2 ul241_2
       clear hcc241 hce241
       have HR241_2 := Aside0.mk hi241_2
       have HC241_2 := Aside0.mk hl241_2
       clear hi241_2 hl241_2
       replace p241 := eq_true p241
       replace q241 := eq_true q241
       refine start_ (n := 17) (S := fun w' => w'.cell? ⟨gb237, 0, none⟩ = some (.slice (some ad241) l0_0.length c0_0) ∧ w'.cell? ⟨gb238, 0, none⟩ = some (.int .i64 a1_0) ∧ w'.cell? ⟨gb238, 1, none⟩ = some (.int .i64 a1_1) ∧ w'.cell? ⟨gb238, 2, none⟩ = some (.string a1_2) ∧ w'.cell? ⟨gb238, 3, none⟩ = some (.int .i64 a1_3) ∧ w'.cell? (ad241.add ((x6_1).toNat * 3)) = some (.int .i64 ((rd_T70 l0_0 x6_1).f0)) ∧ w'.cell? ⟨(ad241.add ((x6_1).toNat * 3)).block, (ad241.add ((x6_1).toNat * 3)).off + 1, none⟩ = some (.string ((rd_T70 l0_0 x6_1).f1)) ∧ w'.cell? ⟨(ad241.add ((x6_1).toNat * 3)).block, (ad241.add ((x6_1).toNat * 3)).off + 2, none⟩ = some (.slice A241_2 ((rd_T70 l0_0 x6_1).f2).length c241_2)) (ds := []) _ (by kernel_rfl) rfl rfl ⟨(blk_cell BK237.out 0).trans rfl, (blk_cell BK238.out 0).trans rfl, (blk_cell BK238.out 1).trans rfl, (blk_cell BK238.out 2).trans rfl, (blk_cell BK238.out 3).trans rfl, hx241_0, hx241_1, hx241_2⟩ (fun hHeld => ?_); refine with_tabW r11_Apply.tab4 r11_Apply.bits4 (fun HT_ HW_ => ?_)
       generalize wr.drew = w17 at HO_238000 BK237 BK238 BK239 HB HL241_2 HR241_2 hx241_0 hx241_1 hx241_2 hHeld ⊢
       refine p1 0 (some 15) ?_
       refine p1 1 (some 16) ?_
       refine t1 2 (some 17) rfl rfl hHeld (Or.inl ⟨by rfl, by rintro w' ⟨s0, s1, s2, s3, s4, s5, s6, s7⟩; go_simp; with_reducible rfl⟩) ?_
       refine p1 3 (some 18) ?_
       refine p1 4 (some 19) ?_
       refine p1 5 (some 20) ?_
       refine p1 6 (some 21) ?_
       refine p1 8 (some 23) ?_
       refine p1 11 (some 26) ?_
       refine p1 13 (some 28) ?_
       refine t1 7 (some 22) rfl rfl hHeld (Or.inl ⟨by rfl, by rintro w' ⟨s0, s1, s2, s3, s4, s5, s6, s7⟩; go_simp; with_reducible rfl⟩) ?_
       refine p1 9 (some 24) ?_
       refine t1 10 (some 25) rfl rfl hHeld (Or.inl ⟨by rfl, by rintro w' ⟨s0, s1, s2, s3, s4, s5, s6, s7⟩; go_simp; with_reducible rfl⟩) ?_
       refine t1 12 (some 27) rfl rfl hHeld (Or.inl ⟨by rfl, by rintro w' ⟨s0, s1, s2, s3, s4, s5, s6, s7⟩; go_simp; with_reducible rfl⟩) ?_
       refine t1 14 (some 29) rfl rfl hHeld (Or.inl ⟨by rfl, by rintro w' ⟨s0, s1, s2, s3, s4, s5, s6, s7⟩; go_simp; with_reducible rfl⟩) ?_
       refine o1 15 (some 30) rfl rfl (fun K hK => ?_)
       refine gS Try.func41 #[.agg #[.int .i64 ((rd_T70 l0_0 x6_1).f0), .string ((rd_T70 l0_0 x6_1).f1), .slice A241_2 ((rd_T70 l0_0 x6_1).f2).length c241_2], .int .i64 a1_1, .string a1_2] ?_
       with_reducible refine (r11_less.calls ((rd_T70 l0_0 x6_1).f0) ((rd_T70 l0_0 x6_1).f1) _ _ ((rd_T70 l0_0 x6_1).f2) a1_1 a1_2 false _ ?side1 ?side2 A15.out).mono ?_
       (case side1 => repeat (first | exact (by repeat (first | (with_reducible exact HR241_2.out) | (with_reducible refine Kd.C_alloc ?_ _) | (with_reducible refine Kd.C_drewN ?_ _) | (with_reducible refine Kd.C_drew ?_) | exact HR241_2.out)) | (with_reducible refine Kd.C_alloc ?_ _) | (with_reducible refine Kd.C_drewN ?_ _) | (with_reducible refine Kd.C_drew ?_)))
       (case side2 => exact HC241_2.out)
       rintro e w18 ⟨rfl, hb⟩
       have HS5_ := (hb.cell (World.block_lt_of_cell? _ _ (hHeld.2.2.2.2.2.1))).trans (hHeld.2.2.2.2.2.1)
       have HS6_ := (hb.cell (World.block_lt_of_cell? _ _ (hHeld.2.2.2.2.2.2.1))).trans (hHeld.2.2.2.2.2.2.1)
       have HS7_ := (hb.cell (World.block_lt_of_cell? _ _ (hHeld.2.2.2.2.2.2.2))).trans (hHeld.2.2.2.2.2.2.2)
       refine ⟨_, rfl, ?_⟩
       replace HO_238000 := cV HO_238000 hb
       replace HL241_2 := cV HL241_2 hb
       replace BK237 := cB BK237 hb
       replace BK238 := cB BK238 hb
       replace BK239 := cB BK239 hb
       replace HR241_2 := cC HR241_2 hb
       replace HB := Aside0.mk (below_step bl hb)
       (try clear hb)
       refine hK.out _ _ ⟨(blk_cell BK237.out 0).trans rfl, (blk_cell BK238.out 0).trans rfl, (blk_cell BK238.out 1).trans rfl, (blk_cell BK238.out 2).trans rfl, (blk_cell BK238.out 3).trans rfl, HS5_, HS6_, HS7_⟩ (fun hHeld => ?_)
       clear hK K
       refine norm_ (a' := ?_) ?_ ?_
       rotate_left
       ·
        show Act.put _ (some 30) _ = _
        simp only [Act.put, List.setIfInBounds_toArray, List.set_cons_zero, List.set_cons_succ, i64_w, i32_w]
        rfl
       refine p1 16 (some 31) ?_
       refine done_ (done_of HT_.out (by kernel_rfl)) ?_
       try go_wp2
       go_meet
       case rel => exact ⟨_, (x6_1), rs_, H', ⟨by have := HK1.out; first | omega | exact Nat.le_refl _⟩, ⟨uV HO_238000.out⟩, ⟨uB BK237.out⟩, ⟨uB BK238.out⟩, ⟨uB BK239.out⟩, ⟨bl⟩⟩
     ·
      rw [if_neg c13] at H
      have c13b0 : decide (x6_1 < (l0_0.length : Int)) = false := decide_eq_false c13
      clear c13
      (first | rw [c13b0] | (simp only [i64_w, i32_w]; rw [c13b0]) | skip)
      have H' := Aside0.mk H
      clear H
      try go_wp2
      replace HO_238000 := Aside0.mk (Kd.V_drew HO_238000.out)
      replace BK237 := Aside0.mk (blk_drew BK237.out)
      replace BK238 := Aside0.mk (blk_drew BK238.out)
      replace BK239 := Aside0.mk (blk_drew BK239.out)
      replace HB := Aside0.mk (below_drew1 HB.out)
      refine start_ (n := 17) (S := fun w' => w'.cell? ⟨gb237, 0, none⟩ = some (.slice A0_0 l0_0.length c0_0)) (ds := []) _ (by kernel_rfl) rfl rfl ((blk_cell BK237.out 0).trans rfl) (fun hHeld => ?_); refine with_tabW r11_Apply.tab4 r11_Apply.bits4 (fun HT_ HW_ => ?_)
      generalize wr.drew = w19 at HO_238000 BK237 BK238 BK239 HB hHeld ⊢
      refine p1 0 (some 15) ?_
      refine p1 1 (some 16) ?_
      refine t1 2 (some 17) rfl rfl hHeld (Or.inl ⟨by rfl, by intro w' s0; go_simp; with_reducible rfl⟩) ?_
      refine p1 3 (some 18) ?_
      refine p1 4 (some 19) ?_
      refine p1 5 (some 20) ?_
      refine p2 6 (some 21) ?_
      refine p2 7 (some 22) ?_
      refine p2 8 (some 23) ?_
      refine p2 9 (some 24) ?_
      refine p2 10 (some 25) ?_
      refine p2 11 (some 26) ?_
      refine p2 12 (some 27) ?_
      refine p2 13 (some 28) ?_
      refine p2 14 (some 29) ?_
      refine p2 15 (some 30) ?_
      refine p1 16 (some 31) ?_
      refine done_ (done_of HT_.out (by kernel_rfl)) ?_
      try go_wp2
      go_meet
      case rel => exact ⟨_, (x6_1), rs_, H', ⟨by have := HK1.out; first | omega | exact Nat.le_refl _⟩, ⟨uV HO_238000.out⟩, ⟨uB BK237.out⟩, ⟨uB BK238.out⟩, ⟨uB BK239.out⟩, ⟨bl⟩⟩
  case rest =>
   clear HC5
   try clear c4
   try clear hcz11_0 hfz11_0
   obtain ⟨kq, x6_4, rfl, HA, HJ4, HO_238000, BK237, BK238, BK239, HB⟩ := hcut
   cases kq with
   | zero => exact absurd HA.out (by simp [r11_Apply.j1])
   | succ kj4 =>
    have H := HA.out
    clear HA
    simp only [r11_Apply.j1] at H
    obtain ⟨c20, H⟩ := gd H
    have c20b0 := eq_true c20
    have c20b1 : decide (0 ≤ x6_4) = true := decide_eq_true c20
    clear c20
    obtain ⟨c21, H⟩ := gd H
    have c21b0 := eq_true c21
    have c21b1 : decide (x6_4 ≤ (l0_0.length : Int)) = true := decide_eq_true c21
    clear c21
    obtain ⟨y243, Ny243, H⟩ := ys H
    try dsimp only at H
    have HC22 := Aside0.mk H
    clear H
    have hnb23 := NB237_238.out
    have hnc23 := NB238_237.out
    have hnb24 := NB237_239.out
    have hnc24 := NB239_237.out
    obtain ⟨hcz25_0, hfz25_0⟩ := z1 BK237
    have q26 : (x6_4 : Int) ≤ ((l0_0.length : Int) : Int) := od
    obtain ⟨i026, hi026, _, hsz26, _⟩ := info_parts info70
    have hroom26 : l0_0.length ≤ c0_0 := (Kd.V_reads' HO_238000.out).2.1
    have hC26 : Kd.F k70 _ _ A0_0 l0_0.length l0_0 := (Kd.V_at (base := w.heap.size) HO_238000.out).2.2
    have q026 : (0 : Int) ≤ (x6_4 : Int) := od
    have hcut26 := cut_from (P := Try.prog) 48 70 .i64 Try.underlying48 hi026 3 hsz26 A0_0 l0_0.length c0_0 x6_4 q026 q26
    have hr26 := Kd.F_cut (m := (x6_4 : Int).toNat) (c := c0_0) hC26 (by omega) hroom26
    obtain ⟨A26, hA26⟩ : ∃ A1, A1 = (if c0_0 = (x6_4 : Int).toNat then A0_0 else (A0_0 : Option Addr).map (·.add ((x6_4 : Int).toNat * 3))) := ⟨_, rfl⟩
    obtain ⟨c26, hc26⟩ : ∃ c1, c1 = c0_0 - (x6_4 : Int).toNat := ⟨_, rfl⟩
    have hy26 : y243.length = l0_0.length - (x6_4 : Int).toNat := (by rw [Ny243.out, List.length_drop] <;> omega)
    rw [show (l0_0).drop (x6_4 : Int).toNat = y243 from Ny243.out.symm] at hr26
    replace hr26 : Kd.F k70 _ _ A26 y243.length y243 := (by rw [hA26]; exact hr26)
    rw [← hy26, ← hA26, ← hc26] at hcut26
    have HO247 := Aside0.mk (show Kd.V k70 70 _ w.heap.size _ (.slice A26 y243.length c26) y243 from Kd.V_mk (by rw [hy26, hc26]; exact Nat.sub_le_sub_right hroom26 _) hr26)
    have HC247 := Aside0.mk (show y243.length ≤ c26 from by rw [hy26, hc26]; exact Nat.sub_le_sub_right hroom26 _)
    clear hr26 hC26 hroom26 hi026 hsz26 hc26
    have KY26 := Aside0.mk hy26
    have KA26 := Aside0.mk hA26
    clear hy26 hA26
    replace q26 := eq_true q26
    go_upto_region 8 with (fail)
    go_cut [58] (fun v58 wc => ∃ (kq : Nat) (x58_21 : Bool), v58 = .bool x58_21 ∧ Aside0 (r11_Apply.j2 kq x6_4 ([] : List (S96)) y243 x58_21 l0_0 a1_0 a1_1 a1_2 a1_3 = some (r1, r2)) ∧ Aside0 (kq ≤ kj4) ∧ Aside0 (Kd.R k96 96 wc w.heap.size (fun k_ => (w.heap.size ≤ k_)) (.slice none 0 0) ([] : List (S96))) ∧ Aside0 (Kd.V k70 70 wc w.heap.size (fun k_ => (P0_0_ k_ ∨ w.heap.size ≤ k_) ∧ some k_ ≠ ((.slice none 0 0) : Value).ownBlock ∧ k_ ≠ gb237 ∧ k_ ≠ gb238 ∧ k_ ≠ gb239) (.slice A26 y243.length c26) y243) ∧ Aside0 (Kd.V k70 70 wc w.heap.size (fun k_ => (P0_0_ k_ ∨ w.heap.size ≤ k_) ∧ some k_ ≠ ((.slice none 0 0) : Value).ownBlock ∧ k_ ≠ gb237 ∧ k_ ≠ gb238 ∧ k_ ≠ gb239) (.slice A0_0 l0_0.length c0_0) l0_0) ∧ Aside0 (wc.heap[gb237]? = some (.cells #[(.slice A0_0 l0_0.length c0_0)] 50 (0, 0))) ∧ Aside0 (wc.heap[gb238]? = some (.cells #[.int .i64 a1_0, .int .i64 a1_1, .string a1_2, .int .i64 a1_3] 61 (0, 0))) ∧ Aside0 (wc.heap[gb239]? = some (.cells #[(.slice none 0 0)] 50 (0, 0))) ∧ Aside0 (Below w.heap.size w wc))
    case first =>
     have H := HC22.out
     clear HC22
     by_cases c27 : (y243.length : Int) > 0
     ·
      rw [if_pos c27] at H
      have c27b0 : decide (0 < (y243.length : Int)) = true := decide_eq_true c27
      have c27b1 : decide (0 < y243.length) = true := decide_eq_true (by omega)
      clear c27
      (first | rw [c27b0] | (simp only [i64_w, i32_w]; rw [c27b0]) | skip)
      obtain ⟨c28, H⟩ := gd H
      have c28b0 : decide (0 < (y243.length : Int)) = true := decide_eq_true c28
      have c28b1 : decide (0 < y243.length) = true := decide_eq_true (by omega)
      clear c28
      by_cases c29 : ((rd_T70 y243 0).f0) = a1_1
      ·
       rw [if_pos c29] at H
       have c29b0 : (((rd_T70 y243 0).f0) == a1_1) = true := beq_iff_eq.mpr c29
       have c29b1 : (((rd_T70 y243 0).f0) != a1_1) = false := bne_eq_false_iff_eq.mpr c29
       clear c29
       have H' := Aside0.mk H
       clear H
       try go_wp2
       replace HO_238000 := Aside0.mk (Kd.V_drew HO_238000.out)
       replace HO247 := Aside0.mk (Kd.V_drew HO247.out)
       replace BK237 := Aside0.mk (blk_drew BK237.out)
       replace BK238 := Aside0.mk (blk_drew BK238.out)
       replace BK239 := Aside0.mk (blk_drew BK239.out)
       replace HB := Aside0.mk (below_drew1 HB.out)
       have p248 : 0 ≤ (0 : Int) := (by omega)
       have q248 : 0 < (y243.length : Int) := od
       obtain ⟨ad248, A248_2, c248_2, e248, hx248_0, hx248_1, hx248_2, hl248_2, hi248_2⟩ := at_T70 (Kd.V_reads' HO247.out).2.2 0 p248 q248
       cases e248
       obtain ⟨ce248, hce248, hMe248, hcc248⟩ := Kd.V_get HO247.out z70 0 p248 (by first | exact q248 | exact od | (have e_ := (Kd.V_reads' HO247.out).1; omega))
       obtain ⟨ua248_2, uc248_2, rfl, ul248_2, ge248_2⟩ := k70_openF hMe248
       have hv248_2 := hcc248 2 _ rfl
       rw [add_field _ _ 2 (by omega)] at hv248_2
       replace hv248_2 := Option.some.inj (hv248_2.symm.trans hx248_2)
       injection hv248_2 with hva_ hvn_ hvc_
       rw [hva_] at ge248_2
       rw [hvc_] at ul248_2
       have HL248_2 := Aside0.mk (show Kd.V k96 96 _ w.heap.size _ _ ((rd_T70 y243 0).f2) from Kd.V_mk ul248_2 ge248_2)
       clear hva_ hvn_ hvc_ ge248_2 ul248_2
       clear hcc248 hce248
       have qi248 : (0 < y243.length) = True := eq_true (by omega)
       (try rw [show ((0 : Int)).toNat = 0 from rfl] at hx248_0)
       (try rw [show 0 * 3 = 0 from rfl] at hx248_0)
       (try rw [Addr.add_zero'] at hx248_0)
       (try rw [show ((0 : Int)).toNat = 0 from rfl] at hx248_1)
       (try rw [show 0 * 3 = 0 from rfl] at hx248_1)
       (try rw [Addr.add_zero'] at hx248_1)
       (try rw [show ((0 : Int)).toNat = 0 from rfl] at hx248_2)
       (try rw [show 0 * 3 = 0 from rfl] at hx248_2)
       (try rw [Addr.add_zero'] at hx248_2)
       have HR248_2 := Aside0.mk hi248_2
       have HC248_2 := Aside0.mk hl248_2
       clear hi248_2 hl248_2
       replace p248 := eq_true p248
       replace q248 := eq_true q248
       have p249 : 0 ≤ (0 : Int) := (by omega)
       have q249 : 0 < (y243.length : Int) := od
       obtain ⟨ad249, A249_2, c249_2, e249, hx249_0, hx249_1, hx249_2, hl249_2, hi249_2⟩ := at_T70 (Kd.V_reads' HO247.out).2.2 0 p249 q249
       obtain rfl : ad248 = ad249 := (by injection e249)
       obtain ⟨ce249, hce249, hMe249, hcc249⟩ := Kd.V_get HO247.out z70 0 p249 (by first | exact q249 | exact od | (have e_ := (Kd.V_reads' HO247.out).1; omega))
       obtain ⟨ua249_2, uc249_2, rfl, ul249_2, ge249_2⟩ := k70_openF hMe249
       have hv249_2 := hcc249 2 _ rfl
       rw [add_field _ _ 2 (by omega)] at hv249_2
       replace hv249_2 := Option.some.inj (hv249_2.symm.trans hx249_2)
       injection hv249_2 with hva_ hvn_ hvc_
       rw [hva_] at ge249_2
       rw [hvc_] at ul249_2
       have HL249_2 := Aside0.mk (show Kd.V k96 96 _ w.heap.size _ _ ((rd_T70 y243 0).f2) from Kd.V_mk ul249_2 ge249_2)
       clear hva_ hvn_ hvc_ ge249_2 ul249_2
       clear hcc249 hce249
       have qi249 : (0 < y243.length) = True := eq_true (by omega)
       (try rw [show ((0 : Int)).toNat = 0 from rfl] at hx249_0)
       (try rw [show 0 * 3 = 0 from rfl] at hx249_0)
       (try rw [Addr.add_zero'] at hx249_0)
       (try rw [show ((0 : Int)).toNat = 0 from rfl] at hx249_1)
       (try rw [show 0 * 3 = 0 from rfl] at hx249_1)
       (try rw [Addr.add_zero'] at hx249_1)
       (try rw [show ((0 : Int)).toNat = 0 from rfl] at hx249_2)
       (try rw [show 0 * 3 = 0 from rfl] at hx249_2)
       (try rw [Addr.add_zero'] at hx249_2)
       have HR249_2 := Aside0.mk hi249_2
       have HC249_2 := Aside0.mk hl249_2
       clear hi249_2 hl249_2
       replace p249 := eq_true p249
       replace q249 := eq_true q249
       have ea_ := Option.some.inj (hx248_2.symm.trans hx249_2)
       injection ea_ with ea_ en_ ec_
       subst ea_
       subst ec_
       clear en_
       refine start_ (n := 21) (S := fun w' => w'.cell? ⟨gb238, 0, none⟩ = some (.int .i64 a1_0) ∧ w'.cell? ⟨gb238, 1, none⟩ = some (.int .i64 a1_1) ∧ w'.cell? ⟨gb238, 2, none⟩ = some (.string a1_2) ∧ w'.cell? ⟨gb238, 3, none⟩ = some (.int .i64 a1_3) ∧ w'.cell? ad248 = some (.int .i64 ((rd_T70 y243 0).f0)) ∧ w'.cell? ⟨ad248.block, ad248.off + 1, none⟩ = some (.string ((rd_T70 y243 0).f1)) ∧ w'.cell? ⟨ad248.block, ad248.off + 2, none⟩ = some (.slice A248_2 ((rd_T70 y243 0).f2).length c248_2) ∧ w'.cell? ad248 = some (.int .i64 ((rd_T70 y243 0).f0)) ∧ w'.cell? ⟨ad248.block, ad248.off + 1, none⟩ = some (.string ((rd_T70 y243 0).f1)) ∧ w'.cell? ⟨ad248.block, ad248.off + 2, none⟩ = some (.slice A248_2 ((rd_T70 y243 0).f2).length c248_2)) (ds := []) _ (by kernel_rfl) rfl rfl ⟨(blk_cell BK238.out 0).trans rfl, (blk_cell BK238.out 1).trans rfl, (blk_cell BK238.out 2).trans rfl, (blk_cell BK238.out 3).trans rfl, hx248_0, hx248_1, hx248_2, hx249_0, hx249_1, hx249_2⟩ (fun hHeld => ?_); refine with_tabW r11_Apply.tab8 r11_Apply.bits8 (fun HT_ HW_ => ?_)
       generalize wc.drew = w30 at HO_238000 HO247 BK237 BK238 BK239 HB HL248_2 HL249_2 HR248_2 HR249_2 hx248_0 hx248_1 hx248_2 hx249_0 hx249_1 hx249_2 hHeld ⊢
       refine p1 0 (some 38) ?_
       refine p1 1 (some 39) ?_
       refine p1 2 (some 40) ?_
       refine p1 3 (some 41) ?_
       refine p1 4 (some 42) ?_
       refine p1 5 (some 43) ?_
       refine p1 6 (some 44) ?_
       refine p1 8 (some 46) ?_
       refine t1 7 (some 45) rfl rfl hHeld (Or.inl ⟨by rfl, by rintro w' ⟨s0, s1, s2, s3, s4, s5, s6, s7, s8, s9⟩; go_simp; with_reducible rfl⟩) ?_
       refine t1 9 (some 47) rfl rfl hHeld (Or.inl ⟨by rfl, by rintro w' ⟨s0, s1, s2, s3, s4, s5, s6, s7, s8, s9⟩; go_simp; with_reducible rfl⟩) ?_
       refine p1 10 (some 48) ?_
       refine p1 11 (some 49) ?_
       refine p1 12 (some 50) ?_
       refine p1 13 (some 51) ?_
       refine p1 14 (some 52) ?_
       refine p1 15 (some 53) ?_
       refine p1 17 (some 55) ?_
       refine t1 16 (some 54) rfl rfl hHeld (Or.inl ⟨by rfl, by rintro w' ⟨s0, s1, s2, s3, s4, s5, s6, s7, s8, s9⟩; go_simp; with_reducible rfl⟩) ?_
       refine t1 18 (some 56) rfl rfl hHeld (Or.inl ⟨by rfl, by rintro w' ⟨s0, s1, s2, s3, s4, s5, s6, s7, s8, s9⟩; go_simp; with_reducible rfl⟩) ?_
       refine p1 19 (some 57) ?_
       refine p1 20 (some 58) ?_
       refine done_ (done_of HT_.out (by kernel_rfl)) ?_
       try go_wp2
       go_meet
       case rel => exact ⟨_, ((((rd_T70 y243 0).f1).toList == a1_2.toList)), rs_, H', ⟨by have := HJ4.out; first | omega | exact Nat.le_refl _⟩, ⟨nl_⟩, ⟨by exact uV <| Kd.V_mono HO247.out (fun _ hk => ⟨hk.1, ⟨(by simp [Value.ownBlock]), ⟨hk.2.1, ⟨hk.2.2.1, hk.2.2.2⟩⟩⟩⟩)⟩, ⟨by exact uV <| Kd.V_mono HO_238000.out (fun _ hk => ⟨hk.1, ⟨(by simp [Value.ownBlock]), ⟨hk.2.1, ⟨hk.2.2.1, hk.2.2.2⟩⟩⟩⟩)⟩, ⟨uB BK237.out⟩, ⟨uB BK238.out⟩, ⟨uB BK239.out⟩, ⟨bl⟩⟩
      ·
       rw [if_neg c29] at H
       have c29b0 : (((rd_T70 y243 0).f0) == a1_1) = false := beq_eq_false_iff_ne.mpr c29
       have c29b1 : (((rd_T70 y243 0).f0) != a1_1) = true := bne_iff_ne.mpr c29
       have H' := Aside0.mk H
       clear H
       try go_wp2
       replace HO_238000 := Aside0.mk (Kd.V_drew HO_238000.out)
       replace HO247 := Aside0.mk (Kd.V_drew HO247.out)
       replace BK237 := Aside0.mk (blk_drew BK237.out)
       replace BK238 := Aside0.mk (blk_drew BK238.out)
       replace BK239 := Aside0.mk (blk_drew BK239.out)
       replace HB := Aside0.mk (below_drew1 HB.out)
       have p248 : 0 ≤ (0 : Int) := (by omega)
       have q248 : 0 < (y243.length : Int) := od
       obtain ⟨ad248, A248_2, c248_2, e248, hx248_0, hx248_1, hx248_2, hl248_2, hi248_2⟩ := at_T70 (Kd.V_reads' HO247.out).2.2 0 p248 q248
       cases e248
       obtain ⟨ce248, hce248, hMe248, hcc248⟩ := Kd.V_get HO247.out z70 0 p248 (by first | exact q248 | exact od | (have e_ := (Kd.V_reads' HO247.out).1; omega))
       obtain ⟨ua248_2, uc248_2, rfl, ul248_2, ge248_2⟩ := k70_openF hMe248
       have hv248_2 := hcc248 2 _ rfl
       rw [add_field _ _ 2 (by omega)] at hv248_2
       replace hv248_2 := Option.some.inj (hv248_2.symm.trans hx248_2)
       injection hv248_2 with hva_ hvn_ hvc_
       rw [hva_] at ge248_2
       rw [hvc_] at ul248_2
       have HL248_2 := Aside0.mk (show Kd.V k96 96 _ w.heap.size _ _ ((rd_T70 y243 0).f2) from Kd.V_mk ul248_2 ge248_2)
       clear hva_ hvn_ hvc_ ge248_2 ul248_2
       clear hcc248 hce248
       have qi248 : (0 < y243.length) = True := eq_true (by omega)
       (try rw [show ((0 : Int)).toNat = 0 from rfl] at hx248_0)
       (try rw [show 0 * 3 = 0 from rfl] at hx248_0)
       (try rw [Addr.add_zero'] at hx248_0)
       (try rw [show ((0 : Int)).toNat = 0 from rfl] at hx248_1)
       (try rw [show 0 * 3 = 0 from rfl] at hx248_1)
       (try rw [Addr.add_zero'] at hx248_1)
       (try rw [show ((0 : Int)).toNat = 0 from rfl] at hx248_2)
       (try rw [show 0 * 3 = 0 from rfl] at hx248_2)
       (try rw [Addr.add_zero'] at hx248_2)
       have HR248_2 := Aside0.mk hi248_2
       have HC248_2 := Aside0.mk hl248_2
       clear hi248_2 hl248_2
       replace p248 := eq_true p248
       replace q248 := eq_true q248
       refine start_ (n := 21) (S := fun w' => w'.cell? ⟨gb238, 0, none⟩ = some (.int .i64 a1_0) ∧ w'.cell? ⟨gb238, 1, none⟩ = some (.int .i64 a1_1) ∧ w'.cell? ⟨gb238, 2, none⟩ = some (.string a1_2) ∧ w'.cell? ⟨gb238, 3, none⟩ = some (.int .i64 a1_3) ∧ w'.cell? ad248 = some (.int .i64 ((rd_T70 y243 0).f0)) ∧ w'.cell? ⟨ad248.block, ad248.off + 1, none⟩ = some (.string ((rd_T70 y243 0).f1)) ∧ w'.cell? ⟨ad248.block, ad248.off + 2, none⟩ = some (.slice A248_2 ((rd_T70 y243 0).f2).length c248_2)) (ds := []) _ (by kernel_rfl) rfl rfl ⟨(blk_cell BK238.out 0).trans rfl, (blk_cell BK238.out 1).trans rfl, (blk_cell BK238.out 2).trans rfl, (blk_cell BK238.out 3).trans rfl, hx248_0, hx248_1, hx248_2⟩ (fun hHeld => ?_); refine with_tabW r11_Apply.tab8 r11_Apply.bits8 (fun HT_ HW_ => ?_)
       generalize wc.drew = w31 at HO_238000 HO247 BK237 BK238 BK239 HB HL248_2 HR248_2 hx248_0 hx248_1 hx248_2 hHeld ⊢
       refine p1 0 (some 38) ?_
       refine p1 1 (some 39) ?_
       refine p1 2 (some 40) ?_
       refine p1 3 (some 41) ?_
       refine p1 4 (some 42) ?_
       refine p1 5 (some 43) ?_
       refine p1 6 (some 44) ?_
       refine p1 8 (some 46) ?_
       refine t1 7 (some 45) rfl rfl hHeld (Or.inl ⟨by rfl, by rintro w' ⟨s0, s1, s2, s3, s4, s5, s6⟩; go_simp; with_reducible rfl⟩) ?_
       refine t1 9 (some 47) rfl rfl hHeld (Or.inl ⟨by rfl, by rintro w' ⟨s0, s1, s2, s3, s4, s5, s6⟩; go_simp; with_reducible rfl⟩) ?_
       refine p1 10 (some 48) ?_
       refine p1 11 (some 49) ?_
       refine p1 12 (some 50) ?_
       refine p2 13 (some 51) ?_
       refine p2 14 (some 52) ?_
       refine p2 15 (some 53) ?_
       refine p2 16 (some 54) ?_
       refine p2 17 (some 55) ?_
       refine p2 18 (some 56) ?_
       refine p2 19 (some 57) ?_
       refine p1 20 (some 58) ?_
       refine done_ (done_of HT_.out (by kernel_rfl)) ?_
       try go_wp2
       go_meet
       case rel => exact ⟨_, (false), rs_, H', ⟨by have := HJ4.out; first | omega | exact Nat.le_refl _⟩, ⟨nl_⟩, ⟨by exact uV <| Kd.V_mono HO247.out (fun _ hk => ⟨hk.1, ⟨(by simp [Value.ownBlock]), ⟨hk.2.1, ⟨hk.2.2.1, hk.2.2.2⟩⟩⟩⟩)⟩, ⟨by exact uV <| Kd.V_mono HO_238000.out (fun _ hk => ⟨hk.1, ⟨(by simp [Value.ownBlock]), ⟨hk.2.1, ⟨hk.2.2.1, hk.2.2.2⟩⟩⟩⟩)⟩, ⟨uB BK237.out⟩, ⟨uB BK238.out⟩, ⟨uB BK239.out⟩, ⟨bl⟩⟩
     ·
      rw [if_neg c27] at H
      have c27b0 : decide (0 < (y243.length : Int)) = false := decide_eq_false c27
      have c27b1 : decide (0 < y243.length) = false := decide_eq_false (by omega)
      clear c27
      (first | rw [c27b0] | (simp only [i64_w, i32_w]; rw [c27b0]) | skip)
      have H' := Aside0.mk H
      clear H
      try go_wp2
      replace HO_238000 := Aside0.mk (Kd.V_drew HO_238000.out)
      replace HO247 := Aside0.mk (Kd.V_drew HO247.out)
      replace BK237 := Aside0.mk (blk_drew BK237.out)
      replace BK238 := Aside0.mk (blk_drew BK238.out)
      replace BK239 := Aside0.mk (blk_drew BK239.out)
      replace HB := Aside0.mk (below_drew1 HB.out)
      refine start_ (n := 21) (S := fun w' => True) (ds := []) _ (by kernel_rfl) rfl rfl trivial (fun hHeld => ?_); refine with_tabW r11_Apply.tab8 r11_Apply.bits8 (fun HT_ HW_ => ?_)
      generalize wc.drew = w32 at HO_238000 HO247 BK237 BK238 BK239 HB hHeld ⊢
      refine p1 0 (some 38) ?_
      refine p1 1 (some 39) ?_
      refine p1 2 (some 40) ?_
      refine p1 3 (some 41) ?_
      refine p2 4 (some 42) ?_
      refine p2 5 (some 43) ?_
      refine p2 6 (some 44) ?_
      refine p2 7 (some 45) ?_
      refine p2 8 (some 46) ?_
      refine p2 9 (some 47) ?_
      refine p2 10 (some 48) ?_
      refine p1 11 (some 49) ?_
      refine p1 12 (some 50) ?_
      refine p2 13 (some 51) ?_
      refine p2 14 (some 52) ?_
      refine p2 15 (some 53) ?_
      refine p2 16 (some 54) ?_
      refine p2 17 (some 55) ?_
      refine p2 18 (some 56) ?_
      refine p2 19 (some 57) ?_
      refine p1 20 (some 58) ?_
      refine done_ (done_of HT_.out (by kernel_rfl)) ?_
      try go_wp2
      go_meet
      case rel => exact ⟨_, (false), rs_, H', ⟨by have := HJ4.out; first | omega | exact Nat.le_refl _⟩, ⟨nl_⟩, ⟨by exact uV <| Kd.V_mono HO247.out (fun _ hk => ⟨hk.1, ⟨(by simp [Value.ownBlock]), ⟨hk.2.1, ⟨hk.2.2.1, hk.2.2.2⟩⟩⟩⟩)⟩, ⟨by exact uV <| Kd.V_mono HO_238000.out (fun _ hk => ⟨hk.1, ⟨(by simp [Value.ownBlock]), ⟨hk.2.1, ⟨hk.2.2.1, hk.2.2.2⟩⟩⟩⟩)⟩, ⟨uB BK237.out⟩, ⟨uB BK238.out⟩, ⟨uB BK239.out⟩, ⟨bl⟩⟩
    case rest =>
     clear HC22
     try clear c2
     try clear p2
     try clear q2
     try clear hx2
     obtain ⟨kq, x58_21, rfl, HA, HJ21, HO_7, HO_8, HO_238000, BK237, BK238, BK239, HB⟩ := hcut
     cases kq with
     | zero => exact absurd HA.out (by simp [r11_Apply.j2])
     | succ kj21 =>
      have H := HA.out
      clear HA
      simp only [r11_Apply.j2] at H
      by_cases c33 : x58_21 = true
      ·
       subst c33
       rw [if_pos rfl] at H
       exact absurd H (by simp)
      ·
       replace c33 := Bool.eq_false_iff.mpr c33
       subst c33
       rw [if_neg (show ¬ (false = true) by decide)] at H
       obtain ⟨⟨t250, t251⟩, A34, H⟩ := bs H
       try dsimp only at H
       obtain ⟨c35, H⟩ := gd H
       have c35b0 : (t251 == 0) = true := beq_iff_eq.mpr c35
       have c35b1 : (t251 != 0) = false := bne_eq_false_iff_eq.mpr c35
       clear c35
       obtain ⟨y254, Ny254, H⟩ := ys H
       try dsimp only at H
       obtain ⟨c36, H⟩ := gd H
       have c36b0 := eq_true c36
       have c36b1 : decide (0 ≤ x6_4) = true := decide_eq_true c36
       clear c36
       obtain ⟨c37, H⟩ := gd H
       have c37b0 := eq_true c37
       have c37b1 : decide (x6_4 ≤ (l0_0.length : Int)) = true := decide_eq_true c37
       clear c37
       obtain ⟨y257, Ny257, H⟩ := ys H
       try dsimp only at H
       obtain ⟨c38, H⟩ := gd H
       have LMc38 := Aside0.mk c38
       clear c38
       obtain ⟨y262, Ny262, H⟩ := ys H
       try dsimp only at H
       obtain ⟨y265, Ny265, H⟩ := ys H
       try dsimp only at H
       obtain ⟨c39, H⟩ := gd H
       have LMc39 := Aside0.mk c39
       clear c39
       obtain ⟨y268, Ny268, H⟩ := ys H
       try dsimp only at H
       obtain ⟨c40, H⟩ := gd H
       have LMc40 := Aside0.mk c40
       clear c40
       obtain ⟨y271, hy271⟩ : ∃ y_ : List (S70), y_ = (y268 ++ y243) := ⟨_, rfl⟩
       replace H : (some (y271, 0)) = some (r1, r2) := by first | (rw [hy271]; with_reducible exact H) | (have H2_ := (Option.bind_some _ _).symm.trans H; rw [hy271]; with_reducible exact H2_) | (have H2_ := (Option.bind_some _ _).symm.trans H; with_reducible exact H2_) | with_reducible exact H | (rw [hy271]; exact H) | exact H
       have Ny271 := Aside0.mk hy271
       clear hy271
       simp only [Option.some.injEq, Prod.mk.injEq] at H
       obtain ⟨rfl, rfl⟩ := H
       have hnb41 := NB238_237.out
       have hnc41 := NB237_238.out
       have hnb42 := NB238_239.out
       have hnc42 := NB239_238.out
       obtain ⟨hcz43_0, hcz43_1, hcz43_2, hcz43_3, hfz43_0, hfz43_1, hfz43_2, hfz43_3⟩ := z4 BK238
       try go_wp2_with (first | ((with_reducible refine gate_callee (f := 42) rfl ?_); refine goesL_ (some 71) rfl rfl Try.func42 (by kernel_rfl) rfl #[.slice none ([] : List (S96)).length 0, .int .i64 a1_0, .int .i64 a1_3] rfl (by (try simp only [List.map_toArray, List.map_cons, List.map_nil]); first | done | (rw [show ([] : List (S96)).length = 0 from (Kd.R_reads' HO_7.out).1.symm] <;> rfl) | rfl | (simp only [List.length_drop, List.length_take]; rfl)) ?_; (with_reducible refine (r10_Fold.calls kj21 _ _ ([] : List (S96)) a1_0 a1_3 t250 t251 _ ?side1 ?side2 A34.out).mono ?_); (case side1 => exact uC <| (Kd.R_reads' HO_7.out).2.2); (case side2 => rw [show ([] : List (S96)).length = 0 from (Kd.R_reads' HO_7.out).1.symm]; exact (Kd.R_reads' HO_7.out).2.1); rintro e w44 ⟨v252, rfl, ho0, hb⟩; refine ⟨_, rfl, ?_⟩; replace HO_8 := Aside0.mk (Kd.V_elder' (uV HO_8.out) (Kd.R_base ho0) hb); replace HO_238000 := Aside0.mk (Kd.V_elder' (uV HO_238000.out) (Kd.R_base ho0) hb); have HO253 := Aside0.mk (Kd.R_lower (Kd.R_new' (Kd.R_newM (M := fun k_ => (w.heap.size ≤ k_)) ho0 (below_size bl) (fun k_ h_ => h_)) (Kd.R_lt (uR HO_7.out))) (below_size bl)); replace HO_7 := Aside0.mk (Kd.R_elder' (uR HO_7.out) (Kd.R_base ho0) hb); replace BK237 := cB BK237 hb; replace BK238 := cB BK238 hb; replace BK239 := cB BK239 hb; replace HB := Aside0.mk (below_step bl hb); (try clear hb); (try clear ho0)))
       replace HO_7 := Aside0.mk (Kd.R_drew HO_7.out)
       replace HO_8 := Aside0.mk (Kd.V_drew HO_8.out)
       replace HO_238000 := Aside0.mk (Kd.V_drew HO_238000.out)
       replace HO253 := Aside0.mk (Kd.R_drew HO253.out)
       replace BK237 := Aside0.mk (blk_drew BK237.out)
       replace BK238 := Aside0.mk (blk_drew BK238.out)
       replace BK239 := Aside0.mk (blk_drew BK239.out)
       replace HB := Aside0.mk (below_drew1 HB.out)
       have q46 : (x6_4 : Int) ≤ ((l0_0.length : Int) : Int) := od
       obtain ⟨i046, hi046, _, hsz46, _⟩ := info_parts info70
       have hroom46 : l0_0.length ≤ c0_0 := (Kd.V_reads' HO_238000.out).2.1
       have hC46 : Kd.F k70 _ _ A0_0 l0_0.length l0_0 := (Kd.V_at (base := w.heap.size) HO_238000.out).2.2
       have hcut46 := cut_to (P := Try.prog) 48 70 .i64 Try.underlying48 hi046 A0_0 l0_0.length c0_0 x6_4 (od) q46 hroom46
       have hr46 := Kd.F_take (m := (x6_4 : Int).toNat) hC46 (by omega)
       have hy46 : y257.length = (x6_4 : Int).toNat := (by rw [Ny257.out, List.length_take]; omega)
       rw [← Ny257.out] at hr46
       rw [← hy46] at hcut46
       have HO261 := Aside0.mk (show Kd.V k70 70 _ w.heap.size _ (.slice A0_0 y257.length c0_0) y257 from Kd.V_mk (by omega) hr46)
       have HC261 := Aside0.mk (show y257.length ≤ c0_0 from by omega)
       clear hr46 hC46 hroom46 hi046 hsz46
       have KY46 := Aside0.mk hy46
       clear hy46
       replace q46 := eq_true q46
       obtain ⟨Ao47, co47, eo47⟩ := Kd.R_slice HO253.out
       (first | subst eo47 | (injection eo47 with f1_ f2_ f3_; have f4_ := f1_.symm; have f5_ := f3_.symm; clear f1_ f2_ f3_; subst f4_; subst f5_))
       refine start_ (n := 15) (S := fun w' => w'.cell? ⟨gb237, 0, none⟩ = some (.slice A0_0 l0_0.length c0_0) ∧ w'.cell? ⟨gb238, 0, none⟩ = some (.int .i64 a1_0) ∧ w'.cell? ⟨gb238, 1, none⟩ = some (.int .i64 a1_1) ∧ w'.cell? ⟨gb238, 2, none⟩ = some (.string a1_2) ∧ w'.cell? ⟨gb238, 3, none⟩ = some (.int .i64 a1_3)) (ds := []) _ (by kernel_rfl) rfl rfl ⟨(blk_cell BK237.out 0).trans rfl, (blk_cell BK238.out 0).trans rfl, (blk_cell BK238.out 1).trans rfl, (blk_cell BK238.out 2).trans rfl, (blk_cell BK238.out 3).trans rfl⟩ (fun hHeld => ?_); refine with_tabW r11_Apply.tab13 r11_Apply.bits13 (fun HT_ HW_ => ?_)
       generalize w44.drew = w45 at HO_7 HO_8 HO_238000 HO253 BK237 BK238 BK239 HB HO261 hHeld ⊢
       refine p1 1 (some 79) ?_
       refine p1 3 (some 81) ?_
       refine p1 6 (some 84) ?_
       refine p1 8 (some 86) ?_
       refine p1 10 (some 88) ?_
       refine t1 2 (some 80) rfl rfl hHeld (Or.inl ⟨by rfl, by rintro w' ⟨s0, s1, s2, s3, s4⟩; go_simp; with_reducible rfl⟩) ?_
       refine p1 4 (some 82) ?_
       refine t1 7 (some 85) rfl rfl hHeld (Or.inl ⟨by rfl, by rintro w' ⟨s0, s1, s2, s3, s4⟩; go_simp; with_reducible rfl⟩) ?_
       refine t1 9 (some 87) rfl rfl hHeld (Or.inl ⟨by rfl, by rintro w' ⟨s0, s1, s2, s3, s4⟩; go_simp; with_reducible rfl⟩) ?_
       refine p1 11 (some 89) ?_
       refine join_ (σ := Value × Value × Value) 2 #[true, true, true, true, true, true, true, true, true, true, true, true, true, false, false] (fun s_ => [(78, s_.1), (83, s_.2.1), (90, s_.2.2)]) (fun s_ w' => (w'.cell? ⟨gb237, 0, none⟩ = some (.slice A0_0 l0_0.length c0_0) ∧ w'.cell? ⟨gb238, 0, none⟩ = some (.int .i64 a1_0) ∧ w'.cell? ⟨gb238, 1, none⟩ = some (.int .i64 a1_1) ∧ w'.cell? ⟨gb238, 2, none⟩ = some (.string a1_2) ∧ w'.cell? ⟨gb238, 3, none⟩ = some (.int .i64 a1_3)) ∧ (Kd.V k70 70 w' w.heap.size (fun k_ => (P0_0_ k_ ∨ w.heap.size ≤ k_) ∧ some k_ ≠ (s_.2.1 : Value).ownBlock ∧ some k_ ≠ (s_.2.2 : Value).ownBlock ∧ some k_ ≠ (.slice none 0 0 : Value).ownBlock ∧ k_ ≠ gb237 ∧ k_ ≠ gb238 ∧ k_ ≠ gb239) (.slice A0_0 y257.length c0_0) y257) ∧ (Kd.N k70 70 w' w.heap.size (fun k_ => (P0_0_ k_ ∨ w.heap.size ≤ k_) ∧ some k_ ≠ (s_.2.2 : Value).ownBlock ∧ some k_ ≠ (.slice none 0 0 : Value).ownBlock ∧ k_ ≠ gb237 ∧ k_ ≠ gb238 ∧ k_ ≠ gb239) s_.2.1 y262) ∧ (Kd.N k70 70 w' w.heap.size (fun k_ => (P0_0_ k_ ∨ w.heap.size ≤ k_) ∧ some k_ ≠ (s_.2.1 : Value).ownBlock ∧ some k_ ≠ (.slice none 0 0 : Value).ownBlock ∧ k_ ≠ gb237 ∧ k_ ≠ gb238 ∧ k_ ≠ gb239) s_.2.2 y265) ∧ (Kd.V k70 70 w' w.heap.size (fun k_ => (P0_0_ k_ ∨ w.heap.size ≤ k_) ∧ some k_ ≠ (s_.2.1 : Value).ownBlock ∧ some k_ ≠ (s_.2.2 : Value).ownBlock ∧ some k_ ≠ (.slice none 0 0 : Value).ownBlock ∧ k_ ≠ gb237 ∧ k_ ≠ gb238 ∧ k_ ≠ gb239) (.slice A0_0 l0_0.length c0_0) l0_0) ∧ (Kd.R k96 96 w' w.heap.size (fun k_ => (w.heap.size ≤ k_)) (.slice none 0 0) ([] : List (S96))) ∧ (Kd.V k70 70 w' w.heap.size (fun k_ => (P0_0_ k_ ∨ w.heap.size ≤ k_) ∧ some k_ ≠ (s_.2.1 : Value).ownBlock ∧ some k_ ≠ (s_.2.2 : Value).ownBlock ∧ some k_ ≠ (.slice none 0 0 : Value).ownBlock ∧ k_ ≠ gb237 ∧ k_ ≠ gb238 ∧ k_ ≠ gb239) (.slice A26 y243.length c26) y243) ∧ (w'.heap[gb237]? = some (.cells #[.slice A0_0 l0_0.length c0_0] 50 (0, 0))) ∧ (w'.heap[gb238]? = some (.cells #[.int .i64 a1_0, .int .i64 a1_1, .string a1_2, .int .i64 a1_3] 61 (0, 0))) ∧ (w'.heap[gb239]? = some (.cells #[.slice none 0 0] 50 (0, 0))) ∧ (Below w.heap.size w w')) ?_ ?_
       rotate_left
       ·
        intro hCont
        refine two_ (i := 0) (j := 12) (Ni := some 78) (Nj := some 90) #[true, true, true, true, true, false, true, true, true, true, true, true, false, false, false] #[false, true, true, true, true, false, true, true, true, true, true, true, true, false, false] rfl rfl rfl rfl (two_of HT_.out (by kernel_rfl)) (by decide) (by decide) (fun K hK => ?_) (fun K hK => ?_)
        ·
         skip
         refine Kd.N_lit_step k70 _ 70 ?hg (N' := 78) ?hd (xs := ([] : List (S70))) (inner := []) (ok := (fun k_ => (P0_0_ k_ ∨ w.heap.size ≤ k_) ∧ some k_ ≠ (.slice none 0 0 : Value).ownBlock ∧ some k_ ≠ (.slice Ao47 t250.length co47 : Value).ownBlock ∧ k_ ≠ gb237 ∧ k_ ≠ gb238 ∧ k_ ≠ gb239)) (okp := (fun k_ => (P0_0_ k_ ∨ w.heap.size ≤ k_) ∧ some k_ ≠ (.slice none 0 0 : Value).ownBlock ∧ some k_ ≠ (.slice Ao47 t250.length co47 : Value).ownBlock ∧ k_ ≠ gb237 ∧ k_ ≠ gb238 ∧ k_ ≠ gb239)) ?hr ?hp (fun _ hk => hk) ((show ∀ k_, w45.heap.size ≤ k_ → (fun k_ => (P0_0_ k_ ∨ w.heap.size ≤ k_) ∧ some k_ ≠ (.slice none 0 0 : Value).ownBlock ∧ some k_ ≠ (.slice Ao47 t250.length co47 : Value).ownBlock ∧ k_ ≠ gb237 ∧ k_ ≠ gb238 ∧ k_ ≠ gb239) k_ from fun k_ hk => ⟨(.inr (Nat.le_trans (below_size bl) hk)), Kd.fresh' (Kd.R_lt (uR HO_7.out)) k_ hk, Kd.fresh' (Kd.R_lt (uR HO253.out)) k_ hk, Kd.freshB (g := gb237) (o := .cells #[.slice A0_0 l0_0.length c0_0] 50 (0, 0)) (uB BK237.out) k_ hk, Kd.freshB (g := gb238) (o := .cells #[.int .i64 a1_0, .int .i64 a1_1, .string a1_2, .int .i64 a1_3] 61 (0, 0)) (uB BK238.out) k_ hk, Kd.freshB (g := gb239) (o := .cells #[.slice none 0 0] 50 (0, 0)) (uB BK239.out) k_ hk⟩) _ (Nat.le_refl _)) (Below.refl _ _) (Nat.le_refl _) (by simp) ?_; (case hd => rfl); (case hg => rfl); (case hr => first | (go_simp; done) | (go_simp; rfl)); (case hp => exact (Reps.none _ _))
         intro v255 w48 ho49 hb hg_ hnew_
         clear hg_ hnew_
         (first | rw [← Ny254.out] at ho49 | (simp only [Int.reduceToNat] at ho49; rw [← Ny254.out] at ho49))
         replace HO_7 := cR HO_7 hb
         replace HO_8 := Aside0.mk (Kd.V_elder' (uV HO_8.out) (Kd.N_base ho49) hb)
         replace HO_238000 := Aside0.mk (Kd.V_elder' (uV HO_238000.out) (Kd.N_base ho49) hb)
         replace HO253 := cR HO253 hb
         replace HO261 := Aside0.mk (Kd.V_elder' (uV HO261.out) (Kd.N_base ho49) hb)
         have HO256 := Aside0.mk (Kd.N_lower ho49 (below_size bl))
         replace BK237 := cB BK237 hb
         replace BK238 := cB BK238 hb
         replace BK239 := cB BK239 hb
         replace HB := Aside0.mk (below_step bl hb)
         clear hb ho49
         refine hK.out _ _ ⟨(blk_cell BK237.out 0).trans rfl, (blk_cell BK238.out 0).trans rfl, (blk_cell BK238.out 1).trans rfl, (blk_cell BK238.out 2).trans rfl, (blk_cell BK238.out 3).trans rfl⟩ (fun hHeld => ?_)
         clear hK K
         refine norm_ (a' := ?_) ?_ ?_
         rotate_left
         ·
          show Act.put _ (some 78) _ = _
          simp only [Act.put, List.setIfInBounds_toArray, List.set_cons_zero, List.set_cons_succ, i64_w, i32_w]
          rfl
         refine two_ (i := 5) (j := 12) (Ni := some 83) (Nj := some 90) #[true, true, true, true, true, true, true, true, true, true, true, true, false, false, false] #[true, true, true, true, true, false, true, true, true, true, true, true, true, false, false] rfl rfl rfl rfl (two_of HT_.out (by kernel_rfl)) (by decide) (by decide) (fun K hK => ?_) (fun K hK => ?_)
         ·
          skip
          refine Kd.N_append_rows_step k70 (w0 := w) w.heap.size (by rfl) (.tmp 78) (.tmp 82) 48 70 (.agg #[(.int .i64 0), (.string ⟨#[]⟩), (.slice none 0 0)]) 48 rfl Try.underlying48 info70 rfl (by decide) (by omega) v255 y254 y257 _ _ _ (fun k_ => (P0_0_ k_ ∨ w.heap.size ≤ k_) ∧ some k_ ≠ (.slice none 0 0 : Value).ownBlock ∧ some k_ ≠ (.slice Ao47 t250.length co47 : Value).ownBlock ∧ k_ ≠ gb237 ∧ k_ ≠ gb238 ∧ k_ ≠ gb239) (fun k_ => ((fun k_ => (P0_0_ k_ ∨ w.heap.size ≤ k_) ∧ some k_ ≠ (.slice none 0 0 : Value).ownBlock ∧ some k_ ≠ (.slice Ao47 t250.length co47 : Value).ownBlock ∧ k_ ≠ gb237 ∧ k_ ≠ gb238 ∧ k_ ≠ gb239)) k_ ∧ some k_ ≠ (v255 : Value).ownBlock) rfl rfl ?aO ?aR (fun _ hk => hk) ?aF ?aB ?aS ?aL ?_
          (case aR => exact (by skip; exact Kd.V_F (Kd.V_mono (ok' := (fun k_ => ((fun k_ => (P0_0_ k_ ∨ w.heap.size ≤ k_) ∧ some k_ ≠ (.slice none 0 0 : Value).ownBlock ∧ some k_ ≠ (.slice Ao47 t250.length co47 : Value).ownBlock ∧ k_ ≠ gb237 ∧ k_ ≠ gb238 ∧ k_ ≠ gb239)) k_ ∧ some k_ ≠ (v255 : Value).ownBlock)) (HO261.out) (fun k_ hk => ⟨⟨hk.1.1.1, ⟨hk.1.1.2.1, ⟨hk.1.2, ⟨hk.1.1.2.2.1, ⟨hk.1.1.2.2.2.1, hk.1.1.2.2.2.2⟩⟩⟩⟩⟩, hk.2⟩))))
          (case aB => exact bl)
          (case aF => exact (fun k_ hk => ⟨(.inr (Nat.le_trans (below_size bl) hk)), Kd.fresh' (Kd.R_lt (uR HO_7.out)) k_ hk, Kd.fresh' (Kd.R_lt (uR HO253.out)) k_ hk, Kd.freshB (g := gb237) (o := .cells #[.slice A0_0 l0_0.length c0_0] 50 (0, 0)) (uB BK237.out) k_ hk, Kd.freshB (g := gb238) (o := .cells #[.int .i64 a1_0, .int .i64 a1_1, .string a1_2, .int .i64 a1_3] 61 (0, 0)) (uB BK238.out) k_ hk, Kd.freshB (g := gb239) (o := .cells #[.slice none 0 0] 50 (0, 0)) (uB BK239.out) k_ hk⟩))
          (case aO => exact (by (with_reducible repeat (first | apply Kd.N_alloc | apply Kd.N_drewN | apply Kd.N_drew)); exact HO256.out))
          (case aS => exact (below_size bl))
          (case aL => have := LMc38.out; omega)
          intro v263 w50 ho hb hg hat
          rw [← Ny262.out] at ho
          replace HO_7 := Aside0.mk (Kd.R_over' (uR HO_7.out) (Kd.N_typed (by (with_reducible repeat (first | apply Kd.N_alloc | apply Kd.N_drewN | apply Kd.N_drew)); exact HO256.out)) (by decide) hg)
          replace HO_8 := Aside0.mk (Kd.V_afterv (ok := (fun k_ => (P0_0_ k_ ∨ w.heap.size ≤ k_) ∧ some k_ ≠ (.slice none 0 0 : Value).ownBlock ∧ some k_ ≠ (.slice Ao47 t250.length co47 : Value).ownBlock ∧ k_ ≠ gb237 ∧ k_ ≠ gb238 ∧ k_ ≠ gb239)) (by exact uV <| Kd.V_mono HO_8.out (fun _ hk => ⟨⟨hk.1.1.1, ⟨hk.1.1.2.1, ⟨hk.1.2, ⟨hk.1.1.2.2.1, ⟨hk.1.1.2.2.2.1, hk.1.1.2.2.2.2⟩⟩⟩⟩⟩, hk.2⟩)) hg hat)
          replace HO_238000 := Aside0.mk (Kd.V_afterv (ok := (fun k_ => (P0_0_ k_ ∨ w.heap.size ≤ k_) ∧ some k_ ≠ (.slice none 0 0 : Value).ownBlock ∧ some k_ ≠ (.slice Ao47 t250.length co47 : Value).ownBlock ∧ k_ ≠ gb237 ∧ k_ ≠ gb238 ∧ k_ ≠ gb239)) (by exact uV <| Kd.V_mono HO_238000.out (fun _ hk => ⟨⟨hk.1.1.1, ⟨hk.1.1.2.1, ⟨hk.1.2, ⟨hk.1.1.2.2.1, ⟨hk.1.1.2.2.2.1, hk.1.1.2.2.2.2⟩⟩⟩⟩⟩, hk.2⟩)) hg hat)
          replace BK237 := Aside0.mk (blk_grown (g := gb237) (o := .cells #[.slice A0_0 l0_0.length c0_0] 50 (0, 0)) (uB BK237.out) hg (Kd.N_ne HO256.out BK237.out (by decide)))
          replace BK238 := Aside0.mk (blk_grown (g := gb238) (o := .cells #[.int .i64 a1_0, .int .i64 a1_1, .string a1_2, .int .i64 a1_3] 61 (0, 0)) (uB BK238.out) hg (Kd.N_ne HO256.out BK238.out (by decide)))
          replace BK239 := Aside0.mk (blk_grown (g := gb239) (o := .cells #[.slice none 0 0] 50 (0, 0)) (uB BK239.out) hg (Kd.N_ne HO256.out BK239.out (by decide)))
          replace HO253 := Aside0.mk (Kd.R_over' (uR HO253.out) (Kd.N_typed (by (with_reducible repeat (first | apply Kd.N_alloc | apply Kd.N_drewN | apply Kd.N_drew)); exact HO256.out)) (by decide) hg)
          replace HO261 := Aside0.mk (Kd.V_afterv (ok := (fun k_ => (P0_0_ k_ ∨ w.heap.size ≤ k_) ∧ some k_ ≠ (.slice none 0 0 : Value).ownBlock ∧ some k_ ≠ (.slice Ao47 t250.length co47 : Value).ownBlock ∧ k_ ≠ gb237 ∧ k_ ≠ gb238 ∧ k_ ≠ gb239)) (by exact uV <| Kd.V_mono HO261.out (fun _ hk => ⟨⟨hk.1.1.1, ⟨hk.1.1.2.1, ⟨hk.1.2, ⟨hk.1.1.2.2.1, ⟨hk.1.1.2.2.2.1, hk.1.1.2.2.2.2⟩⟩⟩⟩⟩, hk.2⟩)) hg hat)
          replace HB := Aside0.mk (hb)
          have HO264 := Aside0.mk (ho)
          clear HO256
          clear ho hb hg hat
          refine hK.out _ _ ⟨(blk_cell BK237.out 0).trans rfl, (blk_cell BK238.out 0).trans rfl, (blk_cell BK238.out 1).trans rfl, (blk_cell BK238.out 2).trans rfl, (blk_cell BK238.out 3).trans rfl⟩ (fun hHeld => ?_)
          clear hK K
          refine norm_ (a' := ?_) ?_ ?_
          rotate_left
          ·
           show Act.put _ (some 83) _ = _
           simp only [Act.put, List.setIfInBounds_toArray, List.set_cons_zero, List.set_cons_succ, i64_w, i32_w]
           rfl
          refine o1 12 (some 90) rfl rfl (fun K hK => ?_)
          refine Kd.N_lit_step k70 _ 70 ?hg (N' := 90) ?hd (xs := ([(⟨a1_1, a1_2, t250⟩ : S70)] : List (S70))) (inner := [.int .i64 a1_1, .string a1_2, .slice Ao47 t250.length co47]) (ok := (fun k_ => (P0_0_ k_ ∨ w.heap.size ≤ k_) ∧ some k_ ≠ (.slice none 0 0 : Value).ownBlock ∧ some k_ ≠ (v263 : Value).ownBlock ∧ k_ ≠ gb237 ∧ k_ ≠ gb238 ∧ k_ ≠ gb239)) (okp := (fun k_ => (P0_0_ k_ ∨ w.heap.size ≤ k_) ∧ some k_ ≠ (.slice none 0 0 : Value).ownBlock ∧ some k_ ≠ (v263 : Value).ownBlock ∧ k_ ≠ gb237 ∧ k_ ≠ gb238 ∧ k_ ≠ gb239)) ?hr ?hp (fun _ hk => hk) ((show ∀ k_, w50.heap.size ≤ k_ → (fun k_ => (P0_0_ k_ ∨ w.heap.size ≤ k_) ∧ some k_ ≠ (.slice none 0 0 : Value).ownBlock ∧ some k_ ≠ (v263 : Value).ownBlock ∧ k_ ≠ gb237 ∧ k_ ≠ gb238 ∧ k_ ≠ gb239) k_ from fun k_ hk => ⟨(.inr (Nat.le_trans (below_size bl) hk)), Kd.fresh' (Kd.R_lt (uR HO_7.out)) k_ hk, Kd.fresh' (Kd.N_lt (by (with_reducible repeat (first | apply Kd.N_alloc | apply Kd.N_drewN | apply Kd.N_drew)); exact HO264.out)) k_ hk, Kd.freshB (g := gb237) (o := .cells #[.slice A0_0 l0_0.length c0_0] 50 (0, 0)) (uB BK237.out) k_ hk, Kd.freshB (g := gb238) (o := .cells #[.int .i64 a1_0, .int .i64 a1_1, .string a1_2, .int .i64 a1_3] 61 (0, 0)) (uB BK238.out) k_ hk, Kd.freshB (g := gb239) (o := .cells #[.slice none 0 0] 50 (0, 0)) (uB BK239.out) k_ hk⟩) _ (Nat.le_refl _)) (Below.refl _ _) (Nat.le_refl _) (by simp) ?_; (case hd => rfl); (case hg => rfl); (case hr => first | (go_simp; done) | (go_simp; rfl)); (case hp => exact (Reps.c3 (show Kd.FK k70 _ _ (⟨a1_1, a1_2, t250⟩ : S70) [.int .i64 a1_1, .string a1_2, .slice Ao47 t250.length co47] from (k70_mkF _ _ (⟨a1_1, a1_2, t250⟩ : S70) (Kd.R_reads' (Kd.R_mono (ok' := (fun k_ => (P0_0_ k_ ∨ w.heap.size ≤ k_) ∧ some k_ ≠ (.slice none 0 0 : Value).ownBlock ∧ some k_ ≠ (v263 : Value).ownBlock ∧ k_ ≠ gb237 ∧ k_ ≠ gb238 ∧ k_ ≠ gb239)) (Kd.R_types (Kd.R_types (Kd.R_types (Kd.R_apart' (HO253.out) (Kd.N_typed HO264.out) (by decide)) BK237.out (by decide)) BK238.out (by decide)) BK239.out (by decide)) (fun k_ hk => ⟨(.inr (hk.1.1.1.1.1.1)), ⟨hk.1.1.1.1.2, ⟨hk.1.1.1.2, ⟨hk.1.1.2, ⟨hk.1.2, hk.2⟩⟩⟩⟩⟩))).2.1 (Kd.R_F (Kd.R_mono (ok' := (fun k_ => (P0_0_ k_ ∨ w.heap.size ≤ k_) ∧ some k_ ≠ (.slice none 0 0 : Value).ownBlock ∧ some k_ ≠ (v263 : Value).ownBlock ∧ k_ ≠ gb237 ∧ k_ ≠ gb238 ∧ k_ ≠ gb239)) (Kd.R_types (Kd.R_types (Kd.R_types (Kd.R_apart' (HO253.out) (Kd.N_typed HO264.out) (by decide)) BK237.out (by decide)) BK238.out (by decide)) BK239.out (by decide)) (fun k_ hk => ⟨(.inr (hk.1.1.1.1.1.1)), ⟨hk.1.1.1.1.2, ⟨hk.1.1.1.2, ⟨hk.1.1.2, ⟨hk.1.2, hk.2⟩⟩⟩⟩⟩))))) (Reps.none _ _)))
          intro v266 w51 ho52 hb hg_ hnew_
          clear hg_ hnew_
          (first | rw [← Ny265.out] at ho52 | (simp only [Int.reduceToNat] at ho52; rw [← Ny265.out] at ho52))
          replace HO_7 := cR HO_7 hb
          replace HO_8 := Aside0.mk (Kd.V_elder' (uV HO_8.out) (Kd.N_base ho52) hb)
          replace HO_238000 := Aside0.mk (Kd.V_elder' (uV HO_238000.out) (Kd.N_base ho52) hb)
          replace HO261 := Aside0.mk (Kd.V_elder' (uV HO261.out) (Kd.N_base ho52) hb)
          replace HO264 := Aside0.mk (Kd.N_elder' (by (with_reducible repeat (first | apply Kd.N_alloc | apply Kd.N_drewN | apply Kd.N_drew)); exact HO264.out) (Kd.N_base ho52) hb)
          have HO267 := Aside0.mk (Kd.N_lower ho52 (below_size bl))
          replace BK237 := cB BK237 hb
          replace BK238 := cB BK238 hb
          replace BK239 := cB BK239 hb
          replace HB := Aside0.mk (below_step bl hb)
          clear HO253
          clear hb ho52
          refine hK.out _ _ ⟨(blk_cell BK237.out 0).trans rfl, (blk_cell BK238.out 0).trans rfl, (blk_cell BK238.out 1).trans rfl, (blk_cell BK238.out 2).trans rfl, (blk_cell BK238.out 3).trans rfl⟩ (fun hHeld => ?_)
          clear hK K
          refine norm_ (a' := ?_) ?_ ?_
          rotate_left
          ·
           show Act.put _ (some 90) _ = _
           simp only [Act.put, List.setIfInBounds_toArray, List.set_cons_zero, List.set_cons_succ, i64_w, i32_w]
           rfl
          exact norm_ (by simp only [putAll, Act.put, List.setIfInBounds_toArray, List.set_cons_zero, List.set_cons_succ]) (hCont (v255, v263, v266) _ ⟨hHeld, (by exact uV <| Kd.V_mono HO261.out (fun _ hk => ⟨hk.1.1.1, ⟨hk.1.2, ⟨hk.2, ⟨hk.1.1.2.1, ⟨hk.1.1.2.2.2.1, ⟨hk.1.1.2.2.2.2.1, hk.1.1.2.2.2.2.2⟩⟩⟩⟩⟩⟩)), (by (with_reducible repeat (first | apply Kd.N_alloc | apply Kd.N_drewN | apply Kd.N_drew)); exact Kd.N_mono HO264.out (fun _ hk => ⟨hk.1.1, ⟨hk.2, ⟨hk.1.2.1, ⟨hk.1.2.2.2.1, ⟨hk.1.2.2.2.2.1, hk.1.2.2.2.2.2⟩⟩⟩⟩⟩)), (by (with_reducible repeat (first | apply Kd.N_alloc | apply Kd.N_drewN | apply Kd.N_drew)); exact Kd.N_mono HO267.out (fun _ hk => ⟨hk.1, ⟨hk.2.2.1, ⟨hk.2.1, ⟨hk.2.2.2.1, ⟨hk.2.2.2.2.1, hk.2.2.2.2.2⟩⟩⟩⟩⟩)), (by exact uV <| Kd.V_mono HO_238000.out (fun _ hk => ⟨hk.1.1.1, ⟨hk.1.2, ⟨hk.2, ⟨hk.1.1.2.1, ⟨hk.1.1.2.2.2.1, ⟨hk.1.1.2.2.2.2.1, hk.1.1.2.2.2.2.2⟩⟩⟩⟩⟩⟩)), (by exact uR <| Kd.R_mono HO_7.out (fun _ hk => hk.1)), (by exact uV <| Kd.V_mono HO_8.out (fun _ hk => ⟨hk.1.1.1, ⟨hk.1.2, ⟨hk.2, ⟨hk.1.1.2.1, ⟨hk.1.1.2.2.2.1, ⟨hk.1.1.2.2.2.2.1, hk.1.1.2.2.2.2.2⟩⟩⟩⟩⟩⟩)), (uB BK237.out), (uB BK238.out), (uB BK239.out), bl⟩)
         ·
          skip
          refine Kd.N_lit_step k70 _ 70 ?hg (N' := 90) ?hd (xs := ([(⟨a1_1, a1_2, t250⟩ : S70)] : List (S70))) (inner := [.int .i64 a1_1, .string a1_2, .slice Ao47 t250.length co47]) (ok := (fun k_ => (P0_0_ k_ ∨ w.heap.size ≤ k_) ∧ some k_ ≠ (.slice none 0 0 : Value).ownBlock ∧ some k_ ≠ (v255 : Value).ownBlock ∧ k_ ≠ gb237 ∧ k_ ≠ gb238 ∧ k_ ≠ gb239)) (okp := (fun k_ => (P0_0_ k_ ∨ w.heap.size ≤ k_) ∧ some k_ ≠ (.slice none 0 0 : Value).ownBlock ∧ some k_ ≠ (v255 : Value).ownBlock ∧ k_ ≠ gb237 ∧ k_ ≠ gb238 ∧ k_ ≠ gb239)) ?hr ?hp (fun _ hk => hk) ((show ∀ k_, w48.heap.size ≤ k_ → (fun k_ => (P0_0_ k_ ∨ w.heap.size ≤ k_) ∧ some k_ ≠ (.slice none 0 0 : Value).ownBlock ∧ some k_ ≠ (v255 : Value).ownBlock ∧ k_ ≠ gb237 ∧ k_ ≠ gb238 ∧ k_ ≠ gb239) k_ from fun k_ hk => ⟨(.inr (Nat.le_trans (below_size bl) hk)), Kd.fresh' (Kd.R_lt (uR HO_7.out)) k_ hk, Kd.fresh' (Kd.N_lt (by (with_reducible repeat (first | apply Kd.N_alloc | apply Kd.N_drewN | apply Kd.N_drew)); exact HO256.out)) k_ hk, Kd.freshB (g := gb237) (o := .cells #[.slice A0_0 l0_0.length c0_0] 50 (0, 0)) (uB BK237.out) k_ hk, Kd.freshB (g := gb238) (o := .cells #[.int .i64 a1_0, .int .i64 a1_1, .string a1_2, .int .i64 a1_3] 61 (0, 0)) (uB BK238.out) k_ hk, Kd.freshB (g := gb239) (o := .cells #[.slice none 0 0] 50 (0, 0)) (uB BK239.out) k_ hk⟩) _ (Nat.le_refl _)) (Below.refl _ _) (Nat.le_refl _) (by simp) ?_; (case hd => rfl); (case hg => rfl); (case hr => first | (go_simp; done) | (go_simp; rfl)); (case hp => exact (Reps.c3 (show Kd.FK k70 _ _ (⟨a1_1, a1_2, t250⟩ : S70) [.int .i64 a1_1, .string a1_2, .slice Ao47 t250.length co47] from (k70_mkF _ _ (⟨a1_1, a1_2, t250⟩ : S70) (Kd.R_reads' (Kd.R_mono (ok' := (fun k_ => (P0_0_ k_ ∨ w.heap.size ≤ k_) ∧ some k_ ≠ (.slice none 0 0 : Value).ownBlock ∧ some k_ ≠ (v255 : Value).ownBlock ∧ k_ ≠ gb237 ∧ k_ ≠ gb238 ∧ k_ ≠ gb239)) (Kd.R_types (Kd.R_types (Kd.R_types (Kd.R_apart' (HO253.out) (Kd.N_typed HO256.out) (by decide)) BK237.out (by decide)) BK238.out (by decide)) BK239.out (by decide)) (fun k_ hk => ⟨(.inr (hk.1.1.1.1.1.1)), ⟨hk.1.1.1.1.2, ⟨hk.1.1.1.2, ⟨hk.1.1.2, ⟨hk.1.2, hk.2⟩⟩⟩⟩⟩))).2.1 (Kd.R_F (Kd.R_mono (ok' := (fun k_ => (P0_0_ k_ ∨ w.heap.size ≤ k_) ∧ some k_ ≠ (.slice none 0 0 : Value).ownBlock ∧ some k_ ≠ (v255 : Value).ownBlock ∧ k_ ≠ gb237 ∧ k_ ≠ gb238 ∧ k_ ≠ gb239)) (Kd.R_types (Kd.R_types (Kd.R_types (Kd.R_apart' (HO253.out) (Kd.N_typed HO256.out) (by decide)) BK237.out (by decide)) BK238.out (by decide)) BK239.out (by decide)) (fun k_ hk => ⟨(.inr (hk.1.1.1.1.1.1)), ⟨hk.1.1.1.1.2, ⟨hk.1.1.1.2, ⟨hk.1.1.2, ⟨hk.1.2, hk.2⟩⟩⟩⟩⟩))))) (Reps.none _ _)))
          intro v266 w50 ho51 hb hg_ hnew_
          clear hg_ hnew_
          (first | rw [← Ny265.out] at ho51 | (simp only [Int.reduceToNat] at ho51; rw [← Ny265.out] at ho51))
          replace HO_7 := cR HO_7 hb
          replace HO_8 := Aside0.mk (Kd.V_elder' (uV HO_8.out) (Kd.N_base ho51) hb)
          replace HO_238000 := Aside0.mk (Kd.V_elder' (uV HO_238000.out) (Kd.N_base ho51) hb)
          replace HO261 := Aside0.mk (Kd.V_elder' (uV HO261.out) (Kd.N_base ho51) hb)
          replace HO256 := Aside0.mk (Kd.N_elder' (by (with_reducible repeat (first | apply Kd.N_alloc | apply Kd.N_drewN | apply Kd.N_drew)); exact HO256.out) (Kd.N_base ho51) hb)
          have HO267 := Aside0.mk (Kd.N_lower ho51 (below_size bl))
          replace BK237 := cB BK237 hb
          replace BK238 := cB BK238 hb
          replace BK239 := cB BK239 hb
          replace HB := Aside0.mk (below_step bl hb)
          clear HO253
          clear hb ho51
          refine hK.out _ _ ⟨(blk_cell BK237.out 0).trans rfl, (blk_cell BK238.out 0).trans rfl, (blk_cell BK238.out 1).trans rfl, (blk_cell BK238.out 2).trans rfl, (blk_cell BK238.out 3).trans rfl⟩ (fun hHeld => ?_)
          clear hK K
          refine norm_ (a' := ?_) ?_ ?_
          rotate_left
          ·
           show Act.put _ (some 90) _ = _
           simp only [Act.put, List.setIfInBounds_toArray, List.set_cons_zero, List.set_cons_succ, i64_w, i32_w]
           rfl
          refine o1 5 (some 83) rfl rfl (fun K hK => ?_)
          refine Kd.N_append_rows_step k70 (w0 := w) w.heap.size (by rfl) (.tmp 78) (.tmp 82) 48 70 (.agg #[(.int .i64 0), (.string ⟨#[]⟩), (.slice none 0 0)]) 48 rfl Try.underlying48 info70 rfl (by decide) (by omega) v255 y254 y257 _ _ _ (fun k_ => (P0_0_ k_ ∨ w.heap.size ≤ k_) ∧ some k_ ≠ (.slice none 0 0 : Value).ownBlock ∧ some k_ ≠ (v266 : Value).ownBlock ∧ k_ ≠ gb237 ∧ k_ ≠ gb238 ∧ k_ ≠ gb239) (fun k_ => ((fun k_ => (P0_0_ k_ ∨ w.heap.size ≤ k_) ∧ some k_ ≠ (.slice none 0 0 : Value).ownBlock ∧ some k_ ≠ (v266 : Value).ownBlock ∧ k_ ≠ gb237 ∧ k_ ≠ gb238 ∧ k_ ≠ gb239)) k_ ∧ some k_ ≠ (v255 : Value).ownBlock) rfl rfl ?aO ?aR (fun _ hk => hk) ?aF ?aB ?aS ?aL ?_
          (case aR => exact (by skip; exact Kd.V_F (Kd.V_mono (ok' := (fun k_ => ((fun k_ => (P0_0_ k_ ∨ w.heap.size ≤ k_) ∧ some k_ ≠ (.slice none 0 0 : Value).ownBlock ∧ some k_ ≠ (v266 : Value).ownBlock ∧ k_ ≠ gb237 ∧ k_ ≠ gb238 ∧ k_ ≠ gb239)) k_ ∧ some k_ ≠ (v255 : Value).ownBlock)) (HO261.out) (fun k_ hk => ⟨⟨hk.1.1.1.1, ⟨hk.1.1.1.2.1, ⟨hk.2, ⟨hk.1.1.1.2.2.1, ⟨hk.1.1.1.2.2.2.1, hk.1.1.1.2.2.2.2⟩⟩⟩⟩⟩, hk.1.2⟩))))
          (case aB => exact bl)
          (case aF => exact (fun k_ hk => ⟨(.inr (Nat.le_trans (below_size bl) hk)), Kd.fresh' (Kd.R_lt (uR HO_7.out)) k_ hk, Kd.fresh' (Kd.N_lt (by (with_reducible repeat (first | apply Kd.N_alloc | apply Kd.N_drewN | apply Kd.N_drew)); exact HO267.out)) k_ hk, Kd.freshB (g := gb237) (o := .cells #[.slice A0_0 l0_0.length c0_0] 50 (0, 0)) (uB BK237.out) k_ hk, Kd.freshB (g := gb238) (o := .cells #[.int .i64 a1_0, .int .i64 a1_1, .string a1_2, .int .i64 a1_3] 61 (0, 0)) (uB BK238.out) k_ hk, Kd.freshB (g := gb239) (o := .cells #[.slice none 0 0] 50 (0, 0)) (uB BK239.out) k_ hk⟩))
          (case aO => exact (by (with_reducible repeat (first | apply Kd.N_alloc | apply Kd.N_drewN | apply Kd.N_drew)); exact Kd.N_mono HO256.out (fun _ hk => ⟨hk.1.1, ⟨hk.1.2.1, ⟨hk.2, ⟨hk.1.2.2.2.1, ⟨hk.1.2.2.2.2.1, hk.1.2.2.2.2.2⟩⟩⟩⟩⟩)))
          (case aS => exact (below_size bl))
          (case aL => have := LMc38.out; omega)
          intro v263 w52 ho hb hg hat
          rw [← Ny262.out] at ho
          replace HO_7 := Aside0.mk (Kd.R_over' (uR HO_7.out) (Kd.N_typed (by (with_reducible repeat (first | apply Kd.N_alloc | apply Kd.N_drewN | apply Kd.N_drew)); exact HO256.out)) (by decide) hg)
          replace HO_8 := Aside0.mk (Kd.V_afterv (ok := (fun k_ => (P0_0_ k_ ∨ w.heap.size ≤ k_) ∧ some k_ ≠ (.slice none 0 0 : Value).ownBlock ∧ some k_ ≠ (v266 : Value).ownBlock ∧ k_ ≠ gb237 ∧ k_ ≠ gb238 ∧ k_ ≠ gb239)) (by exact uV <| Kd.V_mono HO_8.out (fun _ hk => ⟨⟨hk.1.1.1.1, ⟨hk.1.1.1.2.1, ⟨hk.2, ⟨hk.1.1.1.2.2.1, ⟨hk.1.1.1.2.2.2.1, hk.1.1.1.2.2.2.2⟩⟩⟩⟩⟩, hk.1.2⟩)) hg hat)
          replace HO_238000 := Aside0.mk (Kd.V_afterv (ok := (fun k_ => (P0_0_ k_ ∨ w.heap.size ≤ k_) ∧ some k_ ≠ (.slice none 0 0 : Value).ownBlock ∧ some k_ ≠ (v266 : Value).ownBlock ∧ k_ ≠ gb237 ∧ k_ ≠ gb238 ∧ k_ ≠ gb239)) (by exact uV <| Kd.V_mono HO_238000.out (fun _ hk => ⟨⟨hk.1.1.1.1, ⟨hk.1.1.1.2.1, ⟨hk.2, ⟨hk.1.1.1.2.2.1, ⟨hk.1.1.1.2.2.2.1, hk.1.1.1.2.2.2.2⟩⟩⟩⟩⟩, hk.1.2⟩)) hg hat)
          replace BK237 := Aside0.mk (blk_grown (g := gb237) (o := .cells #[.slice A0_0 l0_0.length c0_0] 50 (0, 0)) (uB BK237.out) hg (Kd.N_ne HO256.out BK237.out (by decide)))
          replace BK238 := Aside0.mk (blk_grown (g := gb238) (o := .cells #[.int .i64 a1_0, .int .i64 a1_1, .string a1_2, .int .i64 a1_3] 61 (0, 0)) (uB BK238.out) hg (Kd.N_ne HO256.out BK238.out (by decide)))
          replace BK239 := Aside0.mk (blk_grown (g := gb239) (o := .cells #[.slice none 0 0] 50 (0, 0)) (uB BK239.out) hg (Kd.N_ne HO256.out BK239.out (by decide)))
          replace HO261 := Aside0.mk (Kd.V_afterv (ok := (fun k_ => (P0_0_ k_ ∨ w.heap.size ≤ k_) ∧ some k_ ≠ (.slice none 0 0 : Value).ownBlock ∧ some k_ ≠ (v266 : Value).ownBlock ∧ k_ ≠ gb237 ∧ k_ ≠ gb238 ∧ k_ ≠ gb239)) (by exact uV <| Kd.V_mono HO261.out (fun _ hk => ⟨⟨hk.1.1.1.1, ⟨hk.1.1.1.2.1, ⟨hk.2, ⟨hk.1.1.1.2.2.1, ⟨hk.1.1.1.2.2.2.1, hk.1.1.1.2.2.2.2⟩⟩⟩⟩⟩, hk.1.2⟩)) hg hat)
          replace HO267 := Aside0.mk (Kd.N_afterv (ok := (fun k_ => (P0_0_ k_ ∨ w.heap.size ≤ k_) ∧ some k_ ≠ (.slice none 0 0 : Value).ownBlock ∧ k_ ≠ gb237 ∧ k_ ≠ gb238 ∧ k_ ≠ gb239)) (by (with_reducible repeat (first | apply Kd.N_alloc | apply Kd.N_drewN | apply Kd.N_drew)); exact Kd.N_mono HO267.out (fun _ hk => ⟨⟨hk.1, ⟨hk.2.1, ⟨hk.2.2.2.1, ⟨hk.2.2.2.2.1, hk.2.2.2.2.2⟩⟩⟩⟩, hk.2.2.1⟩)) hg hat)
          replace HB := Aside0.mk (hb)
          have HO264 := Aside0.mk (ho)
          clear HO256
          clear ho hb hg hat
          refine hK.out _ _ ⟨(blk_cell BK237.out 0).trans rfl, (blk_cell BK238.out 0).trans rfl, (blk_cell BK238.out 1).trans rfl, (blk_cell BK238.out 2).trans rfl, (blk_cell BK238.out 3).trans rfl⟩ (fun hHeld => ?_)
          clear hK K
          refine norm_ (a' := ?_) ?_ ?_
          rotate_left
          ·
           show Act.put _ (some 83) _ = _
           simp only [Act.put, List.setIfInBounds_toArray, List.set_cons_zero, List.set_cons_succ, i64_w, i32_w]
           rfl
          exact norm_ (by simp only [putAll, Act.put, List.setIfInBounds_toArray, List.set_cons_zero, List.set_cons_succ]) (hCont (v255, v263, v266) _ ⟨hHeld, (by exact uV <| Kd.V_mono HO261.out (fun _ hk => ⟨hk.1.1, ⟨hk.2, ⟨hk.1.2.2.1, ⟨hk.1.2.1, ⟨hk.1.2.2.2.1, ⟨hk.1.2.2.2.2.1, hk.1.2.2.2.2.2⟩⟩⟩⟩⟩⟩)), (by (with_reducible repeat (first | apply Kd.N_alloc | apply Kd.N_drewN | apply Kd.N_drew)); exact Kd.N_mono HO264.out (fun _ hk => ⟨hk.1, ⟨hk.2.2.1, ⟨hk.2.1, ⟨hk.2.2.2.1, ⟨hk.2.2.2.2.1, hk.2.2.2.2.2⟩⟩⟩⟩⟩)), (by (with_reducible repeat (first | apply Kd.N_alloc | apply Kd.N_drewN | apply Kd.N_drew)); exact Kd.N_mono HO267.out (fun _ hk => ⟨hk.1.1, ⟨hk.2, ⟨hk.1.2.1, ⟨hk.1.2.2.1, ⟨hk.1.2.2.2.1, hk.1.2.2.2.2⟩⟩⟩⟩⟩)), (by exact uV <| Kd.V_mono HO_238000.out (fun _ hk => ⟨hk.1.1, ⟨hk.2, ⟨hk.1.2.2.1, ⟨hk.1.2.1, ⟨hk.1.2.2.2.1, ⟨hk.1.2.2.2.2.1, hk.1.2.2.2.2.2⟩⟩⟩⟩⟩⟩)), (by exact uR <| Kd.R_mono HO_7.out (fun _ hk => hk.1)), (by exact uV <| Kd.V_mono HO_8.out (fun _ hk => ⟨hk.1.1, ⟨hk.2, ⟨hk.1.2.2.1, ⟨hk.1.2.1, ⟨hk.1.2.2.2.1, ⟨hk.1.2.2.2.2.1, hk.1.2.2.2.2.2⟩⟩⟩⟩⟩⟩)), (uB BK237.out), (uB BK238.out), (uB BK239.out), bl⟩)
        ·
         skip
         refine Kd.N_lit_step k70 _ 70 ?hg (N' := 90) ?hd (xs := ([(⟨a1_1, a1_2, t250⟩ : S70)] : List (S70))) (inner := [.int .i64 a1_1, .string a1_2, .slice Ao47 t250.length co47]) (ok := (fun k_ => (P0_0_ k_ ∨ w.heap.size ≤ k_) ∧ some k_ ≠ (.slice none 0 0 : Value).ownBlock ∧ k_ ≠ gb237 ∧ k_ ≠ gb238 ∧ k_ ≠ gb239)) (okp := (fun k_ => (P0_0_ k_ ∨ w.heap.size ≤ k_) ∧ some k_ ≠ (.slice none 0 0 : Value).ownBlock ∧ k_ ≠ gb237 ∧ k_ ≠ gb238 ∧ k_ ≠ gb239)) ?hr ?hp (fun _ hk => hk) ((show ∀ k_, w45.heap.size ≤ k_ → (fun k_ => (P0_0_ k_ ∨ w.heap.size ≤ k_) ∧ some k_ ≠ (.slice none 0 0 : Value).ownBlock ∧ k_ ≠ gb237 ∧ k_ ≠ gb238 ∧ k_ ≠ gb239) k_ from fun k_ hk => ⟨(.inr (Nat.le_trans (below_size bl) hk)), Kd.fresh' (Kd.R_lt (uR HO_7.out)) k_ hk, Kd.freshB (g := gb237) (o := .cells #[.slice A0_0 l0_0.length c0_0] 50 (0, 0)) (uB BK237.out) k_ hk, Kd.freshB (g := gb238) (o := .cells #[.int .i64 a1_0, .int .i64 a1_1, .string a1_2, .int .i64 a1_3] 61 (0, 0)) (uB BK238.out) k_ hk, Kd.freshB (g := gb239) (o := .cells #[.slice none 0 0] 50 (0, 0)) (uB BK239.out) k_ hk⟩) _ (Nat.le_refl _)) (Below.refl _ _) (Nat.le_refl _) (by simp) ?_; (case hd => rfl); (case hg => rfl); (case hr => first | (go_simp; done) | (go_simp; rfl)); (case hp => exact (Reps.c3 (show Kd.FK k70 _ _ (⟨a1_1, a1_2, t250⟩ : S70) [.int .i64 a1_1, .string a1_2, .slice Ao47 t250.length co47] from (k70_mkF _ _ (⟨a1_1, a1_2, t250⟩ : S70) (Kd.R_reads' (Kd.R_mono (ok' := (fun k_ => (P0_0_ k_ ∨ w.heap.size ≤ k_) ∧ some k_ ≠ (.slice none 0 0 : Value).ownBlock ∧ k_ ≠ gb237 ∧ k_ ≠ gb238 ∧ k_ ≠ gb239)) (Kd.R_types (Kd.R_types (Kd.R_types (HO253.out) BK237.out (by decide)) BK238.out (by decide)) BK239.out (by decide)) (fun k_ hk => ⟨(.inr (hk.1.1.1.1.1)), ⟨hk.1.1.1.2, ⟨hk.1.1.2, ⟨hk.1.2, hk.2⟩⟩⟩⟩))).2.1 (Kd.R_F (Kd.R_mono (ok' := (fun k_ => (P0_0_ k_ ∨ w.heap.size ≤ k_) ∧ some k_ ≠ (.slice none 0 0 : Value).ownBlock ∧ k_ ≠ gb237 ∧ k_ ≠ gb238 ∧ k_ ≠ gb239)) (Kd.R_types (Kd.R_types (Kd.R_types (HO253.out) BK237.out (by decide)) BK238.out (by decide)) BK239.out (by decide)) (fun k_ hk => ⟨(.inr (hk.1.1.1.1.1)), ⟨hk.1.1.1.2, ⟨hk.1.1.2, ⟨hk.1.2, hk.2⟩⟩⟩⟩))))) (Reps.none _ _)))
         intro v266 w48 ho49 hb hg_ hnew_
         clear hg_ hnew_
         (first | rw [← Ny265.out] at ho49 | (simp only [Int.reduceToNat] at ho49; rw [← Ny265.out] at ho49))
         replace HO_7 := cR HO_7 hb
         replace HO_8 := Aside0.mk (Kd.V_elder' (uV HO_8.out) (Kd.N_base ho49) hb)
         replace HO_238000 := Aside0.mk (Kd.V_elder' (uV HO_238000.out) (Kd.N_base ho49) hb)
         replace HO261 := Aside0.mk (Kd.V_elder' (uV HO261.out) (Kd.N_base ho49) hb)
         have HO267 := Aside0.mk (Kd.N_lower ho49 (below_size bl))
         replace BK237 := cB BK237 hb
         replace BK238 := cB BK238 hb
         replace BK239 := cB BK239 hb
         replace HB := Aside0.mk (below_step bl hb)
         clear HO253
         clear hb ho49
         refine hK.out _ _ ⟨(blk_cell BK237.out 0).trans rfl, (blk_cell BK238.out 0).trans rfl, (blk_cell BK238.out 1).trans rfl, (blk_cell BK238.out 2).trans rfl, (blk_cell BK238.out 3).trans rfl⟩ (fun hHeld => ?_)
         clear hK K
         refine norm_ (a' := ?_) ?_ ?_
         rotate_left
         ·
          show Act.put _ (some 90) _ = _
          simp only [Act.put, List.setIfInBounds_toArray, List.set_cons_zero, List.set_cons_succ, i64_w, i32_w]
          rfl
         refine o1 0 (some 78) rfl rfl (fun K hK => ?_)
         refine Kd.N_lit_step k70 _ 70 ?hg (N' := 78) ?hd (xs := ([] : List (S70))) (inner := []) (ok := (fun k_ => (P0_0_ k_ ∨ w.heap.size ≤ k_) ∧ some k_ ≠ (.slice none 0 0 : Value).ownBlock ∧ some k_ ≠ (v266 : Value).ownBlock ∧ k_ ≠ gb237 ∧ k_ ≠ gb238 ∧ k_ ≠ gb239)) (okp := (fun k_ => (P0_0_ k_ ∨ w.heap.size ≤ k_) ∧ some k_ ≠ (.slice none 0 0 : Value).ownBlock ∧ some k_ ≠ (v266 : Value).ownBlock ∧ k_ ≠ gb237 ∧ k_ ≠ gb238 ∧ k_ ≠ gb239)) ?hr ?hp (fun _ hk => hk) ((show ∀ k_, w48.heap.size ≤ k_ → (fun k_ => (P0_0_ k_ ∨ w.heap.size ≤ k_) ∧ some k_ ≠ (.slice none 0 0 : Value).ownBlock ∧ some k_ ≠ (v266 : Value).ownBlock ∧ k_ ≠ gb237 ∧ k_ ≠ gb238 ∧ k_ ≠ gb239) k_ from fun k_ hk => ⟨(.inr (Nat.le_trans (below_size bl) hk)), Kd.fresh' (Kd.R_lt (uR HO_7.out)) k_ hk, Kd.fresh' (Kd.N_lt (by (with_reducible repeat (first | apply Kd.N_alloc | apply Kd.N_drewN | apply Kd.N_drew)); exact HO267.out)) k_ hk, Kd.freshB (g := gb237) (o := .cells #[.slice A0_0 l0_0.length c0_0] 50 (0, 0)) (uB BK237.out) k_ hk, Kd.freshB (g := gb238) (o := .cells #[.int .i64 a1_0, .int .i64 a1_1, .string a1_2, .int .i64 a1_3] 61 (0, 0)) (uB BK238.out) k_ hk, Kd.freshB (g := gb239) (o := .cells #[.slice none 0 0] 50 (0, 0)) (uB BK239.out) k_ hk⟩) _ (Nat.le_refl _)) (Below.refl _ _) (Nat.le_refl _) (by simp) ?_; (case hd => rfl); (case hg => rfl); (case hr => first | (go_simp; done) | (go_simp; rfl)); (case hp => exact (Reps.none _ _))
         intro v255 w50 ho51 hb hg_ hnew_
         clear hg_ hnew_
         (first | rw [← Ny254.out] at ho51 | (simp only [Int.reduceToNat] at ho51; rw [← Ny254.out] at ho51))
         replace HO_7 := cR HO_7 hb
         replace HO_8 := Aside0.mk (Kd.V_elder' (uV HO_8.out) (Kd.N_base ho51) hb)
         replace HO_238000 := Aside0.mk (Kd.V_elder' (uV HO_238000.out) (Kd.N_base ho51) hb)
         replace HO261 := Aside0.mk (Kd.V_elder' (uV HO261.out) (Kd.N_base ho51) hb)
         replace HO267 := Aside0.mk (Kd.N_elder' (by (with_reducible repeat (first | apply Kd.N_alloc | apply Kd.N_drewN | apply Kd.N_drew)); exact HO267.out) (Kd.N_base ho51) hb)
         have HO256 := Aside0.mk (Kd.N_lower ho51 (below_size bl))
         replace BK237 := cB BK237 hb
         replace BK238 := cB BK238 hb
         replace BK239 := cB BK239 hb
         replace HB := Aside0.mk (below_step bl hb)
         clear hb ho51
         refine hK.out _ _ ⟨(blk_cell BK237.out 0).trans rfl, (blk_cell BK238.out 0).trans rfl, (blk_cell BK238.out 1).trans rfl, (blk_cell BK238.out 2).trans rfl, (blk_cell BK238.out 3).trans rfl⟩ (fun hHeld => ?_)
         clear hK K
         refine norm_ (a' := ?_) ?_ ?_
         rotate_left
         ·
          show Act.put _ (some 78) _ = _
          simp only [Act.put, List.setIfInBounds_toArray, List.set_cons_zero, List.set_cons_succ, i64_w, i32_w]
          rfl
         refine o1 5 (some 83) rfl rfl (fun K hK => ?_)
         refine Kd.N_append_rows_step k70 (w0 := w) w.heap.size (by rfl) (.tmp 78) (.tmp 82) 48 70 (.agg #[(.int .i64 0), (.string ⟨#[]⟩), (.slice none 0 0)]) 48 rfl Try.underlying48 info70 rfl (by decide) (by omega) v255 y254 y257 _ _ _ (fun k_ => (P0_0_ k_ ∨ w.heap.size ≤ k_) ∧ some k_ ≠ (.slice none 0 0 : Value).ownBlock ∧ some k_ ≠ (v266 : Value).ownBlock ∧ k_ ≠ gb237 ∧ k_ ≠ gb238 ∧ k_ ≠ gb239) (fun k_ => ((fun k_ => (P0_0_ k_ ∨ w.heap.size ≤ k_) ∧ some k_ ≠ (.slice none 0 0 : Value).ownBlock ∧ some k_ ≠ (v266 : Value).ownBlock ∧ k_ ≠ gb237 ∧ k_ ≠ gb238 ∧ k_ ≠ gb239)) k_ ∧ some k_ ≠ (v255 : Value).ownBlock) rfl rfl ?aO ?aR (fun _ hk => hk) ?aF ?aB ?aS ?aL ?_
         (case aR => exact (by skip; exact Kd.V_F (Kd.V_mono (ok' := (fun k_ => ((fun k_ => (P0_0_ k_ ∨ w.heap.size ≤ k_) ∧ some k_ ≠ (.slice none 0 0 : Value).ownBlock ∧ some k_ ≠ (v266 : Value).ownBlock ∧ k_ ≠ gb237 ∧ k_ ≠ gb238 ∧ k_ ≠ gb239)) k_ ∧ some k_ ≠ (v255 : Value).ownBlock)) (HO261.out) (fun k_ hk => ⟨⟨hk.1.1.1.1, ⟨hk.1.1.1.2.1, ⟨hk.1.2, ⟨hk.1.1.1.2.2.1, ⟨hk.1.1.1.2.2.2.1, hk.1.1.1.2.2.2.2⟩⟩⟩⟩⟩, hk.2⟩))))
         (case aB => exact bl)
         (case aF => exact (fun k_ hk => ⟨(.inr (Nat.le_trans (below_size bl) hk)), Kd.fresh' (Kd.R_lt (uR HO_7.out)) k_ hk, Kd.fresh' (Kd.N_lt (by (with_reducible repeat (first | apply Kd.N_alloc | apply Kd.N_drewN | apply Kd.N_drew)); exact HO267.out)) k_ hk, Kd.freshB (g := gb237) (o := .cells #[.slice A0_0 l0_0.length c0_0] 50 (0, 0)) (uB BK237.out) k_ hk, Kd.freshB (g := gb238) (o := .cells #[.int .i64 a1_0, .int .i64 a1_1, .string a1_2, .int .i64 a1_3] 61 (0, 0)) (uB BK238.out) k_ hk, Kd.freshB (g := gb239) (o := .cells #[.slice none 0 0] 50 (0, 0)) (uB BK239.out) k_ hk⟩))
         (case aO => exact (by (with_reducible repeat (first | apply Kd.N_alloc | apply Kd.N_drewN | apply Kd.N_drew)); exact HO256.out))
         (case aS => exact (below_size bl))
         (case aL => have := LMc38.out; omega)
         intro v263 w52 ho hb hg hat
         rw [← Ny262.out] at ho
         replace HO_7 := Aside0.mk (Kd.R_over' (uR HO_7.out) (Kd.N_typed (by (with_reducible repeat (first | apply Kd.N_alloc | apply Kd.N_drewN | apply Kd.N_drew)); exact HO256.out)) (by decide) hg)
         replace HO_8 := Aside0.mk (Kd.V_afterv (ok := (fun k_ => (P0_0_ k_ ∨ w.heap.size ≤ k_) ∧ some k_ ≠ (.slice none 0 0 : Value).ownBlock ∧ some k_ ≠ (v266 : Value).ownBlock ∧ k_ ≠ gb237 ∧ k_ ≠ gb238 ∧ k_ ≠ gb239)) (by exact uV <| Kd.V_mono HO_8.out (fun _ hk => ⟨⟨hk.1.1.1.1, ⟨hk.1.1.1.2.1, ⟨hk.1.2, ⟨hk.1.1.1.2.2.1, ⟨hk.1.1.1.2.2.2.1, hk.1.1.1.2.2.2.2⟩⟩⟩⟩⟩, hk.2⟩)) hg hat)
         replace HO_238000 := Aside0.mk (Kd.V_afterv (ok := (fun k_ => (P0_0_ k_ ∨ w.heap.size ≤ k_) ∧ some k_ ≠ (.slice none 0 0 : Value).ownBlock ∧ some k_ ≠ (v266 : Value).ownBlock ∧ k_ ≠ gb237 ∧ k_ ≠ gb238 ∧ k_ ≠ gb239)) (by exact uV <| Kd.V_mono HO_238000.out (fun _ hk => ⟨⟨hk.1.1.1.1, ⟨hk.1.1.1.2.1, ⟨hk.1.2, ⟨hk.1.1.1.2.2.1, ⟨hk.1.1.1.2.2.2.1, hk.1.1.1.2.2.2.2⟩⟩⟩⟩⟩, hk.2⟩)) hg hat)
         replace BK237 := Aside0.mk (blk_grown (g := gb237) (o := .cells #[.slice A0_0 l0_0.length c0_0] 50 (0, 0)) (uB BK237.out) hg (Kd.N_ne HO256.out BK237.out (by decide)))
         replace BK238 := Aside0.mk (blk_grown (g := gb238) (o := .cells #[.int .i64 a1_0, .int .i64 a1_1, .string a1_2, .int .i64 a1_3] 61 (0, 0)) (uB BK238.out) hg (Kd.N_ne HO256.out BK238.out (by decide)))
         replace BK239 := Aside0.mk (blk_grown (g := gb239) (o := .cells #[.slice none 0 0] 50 (0, 0)) (uB BK239.out) hg (Kd.N_ne HO256.out BK239.out (by decide)))
         replace HO261 := Aside0.mk (Kd.V_afterv (ok := (fun k_ => (P0_0_ k_ ∨ w.heap.size ≤ k_) ∧ some k_ ≠ (.slice none 0 0 : Value).ownBlock ∧ some k_ ≠ (v266 : Value).ownBlock ∧ k_ ≠ gb237 ∧ k_ ≠ gb238 ∧ k_ ≠ gb239)) (by exact uV <| Kd.V_mono HO261.out (fun _ hk => ⟨⟨hk.1.1.1.1, ⟨hk.1.1.1.2.1, ⟨hk.1.2, ⟨hk.1.1.1.2.2.1, ⟨hk.1.1.1.2.2.2.1, hk.1.1.1.2.2.2.2⟩⟩⟩⟩⟩, hk.2⟩)) hg hat)
         replace HO267 := Aside0.mk (Kd.N_afterv (ok := (fun k_ => (P0_0_ k_ ∨ w.heap.size ≤ k_) ∧ some k_ ≠ (.slice none 0 0 : Value).ownBlock ∧ k_ ≠ gb237 ∧ k_ ≠ gb238 ∧ k_ ≠ gb239)) (by (with_reducible repeat (first | apply Kd.N_alloc | apply Kd.N_drewN | apply Kd.N_drew)); exact HO267.out) hg hat)
         replace HB := Aside0.mk (hb)
         have HO264 := Aside0.mk (ho)
         clear HO256
         clear ho hb hg hat
         refine hK.out _ _ ⟨(blk_cell BK237.out 0).trans rfl, (blk_cell BK238.out 0).trans rfl, (blk_cell BK238.out 1).trans rfl, (blk_cell BK238.out 2).trans rfl, (blk_cell BK238.out 3).trans rfl⟩ (fun hHeld => ?_)
         clear hK K
         refine norm_ (a' := ?_) ?_ ?_
         rotate_left
         ·
          show Act.put _ (some 83) _ = _
          simp only [Act.put, List.setIfInBounds_toArray, List.set_cons_zero, List.set_cons_succ, i64_w, i32_w]
          rfl
         exact norm_ (by simp only [putAll, Act.put, List.setIfInBounds_toArray, List.set_cons_zero, List.set_cons_succ]) (hCont (v255, v263, v266) _ ⟨hHeld, (by exact uV <| Kd.V_mono HO261.out (fun _ hk => ⟨hk.1.1, ⟨hk.2, ⟨hk.1.2.2.1, ⟨hk.1.2.1, ⟨hk.1.2.2.2.1, ⟨hk.1.2.2.2.2.1, hk.1.2.2.2.2.2⟩⟩⟩⟩⟩⟩)), (by (with_reducible repeat (first | apply Kd.N_alloc | apply Kd.N_drewN | apply Kd.N_drew)); exact Kd.N_mono HO264.out (fun _ hk => ⟨hk.1, ⟨hk.2.2.1, ⟨hk.2.1, ⟨hk.2.2.2.1, ⟨hk.2.2.2.2.1, hk.2.2.2.2.2⟩⟩⟩⟩⟩)), (by (with_reducible repeat (first | apply Kd.N_alloc | apply Kd.N_drewN | apply Kd.N_drew)); exact Kd.N_mono HO267.out (fun _ hk => ⟨hk.1.1, ⟨hk.2, ⟨hk.1.2.1, ⟨hk.1.2.2.1, ⟨hk.1.2.2.2.1, hk.1.2.2.2.2⟩⟩⟩⟩⟩)), (by exact uV <| Kd.V_mono HO_238000.out (fun _ hk => ⟨hk.1.1, ⟨hk.2, ⟨hk.1.2.2.1, ⟨hk.1.2.1, ⟨hk.1.2.2.2.1, ⟨hk.1.2.2.2.2.1, hk.1.2.2.2.2.2⟩⟩⟩⟩⟩⟩)), (by exact uR <| Kd.R_mono HO_7.out (fun _ hk => hk.1)), (by exact uV <| Kd.V_mono HO_8.out (fun _ hk => ⟨hk.1.1, ⟨hk.2, ⟨hk.1.2.2.1, ⟨hk.1.2.1, ⟨hk.1.2.2.2.1, ⟨hk.1.2.2.2.2.1, hk.1.2.2.2.2.2⟩⟩⟩⟩⟩⟩)), (uB BK237.out), (uB BK238.out), (uB BK239.out), bl⟩)
       rintro ⟨v255, v263, v266⟩ w53 ⟨hS_, h0_, h1_, h2_, h3_, h4_, h5_, h6_, h7_, h8_, h9_⟩
       have n0_ : Aside0 (Kd.V k70 70 w53 w.heap.size (fun k_ => (P0_0_ k_ ∨ w.heap.size ≤ k_) ∧ some k_ ≠ (v263 : Value).ownBlock ∧ some k_ ≠ (v266 : Value).ownBlock ∧ some k_ ≠ (.slice none 0 0 : Value).ownBlock ∧ k_ ≠ gb237 ∧ k_ ≠ gb238 ∧ k_ ≠ gb239) (.slice A0_0 y257.length c0_0) y257) := ⟨h0_⟩
       have n1_ : Aside0 (Kd.N k70 70 w53 w.heap.size (fun k_ => (P0_0_ k_ ∨ w.heap.size ≤ k_) ∧ some k_ ≠ (v266 : Value).ownBlock ∧ some k_ ≠ (.slice none 0 0 : Value).ownBlock ∧ k_ ≠ gb237 ∧ k_ ≠ gb238 ∧ k_ ≠ gb239) v263 y262) := ⟨h1_⟩
       have n2_ : Aside0 (Kd.N k70 70 w53 w.heap.size (fun k_ => (P0_0_ k_ ∨ w.heap.size ≤ k_) ∧ some k_ ≠ (v263 : Value).ownBlock ∧ some k_ ≠ (.slice none 0 0 : Value).ownBlock ∧ k_ ≠ gb237 ∧ k_ ≠ gb238 ∧ k_ ≠ gb239) v266 y265) := ⟨h2_⟩
       have n3_ : Aside0 (Kd.V k70 70 w53 w.heap.size (fun k_ => (P0_0_ k_ ∨ w.heap.size ≤ k_) ∧ some k_ ≠ (v263 : Value).ownBlock ∧ some k_ ≠ (v266 : Value).ownBlock ∧ some k_ ≠ (.slice none 0 0 : Value).ownBlock ∧ k_ ≠ gb237 ∧ k_ ≠ gb238 ∧ k_ ≠ gb239) (.slice A0_0 l0_0.length c0_0) l0_0) := ⟨h3_⟩
       have n4_ : Aside0 (Kd.R k96 96 w53 w.heap.size (fun k_ => (w.heap.size ≤ k_)) (.slice none 0 0) ([] : List (S96))) := ⟨h4_⟩
       have n5_ : Aside0 (Kd.V k70 70 w53 w.heap.size (fun k_ => (P0_0_ k_ ∨ w.heap.size ≤ k_) ∧ some k_ ≠ (v263 : Value).ownBlock ∧ some k_ ≠ (v266 : Value).ownBlock ∧ some k_ ≠ (.slice none 0 0 : Value).ownBlock ∧ k_ ≠ gb237 ∧ k_ ≠ gb238 ∧ k_ ≠ gb239) (.slice A26 y243.length c26) y243) := ⟨h5_⟩
       have n6_ : Aside0 (w53.heap[gb237]? = some (.cells #[.slice A0_0 l0_0.length c0_0] 50 (0, 0))) := ⟨h6_⟩
       have n7_ : Aside0 (w53.heap[gb238]? = some (.cells #[.int .i64 a1_0, .int .i64 a1_1, .string a1_2, .int .i64 a1_3] 61 (0, 0))) := ⟨h7_⟩
       have n8_ : Aside0 (w53.heap[gb239]? = some (.cells #[.slice none 0 0] 50 (0, 0))) := ⟨h8_⟩
       have n9_ : Aside0 (Below w.heap.size w w53) := ⟨h9_⟩
       clear HO_7
       clear HO_8
       clear HO_238000
       clear HO253
       clear BK237
       clear BK238
       clear BK239
       clear HB
       clear h0_ h1_ h2_ h3_ h4_ h5_ h6_ h7_ h8_ h9_
       have HO261 := n0_
       have HO264 := n1_
       have HO267 := n2_
       have HO_238000 := n3_
       have HO_7 := n4_
       have HO_8 := n5_
       have BK237 := n6_
       have BK238 := n7_
       have BK239 := n8_
       have HB := n9_
       clear n0_ n1_ n2_ n3_ n4_ n5_ n6_ n7_ n8_ n9_
       have hHeld : w53.cell? ⟨gb237, 0, none⟩ = some (.slice A0_0 l0_0.length c0_0) ∧ w53.cell? ⟨gb238, 0, none⟩ = some (.int .i64 a1_0) ∧ w53.cell? ⟨gb238, 1, none⟩ = some (.int .i64 a1_1) ∧ w53.cell? ⟨gb238, 2, none⟩ = some (.string a1_2) ∧ w53.cell? ⟨gb238, 3, none⟩ = some (.int .i64 a1_3) := hS_
       obtain ⟨Ao55, co55, eo55⟩ := Kd.N_slice HO267.out
       (first | subst eo55 | (injection eo55 with f1_ f2_ f3_; have f4_ := f1_.symm; have f5_ := f3_.symm; clear f1_ f2_ f3_; subst f4_; subst f5_))
       refine norm_ (a' := ?_) ?_ ?_
       rotate_left
       ·
        simp only [putAll, Act.put, List.setIfInBounds_toArray, List.set_cons_zero, List.set_cons_succ]
        rfl
       refine o1 13 (some 91) rfl rfl (fun K hK => ?_)
       refine Kd.N_append_rows_step k70 (w0 := w) w.heap.size (by rfl) (.tmp 83) (.tmp 90) 48 70 (.agg #[(.int .i64 0), (.string ⟨#[]⟩), (.slice none 0 0)]) 48 rfl Try.underlying48 info70 rfl (by decide) (by omega) v263 y262 y265 _ _ _ (fun k_ => (P0_0_ k_ ∨ w.heap.size ≤ k_) ∧ some k_ ≠ (.slice none 0 0 : Value).ownBlock ∧ k_ ≠ gb237 ∧ k_ ≠ gb238 ∧ k_ ≠ gb239) (fun k_ => ((fun k_ => (P0_0_ k_ ∨ w.heap.size ≤ k_) ∧ some k_ ≠ (.slice none 0 0 : Value).ownBlock ∧ k_ ≠ gb237 ∧ k_ ≠ gb238 ∧ k_ ≠ gb239)) k_ ∧ some k_ ≠ (v263 : Value).ownBlock) rfl rfl ?aO ?aR (fun _ hk => hk) ?aF ?aB ?aS ?aL ?_
       (case aR => exact (by skip; exact Kd.N_F (Kd.N_mono (ok' := (fun k_ => ((fun k_ => (P0_0_ k_ ∨ w.heap.size ≤ k_) ∧ some k_ ≠ (.slice none 0 0 : Value).ownBlock ∧ k_ ≠ gb237 ∧ k_ ≠ gb238 ∧ k_ ≠ gb239)) k_ ∧ some k_ ≠ (v263 : Value).ownBlock)) (HO267.out) (fun k_ hk => ⟨⟨hk.1, ⟨hk.2.2.1, ⟨hk.2.2.2.1, ⟨hk.2.2.2.2.1, hk.2.2.2.2.2⟩⟩⟩⟩, hk.2.1⟩))))
       (case aB => exact bl)
       (case aF => exact (fun k_ hk => ⟨(.inr (Nat.le_trans (below_size bl) hk)), Kd.fresh' (Kd.R_lt (uR HO_7.out)) k_ hk, Kd.freshB (g := gb237) (o := .cells #[.slice A0_0 l0_0.length c0_0] 50 (0, 0)) (uB BK237.out) k_ hk, Kd.freshB (g := gb238) (o := .cells #[.int .i64 a1_0, .int .i64 a1_1, .string a1_2, .int .i64 a1_3] 61 (0, 0)) (uB BK238.out) k_ hk, Kd.freshB (g := gb239) (o := .cells #[.slice none 0 0] 50 (0, 0)) (uB BK239.out) k_ hk⟩))
       (case aO => exact (by (with_reducible repeat (first | apply Kd.N_alloc | apply Kd.N_drewN | apply Kd.N_drew)); exact Kd.N_mono HO264.out (fun _ hk => ⟨hk.1, ⟨hk.2.2.1, ⟨hk.2.2.2.1, ⟨hk.2.2.2.2.1, hk.2.2.2.2.2⟩⟩⟩⟩)))
       (case aS => exact (below_size bl))
       (case aL => have := LMc39.out; omega)
       intro v269 w54 ho hb hg hat
       rw [← Ny268.out] at ho
       replace HO_7 := Aside0.mk (Kd.R_over' (uR HO_7.out) (Kd.N_typed (by (with_reducible repeat (first | apply Kd.N_alloc | apply Kd.N_drewN | apply Kd.N_drew)); exact HO264.out)) (by decide) hg)
       replace HO_8 := Aside0.mk (Kd.V_afterv (ok := (fun k_ => (P0_0_ k_ ∨ w.heap.size ≤ k_) ∧ some k_ ≠ (.slice none 0 0 : Value).ownBlock ∧ some k_ ≠ (.slice Ao55 y265.length co55 : Value).ownBlock ∧ k_ ≠ gb237 ∧ k_ ≠ gb238 ∧ k_ ≠ gb239)) (by exact uV <| Kd.V_mono HO_8.out (fun _ hk => ⟨⟨hk.1, ⟨hk.2.2.2.1, ⟨hk.2.2.1, ⟨hk.2.2.2.2.1, ⟨hk.2.2.2.2.2.1, hk.2.2.2.2.2.2⟩⟩⟩⟩⟩, hk.2.1⟩)) hg hat)
       replace HO_238000 := Aside0.mk (Kd.V_afterv (ok := (fun k_ => (P0_0_ k_ ∨ w.heap.size ≤ k_) ∧ some k_ ≠ (.slice none 0 0 : Value).ownBlock ∧ some k_ ≠ (.slice Ao55 y265.length co55 : Value).ownBlock ∧ k_ ≠ gb237 ∧ k_ ≠ gb238 ∧ k_ ≠ gb239)) (by exact uV <| Kd.V_mono HO_238000.out (fun _ hk => ⟨⟨hk.1, ⟨hk.2.2.2.1, ⟨hk.2.2.1, ⟨hk.2.2.2.2.1, ⟨hk.2.2.2.2.2.1, hk.2.2.2.2.2.2⟩⟩⟩⟩⟩, hk.2.1⟩)) hg hat)
       replace BK237 := Aside0.mk (blk_grown (g := gb237) (o := .cells #[.slice A0_0 l0_0.length c0_0] 50 (0, 0)) (uB BK237.out) hg (Kd.N_ne HO264.out BK237.out (by decide)))
       replace BK238 := Aside0.mk (blk_grown (g := gb238) (o := .cells #[.int .i64 a1_0, .int .i64 a1_1, .string a1_2, .int .i64 a1_3] 61 (0, 0)) (uB BK238.out) hg (Kd.N_ne HO264.out BK238.out (by decide)))
       replace BK239 := Aside0.mk (blk_grown (g := gb239) (o := .cells #[.slice none 0 0] 50 (0, 0)) (uB BK239.out) hg (Kd.N_ne HO264.out BK239.out (by decide)))
       replace HO261 := Aside0.mk (Kd.V_afterv (ok := (fun k_ => (P0_0_ k_ ∨ w.heap.size ≤ k_) ∧ some k_ ≠ (.slice none 0 0 : Value).ownBlock ∧ some k_ ≠ (.slice Ao55 y265.length co55 : Value).ownBlock ∧ k_ ≠ gb237 ∧ k_ ≠ gb238 ∧ k_ ≠ gb239)) (by exact uV <| Kd.V_mono HO261.out (fun _ hk => ⟨⟨hk.1, ⟨hk.2.2.2.1, ⟨hk.2.2.1, ⟨hk.2.2.2.2.1, ⟨hk.2.2.2.2.2.1, hk.2.2.2.2.2.2⟩⟩⟩⟩⟩, hk.2.1⟩)) hg hat)
       replace HO267 := Aside0.mk (Kd.N_afterv (ok := (fun k_ => (P0_0_ k_ ∨ w.heap.size ≤ k_) ∧ some k_ ≠ (.slice none 0 0 : Value).ownBlock ∧ k_ ≠ gb237 ∧ k_ ≠ gb238 ∧ k_ ≠ gb239)) (by (with_reducible repeat (first | apply Kd.N_alloc | apply Kd.N_drewN | apply Kd.N_drew)); exact Kd.N_mono HO267.out (fun _ hk => ⟨⟨hk.1, ⟨hk.2.2.1, ⟨hk.2.2.2.1, ⟨hk.2.2.2.2.1, hk.2.2.2.2.2⟩⟩⟩⟩, hk.2.1⟩)) hg hat)
       replace HB := Aside0.mk (hb)
       have HO270 := Aside0.mk (ho)
       clear HO264
       clear ho hb hg hat
       refine hK.out _ _ ⟨(blk_cell BK237.out 0).trans rfl, (blk_cell BK238.out 0).trans rfl, (blk_cell BK238.out 1).trans rfl, (blk_cell BK238.out 2).trans rfl, (blk_cell BK238.out 3).trans rfl⟩ (fun hHeld => ?_)
       clear hK K
       refine norm_ (a' := ?_) ?_ ?_
       rotate_left
       ·
        show Act.put _ (some 91) _ = _
        simp only [Act.put, List.setIfInBounds_toArray, List.set_cons_zero, List.set_cons_succ, i64_w, i32_w]
        rfl
       refine p1 14 (some 10) ?_
       refine done_ (done_of HT_.out (by kernel_rfl)) ?_
       try go_wp2_with (first | ((with_reducible refine gate_builtin (b := .append) (xs := #[.tmp 92, .tmp 93]) rfl ?_); at_builtin; refine Kd.N_append_rows k70 (w0 := w) w.heap.size rfl (.tmp 92) (.tmp 93) 48 70 (.agg #[(.int .i64 0), (.string ⟨#[]⟩), (.slice none 0 0)]) 48 rfl Try.underlying48 info70 rfl (by decide) (by omega) v269 y268 y243 _ _ _ (fun k_ => (P0_0_ k_ ∨ w.heap.size ≤ k_) ∧ some k_ ≠ (.slice none 0 0 : Value).ownBlock ∧ k_ ≠ gb237 ∧ k_ ≠ gb238 ∧ k_ ≠ gb239) (fun k_ => ((fun k_ => (P0_0_ k_ ∨ w.heap.size ≤ k_) ∧ some k_ ≠ (.slice none 0 0 : Value).ownBlock ∧ k_ ≠ gb237 ∧ k_ ≠ gb238 ∧ k_ ≠ gb239)) k_ ∧ some k_ ≠ (v269 : Value).ownBlock) rfl rfl ?aO ?aR (fun _ hk => hk) ?aF ?aB ?aS ?aL ?_; (case aR => exact (by skip; exact Kd.V_F (Kd.V_mono (ok' := (fun k_ => ((fun k_ => (P0_0_ k_ ∨ w.heap.size ≤ k_) ∧ some k_ ≠ (.slice none 0 0 : Value).ownBlock ∧ k_ ≠ gb237 ∧ k_ ≠ gb238 ∧ k_ ≠ gb239)) k_ ∧ some k_ ≠ (v269 : Value).ownBlock)) (HO_8.out) (fun k_ hk => ⟨⟨hk.1.1, ⟨hk.1.2.1, ⟨hk.1.2.2.2.1, ⟨hk.1.2.2.2.2.1, hk.1.2.2.2.2.2⟩⟩⟩⟩, hk.2⟩)))); (case aB => exact bl); (case aF => exact (fun k_ hk => ⟨(.inr (Nat.le_trans (below_size bl) hk)), Kd.fresh' (Kd.R_lt (uR HO_7.out)) k_ hk, Kd.freshB (g := gb237) (o := .cells #[.slice A0_0 l0_0.length c0_0] 50 (0, 0)) (uB BK237.out) k_ hk, Kd.freshB (g := gb238) (o := .cells #[.int .i64 a1_0, .int .i64 a1_1, .string a1_2, .int .i64 a1_3] 61 (0, 0)) (uB BK238.out) k_ hk, Kd.freshB (g := gb239) (o := .cells #[.slice none 0 0] 50 (0, 0)) (uB BK239.out) k_ hk⟩)); (case aO => exact (by (with_reducible repeat (first | apply Kd.N_alloc | apply Kd.N_drewN | apply Kd.N_drew)); exact HO270.out)); (case aS => exact (below_size bl)); (case aL => have := LMc40.out; omega); intro v272 w56 ho hb hg hat; rw [← Ny271.out] at ho; replace HO_7 := Aside0.mk (Kd.R_over' (uR HO_7.out) (Kd.N_typed (by (with_reducible repeat (first | apply Kd.N_alloc | apply Kd.N_drewN | apply Kd.N_drew)); exact HO270.out)) (by decide) hg); replace HO_8 := Aside0.mk (Kd.V_afterv (ok := (fun k_ => (P0_0_ k_ ∨ w.heap.size ≤ k_) ∧ some k_ ≠ (.slice none 0 0 : Value).ownBlock ∧ some k_ ≠ (.slice Ao55 y265.length co55 : Value).ownBlock ∧ k_ ≠ gb237 ∧ k_ ≠ gb238 ∧ k_ ≠ gb239)) (uV HO_8.out) hg hat); replace HO_238000 := Aside0.mk (Kd.V_afterv (ok := (fun k_ => (P0_0_ k_ ∨ w.heap.size ≤ k_) ∧ some k_ ≠ (.slice none 0 0 : Value).ownBlock ∧ some k_ ≠ (.slice Ao55 y265.length co55 : Value).ownBlock ∧ k_ ≠ gb237 ∧ k_ ≠ gb238 ∧ k_ ≠ gb239)) (uV HO_238000.out) hg hat); replace BK237 := Aside0.mk (blk_grown (g := gb237) (o := .cells #[.slice A0_0 l0_0.length c0_0] 50 (0, 0)) (uB BK237.out) hg (Kd.N_ne HO270.out BK237.out (by decide))); replace BK238 := Aside0.mk (blk_grown (g := gb238) (o := .cells #[.int .i64 a1_0, .int .i64 a1_1, .string a1_2, .int .i64 a1_3] 61 (0, 0)) (uB BK238.out) hg (Kd.N_ne HO270.out BK238.out (by decide))); replace BK239 := Aside0.mk (blk_grown (g := gb239) (o := .cells #[.slice none 0 0] 50 (0, 0)) (uB BK239.out) hg (Kd.N_ne HO270.out BK239.out (by decide))); replace HO261 := Aside0.mk (Kd.V_afterv (ok := (fun k_ => (P0_0_ k_ ∨ w.heap.size ≤ k_) ∧ some k_ ≠ (.slice none 0 0 : Value).ownBlock ∧ some k_ ≠ (.slice Ao55 y265.length co55 : Value).ownBlock ∧ k_ ≠ gb237 ∧ k_ ≠ gb238 ∧ k_ ≠ gb239)) (uV HO261.out) hg hat); replace HO267 := Aside0.mk (Kd.N_afterv (ok := (fun k_ => (P0_0_ k_ ∨ w.heap.size ≤ k_) ∧ some k_ ≠ (.slice none 0 0 : Value).ownBlock ∧ k_ ≠ gb237 ∧ k_ ≠ gb238 ∧ k_ ≠ gb239)) (by (with_reducible repeat (first | apply Kd.N_alloc | apply Kd.N_drewN | apply Kd.N_drew)); exact HO267.out) hg hat); replace HB := Aside0.mk (hb); have HO273 := Aside0.mk (ho); clear HO270; clear ho hb hg hat; obtain ⟨Ao57, co57, eo57⟩ := Kd.N_slice HO273.out; subst eo57; have hnb58 := NB239_237.out; have hnc58 := NB237_239.out; obtain ⟨hcz59_0, hfz59_0⟩ := z1 BK239))
       refine bodyPost_ret (results_ct rfl _ _ gb239 50 #[.slice Ao57 y271.length co57] (0, 0) _ rfl (fB BK239.out) Try.underlying50 rfl (by kernel_rfl)) rfl ?_
       exact ⟨_, re_, by (with_reducible repeat (first | apply Kd.N_alloc | apply Kd.N_drewN | apply Kd.N_drew)); exact Kd.N_mono (Kd.N_far (p := ⟨gb239, 0, none⟩) (Kd.N_mono HO273.out (fun k_ hk => (⟨hk, hk.2.2.2.2⟩ : _ ∧ k_ ≠ gb239))) (fun _ hk => hk.2) (.slice Ao57 y271.length co57)) (fun _ hk => hk.1.1), bl⟩
 ·
  replace c4 := Bool.eq_false_iff.mpr c4
  subst c4
  rw [if_neg (show ¬ (false = true) by decide)] at H
  exact absurd H (by simp)
attribute [local go_sem high] eqA56
def r08_Items.l0 : Nat → List (S56) → List (S56) → Int → Option (Bool)
 | 0, _, _, _ => none
 | k + 1, x0, x1, x5 => if x5 < (x0.length : Int) then (if 0 ≤ x5 then (if x5 < (x1.length : Int) then (if (!(((rd_T56 x0 x5).f0) == ((rd_T56 x1 x5).f0)) || (!((((rd_T56 x0 x5).f1).toList) == (((rd_T56 x1 x5).f1).toList)) || ((!(((rd_T56 x0 x5).f2.f0) == ((rd_T56 x1 x5).f2.f0)) || ((!(((rd_T56 x0 x5).f2.f1.f0) == ((rd_T56 x1 x5).f2.f1.f0)) || (!(((rd_T56 x0 x5).f2.f1.f1) == ((rd_T56 x1 x5).f2.f1.f1)))) || (!(((rd_T56 x0 x5).f2.f2) == ((rd_T56 x1 x5).f2.f2)) || (!(((rd_T56 x0 x5).f2.f3) == ((rd_T56 x1 x5).f2.f3))))))))) = true then (none) else (r08_Items.l0 k x0 x1 (wrap64 (x5 + 1)))) else (none)) else (none)) else (some true)
def r08_Items.f (k : Nat) (l0 : List (S56)) (l1 : List (S56)) : Option (Bool) := if (l0.length : Int) = (l1.length : Int) then (r08_Items.l0 k l0 l1 0) else (none)
theorem r08_Items.mono_l : ∀ k, (∀ y0 y1 y2, LeC (r08_Items.l0 k y0 y1 y2) (r08_Items.l0 (k + 1) y0 y1 y2))
 | 0 => fun _ _ _ => ⟨fun r h => by simp [r08_Items.l0] at h⟩
 | k + 1 => by have ih0 := r08_Items.mono_l k; exact fun _ _ _ => by unfold r08_Items.l0; exact lm
theorem r08_Items.mono : ∀ a0 a1 k, LeO (r08_Items.f k a0 a1) (r08_Items.f (k + 1) a0 a1) := by
 intro a0 a1 k
 have ih0 := r08_Items.mono_l k
 unfold r08_Items.f
 exact lo
instance r08_Items.mI {a0 a1 k} : LeC (r08_Items.f k a0 a1) (r08_Items.f (k + 1) a0 a1) := ⟨r08_Items.mono _ _ _⟩
theorem r08_Items.calls (k : Nat) (A0 : Option Addr) (c0 : Nat) (l0 : List (S56)) (A1 : Option Addr) (c1 : Nat) (l1 : List (S56)) (r : Bool) (w : World) (hr0 : Kd.C k56 w A0 l0.length l0) (hc0 : l0.length ≤ c0) (hr1 : Kd.C k56 w A1 l1.length l1) (hc1 : l1.length ≤ c1) (h : r08_Items.f k l0 l1 = some r) :
 Calls Try.prog 20 #[.slice A0 l0.length c0, .slice A1 l1.length c1] w fun e w' => e = .returned (.bool r) ∧ Drawn0 w w' := by
 have hu56 := Try.underlying56
 have HR0 := Aside0.mk hr0
 have HC0 := Aside0.mk hc0
 clear hr0 hc0
 have HR1 := Aside0.mk hr1
 have HC1 := Aside0.mk hc1
 clear hr1 hc1
 have H : (if (l0.length : Int) = (l1.length : Int) then (r08_Items.l0 k l0 l1 0) else (none)) = some r := h
 clear h
 by_cases c3 : (l0.length : Int) = (l1.length : Int)
 ·
  rw [if_pos c3] at H
  have c3b0 : ((l0.length : Int) == (l1.length : Int)) = true := beq_iff_eq.mpr c3
  have c3b1 : ((l0.length : Int) != (l1.length : Int)) = false := bne_eq_false_iff_eq.mpr c3
  have c3b2 : (l0.length == l1.length) = true := by first | simpa using c3 | (simp at c3 ⊢; omega)
  clear c3
  have H' := Aside0.mk H
  clear H
  go_enter Try.func20, Try.ntmps20
  go_wp2
  repeat (go_quiet (fail); try go_wp2)
  go_loopg [5] k (fun kq v5 w' => ∃ (x5_1 : Int), v5 = .int .i64 x5_1 ∧ Aside0 (r08_Items.l0 kq l0 l1 x5_1 = some r) ∧ Aside0 (kq ≤ k) ∧ Drawn0 w w')
  case atStart => exact ⟨(0), rs_, H', ⟨Nat.le_refl _⟩, dr_⟩
  case round =>
   clear H'
   try clear c1
   try clear c3
   try clear c3b0
   try clear c3b1
   try clear c3b2
   obtain ⟨x5_1, rfl, HA, HK1, ⟨m1, rfl⟩⟩ := hrel
   cases gk with
   | zero => exact absurd HA.out (by simp [r08_Items.l0])
   | succ k1 =>
    have H := HA.out
    clear HA
    simp only [r08_Items.l0] at H
    by_cases c4 : x5_1 < (l0.length : Int)
    ·
     rw [if_pos c4] at H
     have c4b0 : decide (x5_1 < (l0.length : Int)) = true := decide_eq_true c4
     clear c4
     obtain ⟨c5b0, H⟩ := gdd H
     obtain ⟨c6b0, H⟩ := gdd H
     obtain ⟨c7, H⟩ := gn H
     have c7b0 : (!(((rd_T56 l0 x5_1).f0) == ((rd_T56 l1 x5_1).f0)) || (!((((rd_T56 l0 x5_1).f1).toList) == (((rd_T56 l1 x5_1).f1).toList)) || ((!(((rd_T56 l0 x5_1).f2.f0) == ((rd_T56 l1 x5_1).f2.f0)) || ((!(((rd_T56 l0 x5_1).f2.f1.f0) == ((rd_T56 l1 x5_1).f2.f1.f0)) || (!(((rd_T56 l0 x5_1).f2.f1.f1) == ((rd_T56 l1 x5_1).f2.f1.f1)))) || (!(((rd_T56 l0 x5_1).f2.f2) == ((rd_T56 l1 x5_1).f2.f2)) || (!(((rd_T56 l0 x5_1).f2.f3) == ((rd_T56 l1 x5_1).f2.f3))))))))) = false := by simpa using c7
     clear c7
     have H' := Aside0.mk H
     clear H
     have p274 : 0 ≤ (x5_1 : Int) := od
     have q274 : x5_1 < (l0.length : Int) := od
     obtain ⟨ad274, e274, hx274_0, hx274_1, hx274_2, hx274_3, hx274_4, hx274_5, hx274_6⟩ := at_T56 HR0.out x5_1 p274 q274
     cases e274
     replace p274 := eq_true p274
     replace q274 := eq_true q274
     have p275 : 0 ≤ (x5_1 : Int) := od
     have q275 : x5_1 < (l1.length : Int) := od
     obtain ⟨ad275, e275, hx275_0, hx275_1, hx275_2, hx275_3, hx275_4, hx275_5, hx275_6⟩ := at_T56 HR1.out x5_1 p275 q275
     cases e275
     replace p275 := eq_true p275
     replace q275 := eq_true q275
     go_wp2
     repeat (go_quiet (fail); try go_wp2)
     go_roundg k1
     case measure => have := HK1.out; omega
     case rel => exact ⟨(wrap64 (x5_1 + 1)), rs_, H', ⟨by have := HK1.out; omega⟩, dr_⟩
    ·
     rw [if_neg c4] at H
     have c4b0 : decide (x5_1 < (l0.length : Int)) = false := decide_eq_false c4
     clear c4
     obtain rfl := Option.some.inj H
     go_wp2
     repeat (go_quiet (fail); try go_wp2)
     go_ret
     exact ⟨rs_, dr_⟩
 ·
  rw [if_neg c3] at H
  exact absurd H (by simp)
def r06_Of.l0 : Nat → List Int → Int → Int → Int → Bool → Int → Int → Option (Int × Int × Bool × Int × Int)
 | 0, _, _, _, _, _, _, _ => none
 | k + 1, x0, x4, x278000, x278001, x278002, x278003, x278004 => if x4 < (x0.length : Int) then (if 0 ≤ x4 then ((r06_Fold.f x278000 x278001 x278002 x278003 x278004 (rd x0 x4)).bind fun bt279 => (r06_Of.l0 k x0 (wrap64 (x4 + 1)) bt279.1 bt279.2.1 bt279.2.2.1 bt279.2.2.2.1 bt279.2.2.2.2)) else (none)) else (some (x278000, x278001, x278002, x278003, x278004))
def r06_Of.f (k : Nat) (l0 : List Int) : Option (Int × Int × Bool × Int × Int) := r06_Of.l0 k l0 0 0 0 false 0 0
theorem r06_Of.mono_l : ∀ k, (∀ y0 y1 y2 y3 y4 y5 y6, LeC (r06_Of.l0 k y0 y1 y2 y3 y4 y5 y6) (r06_Of.l0 (k + 1) y0 y1 y2 y3 y4 y5 y6))
 | 0 => fun _ _ _ _ _ _ _ => ⟨fun r h => by simp [r06_Of.l0] at h⟩
 | k + 1 => by have ih0 := r06_Of.mono_l k; exact fun _ _ _ _ _ _ _ => by unfold r06_Of.l0; exact lm
theorem r06_Of.mono : ∀ a0 k, LeO (r06_Of.f k a0) (r06_Of.f (k + 1) a0) := by
 intro a0 k
 have ih0 := r06_Of.mono_l k
 unfold r06_Of.f
 exact lo
instance r06_Of.mI {a0 k} : LeC (r06_Of.f k a0) (r06_Of.f (k + 1) a0) := ⟨r06_Of.mono _ _⟩
theorem r06_Of.calls (k : Nat) (A0 : Option Addr) (c0 : Nat) (l0 : List Int) (r1 : Int) (r2 : Int) (r3 : Bool) (r4 : Int) (r5 : Int) (w : World) (hr0 : Kd.C (Kd.int .i64) w A0 l0.length l0) (hc0 : l0.length ≤ c0) (h : r06_Of.f k l0 = some (r1, r2, r3, r4, r5)) :
 Calls Try.prog 21 #[.slice A0 l0.length c0] w fun e w' => e = .returned (.agg #[.int .i64 r1, .int .i64 r2, .bool r3, .int .i64 r4, .int .i64 r5]) ∧ Below w.heap.size w w' := by
 have hu54 := Try.underlying54
 have HR0 := Aside0.mk hr0
 have HC0 := Aside0.mk hc0
 clear hr0 hc0
 have HB := Aside0.mk (Below.refl w.heap.size w)
 have H : (r06_Of.l0 k l0 0 0 0 false 0 0) = some (r1, r2, r3, r4, r5) := h
 clear h
 have H' := Aside0.mk H
 clear H
 go_enter Try.func21, Try.ntmps21
 go_wp2_with (first | ((with_reducible refine gate_dst (N := 2) rfl ?_); refine bx (N := 2) #[.int .i64 0, .int .i64 0, .bool false, .int .i64 0, .int .i64 0] 54 ?_; intro gb276 hg w2 hbox hb; have BK276 := Aside0.mk (hbox); have GW276 := gw hg (uW HB.out); have GE276 := GW276; replace HB := cW HB hb; clear hb hbox hg) | ((with_reducible refine gate_dst (N := 3) rfl ?_); refine bx (N := 3) #[.int .i64 0, .int .i64 0, .bool false, .int .i64 0, .int .i64 0] 54 ?_; intro gb277 hg w3 hbox hb; have BK277 := Aside0.mk (hbox); have GW277 := gw hg bl; have GE277 := GW277; replace HB := Aside0.mk (below_step bl hb); have NB276_277 := nl BK276 hg; have NB277_276 := nr BK276 hg; replace BK276 := cB BK276 hb; clear hb hbox hg; have hnb4 := NB277_276.out; have hnc4 := NB276_277.out; obtain ⟨hcz5_0, hcz5_1, hcz5_2, hcz5_3, hcz5_4, hfz5_0, hfz5_1, hfz5_2, hfz5_3, hfz5_4⟩ := z5 BK277) | ((with_reducible refine gate_store (t := 54) (p := 3) rfl ?_); refine store_event (t := 54) (p := 3) (v := ?vo_w6) (w1 := (((((w3.setCell ⟨gb277, 0, none⟩ (.int .i64 0)).setCell ⟨gb277, 1, none⟩ (.int .i64 0)).setCell ⟨gb277, 2, none⟩ (.bool false)).setCell ⟨gb277, 3, none⟩ (.int .i64 0)).setCell ⟨gb277, 4, none⟩ (.int .i64 0))) ?hg ?ho ?hn ?hr ?_; (case ho => rfl); (case hg => rfl); (case hn => rfl); (case hr => first | (go_simp; done) | (go_simp; rfl)); intro w6 hw; replace BK276 := fgF hw BK276 NB276_277; replace HB : Aside0 (Below w.heap.size w w6) := fgW hw bl; replace BK277 := fgB hw BK277; clear hw))
 go_loopg [4] k (fun kq v4 w' => ∃ (x4_1 : Int) (x278000_1 : Int) (x278001_1 : Int) (x278002_1 : Bool) (x278003_1 : Int) (x278004_1 : Int), v4 = .int .i64 x4_1 ∧ Aside0 (r06_Of.l0 kq l0 x4_1 x278000_1 x278001_1 x278002_1 x278003_1 x278004_1 = some (r1, r2, r3, r4, r5)) ∧ Aside0 (kq ≤ k) ∧ Aside0 (w'.heap[gb276]? = some (.cells #[.int .i64 0, .int .i64 0, .bool false, .int .i64 0, .int .i64 0] 54 (0, 0))) ∧ Aside0 (w'.heap[gb277]? = some (.cells #[.int .i64 x278000_1, .int .i64 x278001_1, .bool x278002_1, .int .i64 x278003_1, .int .i64 x278004_1] 54 (0, 0))) ∧ Aside0 (Below w.heap.size w w'))
 case atStart => exact ⟨(0), (0), (0), (false), (0), (0), rs_, H', ⟨Nat.le_refl _⟩, ⟨uB BK276.out⟩, ⟨uB BK277.out⟩, ⟨bl⟩⟩
 case round =>
  clear H'
  try clear hcz5_0 hcz5_1 hcz5_2 hcz5_3 hcz5_4 hfz5_0 hfz5_1 hfz5_2 hfz5_3 hfz5_4
  obtain ⟨x4_1, x278000_1, x278001_1, x278002_1, x278003_1, x278004_1, rfl, HA, HK1, BK276, BK277, HB⟩ := hrel
  cases gk with
  | zero => exact absurd HA.out (by simp [r06_Of.l0])
  | succ k1 =>
   have H := HA.out
   clear HA
   simp only [r06_Of.l0] at H
   by_cases c7 : x4_1 < (l0.length : Int)
   ·
    rw [if_pos c7] at H
    have c7b0 : decide (x4_1 < (l0.length : Int)) = true := decide_eq_true c7
    clear c7
    obtain ⟨c8b0, H⟩ := gdd H
    obtain ⟨⟨t279, t280, t281, t282, t283⟩, A9, H⟩ := bs H
    try dsimp only at H
    have H' := Aside0.mk H
    clear H
    try go_wp2
    replace BK276 := Aside0.mk (blk_drew BK276.out)
    replace BK277 := Aside0.mk (blk_drew BK277.out)
    replace HB := Aside0.mk (below_drew1 HB.out)
    have p278 : 0 ≤ (x4_1 : Int) := od
    have q278 : x4_1 < (l0.length : Int) := od
    obtain ⟨ad278, e278, hx278_0⟩ := Kd.at_int HR0.out x4_1 p278 q278
    have hw278_0 := hx278_0
    cases e278
    replace hx278_0 := kc HB hx278_0
    replace p278 := eq_true p278
    replace q278 := eq_true q278
    refine start_ (n := 7) (S := fun w' => w'.cell? ⟨gb277, 0, none⟩ = some (.int .i64 x278000_1) ∧ w'.cell? ⟨gb277, 1, none⟩ = some (.int .i64 x278001_1) ∧ w'.cell? ⟨gb277, 2, none⟩ = some (.bool x278002_1) ∧ w'.cell? ⟨gb277, 3, none⟩ = some (.int .i64 x278003_1) ∧ w'.cell? ⟨gb277, 4, none⟩ = some (.int .i64 x278004_1) ∧ w'.cell? (ad278.add (x4_1).toNat) = some (.int .i64 (rd l0 x4_1))) (ds := [6]) _ (by kernel_rfl) rfl rfl ⟨(blk_cell BK277.out 0).trans rfl, (blk_cell BK277.out 1).trans rfl, (blk_cell BK277.out 2).trans rfl, (blk_cell BK277.out 3).trans rfl, (blk_cell BK277.out 4).trans rfl, (kc HB hw278_0)⟩ (fun hHeld => ?_)
    generalize wr.drew = w10 at BK276 BK277 HB hx278_0 hHeld ⊢
    refine pure_ (i := 1) (N := some 13) (v := ?_) (a' := ?_) #[false, true, false, false, false, false, false] rfl rfl (by kernel_rfl) (fun _ _ _ h => h) (Or.inl ⟨by rfl, ?_⟩) ?_ ?_
    rotate_left
    ·
     intro w'
     go_simp
     with_reducible rfl
    rotate_left
    ·
     simp only [Act.put, List.setIfInBounds_toArray, List.set_cons_zero, List.set_cons_succ, i64_w, i32_w]
     rfl
    refine pure_ (i := 2) (N := some 14) (v := ?_) (a' := ?_) #[false, true, true, false, false, false, false] rfl rfl (by kernel_rfl) (fun _ _ _ h => h) (Or.inl ⟨by rfl, ?_⟩) ?_ ?_
    rotate_left
    ·
     intro w'
     go_simp
     with_reducible rfl
    rotate_left
    ·
     simp only [Act.put, List.setIfInBounds_toArray, List.set_cons_zero, List.set_cons_succ, i64_w, i32_w]
     rfl
    refine pure_ (i := 3) (N := some 15) (v := ?_) (a' := ?_) #[false, true, true, true, false, false, false] rfl rfl (by kernel_rfl) (fun _ _ _ h => h) (Or.inl ⟨by rfl, ?_⟩) ?_ ?_
    rotate_left
    ·
     intro w'
     go_simp
     with_reducible rfl
    rotate_left
    ·
     simp only [Act.put, List.setIfInBounds_toArray, List.set_cons_zero, List.set_cons_succ, i64_w, i32_w]
     rfl
    refine take_ (i := 0) (N := some 12) (v := ?_) (a' := ?_) #[true, true, true, true, false, false, false] rfl rfl (by kernel_rfl) (fun _ _ _ h => h) (Or.inl ⟨by rfl, ?_⟩) hHeld ?_ ?_
    rotate_left
    ·
     rintro w' ⟨s0, s1, s2, s3, s4, s5⟩
     go_simp
     with_reducible rfl
    rotate_left
    ·
     simp only [Act.put, List.setIfInBounds_toArray, List.set_cons_zero, List.set_cons_succ, i64_w, i32_w]
     rfl
    refine take_ (i := 4) (N := some 16) (v := ?_) (a' := ?_) #[true, true, true, true, true, false, false] rfl rfl (by kernel_rfl) (fun _ _ _ h => h) (Or.inl ⟨by rfl, ?_⟩) hHeld ?_ ?_
    rotate_left
    ·
     rintro w' ⟨s0, s1, s2, s3, s4, s5⟩
     go_simp
     with_reducible rfl
    rotate_left
    ·
     simp only [Act.put, List.setIfInBounds_toArray, List.set_cons_zero, List.set_cons_succ, i64_w, i32_w]
     rfl
    refine one_ (i := 5) (N := some 17) #[true, true, true, true, true, true, false] rfl rfl (by kernel_rfl) (by decide) (fun K hK => ?_)
    refine gS Try.func43 #[.agg #[.int .i64 x278000_1, .int .i64 x278001_1, .bool x278002_1, .int .i64 x278003_1, .int .i64 x278004_1], .int .i64 (rd l0 x4_1)] ?_
    with_reducible refine (r06_Fold.calls x278000_1 x278001_1 x278002_1 x278003_1 x278004_1 (rd l0 x4_1) t279 t280 t281 t282 t283 _ A9.out).mono ?_
    rintro e w11 ⟨rfl, hb⟩
    refine ⟨_, rfl, ?_⟩
    replace BK276 := cB BK276 hb
    replace BK277 := cB BK277 hb
    replace HB := Aside0.mk (below_step bl hb)
    (try clear hb)
    refine hK.out _ _ ⟨(blk_cell BK277.out 0).trans rfl, (blk_cell BK277.out 1).trans rfl, (blk_cell BK277.out 2).trans rfl, (blk_cell BK277.out 3).trans rfl, (blk_cell BK277.out 4).trans rfl, (kc HB hw278_0)⟩ (fun hHeld => ?_)
    clear hK K
    refine norm_ (a' := ?_) ?_ ?_
    rotate_left
    ·
     show Act.put _ (some 17) _ = _
     simp only [Act.put, List.setIfInBounds_toArray, List.set_cons_zero, List.set_cons_succ, i64_w, i32_w]
     rfl
    refine last_ (i := 6) (N := none) #[true, true, true, true, true, true, true] rfl rfl (by kernel_rfl) (by decide) (fun K hK => ?_)
    have hs12 : w11.cell? ⟨gb277, 0, none⟩ = some (.int .i64 x278000_1) := (blk_cell BK277.out 0).trans rfl
    have hfs12 := blk_frozen BK277.out 0
    have hns12_0 := NB276_277.out
    have hms12_0 := NB277_276.out
    have hs13 : w11.cell? ⟨gb277, 1, none⟩ = some (.int .i64 x278001_1) := (blk_cell BK277.out 1).trans rfl
    have hfs13 := blk_frozen BK277.out 1
    have hns13_0 := NB276_277.out
    have hms13_0 := NB277_276.out
    have hs14 : w11.cell? ⟨gb277, 2, none⟩ = some (.bool x278002_1) := (blk_cell BK277.out 2).trans rfl
    have hfs14 := blk_frozen BK277.out 2
    have hns14_0 := NB276_277.out
    have hms14_0 := NB277_276.out
    have hs15 : w11.cell? ⟨gb277, 3, none⟩ = some (.int .i64 x278003_1) := (blk_cell BK277.out 3).trans rfl
    have hfs15 := blk_frozen BK277.out 3
    have hns15_0 := NB276_277.out
    have hms15_0 := NB277_276.out
    have hs16 : w11.cell? ⟨gb277, 4, none⟩ = some (.int .i64 x278004_1) := (blk_cell BK277.out 4).trans rfl
    have hfs16 := blk_frozen BK277.out 4
    have hns16_0 := NB276_277.out
    have hms16_0 := NB277_276.out
    refine skip_ (w1 := ?_) (by rfl) rfl ?_ ?_
    rotate_left
    ·
     go_simp
     rfl
    refine hK.out _ _ ?_
    clear hK K
    refine done_ (by kernel_rfl) ?_
    try go_wp2
    go_roundg k1
    case measure => have := HK1.out; omega
    case rel => exact ⟨(wrap64 (x4_1 + 1)), (t279), (t280), (t281), (t282), (t283), rs_, H', ⟨by have := HK1.out; omega⟩, ⟨fF BK276.out NB276_277⟩, ⟨by (with_reducible repeat (first | refine blk_drewN ?_ _ | refine blk_drew ?_ | refine blk_alloc ?_ _)); refine blk_put (cs := #[.int .i64 t279, .int .i64 t280, .bool t281, .int .i64 t282, .int .i64 x278004_1]) ?_ 4 _ rfl; (with_reducible repeat (first | refine blk_drewN ?_ _ | refine blk_drew ?_ | refine blk_alloc ?_ _)); refine blk_put (cs := #[.int .i64 t279, .int .i64 t280, .bool t281, .int .i64 x278003_1, .int .i64 x278004_1]) ?_ 3 _ rfl; (with_reducible repeat (first | refine blk_drewN ?_ _ | refine blk_drew ?_ | refine blk_alloc ?_ _)); refine blk_put (cs := #[.int .i64 t279, .int .i64 t280, .bool x278002_1, .int .i64 x278003_1, .int .i64 x278004_1]) ?_ 2 _ rfl; (with_reducible repeat (first | refine blk_drewN ?_ _ | refine blk_drew ?_ | refine blk_alloc ?_ _)); refine blk_put (cs := #[.int .i64 t279, .int .i64 x278001_1, .bool x278002_1, .int .i64 x278003_1, .int .i64 x278004_1]) ?_ 1 _ rfl; (with_reducible repeat (first | refine blk_drewN ?_ _ | refine blk_drew ?_ | refine blk_alloc ?_ _)); refine blk_put (cs := #[.int .i64 x278000_1, .int .i64 x278001_1, .bool x278002_1, .int .i64 x278003_1, .int .i64 x278004_1]) ?_ 0 _ rfl; exact uB <| BK277.out⟩, ⟨bl⟩⟩
   ·
    rw [if_neg c7] at H
    have c7b0 : decide (x4_1 < (l0.length : Int)) = false := decide_eq_false c7
    clear c7
    simp only [Option.some.injEq, Prod.mk.injEq] at H
    obtain ⟨rfl, rfl, rfl, rfl, rfl⟩ := H
    have hnb17 := NB277_276.out
    have hnc17 := NB276_277.out
    obtain ⟨hcz18_0, hcz18_1, hcz18_2, hcz18_3, hcz18_4, hfz18_0, hfz18_1, hfz18_2, hfz18_3, hfz18_4⟩ := z5 BK277
    obtain ⟨hcz19_0, hcz19_1, hcz19_2, hcz19_3, hcz19_4, hfz19_0, hfz19_1, hfz19_2, hfz19_3, hfz19_4⟩ := z5 BK276
    go_wp2_with (first | ((with_reducible refine gate_store (t := 54) (p := 2) rfl ?_); refine store_event (t := 54) (p := 2) (v := ?vo_w20) (w1 := (((((wr.setCell ⟨gb276, 0, none⟩ (.int .i64 x278000_1)).setCell ⟨gb276, 1, none⟩ (.int .i64 x278001_1)).setCell ⟨gb276, 2, none⟩ (.bool x278002_1)).setCell ⟨gb276, 3, none⟩ (.int .i64 x278003_1)).setCell ⟨gb276, 4, none⟩ (.int .i64 x278004_1))) ?hg ?ho ?hn ?hr ?_; (case ho => rfl); (case hg => rfl); (case hn => rfl); (case hr => first | (go_simp; done) | (go_simp; rfl)); intro w20 hw; replace BK277 := fgF hw BK277 NB277_276; replace HB : Aside0 (Below w.heap.size w w20) := fgW hw bl; replace BK276 := fgB hw BK276; clear hw))
    refine bodyPost_ret (results_cell_row rfl _ _ gb276 54 #[.int .i64 x278000_1, .int .i64 x278001_1, .bool x278002_1, .int .i64 x278003_1, .int .i64 x278004_1] (0, 0) _ rfl (uB BK276.out) Try.underlying54 rfl (by kernel_rfl)) rfl ?_
    exact ⟨re_, bl⟩
end Go.Proofs.Ytklhjponikgkkaa.X
