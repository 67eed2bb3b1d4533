/- Printed by a program of this session's own: what functions of the program compute, and that the machine computes it. No condition of its own. -/
import Derived.Test.YtgcbejidponoaaaGreatDoorM3
import Derived.Test.YtgcbejidponoaaaGreatDoorM6
import Derived.Test.YtgcbejidponoaaaGreatDoorM7
import Derived.Test.YtgcbejidponoaaaGreatDoorM9
namespace Go.Proofs.YtgcbejidponoaaaGreatDoor.X
open Go.RowKit Go.Proofs.YtgcbejidponoaaaGreatDoorW.PrintWords Go.Proofs.YtgcbejidponoaaaGreatDoorW.PrintLast Go.Proofs.YtgcbejidponoaaaGreatDoorW.PrintMore
attribute [local go_sem] max2_int min2_int max_two min_two max_three min_three max_four min_four
set_option linter.unusedVariables false
set_option linter.unusedSimpArgs false
set_option maxHeartbeats 8000000
set_option maxRecDepth 100000
mutual
def diff_Apply.j0 : Nat → List (S45) → List (S48) → Bool → Option ((List (S45)) × Int)
 | 0, _, _, _ => none
 | k + 1, x0, x1, x18 => if x18 = true then (some (([] : List (S45)), 9)) else (diff_Apply.l0 k ([] : List (S45)) x0 x1 (x1.length : Int) 0)
def diff_Apply.l0 : Nat → List (S45) → List (S45) → List (S48) → Int → Int → Option ((List (S45)) × Int)
 | 0, _, _, _, _, _ => none
 | k + 1, x6, x7, x20, x21, x22 => if x22 < x21 then (if 0 ≤ x22 then (if x22 < (x20.length : Int) then (diff_Apply.l1 k x6 x7 x20 x21 x22 ((rd_T48 x20 x22).f0.f0) ((rd_T48 x20 x22).f0.f1) ((rd_T48 x20 x22).f0.f2.f0) ((rd_T48 x20 x22).f0.f2.f1) ((rd_T48 x20 x22).f1)) else (none)) else (none)) else (if x6.length + x7.length < 3518437208883 then (some ((x6 ++ x7), 0)) else (none))
def diff_Apply.j3 : Nat → List (S45) → List (S45) → List (S48) → Int → Int → Int → ByteArray → Int → Bool → Bool → Option ((List (S45)) × Int)
 | 0, _, _, _, _, _, _, _, _, _, _ => none
 | k + 1, x6, x7, x20, x21, x22, x452000, x452001, x452002, x452003, x452004 => if (x7.length : Int) > 0 then (if 0 < (x7.length : Int) then ((row_Before.f k x452000 x452001 x452002 x452003 ((rd_T45 x7 0).f0) ((rd_T45 x7 0).f1) ((rd_T45 x7 0).f2.f0) ((rd_T45 x7 0).f2.f1)).bind fun t464 => (diff_Apply.j4 k x6 x7 (!t464) x20 x21 x22 x452000 x452001 x452002 x452003 x452004)) else (none)) else (diff_Apply.j4 k x6 x7 false x20 x21 x22 x452000 x452001 x452002 x452003 x452004)
def diff_Apply.j4 : Nat → List (S45) → List (S45) → Bool → List (S48) → Int → Int → Int → ByteArray → Int → Bool → Bool → Option ((List (S45)) × Int)
 | 0, _, _, _, _, _, _, _, _, _, _, _ => none
 | k + 1, x6, x7, x10, x20, x21, x22, x452000, x452001, x452002, x452003, x452004 => if x10 = true then (if 1 ≤ (x7.length : Int) then (diff_Apply.j5 k x6 (x7.drop 1) x10 x20 x21 x22 x452000 x452001 x452002 x452003 x452004) else (none)) else (diff_Apply.j5 k x6 x7 x10 x20 x21 x22 x452000 x452001 x452002 x452003 x452004)
def diff_Apply.j5 : Nat → List (S45) → List (S45) → Bool → List (S48) → Int → Int → Int → ByteArray → Int → Bool → Bool → Option ((List (S45)) × Int)
 | 0, _, _, _, _, _, _, _, _, _, _, _ => none
 | k + 1, x6, x7, x10, x20, x21, x22, x452000, x452001, x452002, x452003, x452004 => if x452004 = true then (if x10 = true then (diff_Apply.l0 k x6 x7 x20 x21 (wrap64 (x22 + 1))) else (some (([] : List (S45)), 6))) else (if x6.length < 3518437208883 then (diff_Apply.l0 k (x6 ++ [(⟨x452000, x452001, (⟨x452002, x452003⟩ : S43)⟩ : S45)]) x7 x20 x21 (wrap64 (x22 + 1))) else (none))
def diff_Apply.l1 : Nat → List (S45) → List (S45) → List (S48) → Int → Int → Int → ByteArray → Int → Bool → Bool → Option ((List (S45)) × Int)
 | 0, _, _, _, _, _, _, _, _, _, _ => none
 | k + 1, x6, x7, x20, x21, x22, x452000, x452001, x452002, x452003, x452004 => if (x7.length : Int) > 0 then (if 0 < (x7.length : Int) then ((row_Before.f k ((rd_T45 x7 0).f0) ((rd_T45 x7 0).f1) ((rd_T45 x7 0).f2.f0) ((rd_T45 x7 0).f2.f1) x452000 x452001 x452002 x452003).bind fun t453 => (if t453 = true then (if x6.length < 3518437208883 then (if 1 ≤ (x7.length : Int) then (diff_Apply.l1 k (x6 ++ [(⟨(rd_T45 x7 0).f0, (rd_T45 x7 0).f1, (⟨(rd_T45 x7 0).f2.f0, (rd_T45 x7 0).f2.f1⟩ : S43)⟩ : S45)]) (x7.drop 1) x20 x21 x22 x452000 x452001 x452002 x452003 x452004) else (none)) else (none)) else (diff_Apply.j3 k x6 x7 x20 x21 x22 x452000 x452001 x452002 x452003 x452004))) else (none)) else (diff_Apply.j3 k x6 x7 x20 x21 x22 x452000 x452001 x452002 x452003 x452004)
end
def diff_Apply.f (k : Nat) (l0 : List (S45)) (l1 : List (S48)) : Option ((List (S45)) × Int) := (row_Right.f k l0).bind fun t445 => (if t445 = true then ((diff_right.f k l1).bind fun t446 => (diff_Apply.j0 k l0 l1 (!t446))) else (diff_Apply.j0 k l0 l1 true))
theorem diff_Apply.mono_l : ∀ k, (∀ y0 y1 y2, LeC (diff_Apply.j0 k y0 y1 y2) (diff_Apply.j0 (k + 1) y0 y1 y2)) ∧ (∀ y0 y1 y2 y3 y4, LeC (diff_Apply.l0 k y0 y1 y2 y3 y4) (diff_Apply.l0 (k + 1) y0 y1 y2 y3 y4)) ∧ (∀ y0 y1 y2 y3 y4 y5 y6 y7 y8 y9, LeC (diff_Apply.j3 k y0 y1 y2 y3 y4 y5 y6 y7 y8 y9) (diff_Apply.j3 (k + 1) y0 y1 y2 y3 y4 y5 y6 y7 y8 y9)) ∧ (∀ y0 y1 y2 y3 y4 y5 y6 y7 y8 y9 y10, LeC (diff_Apply.j4 k y0 y1 y2 y3 y4 y5 y6 y7 y8 y9 y10) (diff_Apply.j4 (k + 1) y0 y1 y2 y3 y4 y5 y6 y7 y8 y9 y10)) ∧ (∀ y0 y1 y2 y3 y4 y5 y6 y7 y8 y9 y10, LeC (diff_Apply.j5 k y0 y1 y2 y3 y4 y5 y6 y7 y8 y9 y10) (diff_Apply.j5 (k + 1) y0 y1 y2 y3 y4 y5 y6 y7 y8 y9 y10)) ∧ (∀ y0 y1 y2 y3 y4 y5 y6 y7 y8 y9, LeC (diff_Apply.l1 k y0 y1 y2 y3 y4 y5 y6 y7 y8 y9) (diff_Apply.l1 (k + 1) y0 y1 y2 y3 y4 y5 y6 y7 y8 y9))
 | 0 => ⟨fun _ _ _ => ⟨fun r h => by simp [diff_Apply.j0] at h⟩, fun _ _ _ _ _ => ⟨fun r h => by simp [diff_Apply.l0] at h⟩, fun _ _ _ _ _ _ _ _ _ _ => ⟨fun r h => by simp [diff_Apply.j3] at h⟩, fun _ _ _ _ _ _ _ _ _ _ _ => ⟨fun r h => by simp [diff_Apply.j4] at h⟩, fun _ _ _ _ _ _ _ _ _ _ _ => ⟨fun r h => by simp [diff_Apply.j5] at h⟩, fun _ _ _ _ _ _ _ _ _ _ => ⟨fun r h => by simp [diff_Apply.l1] at h⟩⟩
 | k + 1 => by obtain ⟨ih0, ih1, ih2, ih3, ih4, ih5⟩ := diff_Apply.mono_l k; exact ⟨fun _ _ _ => by unfold diff_Apply.j0; exact lm, fun _ _ _ _ _ => by unfold diff_Apply.l0; exact lm, fun _ _ _ _ _ _ _ _ _ _ => by unfold diff_Apply.j3; exact lm, fun _ _ _ _ _ _ _ _ _ _ _ => by unfold diff_Apply.j4; exact lm, fun _ _ _ _ _ _ _ _ _ _ _ => by unfold diff_Apply.j5; exact lm, fun _ _ _ _ _ _ _ _ _ _ => by unfold diff_Apply.l1; exact lm⟩
theorem diff_Apply.mono : ∀ a0 a1 k, LeO (diff_Apply.f k a0 a1) (diff_Apply.f (k + 1) a0 a1) := by
 intro a0 a1 k
 obtain ⟨ih0, ih1, ih2, ih3, ih4, ih5⟩ := diff_Apply.mono_l k
 unfold diff_Apply.f
 exact lo
instance diff_Apply.mI {a0 a1 k} : LeC (diff_Apply.f k a0 a1) (diff_Apply.f (k + 1) a0 a1) := ⟨diff_Apply.mono _ _ _⟩
def diff_Apply.T8 : Bool × List (List Nat × List Nat) := (true, [([], []), ([0], [0]), ([1], [1]), ([2], [2]), ([3], [3]), ([4, 3], [3, 4]), ([5, 3], [3, 5]), ([3], [3]), ([7, 3], [3, 7]), ([6, 8, 3, 3], [3, 6, 8]), ([3, 9], [3, 9])])
def diff_Apply.B8 : List Nat := [0, 1, 3, 7, 15, 31, 63, 15, 143, 511, 1023]
theorem diff_Apply.tab8 : rtab .any (opsOf Tryz.f17 8) = diff_Apply.T8 := by kernel_rfl
theorem diff_Apply.bits8 : waitsOk diff_Apply.T8.2 diff_Apply.B8 = true := by kernel_rfl
def diff_Apply.T9 : Bool × List (List Nat × List Nat) := (true, [([], []), ([], []), ([1], [1]), ([2], [2]), ([3], [3]), ([0, 4], [0, 4]), ([], []), ([6], [6]), ([5, 5, 0, 1, 2, 3, 4, 5], [0, 5]), ([7, 8, 0, 1, 2, 3, 4, 5, 6, 7, 8], [1, 6, 7])])
def diff_Apply.B9 : List Nat := [0, 0, 2, 6, 14, 31, 0, 64, 63, 511]
theorem diff_Apply.tab9 : rtab .any (opsOf Tryz.f17 9) = diff_Apply.T9 := by kernel_rfl
theorem diff_Apply.bits9 : waitsOk diff_Apply.T9.2 diff_Apply.B9 = true := by kernel_rfl
def diff_Apply.T10 : Bool × List (List Nat × List Nat) := (true, [([], []), ([0], [0]), ([1], [1]), ([2], [2]), ([3], [3]), ([4, 3], [3, 4]), ([3], [3]), ([6, 3], [3, 6]), ([7, 3], [3, 7]), ([5, 8, 3, 3], [3, 5, 8]), ([9, 3], [3, 9]), ([3, 10], [3, 10]), ([11, 9, 0, 1, 2, 3, 4, 5, 6, 7, 8, 9, 10, 11], [11])])
def diff_Apply.B10 : List Nat := [0, 1, 3, 7, 15, 31, 15, 79, 207, 511, 1023, 2047, 4095]
theorem diff_Apply.tab10 : rtab .any (opsOf Tryz.f17 10) = diff_Apply.T10 := by kernel_rfl
theorem diff_Apply.bits10 : waitsOk diff_Apply.T10.2 diff_Apply.B10 = true := by kernel_rfl
theorem diff_Apply.calls (k : Nat) (P0_ : Nat → Prop) (A0 : Option Addr) (c0 : Nat) (l0 : List (S45)) (A1 : Option Addr) (c1 : Nat) (l1 : List (S48)) (r1 : List (S45)) (r2 : Int) (w : World) (hs0 : Kd.V k45 45 w w.heap.size (fun k_ => P0_ k_) (.slice A0 l0.length c0) l0) (hr1 : Kd.C k48 w A1 l1.length l1) (hc1 : l1.length ≤ c1) (hL : LD w) (h : diff_Apply.f k l0 l1 = some (r1, r2)) :
 Calls Tryz.prog 17 #[.slice A0 l0.length c0, .slice A1 l1.length c1] w fun e w' => ∃ v0_ : Value, e = .returned (.tuple #[v0_, .int .i64 r2]) ∧ Kd.R k45 45 w' w.heap.size (fun k_ => (w.heap.size ≤ k_)) v0_ r1 ∧ Below w.heap.size w w' := by
 have HL0 := Aside0.mk hL
 clear hL
 have hu48 := Tryz.underlying48
 have hu45 := Tryz.underlying45
 have HO0 := Aside0.mk (show Kd.V k45 45 w w.heap.size (fun k_ => (P0_ k_ ∨ w.heap.size ≤ k_)) (.slice A0 l0.length c0) l0 from Kd.V_mono hs0 (fun k_ hk => .inl hk))
 have HR1 := Aside0.mk hr1
 have HC1 := Aside0.mk hc1
 clear hr1 hc1
 have HB := Aside0.mk (Below.refl w.heap.size w)
 have H : ((row_Right.f k l0).bind fun t445 => (if t445 = true then ((diff_right.f k l1).bind fun t446 => (diff_Apply.j0 k l0 l1 (!t446))) else (diff_Apply.j0 k l0 l1 true))) = some (r1, r2) := h
 clear h
 have HC3 := Aside0.mk H
 clear H
 go_enter Tryz.func17, Tryz.ntmps17
 go_upto_region 1 with (fail)
 go_cut [18] (fun v18 wc => ∃ (kq : Nat) (x18_2 : Bool), v18 = .bool x18_2 ∧ Aside0 (diff_Apply.j0 kq l0 l1 x18_2 = some (r1, r2)) ∧ Aside0 (kq ≤ k) ∧ Aside0 (Kd.V k45 45 wc w.heap.size (fun k_ => (P0_ k_ ∨ w.heap.size ≤ k_)) (.slice A0 l0.length c0) l0) ∧ Aside0 (Below w.heap.size w wc))
 case first =>
  have H := HC3.out
  clear HC3
  obtain ⟨t445, A4, H⟩ := bs H
  try dsimp only at H
  by_cases c5 : t445 = true
  ·
   subst c5
   rw [if_pos rfl] at H
   obtain ⟨t446, A6, H⟩ := bs H
   try dsimp only at H
   have H' := Aside0.mk H
   clear H
   go_wp2_with (first | (refine gL (some 12) rfl Tryz.func24 #[.slice A0 l0.length c0] ?_; (with_reducible refine (row_Right.calls (hL := ld) k _ _ l0 true _ ?side1 ?side2 A4.out).mono ?_); (case side1 => exact uC <| (Kd.V_reads' HO0.out).2.2); (case side2 => exact (Kd.V_reads' HO0.out).2.1); rintro e w7 ⟨rfl, hb⟩; refine ⟨_, rfl, ?_⟩; replace HO0 := cV HO0 hb; replace HB := cW HB hb; (try clear hb)) | (go_at_call 36; (with_reducible refine (diff_right.calls (hL := ld) k _ _ l1 t446 _ ?side1 ?side2 A6.out).mono ?_); (case side1 => exact uC <| (Kd.C_below HR1.out HB.out)); (case side2 => exact HC1.out); rintro e w8 ⟨rfl, hb⟩; replace HO0 := cV HO0 hb; replace HB := cW HB hb; (try clear hb)))
   go_meet
   case rel => exact ⟨_, (!t446), rs_, H', ⟨by first | omega | exact Nat.le_refl _⟩, ⟨uV HO0.out⟩, ⟨uW HB.out⟩⟩
  ·
   replace c5 := Bool.eq_false_iff.mpr c5
   subst c5
   rw [if_neg (show ¬ (false = true) by decide)] at H
   have H' := Aside0.mk H
   clear H
   go_wp2_with (first | (refine gL (some 12) rfl Tryz.func24 #[.slice A0 l0.length c0] ?_; (with_reducible refine (row_Right.calls (hL := ld) k _ _ l0 false _ ?side1 ?side2 A4.out).mono ?_); (case side1 => exact uC <| (Kd.V_reads' HO0.out).2.2); (case side2 => exact (Kd.V_reads' HO0.out).2.1); rintro e w9 ⟨rfl, hb⟩; refine ⟨_, rfl, ?_⟩; replace HO0 := cV HO0 hb; replace HB := cW HB hb; (try clear hb)))
   go_meet
   case rel => exact ⟨_, (true), rs_, H', ⟨by first | omega | exact Nat.le_refl _⟩, ⟨uV HO0.out⟩, ⟨uW HB.out⟩⟩
 case rest =>
  clear HC3
  try clear c1
  try clear c2
  try clear p2
  try clear c5
  obtain ⟨kq, x18_2, rfl, HA, HJ2, HO_0, HB⟩ := hcut
  cases kq with
  | zero => exact absurd HA.out (by simp [diff_Apply.j0])
  | succ kj2 =>
   have H := HA.out
   clear HA
   simp only [diff_Apply.j0] at H
   by_cases c10 : x18_2 = true
   ·
    subst c10
    rw [if_pos rfl] at H
    simp only [Option.some.injEq, Prod.mk.injEq] at H
    obtain ⟨rfl, rfl⟩ := H
    go_wp2
    go_ret2
    exact ⟨_, re_, nl_, uW HB.out⟩
   ·
    replace c10 := Bool.eq_false_iff.mpr c10
    subst c10
    rw [if_neg (show ¬ (false = true) by decide)] at H
    have H' := Aside0.mk H
    clear H
    go_wp2
    go_loopg [6, 7, 22] kj2 (fun kq v6 v7 v22 w' => ∃ (x6_2 : List (S45)) (x7_2 : List (S45)) (x22_2 : Int), v22 = .int .i64 x22_2 ∧ Aside0 (diff_Apply.l0 kq x6_2 x7_2 l1 (l1.length : Int) x22_2 = some (r1, r2)) ∧ Aside0 (kq ≤ kj2) ∧ Aside0 (Kd.R k45 45 w' w.heap.size (fun k_ => (w.heap.size ≤ k_)) v6 x6_2) ∧ Aside0 (Kd.V k45 45 w' w.heap.size (fun k_ => (P0_ k_ ∨ w.heap.size ≤ k_) ∧ some k_ ≠ (v6 : Value).ownBlock) v7 x7_2) ∧ Aside0 (Below w.heap.size w w'))
    case atStart => exact ⟨(([] : List (S45))), (l0), (0), rs_, H', ⟨Nat.le_refl _⟩, ⟨nl_⟩, ⟨by exact uV <| Kd.V_mono HO_0.out (fun _ hk => ⟨hk, (by simp [Value.ownBlock])⟩)⟩, ⟨uW HB.out⟩⟩
    case round =>
     clear H'
     try clear c1
     try clear c2
     try clear p2
     try clear c5
     try clear c10
     try clear p2
     obtain ⟨x6_2, x7_2, x22_2, rfl, HA, HK2, HO_6, HO_7, HB⟩ := hrel
     cases gk with
     | zero => exact absurd HA.out (by simp [diff_Apply.l0])
     | succ k2 =>
      have H := HA.out
      clear HA
      simp only [diff_Apply.l0] at H
      by_cases c11 : x22_2 < (l1.length : Int)
      ·
       rw [if_pos c11] at H
       have c11b0 : decide (x22_2 < (l1.length : Int)) = true := decide_eq_true c11
       clear c11
       obtain ⟨c12b0, H⟩ := gdd H
       obtain ⟨c13b0, H⟩ := gdd H
       have HC14 := Aside0.mk H
       clear H
       have p450 : 0 ≤ (x22_2 : Int) := od
       have q450 : x22_2 < (l1.length : Int) := od
       obtain ⟨ad450, e450, hx450_0, hx450_1, hx450_2, hx450_3, hx450_4⟩ := at_T48 HR1.out x22_2 p450 q450
       cases e450
       replace hx450_0 := kc HB hx450_0
       replace hx450_1 := kc HB hx450_1
       replace hx450_2 := kc HB hx450_2
       replace hx450_3 := kc HB hx450_3
       replace hx450_4 := kc HB hx450_4
       replace p450 := eq_true p450
       replace q450 := eq_true q450
       go_upto_block 2 with (first | ((with_reducible refine gate_dst (N := 9) rfl ?_); refine bx (N := 9) #[.int .i64 0, .string (⟨#[]⟩ : ByteArray), .int .i64 0, .bool false, .bool false] 48 ?_; intro gb451 hg w15 hbox hb; replace HO_6 := cR HO_6 hb; replace HO_7 := Aside0.mk (Kd.V_below (Kd.V_elderB (uV HO_7.out) gb451 (Nat.le_of_eq hg.symm)) hb); have BK451 := Aside0.mk (hbox); have GW451 := gw hg (uW HB.out); have GE451 := GW451; replace HB := cW HB hb; clear hb hbox hg; obtain ⟨hcz16_0, hcz16_1, hcz16_2, hcz16_3, hcz16_4, hfz16_0, hfz16_1, hfz16_2, hfz16_3, hfz16_4⟩ := z5 BK451) | ((with_reducible refine gate_store (t := 48) (p := 9) rfl ?_); refine store_event (t := 48) (p := 9) (v := ?vo_w17) (w1 := (((((w15.setCell ⟨gb451, 0, none⟩ (.int .i64 ((rd_T48 l1 x22_2).f0.f0))).setCell ⟨gb451, 1, none⟩ (.string ((rd_T48 l1 x22_2).f0.f1))).setCell ⟨gb451, 2, none⟩ (.int .i64 ((rd_T48 l1 x22_2).f0.f2.f0))).setCell ⟨gb451, 3, none⟩ (.bool ((rd_T48 l1 x22_2).f0.f2.f1))).setCell ⟨gb451, 4, none⟩ (.bool ((rd_T48 l1 x22_2).f1)))) ?hg ?ho ?hn ?hr ?_; (case ho => rfl); (case hg => rfl); (case hn => rfl); (case hr => first | (go_simp; done) | (go_simp; rfl)); intro w17 hw; have n0_ : Aside0 (Kd.R k45 45 w17 w.heap.size (fun k_ => (w.heap.size ≤ k_)) u6 x6_2) := ⟨(by rw [hw]; exact (by exact uR <| Kd.R_mono (Kd.R_far (p := ⟨gb451, 4, none⟩) (Kd.R_far (p := ⟨gb451, 3, none⟩) (Kd.R_far (p := ⟨gb451, 2, none⟩) (Kd.R_far (p := ⟨gb451, 1, none⟩) (Kd.R_far (p := ⟨gb451, 0, none⟩) (Kd.R_types HO_6.out BK451.out (by decide)) (fun _ hk => hk.2) (.int .i64 ((rd_T48 l1 x22_2).f0.f0))) (fun _ hk => hk.2) (.string ((rd_T48 l1 x22_2).f0.f1))) (fun _ hk => hk.2) (.int .i64 ((rd_T48 l1 x22_2).f0.f2.f0))) (fun _ hk => hk.2) (.bool ((rd_T48 l1 x22_2).f0.f2.f1))) (fun _ hk => hk.2) (.bool ((rd_T48 l1 x22_2).f1))) (fun _ hk => hk.1)))⟩; have n1_ : Aside0 (Kd.V k45 45 w17 w.heap.size (fun k_ => (P0_ k_ ∨ w.heap.size ≤ k_) ∧ some k_ ≠ (u6 : Value).ownBlock ∧ k_ ≠ gb451) u7 x7_2) := ⟨(by rw [hw]; exact (by exact uV <| Kd.V_mono (Kd.V_far (p := ⟨gb451, 4, none⟩) (Kd.V_far (p := ⟨gb451, 3, none⟩) (Kd.V_far (p := ⟨gb451, 2, none⟩) (Kd.V_far (p := ⟨gb451, 1, none⟩) (Kd.V_far (p := ⟨gb451, 0, none⟩) (Kd.V_mono HO_7.out (fun k_ hk => (⟨hk, hk.2⟩ : _ ∧ k_ ≠ gb451))) (fun _ hk => hk.2) (.int .i64 ((rd_T48 l1 x22_2).f0.f0))) (fun _ hk => hk.2) (.string ((rd_T48 l1 x22_2).f0.f1))) (fun _ hk => hk.2) (.int .i64 ((rd_T48 l1 x22_2).f0.f2.f0))) (fun _ hk => hk.2) (.bool ((rd_T48 l1 x22_2).f0.f2.f1))) (fun _ hk => hk.2) (.bool ((rd_T48 l1 x22_2).f1))) (fun _ hk => ⟨hk.1.1.1, ⟨hk.1.1.2, hk.1.2⟩⟩)))⟩; have n2_ : Aside0 (w17.heap[gb451]? = some (.cells #[.int .i64 ((rd_T48 l1 x22_2).f0.f0), .string ((rd_T48 l1 x22_2).f0.f1), .int .i64 ((rd_T48 l1 x22_2).f0.f2.f0), .bool ((rd_T48 l1 x22_2).f0.f2.f1), .bool ((rd_T48 l1 x22_2).f1)] 48 (0, 0))) := ⟨(by rw [hw]; exact (by (with_reducible repeat (first | refine blk_drewN ?_ _ | refine blk_drew ?_ | refine blk_alloc ?_ _)); refine blk_put (cs := #[.int .i64 ((rd_T48 l1 x22_2).f0.f0), .string ((rd_T48 l1 x22_2).f0.f1), .int .i64 ((rd_T48 l1 x22_2).f0.f2.f0), .bool ((rd_T48 l1 x22_2).f0.f2.f1), .bool false]) ?_ 4 _ rfl; (with_reducible repeat (first | refine blk_drewN ?_ _ | refine blk_drew ?_ | refine blk_alloc ?_ _)); refine blk_put (cs := #[.int .i64 ((rd_T48 l1 x22_2).f0.f0), .string ((rd_T48 l1 x22_2).f0.f1), .int .i64 ((rd_T48 l1 x22_2).f0.f2.f0), .bool false, .bool false]) ?_ 3 _ rfl; (with_reducible repeat (first | refine blk_drewN ?_ _ | refine blk_drew ?_ | refine blk_alloc ?_ _)); refine blk_put (cs := #[.int .i64 ((rd_T48 l1 x22_2).f0.f0), .string ((rd_T48 l1 x22_2).f0.f1), .int .i64 0, .bool false, .bool false]) ?_ 2 _ rfl; (with_reducible repeat (first | refine blk_drewN ?_ _ | refine blk_drew ?_ | refine blk_alloc ?_ _)); refine blk_put (cs := #[.int .i64 ((rd_T48 l1 x22_2).f0.f0), .string (⟨#[]⟩ : ByteArray), .int .i64 0, .bool false, .bool false]) ?_ 1 _ rfl; (with_reducible repeat (first | refine blk_drewN ?_ _ | refine blk_drew ?_ | refine blk_alloc ?_ _)); refine blk_put (cs := #[.int .i64 0, .string (⟨#[]⟩ : ByteArray), .int .i64 0, .bool false, .bool false]) ?_ 0 _ rfl; exact uB <| BK451.out))⟩; have n3_ : Aside0 (Below w.heap.size w w17) := ⟨(by rw [hw]; exact bl)⟩; clear hw; clear HO_6; clear HO_7; clear BK451; clear HB; have HO_6 := n0_; have HO_7 := n1_; have BK451 := n2_; have HB := n3_; clear n0_ n1_ n2_ n3_))
       (try simp only [Act.put, List.setIfInBounds_toArray, List.set_cons_zero, List.set_cons_succ])
       go_cut [6, 7] (fun v6 v7 wc => ∃ (kq : Nat) (x6_13 : List (S45)) (x7_13 : List (S45)), Aside0 (diff_Apply.j3 kq x6_13 x7_13 l1 (l1.length : Int) x22_2 ((rd_T48 l1 x22_2).f0.f0) ((rd_T48 l1 x22_2).f0.f1) ((rd_T48 l1 x22_2).f0.f2.f0) ((rd_T48 l1 x22_2).f0.f2.f1) ((rd_T48 l1 x22_2).f1) = some (r1, r2)) ∧ Aside0 (kq ≤ k2) ∧ Aside0 (Kd.R k45 45 wc w.heap.size (fun k_ => (w.heap.size ≤ k_)) v6 x6_13) ∧ Aside0 (Kd.V k45 45 wc w.heap.size (fun k_ => (P0_ k_ ∨ w.heap.size ≤ k_) ∧ some k_ ≠ (v6 : Value).ownBlock ∧ k_ ≠ gb451) v7 x7_13) ∧ Aside0 (wc.heap[gb451]? = some (.cells #[.int .i64 ((rd_T48 l1 x22_2).f0.f0), .string ((rd_T48 l1 x22_2).f0.f1), .int .i64 ((rd_T48 l1 x22_2).f0.f2.f0), .bool ((rd_T48 l1 x22_2).f0.f2.f1), .bool ((rd_T48 l1 x22_2).f1)] 48 (0, 0))) ∧ Aside0 (Below w.heap.size w wc))
       case first =>
        have H := HC14.out
        clear HC14
        have H' := Aside0.mk H
        clear H
        go_wp2
        go_loopg [6, 7] k2 (fun kq v6 v7 w' => ∃ (x6_3 : List (S45)) (x7_3 : List (S45)), Aside0 (diff_Apply.l1 kq x6_3 x7_3 l1 (l1.length : Int) x22_2 ((rd_T48 l1 x22_2).f0.f0) ((rd_T48 l1 x22_2).f0.f1) ((rd_T48 l1 x22_2).f0.f2.f0) ((rd_T48 l1 x22_2).f0.f2.f1) ((rd_T48 l1 x22_2).f1) = some (r1, r2)) ∧ Aside0 (kq ≤ k2) ∧ Aside0 (Kd.R k45 45 w' w.heap.size (fun k_ => (w.heap.size ≤ k_)) v6 x6_3) ∧ Aside0 (Kd.V k45 45 w' w.heap.size (fun k_ => (P0_ k_ ∨ w.heap.size ≤ k_) ∧ some k_ ≠ (v6 : Value).ownBlock ∧ k_ ≠ gb451) v7 x7_3) ∧ Aside0 (w'.heap[gb451]? = some (.cells #[.int .i64 ((rd_T48 l1 x22_2).f0.f0), .string ((rd_T48 l1 x22_2).f0.f1), .int .i64 ((rd_T48 l1 x22_2).f0.f2.f0), .bool ((rd_T48 l1 x22_2).f0.f2.f1), .bool ((rd_T48 l1 x22_2).f1)] 48 (0, 0))) ∧ Aside0 (Below w.heap.size w w'))
        case atStart => exact ⟨(x6_2), (x7_2), H', ⟨Nat.le_refl _⟩, ⟨uR HO_6.out⟩, ⟨uV HO_7.out⟩, ⟨uB BK451.out⟩, ⟨bl⟩⟩
        case round =>
         clear H'
         try clear c1
         try clear c2
         try clear p2
         try clear p4
         try clear q4
         try clear hx4
         try clear c5
         try clear c10
         try clear c11
         try clear c11b0
         try clear c12
         try clear c12b0
         try clear c13
         try clear c13b0
         try clear c17
         try clear hcz16_0
         try clear hcz16_1
         try clear hcz16_2
         try clear hcz16_3
         try clear hcz16_4
         try clear hfz16_0
         try clear hfz16_1
         try clear hfz16_2
         try clear hfz16_3
         try clear hfz16_4
         try clear hx450_0
         try clear hx450_1
         try clear hx450_2
         try clear hx450_3
         try clear hx450_4
         try clear p2
         try clear p450
         try clear q450
         obtain ⟨x6_3, x7_3, HA, HK3, HO_6, HO_7, BK451, HB⟩ := hrel
         cases gk with
         | zero => exact absurd HA.out (by simp [diff_Apply.l1])
         | succ k3 =>
          have H := HA.out
          clear HA
          simp only [diff_Apply.l1] at H
          by_cases c18 : (x7_3.length : Int) > 0
          ·
           rw [if_pos c18] at H
           have c18b0 : decide (0 < (x7_3.length : Int)) = true := decide_eq_true c18
           have c18b1 : decide (0 < x7_3.length) = true := decide_eq_true (by omega)
           clear c18
           (first | rw [c18b0] | (simp only [i64_w, i32_w]; rw [c18b0]) | skip)
           obtain ⟨c19, H⟩ := gd H
           have c19b0 : decide (0 < (x7_3.length : Int)) = true := decide_eq_true c19
           have c19b1 : decide (0 < x7_3.length) = true := decide_eq_true (by omega)
           clear c19
           obtain ⟨t453, A20, H⟩ := bs H
           try dsimp only at H
           by_cases c21 : t453 = true
           ·
            subst c21
            rw [if_pos rfl] at H
            obtain ⟨c22, H⟩ := gd H
            have LMc22 := Aside0.mk c22
            clear c22
            obtain ⟨y455, hy455⟩ : ∃ y_ : List (S45), y_ = (x6_3 ++ [(⟨(rd_T45 x7_3 0).f0, (rd_T45 x7_3 0).f1, (⟨(rd_T45 x7_3 0).f2.f0, (rd_T45 x7_3 0).f2.f1⟩ : S43)⟩ : S45)]) := ⟨_, rfl⟩
            replace H : (if 1 ≤ (x7_3.length : Int) then (diff_Apply.l1 k3 y455 (x7_3.drop 1) l1 (l1.length : Int) x22_2 ((rd_T48 l1 x22_2).f0.f0) ((rd_T48 l1 x22_2).f0.f1) ((rd_T48 l1 x22_2).f0.f2.f0) ((rd_T48 l1 x22_2).f0.f2.f1) ((rd_T48 l1 x22_2).f1)) else (none)) = some (r1, r2) := by first | (rw [hy455]; with_reducible exact H) | (have H2_ := (Option.bind_some _ _).symm.trans H; rw [hy455]; with_reducible exact H2_) | (have H2_ := (Option.bind_some _ _).symm.trans H; with_reducible exact H2_) | with_reducible exact H | (rw [hy455]; exact H) | exact H
            have Ny455 := Aside0.mk hy455
            clear hy455
            obtain ⟨c23, H⟩ := gd H
            have c23b0 := eq_true c23
            have c23b1 : decide (1 ≤ (x7_3.length : Int)) = true := decide_eq_true c23
            clear c23
            obtain ⟨y458, hy458⟩ : ∃ y_ : List (S45), y_ = (x7_3.drop 1) := ⟨_, rfl⟩
            replace H : (diff_Apply.l1 k3 y455 y458 l1 (l1.length : Int) x22_2 ((rd_T48 l1 x22_2).f0.f0) ((rd_T48 l1 x22_2).f0.f1) ((rd_T48 l1 x22_2).f0.f2.f0) ((rd_T48 l1 x22_2).f0.f2.f1) ((rd_T48 l1 x22_2).f1)) = some (r1, r2) := by first | (rw [hy458]; with_reducible exact H) | (have H2_ := (Option.bind_some _ _).symm.trans H; rw [hy458]; with_reducible exact H2_) | (have H2_ := (Option.bind_some _ _).symm.trans H; with_reducible exact H2_) | with_reducible exact H | (rw [hy458]; exact H) | exact H
            have Ny458 := Aside0.mk hy458
            clear hy458
            have H' := Aside0.mk H
            clear H
            try go_wp2
            replace HO_6 := Aside0.mk (Kd.R_drew HO_6.out)
            replace HO_7 := Aside0.mk (Kd.V_drew HO_7.out)
            replace BK451 := Aside0.mk (blk_drew BK451.out)
            replace HB := Aside0.mk (below_drew1 HB.out)
            obtain ⟨Ao25, co25, eo25⟩ := Kd.V_slice HO_7.out
            (first | subst eo25 | (injection eo25 with f1_ f2_ f3_; have f4_ := f1_.symm; have f5_ := f3_.symm; clear f1_ f2_ f3_; subst f4_; subst f5_))
            have p452 : 0 ≤ (0 : Int) := (by omega)
            have q452 : 0 < (x7_3.length : Int) := od
            obtain ⟨ad452, e452, hx452_0, hx452_1, hx452_2, hx452_3⟩ := at_T45 (Kd.V_reads' HO_7.out).2.2 0 p452 q452
            cases e452
            have qi452 : (0 < x7_3.length) = True := eq_true (by omega)
            (try rw [show ((0 : Int)).toNat = 0 from rfl] at hx452_0)
            (try rw [show 0 * 4 = 0 from rfl] at hx452_0)
            (try rw [Addr.add_zero'] at hx452_0)
            (try rw [show ((0 : Int)).toNat = 0 from rfl] at hx452_1)
            (try rw [show 0 * 4 = 0 from rfl] at hx452_1)
            (try rw [Addr.add_zero'] at hx452_1)
            (try rw [show ((0 : Int)).toNat = 0 from rfl] at hx452_2)
            (try rw [show 0 * 4 = 0 from rfl] at hx452_2)
            (try rw [Addr.add_zero'] at hx452_2)
            (try rw [show ((0 : Int)).toNat = 0 from rfl] at hx452_3)
            (try rw [show 0 * 4 = 0 from rfl] at hx452_3)
            (try rw [Addr.add_zero'] at hx452_3)
            replace p452 := eq_true p452
            replace q452 := eq_true q452
            refine start_ (n := 11) (S := fun w' => w'.cell? ⟨gb451, 0, none⟩ = some (.int .i64 ((rd_T48 l1 x22_2).f0.f0)) ∧ w'.cell? ⟨gb451, 1, none⟩ = some (.string ((rd_T48 l1 x22_2).f0.f1)) ∧ w'.cell? ⟨gb451, 2, none⟩ = some (.int .i64 ((rd_T48 l1 x22_2).f0.f2.f0)) ∧ w'.cell? ⟨gb451, 3, none⟩ = some (.bool ((rd_T48 l1 x22_2).f0.f2.f1)) ∧ w'.cell? ⟨gb451, 4, none⟩ = some (.bool ((rd_T48 l1 x22_2).f1)) ∧ w'.cell? ad452 = some (.int .i64 ((rd_T45 x7_3 0).f0)) ∧ w'.cell? ⟨ad452.block, ad452.off + 1, none⟩ = some (.string ((rd_T45 x7_3 0).f1)) ∧ w'.cell? ⟨ad452.block, ad452.off + 2, none⟩ = some (.int .i64 ((rd_T45 x7_3 0).f2.f0)) ∧ w'.cell? ⟨ad452.block, ad452.off + 3, none⟩ = some (.bool ((rd_T45 x7_3 0).f2.f1))) (ds := []) _ (by kernel_rfl) rfl rfl ⟨(blk_cell BK451.out 0).trans rfl, (blk_cell BK451.out 1).trans rfl, (blk_cell BK451.out 2).trans rfl, (blk_cell BK451.out 3).trans rfl, (blk_cell BK451.out 4).trans rfl, hx452_0, hx452_1, hx452_2, hx452_3⟩ (fun hHeld => ?_); refine with_tabW diff_Apply.tab8 diff_Apply.bits8 (fun HT_ HW_ => ?_)
            generalize wr.drew = w24 at HO_6 HO_7 BK451 HB hx452_0 hx452_1 hx452_2 hx452_3 hHeld ⊢
            refine p1 0 (some 26) ?_
            refine p1 1 (some 27) ?_
            refine p1 2 (some 28) ?_
            refine p1 3 (some 29) ?_
            refine p1 4 (some 30) ?_
            refine p1 5 (some 31) ?_
            refine p1 7 (some 33) ?_
            refine t1 6 (some 32) rfl rfl hHeld (Or.inl ⟨by rfl, by rintro w' ⟨s0, s1, s2, s3, s4, s5, s6, s7, s8⟩; go_simp; with_reducible rfl⟩) ?_
            refine t1 8 (some 34) rfl rfl hHeld (Or.inl ⟨by rfl, by rintro w' ⟨s0, s1, s2, s3, s4, s5, s6, s7, s8⟩; go_simp; with_reducible rfl⟩) ?_
            refine o1 9 (some 35) rfl rfl (fun K hK => ?_)
            refine gS Tryz.func25 #[.agg #[.int .i64 ((rd_T45 x7_3 0).f0), .string ((rd_T45 x7_3 0).f1), .int .i64 ((rd_T45 x7_3 0).f2.f0), .bool ((rd_T45 x7_3 0).f2.f1)], .agg #[.int .i64 ((rd_T48 l1 x22_2).f0.f0), .string ((rd_T48 l1 x22_2).f0.f1), .int .i64 ((rd_T48 l1 x22_2).f0.f2.f0), .bool ((rd_T48 l1 x22_2).f0.f2.f1)]] ?_
            with_reducible refine (row_Before.calls k3 ((rd_T45 x7_3 0).f0) ((rd_T45 x7_3 0).f1) ((rd_T45 x7_3 0).f2.f0) ((rd_T45 x7_3 0).f2.f1) ((rd_T48 l1 x22_2).f0.f0) ((rd_T48 l1 x22_2).f0.f1) ((rd_T48 l1 x22_2).f0.f2.f0) ((rd_T48 l1 x22_2).f0.f2.f1) true _ A20.out).mono ?_
            rintro e w26 ⟨rfl, hb⟩
            have HS5_ := (hb.cell (World.block_lt_of_cell? _ _ (hHeld.2.2.2.2.2.1))).trans (hHeld.2.2.2.2.2.1)
            have HS6_ := (hb.cell (World.block_lt_of_cell? _ _ (hHeld.2.2.2.2.2.2.1))).trans (hHeld.2.2.2.2.2.2.1)
            have HS7_ := (hb.cell (World.block_lt_of_cell? _ _ (hHeld.2.2.2.2.2.2.2.1))).trans (hHeld.2.2.2.2.2.2.2.1)
            have HS8_ := (hb.cell (World.block_lt_of_cell? _ _ (hHeld.2.2.2.2.2.2.2.2))).trans (hHeld.2.2.2.2.2.2.2.2)
            refine ⟨_, rfl, ?_⟩
            replace HO_6 := cR HO_6 hb
            replace HO_7 := cV HO_7 hb
            replace BK451 := cB BK451 hb
            replace HB := Aside0.mk (below_step bl hb)
            (try clear hb)
            refine hK.out _ _ ⟨(blk_cell BK451.out 0).trans rfl, (blk_cell BK451.out 1).trans rfl, (blk_cell BK451.out 2).trans rfl, (blk_cell BK451.out 3).trans rfl, (blk_cell BK451.out 4).trans rfl, HS5_, HS6_, HS7_, HS8_⟩ (fun hHeld => ?_)
            clear hK K
            refine norm_ (a' := ?_) ?_ ?_
            rotate_left
            ·
             show Act.put _ (some 35) _ = _
             simp only [Act.put, List.setIfInBounds_toArray, List.set_cons_zero, List.set_cons_succ, i64_w, i32_w]
             rfl
            refine p1 10 (some 36) ?_
            refine done_ (done_of HT_.out (by kernel_rfl)) ?_
            try go_wp2
            replace HO_6 := Aside0.mk (Kd.R_drew HO_6.out)
            replace HO_7 := Aside0.mk (Kd.V_drew HO_7.out)
            replace BK451 := Aside0.mk (blk_drew BK451.out)
            replace HB := Aside0.mk (below_drew1 HB.out)
            have p454 : 0 ≤ (0 : Int) := (by omega)
            have q454 : 0 < (x7_3.length : Int) := od
            obtain ⟨ad454, e454, hx454_0, hx454_1, hx454_2, hx454_3⟩ := at_T45 (Kd.V_reads' HO_7.out).2.2 0 p454 q454
            obtain rfl : ad452 = ad454 := (by injection e454)
            have qi454 : (0 < x7_3.length) = True := eq_true (by omega)
            (try rw [show ((0 : Int)).toNat = 0 from rfl] at hx454_0)
            (try rw [show 0 * 4 = 0 from rfl] at hx454_0)
            (try rw [Addr.add_zero'] at hx454_0)
            (try rw [show ((0 : Int)).toNat = 0 from rfl] at hx454_1)
            (try rw [show 0 * 4 = 0 from rfl] at hx454_1)
            (try rw [Addr.add_zero'] at hx454_1)
            (try rw [show ((0 : Int)).toNat = 0 from rfl] at hx454_2)
            (try rw [show 0 * 4 = 0 from rfl] at hx454_2)
            (try rw [Addr.add_zero'] at hx454_2)
            (try rw [show ((0 : Int)).toNat = 0 from rfl] at hx454_3)
            (try rw [show 0 * 4 = 0 from rfl] at hx454_3)
            (try rw [Addr.add_zero'] at hx454_3)
            replace p454 := eq_true p454
            replace q454 := eq_true q454
            have q28 : (1 : Int) ≤ ((x7_3.length : Int) : Int) := od
            obtain ⟨i028, hi028, _, hsz28, _⟩ := info_parts info45
            have hroom28 : x7_3.length ≤ co25 := (Kd.V_reads' HO_7.out).2.1
            have hC28 : Kd.F k45 _ _ (some ad452) x7_3.length x7_3 := (Kd.V_at (base := w.heap.size) HO_7.out).2.2
            have hcut28 := cut_from (P := Tryz.prog) 22 45 .i64 Tryz.underlying22 hi028 4 hsz28 (some ad452) x7_3.length co25 1 (by omega) q28
            have hr28 := Kd.F_cut (m := (1 : Int).toNat) (c := co25) hC28 (by omega) hroom28
            obtain ⟨A28, hA28⟩ : ∃ A1, A1 = (if co25 = (1 : Int).toNat then (some ad452) else ((some ad452) : Option Addr).map (·.add ((1 : Int).toNat * 4))) := ⟨_, rfl⟩
            obtain ⟨c28, hc28⟩ : ∃ c1, c1 = co25 - (1 : Int).toNat := ⟨_, rfl⟩
            have hy28 : y458.length = x7_3.length - (1 : Int).toNat := (by rw [Ny458.out, List.length_drop] <;> omega)
            rw [show (x7_3).drop (1 : Int).toNat = y458 from Ny458.out.symm] at hr28
            replace hr28 : Kd.F k45 _ _ A28 y458.length y458 := (by rw [hA28]; exact hr28)
            rw [← hy28, ← hA28, ← hc28] at hcut28
            have HO462 := Aside0.mk (show Kd.V k45 45 _ w.heap.size _ (.slice A28 y458.length c28) y458 from Kd.V_mk (by rw [hy28, hc28]; exact Nat.sub_le_sub_right hroom28 _) hr28)
            have HC462 := Aside0.mk (show y458.length ≤ c28 from by rw [hy28, hc28]; exact Nat.sub_le_sub_right hroom28 _)
            clear hr28 hC28 hroom28 hi028 hsz28 hc28
            have KY28 := Aside0.mk hy28
            have KA28 := Aside0.mk hA28
            clear hy28 hA28
            replace q28 := eq_true q28
            refine start_ (n := 10) (S := fun w' => w'.cell? ad452 = some (.int .i64 ((rd_T45 x7_3 0).f0)) ∧ w'.cell? ⟨ad452.block, ad452.off + 1, none⟩ = some (.string ((rd_T45 x7_3 0).f1)) ∧ w'.cell? ⟨ad452.block, ad452.off + 2, none⟩ = some (.int .i64 ((rd_T45 x7_3 0).f2.f0)) ∧ w'.cell? ⟨ad452.block, ad452.off + 3, none⟩ = some (.bool ((rd_T45 x7_3 0).f2.f1))) (ds := [4, 5]) _ (by kernel_rfl) rfl rfl ⟨hx454_0, hx454_1, hx454_2, hx454_3⟩ (fun hHeld => ?_); refine with_tabW diff_Apply.tab9 diff_Apply.bits9 (fun HT_ HW_ => ?_)
            generalize w26.drew = w27 at HO_6 HO_7 BK451 HB HO462 hx454_0 hx454_1 hx454_2 hx454_3 hHeld ⊢
            refine p1 0 (some 37) ?_
            refine p1 1 (some 38) ?_
            refine p1 2 (some 39) ?_
            refine p1 6 (some 43) ?_
            refine p1 7 (some 44) ?_
            refine t1 3 (some 40) rfl rfl hHeld (Or.inl ⟨by rfl, by rintro w' ⟨s0, s1, s2, s3⟩; go_simp; with_reducible rfl⟩) ?_
            refine l1_ 4 (some 41) rfl rfl (fun K hK => ?_)
            refine value_ (w1 := ?_) (v := ?_) (by rfl) rfl ?_ ?_
            rotate_left 2
            ·
             go_simp
             constructor
             ·
              rfl
             ·
              rfl
            refine hK.out _ _ ?_
            clear hK K
            refine norm_ (a' := ?_) ?_ ?_
            rotate_left
            ·
             show Act.put _ (some 41) _ = _
             simp only [Act.put, List.setIfInBounds_toArray, List.set_cons_zero, List.set_cons_succ, i64_w, i32_w]
             rfl
            refine l1_ 5 (some 42) rfl rfl (fun K hK => ?_)
            refine Kd.R_append_step k45 (w0 := w) w.heap.size (by rfl) (.tmp 37) (.tmp 41) 22 45 (.agg #[(.int .i64 0), (.string ⟨#[]⟩), (.int .i64 0), (.bool false)]) 40 rfl Tryz.underlying22 info45 rfl (by decide) (by omega) u6 x6_3 (⟨(rd_T45 x7_3 0).f0, (rd_T45 x7_3 0).f1, (⟨(rd_T45 x7_3 0).f2.f0, (rd_T45 x7_3 0).f2.f1⟩ : S43)⟩ : S45) [.int .i64 ((rd_T45 x7_3 0).f0), .string ((rd_T45 x7_3 0).f1), .int .i64 ((rd_T45 x7_3 0).f2.f0), .bool ((rd_T45 x7_3 0).f2.f1)] (fun k_ => (w.heap.size ≤ k_)) (fun _ => False) rfl rfl ?aP (fun _ hk => hk.elim) ?aF ?aO ?aB ?aS ?aL ?_
            (case aP => exact k45_mkM _ _ _ (⟨(rd_T45 x7_3 0).f0, (rd_T45 x7_3 0).f1, (⟨(rd_T45 x7_3 0).f2.f0, (rd_T45 x7_3 0).f2.f1⟩ : S43)⟩ : S45))
            (case aB => exact bl)
            (case aF => exact (fun k_ hk => (Nat.le_trans (below_size bl) hk)))
            (case aO => exact (uR HO_6.out))
            (case aS => exact (below_size bl))
            (case aL => have := LMc22.out; omega)
            intro v456 w29 ho hb hg hat
            rw [← Ny455.out] at ho
            replace HO_7 := Aside0.mk (Kd.V_afterv (ok := (fun k_ => (P0_ k_ ∨ w.heap.size ≤ k_) ∧ k_ ≠ gb451)) (by exact uV <| Kd.V_mono HO_7.out (fun _ hk => ⟨⟨hk.1, hk.2.2⟩, hk.2.1⟩)) hg hat)
            replace BK451 := Aside0.mk (blk_grown (g := gb451) (o := .cells #[.int .i64 ((rd_T48 l1 x22_2).f0.f0), .string ((rd_T48 l1 x22_2).f0.f1), .int .i64 ((rd_T48 l1 x22_2).f0.f2.f0), .bool ((rd_T48 l1 x22_2).f0.f2.f1), .bool ((rd_T48 l1 x22_2).f1)] 48 (0, 0)) (uB BK451.out) hg (Kd.R_ne HO_6.out BK451.out (by decide)))
            replace HO462 := Aside0.mk (Kd.V_afterv (ok := (fun k_ => (P0_ k_ ∨ w.heap.size ≤ k_) ∧ k_ ≠ gb451)) (by exact uV <| Kd.V_mono HO462.out (fun _ hk => ⟨⟨hk.1, hk.2.2⟩, hk.2.1⟩)) hg hat)
            replace HB := Aside0.mk (hb)
            have HO457 := Aside0.mk (ho)
            clear HO_6
            clear ho hb hg hat
            refine hK.out _ _ ?_
            clear hK K
            refine norm_ (a' := ?_) ?_ ?_
            rotate_left
            ·
             show Act.put _ (some 42) _ = _
             simp only [Act.put, List.setIfInBounds_toArray, List.set_cons_zero, List.set_cons_succ, i64_w, i32_w]
             rfl
            refine p1 8 (some 6) ?_
            refine p1 9 (some 7) ?_
            refine done_ (done_of HT_.out (by kernel_rfl)) ?_
            try go_wp2
            go_roundg k3
            case measure => have := HJ2.out; have := HK2.out; have := HK3.out; omega
            case rel => exact ⟨(y455), (y458), H', ⟨by have := HJ2.out; have := HK2.out; have := HK3.out; omega⟩, ⟨uR HO457.out⟩, ⟨by exact uV <| Kd.V_mono HO462.out (fun _ hk => ⟨hk.1.1, ⟨hk.2, hk.1.2⟩⟩)⟩, ⟨uB BK451.out⟩, ⟨bl⟩⟩
           ·
            replace c21 := Bool.eq_false_iff.mpr c21
            subst c21
            rw [if_neg (show ¬ (false = true) by decide)] at H
            have H' := Aside0.mk H
            clear H
            try go_wp2
            replace HO_6 := Aside0.mk (Kd.R_drew HO_6.out)
            replace HO_7 := Aside0.mk (Kd.V_drew HO_7.out)
            replace BK451 := Aside0.mk (blk_drew BK451.out)
            replace HB := Aside0.mk (below_drew1 HB.out)
            obtain ⟨Ao31, co31, eo31⟩ := Kd.V_slice HO_7.out
            (first | subst eo31 | (injection eo31 with f1_ f2_ f3_; have f4_ := f1_.symm; have f5_ := f3_.symm; clear f1_ f2_ f3_; subst f4_; subst f5_))
            have p452 : 0 ≤ (0 : Int) := (by omega)
            have q452 : 0 < (x7_3.length : Int) := od
            obtain ⟨ad452, e452, hx452_0, hx452_1, hx452_2, hx452_3⟩ := at_T45 (Kd.V_reads' HO_7.out).2.2 0 p452 q452
            cases e452
            have qi452 : (0 < x7_3.length) = True := eq_true (by omega)
            (try rw [show ((0 : Int)).toNat = 0 from rfl] at hx452_0)
            (try rw [show 0 * 4 = 0 from rfl] at hx452_0)
            (try rw [Addr.add_zero'] at hx452_0)
            (try rw [show ((0 : Int)).toNat = 0 from rfl] at hx452_1)
            (try rw [show 0 * 4 = 0 from rfl] at hx452_1)
            (try rw [Addr.add_zero'] at hx452_1)
            (try rw [show ((0 : Int)).toNat = 0 from rfl] at hx452_2)
            (try rw [show 0 * 4 = 0 from rfl] at hx452_2)
            (try rw [Addr.add_zero'] at hx452_2)
            (try rw [show ((0 : Int)).toNat = 0 from rfl] at hx452_3)
            (try rw [show 0 * 4 = 0 from rfl] at hx452_3)
            (try rw [Addr.add_zero'] at hx452_3)
            replace p452 := eq_true p452
            replace q452 := eq_true q452
            refine start_ (n := 11) (S := fun w' => w'.cell? ⟨gb451, 0, none⟩ = some (.int .i64 ((rd_T48 l1 x22_2).f0.f0)) ∧ w'.cell? ⟨gb451, 1, none⟩ = some (.string ((rd_T48 l1 x22_2).f0.f1)) ∧ w'.cell? ⟨gb451, 2, none⟩ = some (.int .i64 ((rd_T48 l1 x22_2).f0.f2.f0)) ∧ w'.cell? ⟨gb451, 3, none⟩ = some (.bool ((rd_T48 l1 x22_2).f0.f2.f1)) ∧ w'.cell? ⟨gb451, 4, none⟩ = some (.bool ((rd_T48 l1 x22_2).f1)) ∧ w'.cell? ad452 = some (.int .i64 ((rd_T45 x7_3 0).f0)) ∧ w'.cell? ⟨ad452.block, ad452.off + 1, none⟩ = some (.string ((rd_T45 x7_3 0).f1)) ∧ w'.cell? ⟨ad452.block, ad452.off + 2, none⟩ = some (.int .i64 ((rd_T45 x7_3 0).f2.f0)) ∧ w'.cell? ⟨ad452.block, ad452.off + 3, none⟩ = some (.bool ((rd_T45 x7_3 0).f2.f1))) (ds := []) _ (by kernel_rfl) rfl rfl ⟨(blk_cell BK451.out 0).trans rfl, (blk_cell BK451.out 1).trans rfl, (blk_cell BK451.out 2).trans rfl, (blk_cell BK451.out 3).trans rfl, (blk_cell BK451.out 4).trans rfl, hx452_0, hx452_1, hx452_2, hx452_3⟩ (fun hHeld => ?_); refine with_tabW diff_Apply.tab8 diff_Apply.bits8 (fun HT_ HW_ => ?_)
            generalize wr.drew = w30 at HO_6 HO_7 BK451 HB hx452_0 hx452_1 hx452_2 hx452_3 hHeld ⊢
            refine p1 0 (some 26) ?_
            refine p1 1 (some 27) ?_
            refine p1 2 (some 28) ?_
            refine p1 3 (some 29) ?_
            refine p1 4 (some 30) ?_
            refine p1 5 (some 31) ?_
            refine p1 7 (some 33) ?_
            refine t1 6 (some 32) rfl rfl hHeld (Or.inl ⟨by rfl, by rintro w' ⟨s0, s1, s2, s3, s4, s5, s6, s7, s8⟩; go_simp; with_reducible rfl⟩) ?_
            refine t1 8 (some 34) rfl rfl hHeld (Or.inl ⟨by rfl, by rintro w' ⟨s0, s1, s2, s3, s4, s5, s6, s7, s8⟩; go_simp; with_reducible rfl⟩) ?_
            refine o1 9 (some 35) rfl rfl (fun K hK => ?_)
            refine gS Tryz.func25 #[.agg #[.int .i64 ((rd_T45 x7_3 0).f0), .string ((rd_T45 x7_3 0).f1), .int .i64 ((rd_T45 x7_3 0).f2.f0), .bool ((rd_T45 x7_3 0).f2.f1)], .agg #[.int .i64 ((rd_T48 l1 x22_2).f0.f0), .string ((rd_T48 l1 x22_2).f0.f1), .int .i64 ((rd_T48 l1 x22_2).f0.f2.f0), .bool ((rd_T48 l1 x22_2).f0.f2.f1)]] ?_
            with_reducible refine (row_Before.calls k3 ((rd_T45 x7_3 0).f0) ((rd_T45 x7_3 0).f1) ((rd_T45 x7_3 0).f2.f0) ((rd_T45 x7_3 0).f2.f1) ((rd_T48 l1 x22_2).f0.f0) ((rd_T48 l1 x22_2).f0.f1) ((rd_T48 l1 x22_2).f0.f2.f0) ((rd_T48 l1 x22_2).f0.f2.f1) false _ A20.out).mono ?_
            rintro e w32 ⟨rfl, hb⟩
            have HS5_ := (hb.cell (World.block_lt_of_cell? _ _ (hHeld.2.2.2.2.2.1))).trans (hHeld.2.2.2.2.2.1)
            have HS6_ := (hb.cell (World.block_lt_of_cell? _ _ (hHeld.2.2.2.2.2.2.1))).trans (hHeld.2.2.2.2.2.2.1)
            have HS7_ := (hb.cell (World.block_lt_of_cell? _ _ (hHeld.2.2.2.2.2.2.2.1))).trans (hHeld.2.2.2.2.2.2.2.1)
            have HS8_ := (hb.cell (World.block_lt_of_cell? _ _ (hHeld.2.2.2.2.2.2.2.2))).trans (hHeld.2.2.2.2.2.2.2.2)
            refine ⟨_, rfl, ?_⟩
            replace HO_6 := cR HO_6 hb
            replace HO_7 := cV HO_7 hb
            replace BK451 := cB BK451 hb
            replace HB := Aside0.mk (below_step bl hb)
            (try clear hb)
            refine hK.out _ _ ⟨(blk_cell BK451.out 0).trans rfl, (blk_cell BK451.out 1).trans rfl, (blk_cell BK451.out 2).trans rfl, (blk_cell BK451.out 3).trans rfl, (blk_cell BK451.out 4).trans rfl, HS5_, HS6_, HS7_, HS8_⟩ (fun hHeld => ?_)
            clear hK K
            refine norm_ (a' := ?_) ?_ ?_
            rotate_left
            ·
             show Act.put _ (some 35) _ = _
             simp only [Act.put, List.setIfInBounds_toArray, List.set_cons_zero, List.set_cons_succ, i64_w, i32_w]
             rfl
            refine p1 10 (some 36) ?_
            refine done_ (done_of HT_.out (by kernel_rfl)) ?_
            try go_wp2
            go_meet
            case rel => exact ⟨_, (x6_3), (x7_3), H', ⟨by have := HJ2.out; have := HK2.out; have := HK3.out; first | omega | exact Nat.le_refl _⟩, ⟨uR HO_6.out⟩, ⟨uV HO_7.out⟩, ⟨uB BK451.out⟩, ⟨bl⟩⟩
          ·
           rw [if_neg c18] at H
           have c18b0 : decide (0 < (x7_3.length : Int)) = false := decide_eq_false c18
           have c18b1 : decide (0 < x7_3.length) = false := decide_eq_false (by omega)
           clear c18
           (first | rw [c18b0] | (simp only [i64_w, i32_w]; rw [c18b0]) | skip)
           have H' := Aside0.mk H
           clear H
           try go_wp2
           replace HO_6 := Aside0.mk (Kd.R_drew HO_6.out)
           replace HO_7 := Aside0.mk (Kd.V_drew HO_7.out)
           replace BK451 := Aside0.mk (blk_drew BK451.out)
           replace HB := Aside0.mk (below_drew1 HB.out)
           obtain ⟨Ao34, co34, eo34⟩ := Kd.V_slice HO_7.out
           (first | subst eo34 | (injection eo34 with f1_ f2_ f3_; have f4_ := f1_.symm; have f5_ := f3_.symm; clear f1_ f2_ f3_; subst f4_; subst f5_))
           refine start_ (n := 11) (S := fun w' => True) (ds := []) _ (by kernel_rfl) rfl rfl trivial (fun hHeld => ?_); refine with_tabW diff_Apply.tab8 diff_Apply.bits8 (fun HT_ HW_ => ?_)
           generalize wr.drew = w33 at HO_6 HO_7 BK451 HB hHeld ⊢
           refine p1 0 (some 26) ?_
           refine p1 1 (some 27) ?_
           refine p1 2 (some 28) ?_
           refine p1 3 (some 29) ?_
           refine p2 4 (some 30) ?_
           refine p2 5 (some 31) ?_
           refine p2 6 (some 32) ?_
           refine p2 7 (some 33) ?_
           refine p2 8 (some 34) ?_
           refine p2 9 (some 35) ?_
           refine p1 10 (some 36) ?_
           refine done_ (done_of HT_.out (by kernel_rfl)) ?_
           try go_wp2
           go_meet
           case rel => exact ⟨_, (x6_3), (x7_3), H', ⟨by have := HJ2.out; have := HK2.out; have := HK3.out; first | omega | exact Nat.le_refl _⟩, ⟨uR HO_6.out⟩, ⟨uV HO_7.out⟩, ⟨uB BK451.out⟩, ⟨bl⟩⟩
       case rest =>
        clear HC14
        try clear c1
        try clear c2
        try clear p2
        try clear q2
        try clear p4
        try clear q4
        try clear hx4
        try clear qi4
        try clear c18
        try clear c18b0
        try clear c18b1
        try clear c19
        try clear c21
        try clear c22
        try clear c23
        try clear c23b0
        try clear c23b1
        try clear c25
        try clear c28
        try clear q28
        try clear hx452_0
        try clear hx452_1
        try clear hx452_2
        try clear hx452_3
        try clear hx454_0
        try clear hx454_1
        try clear hx454_2
        try clear hx454_3
        try clear p452
        try clear p454
        try clear q28
        try clear q452
        try clear q454
        obtain ⟨kq, x6_13, x7_13, HA, HJ13, HO_6, HO_7, BK451, HB⟩ := hcut
        cases kq with
        | zero => exact absurd HA.out (by simp [diff_Apply.j3])
        | succ kj13 =>
         have H := HA.out
         clear HA
         simp only [diff_Apply.j3] at H
         have HC35 := Aside0.mk H
         clear H
         go_upto_region 10 with (fail)
         go_cut [10] (fun v10 wc => ∃ (kq : Nat) (x10_34 : Bool), v10 = .bool x10_34 ∧ Aside0 (diff_Apply.j4 kq x6_13 x7_13 x10_34 l1 (l1.length : Int) x22_2 ((rd_T48 l1 x22_2).f0.f0) ((rd_T48 l1 x22_2).f0.f1) ((rd_T48 l1 x22_2).f0.f2.f0) ((rd_T48 l1 x22_2).f0.f2.f1) ((rd_T48 l1 x22_2).f1) = some (r1, r2)) ∧ Aside0 (kq ≤ kj13) ∧ Aside0 (Kd.R k45 45 wc w.heap.size (fun k_ => (w.heap.size ≤ k_)) u6 x6_13) ∧ Aside0 (Kd.V k45 45 wc w.heap.size (fun k_ => (P0_ k_ ∨ w.heap.size ≤ k_) ∧ some k_ ≠ (u6 : Value).ownBlock ∧ k_ ≠ gb451) u7 x7_13) ∧ Aside0 (wc.heap[gb451]? = some (.cells #[.int .i64 ((rd_T48 l1 x22_2).f0.f0), .string ((rd_T48 l1 x22_2).f0.f1), .int .i64 ((rd_T48 l1 x22_2).f0.f2.f0), .bool ((rd_T48 l1 x22_2).f0.f2.f1), .bool ((rd_T48 l1 x22_2).f1)] 48 (0, 0))) ∧ Aside0 (Below w.heap.size w wc))
         case first =>
          have H := HC35.out
          clear HC35
          by_cases c36 : (x7_13.length : Int) > 0
          ·
           rw [if_pos c36] at H
           have c36b0 : decide (0 < (x7_13.length : Int)) = true := decide_eq_true c36
           have c36b1 : decide (0 < x7_13.length) = true := decide_eq_true (by omega)
           clear c36
           (first | rw [c36b0] | (simp only [i64_w, i32_w]; rw [c36b0]) | skip)
           obtain ⟨c37, H⟩ := gd H
           have c37b0 : decide (0 < (x7_13.length : Int)) = true := decide_eq_true c37
           have c37b1 : decide (0 < x7_13.length) = true := decide_eq_true (by omega)
           clear c37
           obtain ⟨t464, A38, H⟩ := bs H
           try dsimp only at H
           have H' := Aside0.mk H
           clear H
           try go_wp2
           replace HO_6 := Aside0.mk (Kd.R_drew HO_6.out)
           replace HO_7 := Aside0.mk (Kd.V_drew HO_7.out)
           replace BK451 := Aside0.mk (blk_drew BK451.out)
           replace HB := Aside0.mk (below_drew1 HB.out)
           obtain ⟨Ao40, co40, eo40⟩ := Kd.V_slice HO_7.out
           (first | subst eo40 | (injection eo40 with f1_ f2_ f3_; have f4_ := f1_.symm; have f5_ := f3_.symm; clear f1_ f2_ f3_; subst f4_; subst f5_))
           have p463 : 0 ≤ (0 : Int) := (by omega)
           have q463 : 0 < (x7_13.length : Int) := od
           obtain ⟨ad463, e463, hx463_0, hx463_1, hx463_2, hx463_3⟩ := at_T45 (Kd.V_reads' HO_7.out).2.2 0 p463 q463
           cases e463
           have qi463 : (0 < x7_13.length) = True := eq_true (by omega)
           (try rw [show ((0 : Int)).toNat = 0 from rfl] at hx463_0)
           (try rw [show 0 * 4 = 0 from rfl] at hx463_0)
           (try rw [Addr.add_zero'] at hx463_0)
           (try rw [show ((0 : Int)).toNat = 0 from rfl] at hx463_1)
           (try rw [show 0 * 4 = 0 from rfl] at hx463_1)
           (try rw [Addr.add_zero'] at hx463_1)
           (try rw [show ((0 : Int)).toNat = 0 from rfl] at hx463_2)
           (try rw [show 0 * 4 = 0 from rfl] at hx463_2)
           (try rw [Addr.add_zero'] at hx463_2)
           (try rw [show ((0 : Int)).toNat = 0 from rfl] at hx463_3)
           (try rw [show 0 * 4 = 0 from rfl] at hx463_3)
           (try rw [Addr.add_zero'] at hx463_3)
           replace p463 := eq_true p463
           replace q463 := eq_true q463
           refine start_ (n := 13) (S := fun w' => w'.cell? ⟨gb451, 0, none⟩ = some (.int .i64 ((rd_T48 l1 x22_2).f0.f0)) ∧ w'.cell? ⟨gb451, 1, none⟩ = some (.string ((rd_T48 l1 x22_2).f0.f1)) ∧ w'.cell? ⟨gb451, 2, none⟩ = some (.int .i64 ((rd_T48 l1 x22_2).f0.f2.f0)) ∧ w'.cell? ⟨gb451, 3, none⟩ = some (.bool ((rd_T48 l1 x22_2).f0.f2.f1)) ∧ w'.cell? ⟨gb451, 4, none⟩ = some (.bool ((rd_T48 l1 x22_2).f1)) ∧ w'.cell? ad463 = some (.int .i64 ((rd_T45 x7_13 0).f0)) ∧ w'.cell? ⟨ad463.block, ad463.off + 1, none⟩ = some (.string ((rd_T45 x7_13 0).f1)) ∧ w'.cell? ⟨ad463.block, ad463.off + 2, none⟩ = some (.int .i64 ((rd_T45 x7_13 0).f2.f0)) ∧ w'.cell? ⟨ad463.block, ad463.off + 3, none⟩ = some (.bool ((rd_T45 x7_13 0).f2.f1))) (ds := []) _ (by kernel_rfl) rfl rfl ⟨(blk_cell BK451.out 0).trans rfl, (blk_cell BK451.out 1).trans rfl, (blk_cell BK451.out 2).trans rfl, (blk_cell BK451.out 3).trans rfl, (blk_cell BK451.out 4).trans rfl, hx463_0, hx463_1, hx463_2, hx463_3⟩ (fun hHeld => ?_); refine with_tabW diff_Apply.tab10 diff_Apply.bits10 (fun HT_ HW_ => ?_)
           generalize wc.drew = w39 at HO_6 HO_7 BK451 HB hx463_0 hx463_1 hx463_2 hx463_3 hHeld ⊢
           refine p1 0 (some 45) ?_
           refine p1 1 (some 46) ?_
           refine p1 2 (some 47) ?_
           refine p1 3 (some 48) ?_
           refine p1 4 (some 49) ?_
           refine p1 6 (some 51) ?_
           refine p1 7 (some 52) ?_
           refine t1 5 (some 50) rfl rfl hHeld (Or.inl ⟨by rfl, by rintro w' ⟨s0, s1, s2, s3, s4, s5, s6, s7, s8⟩; go_simp; with_reducible rfl⟩) ?_
           refine t1 8 (some 53) rfl rfl hHeld (Or.inl ⟨by rfl, by rintro w' ⟨s0, s1, s2, s3, s4, s5, s6, s7, s8⟩; go_simp; with_reducible rfl⟩) ?_
           refine o1 9 (some 54) rfl rfl (fun K hK => ?_)
           refine gS Tryz.func25 #[.agg #[.int .i64 ((rd_T48 l1 x22_2).f0.f0), .string ((rd_T48 l1 x22_2).f0.f1), .int .i64 ((rd_T48 l1 x22_2).f0.f2.f0), .bool ((rd_T48 l1 x22_2).f0.f2.f1)], .agg #[.int .i64 ((rd_T45 x7_13 0).f0), .string ((rd_T45 x7_13 0).f1), .int .i64 ((rd_T45 x7_13 0).f2.f0), .bool ((rd_T45 x7_13 0).f2.f1)]] ?_
           with_reducible refine (row_Before.calls kj13 ((rd_T48 l1 x22_2).f0.f0) ((rd_T48 l1 x22_2).f0.f1) ((rd_T48 l1 x22_2).f0.f2.f0) ((rd_T48 l1 x22_2).f0.f2.f1) ((rd_T45 x7_13 0).f0) ((rd_T45 x7_13 0).f1) ((rd_T45 x7_13 0).f2.f0) ((rd_T45 x7_13 0).f2.f1) t464 _ A38.out).mono ?_
           rintro e w41 ⟨rfl, hb⟩
           have HS5_ := (hb.cell (World.block_lt_of_cell? _ _ (hHeld.2.2.2.2.2.1))).trans (hHeld.2.2.2.2.2.1)
           have HS6_ := (hb.cell (World.block_lt_of_cell? _ _ (hHeld.2.2.2.2.2.2.1))).trans (hHeld.2.2.2.2.2.2.1)
           have HS7_ := (hb.cell (World.block_lt_of_cell? _ _ (hHeld.2.2.2.2.2.2.2.1))).trans (hHeld.2.2.2.2.2.2.2.1)
           have HS8_ := (hb.cell (World.block_lt_of_cell? _ _ (hHeld.2.2.2.2.2.2.2.2))).trans (hHeld.2.2.2.2.2.2.2.2)
           refine ⟨_, rfl, ?_⟩
           replace HO_6 := cR HO_6 hb
           replace HO_7 := cV HO_7 hb
           replace BK451 := cB BK451 hb
           replace HB := Aside0.mk (below_step bl hb)
           (try clear hb)
           refine hK.out _ _ ⟨(blk_cell BK451.out 0).trans rfl, (blk_cell BK451.out 1).trans rfl, (blk_cell BK451.out 2).trans rfl, (blk_cell BK451.out 3).trans rfl, (blk_cell BK451.out 4).trans rfl, HS5_, HS6_, HS7_, HS8_⟩ (fun hHeld => ?_)
           clear hK K
           refine norm_ (a' := ?_) ?_ ?_
           rotate_left
           ·
            show Act.put _ (some 54) _ = _
            simp only [Act.put, List.setIfInBounds_toArray, List.set_cons_zero, List.set_cons_succ, i64_w, i32_w]
            rfl
           refine p1 10 (some 55) ?_
           refine p1 11 (some 56) ?_
           refine p1 12 (some 10) ?_
           refine done_ (done_of HT_.out (by kernel_rfl)) ?_
           try go_wp2
           go_meet
           case rel => exact ⟨_, (!t464), rs_, H', ⟨by have := HJ2.out; have := HK2.out; have := HJ13.out; first | omega | exact Nat.le_refl _⟩, ⟨uR HO_6.out⟩, ⟨uV HO_7.out⟩, ⟨uB BK451.out⟩, ⟨bl⟩⟩
          ·
           rw [if_neg c36] at H
           have c36b0 : decide (0 < (x7_13.length : Int)) = false := decide_eq_false c36
           have c36b1 : decide (0 < x7_13.length) = false := decide_eq_false (by omega)
           clear c36
           (first | rw [c36b0] | (simp only [i64_w, i32_w]; rw [c36b0]) | skip)
           have H' := Aside0.mk H
           clear H
           try go_wp2
           replace HO_6 := Aside0.mk (Kd.R_drew HO_6.out)
           replace HO_7 := Aside0.mk (Kd.V_drew HO_7.out)
           replace BK451 := Aside0.mk (blk_drew BK451.out)
           replace HB := Aside0.mk (below_drew1 HB.out)
           obtain ⟨Ao43, co43, eo43⟩ := Kd.V_slice HO_7.out
           (first | subst eo43 | (injection eo43 with f1_ f2_ f3_; have f4_ := f1_.symm; have f5_ := f3_.symm; clear f1_ f2_ f3_; subst f4_; subst f5_))
           refine start_ (n := 13) (S := fun w' => True) (ds := []) _ (by kernel_rfl) rfl rfl trivial (fun hHeld => ?_); refine with_tabW diff_Apply.tab10 diff_Apply.bits10 (fun HT_ HW_ => ?_)
           generalize wc.drew = w42 at HO_6 HO_7 BK451 HB hHeld ⊢
           refine p1 0 (some 45) ?_
           refine p1 1 (some 46) ?_
           refine p1 2 (some 47) ?_
           refine p1 3 (some 48) ?_
           refine p2 4 (some 49) ?_
           refine p2 5 (some 50) ?_
           refine p2 6 (some 51) ?_
           refine p2 7 (some 52) ?_
           refine p2 8 (some 53) ?_
           refine p2 9 (some 54) ?_
           refine p2 10 (some 55) ?_
           refine p1 11 (some 56) ?_
           refine p1 12 (some 10) ?_
           refine done_ (done_of HT_.out (by kernel_rfl)) ?_
           try go_wp2
           go_meet
           case rel => exact ⟨_, (false), rs_, H', ⟨by have := HJ2.out; have := HK2.out; have := HJ13.out; first | omega | exact Nat.le_refl _⟩, ⟨uR HO_6.out⟩, ⟨uV HO_7.out⟩, ⟨uB BK451.out⟩, ⟨bl⟩⟩
         case rest =>
          clear HC35
          try clear c1
          try clear c2
          try clear p2
          try clear q2
          try clear c3
          try clear p4
          try clear q4
          try clear hx4
          try clear qi4
          try clear c18
          try clear c18b0
          try clear c18b1
          try clear c19
          try clear c21
          try clear c22
          try clear c23
          try clear c23b0
          try clear c23b1
          try clear c25
          try clear c28
          try clear q28
          try clear c36
          try clear c36b0
          try clear c36b1
          try clear c37
          try clear c37b0
          try clear c37b1
          try clear hx452_0
          try clear hx452_1
          try clear hx452_2
          try clear hx452_3
          try clear hx454_0
          try clear hx454_1
          try clear hx454_2
          try clear hx454_3
          try clear hx463_0
          try clear hx463_1
          try clear hx463_2
          try clear hx463_3
          try clear p2
          try clear p4
          try clear p452
          try clear p454
          try clear p463
          try clear q2
          try clear q28
          try clear q4
          try clear q452
          try clear q454
          try clear q463
          obtain ⟨kq, x10_34, rfl, HA, HJ34, HO_6, HO_7, BK451, HB⟩ := hcut
          cases kq with
          | zero => exact absurd HA.out (by simp [diff_Apply.j4])
          | succ kj34 =>
           have H := HA.out
           clear HA
           simp only [diff_Apply.j4] at H
           have HC44 := Aside0.mk H
           clear H
           go_upto_if 57 with (fail)
           go_cut [7] (fun v7 wc => ∃ (kq : Nat) (x7_43 : List (S45)), Aside0 (diff_Apply.j5 kq x6_13 x7_43 x10_34 l1 (l1.length : Int) x22_2 ((rd_T48 l1 x22_2).f0.f0) ((rd_T48 l1 x22_2).f0.f1) ((rd_T48 l1 x22_2).f0.f2.f0) ((rd_T48 l1 x22_2).f0.f2.f1) ((rd_T48 l1 x22_2).f1) = some (r1, r2)) ∧ Aside0 (kq ≤ kj34) ∧ Aside0 (Kd.R k45 45 wc w.heap.size (fun k_ => (w.heap.size ≤ k_)) u6 x6_13) ∧ Aside0 (Kd.V k45 45 wc w.heap.size (fun k_ => (P0_ k_ ∨ w.heap.size ≤ k_) ∧ some k_ ≠ (u6 : Value).ownBlock ∧ k_ ≠ gb451) v7 x7_43) ∧ Aside0 (wc.heap[gb451]? = some (.cells #[.int .i64 ((rd_T48 l1 x22_2).f0.f0), .string ((rd_T48 l1 x22_2).f0.f1), .int .i64 ((rd_T48 l1 x22_2).f0.f2.f0), .bool ((rd_T48 l1 x22_2).f0.f2.f1), .bool ((rd_T48 l1 x22_2).f1)] 48 (0, 0))) ∧ Aside0 (Below w.heap.size w wc))
           case first =>
            have H := HC44.out
            clear HC44
            by_cases c45 : x10_34 = true
            ·
             subst c45
             rw [if_pos rfl] at H
             obtain ⟨c46, H⟩ := gd H
             have c46b0 := eq_true c46
             have c46b1 : decide (1 ≤ (x7_13.length : Int)) = true := decide_eq_true c46
             clear c46
             obtain ⟨y465, hy465⟩ : ∃ y_ : List (S45), y_ = (x7_13.drop 1) := ⟨_, rfl⟩
             replace H : (diff_Apply.j5 kj34 x6_13 y465 true l1 (l1.length : Int) x22_2 ((rd_T48 l1 x22_2).f0.f0) ((rd_T48 l1 x22_2).f0.f1) ((rd_T48 l1 x22_2).f0.f2.f0) ((rd_T48 l1 x22_2).f0.f2.f1) ((rd_T48 l1 x22_2).f1)) = some (r1, r2) := by first | (rw [hy465]; with_reducible exact H) | (have H2_ := (Option.bind_some _ _).symm.trans H; rw [hy465]; with_reducible exact H2_) | (have H2_ := (Option.bind_some _ _).symm.trans H; with_reducible exact H2_) | with_reducible exact H | (rw [hy465]; exact H) | exact H
             have Ny465 := Aside0.mk hy465
             clear hy465
             have H' := Aside0.mk H
             clear H
             obtain ⟨Ao48, co48, eo48⟩ := Kd.V_slice HO_7.out
             subst eo48
             have q47 : (1 : Int) ≤ ((x7_13.length : Int) : Int) := od
             obtain ⟨i047, hi047, _, hsz47, _⟩ := info_parts info45
             have hroom47 : x7_13.length ≤ co48 := (Kd.V_reads' HO_7.out).2.1
             have hC47 : Kd.F k45 _ _ Ao48 x7_13.length x7_13 := (Kd.V_at (base := w.heap.size) HO_7.out).2.2
             have hcut47 := cut_from (P := Tryz.prog) 22 45 .i64 Tryz.underlying22 hi047 4 hsz47 Ao48 x7_13.length co48 1 (by omega) q47
             have hr47 := Kd.F_cut (m := (1 : Int).toNat) (c := co48) hC47 (by omega) hroom47
             obtain ⟨A47, hA47⟩ : ∃ A1, A1 = (if co48 = (1 : Int).toNat then Ao48 else (Ao48 : Option Addr).map (·.add ((1 : Int).toNat * 4))) := ⟨_, rfl⟩
             obtain ⟨c47, hc47⟩ : ∃ c1, c1 = co48 - (1 : Int).toNat := ⟨_, rfl⟩
             have hy47 : y465.length = x7_13.length - (1 : Int).toNat := (by rw [Ny465.out, List.length_drop] <;> omega)
             rw [show (x7_13).drop (1 : Int).toNat = y465 from Ny465.out.symm] at hr47
             replace hr47 : Kd.F k45 _ _ A47 y465.length y465 := (by rw [hA47]; exact hr47)
             rw [← hy47, ← hA47, ← hc47] at hcut47
             have HO469 := Aside0.mk (show Kd.V k45 45 _ w.heap.size _ (.slice A47 y465.length c47) y465 from Kd.V_mk (by rw [hy47, hc47]; exact Nat.sub_le_sub_right hroom47 _) hr47)
             have HC469 := Aside0.mk (show y465.length ≤ c47 from by rw [hy47, hc47]; exact Nat.sub_le_sub_right hroom47 _)
             clear hr47 hC47 hroom47 hi047 hsz47 hc47
             have KY47 := Aside0.mk hy47
             have KA47 := Aside0.mk hA47
             clear hy47 hA47
             replace q47 := eq_true q47
             go_wp2
             go_meet
             case rel => exact ⟨_, (y465), H', ⟨by have := HJ2.out; have := HK2.out; have := HJ13.out; have := HJ34.out; first | omega | exact Nat.le_refl _⟩, ⟨uR HO_6.out⟩, ⟨uV HO469.out⟩, ⟨uB BK451.out⟩, ⟨bl⟩⟩
            ·
             replace c45 := Bool.eq_false_iff.mpr c45
             subst c45
             rw [if_neg (show ¬ (false = true) by decide)] at H
             have H' := Aside0.mk H
             clear H
             go_wp2
             go_meet
             case rel => exact ⟨_, (x7_13), H', ⟨by have := HJ2.out; have := HK2.out; have := HJ13.out; have := HJ34.out; first | omega | exact Nat.le_refl _⟩, ⟨uR HO_6.out⟩, ⟨uV HO_7.out⟩, ⟨uB BK451.out⟩, ⟨bl⟩⟩
           case rest =>
            clear HC44
            try clear c1
            try clear c2
            try clear p2
            try clear q2
            try clear c3
            try clear c4
            try clear p4
            try clear q4
            try clear hx4
            try clear qi4
            try clear c18
            try clear c18b0
            try clear c18b1
            try clear c19
            try clear c21
            try clear c22
            try clear c23
            try clear c23b0
            try clear c23b1
            try clear c25
            try clear c28
            try clear q28
            try clear c36
            try clear c36b0
            try clear c36b1
            try clear c37
            try clear c37b0
            try clear c37b1
            try clear c45
            try clear p45
            try clear q45
            try clear hx45
            try clear c46
            try clear c46b0
            try clear c46b1
            try clear p46
            try clear q46
            try clear hx46
            try clear qi46
            try clear c47
            try clear q47
            try clear hx452_0
            try clear hx452_1
            try clear hx452_2
            try clear hx452_3
            try clear hx454_0
            try clear hx454_1
            try clear hx454_2
            try clear hx454_3
            try clear hx463_0
            try clear hx463_1
            try clear hx463_2
            try clear hx463_3
            try clear p2
            try clear p4
            try clear p452
            try clear p454
            try clear p463
            try clear q2
            try clear q28
            try clear q4
            try clear q452
            try clear q454
            try clear q463
            try clear q47
            obtain ⟨kq, x7_43, HA, HJ43, HO_6, HO_7, BK451, HB⟩ := hcut
            cases kq with
            | zero => exact absurd HA.out (by simp [diff_Apply.j5])
            | succ kj43 =>
             have H := HA.out
             clear HA
             simp only [diff_Apply.j5] at H
             by_cases c49 : ((rd_T48 l1 x22_2).f1) = true
             ·
              rw [if_pos c49] at H
              have c49b0 : ((rd_T48 l1 x22_2).f1) = true := c49
              clear c49
              by_cases c50 : x10_34 = true
              ·
               subst c50
               rw [if_pos rfl] at H
               have H' := Aside0.mk H
               clear H
               obtain ⟨hcz51_0, hcz51_1, hcz51_2, hcz51_3, hcz51_4, hfz51_0, hfz51_1, hfz51_2, hfz51_3, hfz51_4⟩ := z5 BK451
               go_wp2
               go_roundg kj43
               case measure => have := HJ2.out; have := HK2.out; have := HJ13.out; have := HJ34.out; have := HJ43.out; omega
               case rel => exact ⟨(x6_13), (x7_43), (wrap64 (x22_2 + 1)), rs_, H', ⟨by have := HJ2.out; have := HK2.out; have := HJ13.out; have := HJ34.out; have := HJ43.out; omega⟩, ⟨uR HO_6.out⟩, ⟨by exact uV <| Kd.V_mono HO_7.out (fun _ hk => ⟨hk.1, hk.2.1⟩)⟩, ⟨bl⟩⟩
              ·
               replace c50 := Bool.eq_false_iff.mpr c50
               subst c50
               rw [if_neg (show ¬ (false = true) by decide)] at H
               simp only [Option.some.injEq, Prod.mk.injEq] at H
               obtain ⟨rfl, rfl⟩ := H
               obtain ⟨hcz52_0, hcz52_1, hcz52_2, hcz52_3, hcz52_4, hfz52_0, hfz52_1, hfz52_2, hfz52_3, hfz52_4⟩ := z5 BK451
               go_wp2
               go_ret2
               exact ⟨_, re_, nl_, bl⟩
             ·
              rw [if_neg c49] at H
              have c49b0 : ((rd_T48 l1 x22_2).f1) = false := by simpa using c49
              clear c49
              obtain ⟨c53, H⟩ := gd H
              have LMc53 := Aside0.mk c53
              clear c53
              obtain ⟨y470, hy470⟩ : ∃ y_ : List (S45), y_ = (x6_13 ++ [(⟨((rd_T48 l1 x22_2).f0.f0), ((rd_T48 l1 x22_2).f0.f1), (⟨((rd_T48 l1 x22_2).f0.f2.f0), ((rd_T48 l1 x22_2).f0.f2.f1)⟩ : S43)⟩ : S45)]) := ⟨_, rfl⟩
              replace H : (diff_Apply.l0 kj43 y470 x7_43 l1 (l1.length : Int) (wrap64 (x22_2 + 1))) = some (r1, r2) := by first | (rw [hy470]; with_reducible exact H) | (have H2_ := (Option.bind_some _ _).symm.trans H; rw [hy470]; with_reducible exact H2_) | (have H2_ := (Option.bind_some _ _).symm.trans H; with_reducible exact H2_) | with_reducible exact H | (rw [hy470]; exact H) | exact H
              have Ny470 := Aside0.mk hy470
              clear hy470
              have H' := Aside0.mk H
              clear H
              obtain ⟨hcz54_0, hcz54_1, hcz54_2, hcz54_3, hcz54_4, hfz54_0, hfz54_1, hfz54_2, hfz54_3, hfz54_4⟩ := z5 BK451
              go_wp2_with (first | ((with_reducible refine gate_builtin (b := .append) (xs := #[.tmp 63, .tmp 66]) rfl ?_); at_builtin; refine Kd.R_append k45 (w0 := w) w.heap.size rfl (.tmp 63) (.tmp 66) 22 45 (.agg #[(.int .i64 0), (.string ⟨#[]⟩), (.int .i64 0), (.bool false)]) 40 rfl Tryz.underlying22 info45 rfl (by decide) (by omega) u6 x6_13 (⟨((rd_T48 l1 x22_2).f0.f0), ((rd_T48 l1 x22_2).f0.f1), (⟨((rd_T48 l1 x22_2).f0.f2.f0), ((rd_T48 l1 x22_2).f0.f2.f1)⟩ : S43)⟩ : S45) [.int .i64 ((rd_T48 l1 x22_2).f0.f0), .string ((rd_T48 l1 x22_2).f0.f1), .int .i64 ((rd_T48 l1 x22_2).f0.f2.f0), .bool ((rd_T48 l1 x22_2).f0.f2.f1)] (fun k_ => (w.heap.size ≤ k_)) (fun _ => False) rfl rfl ?aP (fun _ hk => hk.elim) ?aF ?aO ?aB ?aS ?aL ?_; (case aP => exact k45_mkM _ _ _ (⟨((rd_T48 l1 x22_2).f0.f0), ((rd_T48 l1 x22_2).f0.f1), (⟨((rd_T48 l1 x22_2).f0.f2.f0), ((rd_T48 l1 x22_2).f0.f2.f1)⟩ : S43)⟩ : S45)); (case aB => exact bl); (case aF => exact (fun k_ hk => (Nat.le_trans (below_size bl) hk))); (case aO => exact (uR HO_6.out)); (case aS => exact (below_size bl)); (case aL => have := LMc53.out; omega); intro v471 w55 ho hb hg hat; rw [← Ny470.out] at ho; replace HO_7 := Aside0.mk (Kd.V_afterv (ok := (fun k_ => (P0_ k_ ∨ w.heap.size ≤ k_) ∧ k_ ≠ gb451)) (by exact uV <| Kd.V_mono HO_7.out (fun _ hk => ⟨⟨hk.1, hk.2.2⟩, hk.2.1⟩)) hg hat); replace BK451 := Aside0.mk (blk_grown (g := gb451) (o := .cells #[.int .i64 ((rd_T48 l1 x22_2).f0.f0), .string ((rd_T48 l1 x22_2).f0.f1), .int .i64 ((rd_T48 l1 x22_2).f0.f2.f0), .bool ((rd_T48 l1 x22_2).f0.f2.f1), .bool ((rd_T48 l1 x22_2).f1)] 48 (0, 0)) (uB BK451.out) hg (Kd.R_ne HO_6.out BK451.out (by decide))); replace HB := Aside0.mk (hb); have HO472 := Aside0.mk (ho); clear HO_6; clear ho hb hg hat))
              go_roundg kj43
              case measure => have := HJ2.out; have := HK2.out; have := HJ13.out; have := HJ34.out; have := HJ43.out; omega
              case rel => exact ⟨(y470), (x7_43), (wrap64 (x22_2 + 1)), rs_, H', ⟨by have := HJ2.out; have := HK2.out; have := HJ13.out; have := HJ34.out; have := HJ43.out; omega⟩, ⟨uR HO472.out⟩, ⟨by exact uV <| Kd.V_mono HO_7.out (fun _ hk => ⟨hk.1.1, hk.2⟩)⟩, ⟨bl⟩⟩
      ·
       rw [if_neg c11] at H
       have c11b0 : decide (x22_2 < (l1.length : Int)) = false := decide_eq_false c11
       clear c11
       by_cases c56 : x6_2.length + x7_2.length < 3518437208883
       ·
        rw [if_pos c56] at H
        have LMc56 := Aside0.mk c56
        clear c56
        obtain ⟨y447, hy447⟩ : ∃ y_ : List (S45), y_ = (x6_2 ++ x7_2) := ⟨_, rfl⟩
        replace H : (some (y447, 0)) = some (r1, r2) := by first | (rw [hy447]; with_reducible exact H) | (have H2_ := (Option.bind_some _ _).symm.trans H; rw [hy447]; with_reducible exact H2_) | (have H2_ := (Option.bind_some _ _).symm.trans H; with_reducible exact H2_) | with_reducible exact H | (rw [hy447]; exact H) | exact H
        have Ny447 := Aside0.mk hy447
        clear hy447
        simp only [Option.some.injEq, Prod.mk.injEq] at H
        obtain ⟨rfl, rfl⟩ := H
        obtain ⟨Ao58, co58, eo58⟩ := Kd.V_slice HO_7.out
        subst eo58
        go_wp2_with (first | ((with_reducible refine gate_builtin (b := .append) (xs := #[.tmp 71, .tmp 72]) rfl ?_); at_builtin; refine Kd.R_append_rows k45 (w0 := w) w.heap.size rfl (.tmp 71) (.tmp 72) 22 45 (.agg #[(.int .i64 0), (.string ⟨#[]⟩), (.int .i64 0), (.bool false)]) 40 rfl Tryz.underlying22 info45 rfl (by decide) (by omega) u6 x6_2 x7_2 _ _ _ (fun k_ => (w.heap.size ≤ k_)) (fun _ => False) rfl rfl ?aO ?aR (fun _ _ h => h) (fun _ h => h.elim) ?aF ?aB ?aS ?aL ?_; (case aR => exact uC <| (Kd.V_reads' HO_7.out).2.2); (case aB => exact (uW HB.out)); (case aF => exact (fun k_ hk => (Nat.le_trans (below_size (uW HB.out)) hk))); (case aO => exact (uR HO_6.out)); (case aS => exact (below_size (uW HB.out))); (case aL => have := LMc56.out; omega); intro v448 w57 ho hb hg hat; rw [← Ny447.out] at ho; replace HO_7 := Aside0.mk (Kd.V_afterv (ok := (fun k_ => (P0_ k_ ∨ w.heap.size ≤ k_))) (uV HO_7.out) hg hat); replace HB := Aside0.mk (hb); have HO449 := Aside0.mk (ho); clear HO_6; clear ho hb hg hat))
        go_ret2
        exact ⟨_, re_, uR HO449.out, uW HB.out⟩
       ·
        rw [if_neg c56] at H
        exact absurd H (by simp)
attribute [local go_sem high] eqA48
def api_Change.l0 : Nat → List (S48) → List (S48) → Int → Int → Option (Bool)
 | 0, _, _, _, _ => none
 | k + 1, x0, x1, x12, x13 => if x13 < x12 then (if 0 ≤ x13 then (if x13 < (x0.length : Int) then (if x13 < (x1.length : Int) then (if ((!(((rd_T48 x0 x13).f0.f0) == ((rd_T48 x1 x13).f0.f0)) || (!((((rd_T48 x0 x13).f0.f1).toList) == (((rd_T48 x1 x13).f0.f1).toList)) || ((!(((rd_T48 x0 x13).f0.f2.f0) == ((rd_T48 x1 x13).f0.f2.f0)) || (!(((rd_T48 x0 x13).f0.f2.f1) == ((rd_T48 x1 x13).f0.f2.f1))))))) || (!(((rd_T48 x0 x13).f1) == ((rd_T48 x1 x13).f1)))) = true then (some false) else (api_Change.l0 k x0 x1 x12 (wrap64 (x13 + 1)))) else (none)) else (none)) else (none)) else (some true)
def api_Change.f (k : Nat) (l0 : List (S48)) (l1 : List (S48)) : Option (Bool) := if (l0.length : Int) = (l1.length : Int) then (api_Change.l0 k l0 l1 (l0.length : Int) 0) else (some false)
theorem api_Change.mono_l : ∀ k, (∀ y0 y1 y2 y3, LeC (api_Change.l0 k y0 y1 y2 y3) (api_Change.l0 (k + 1) y0 y1 y2 y3))
 | 0 => fun _ _ _ _ => ⟨fun r h => by simp [api_Change.l0] at h⟩
 | k + 1 => by have ih0 := api_Change.mono_l k; exact fun _ _ _ _ => by unfold api_Change.l0; exact lm
theorem api_Change.mono : ∀ a0 a1 k, LeO (api_Change.f k a0 a1) (api_Change.f (k + 1) a0 a1) := by
 intro a0 a1 k
 have ih0 := api_Change.mono_l k
 unfold api_Change.f
 exact lo
instance api_Change.mI {a0 a1 k} : LeC (api_Change.f k a0 a1) (api_Change.f (k + 1) a0 a1) := ⟨api_Change.mono _ _ _⟩
theorem api_Change.calls (k : Nat) (A0 : Option Addr) (c0 : Nat) (l0 : List (S48)) (A1 : Option Addr) (c1 : Nat) (l1 : List (S48)) (r : Bool) (w : World) (hr0 : Kd.C k48 w A0 l0.length l0) (hc0 : l0.length ≤ c0) (hr1 : Kd.C k48 w A1 l1.length l1) (hc1 : l1.length ≤ c1) (h : api_Change.f k l0 l1 = some r) :
 Calls Tryz.prog 38 #[.slice A0 l0.length c0, .slice A1 l1.length c1] w fun e w' => e = .returned (.bool r) ∧ Drawn0 w w' := by
 have hu48 := Tryz.underlying48
 have HR0 := Aside0.mk hr0
 have HC0 := Aside0.mk hc0
 clear hr0 hc0
 have HR1 := Aside0.mk hr1
 have HC1 := Aside0.mk hc1
 clear hr1 hc1
 have H : (if (l0.length : Int) = (l1.length : Int) then (api_Change.l0 k l0 l1 (l0.length : Int) 0) else (some false)) = some r := h
 clear h
 by_cases c3 : (l0.length : Int) = (l1.length : Int)
 ·
  rw [if_pos c3] at H
  have c3b0 : ((l0.length : Int) == (l1.length : Int)) = true := beq_iff_eq.mpr c3
  have c3b1 : ((l0.length : Int) != (l1.length : Int)) = false := bne_eq_false_iff_eq.mpr c3
  have c3b2 : (l0.length == l1.length) = true := by first | simpa using c3 | (simp at c3 ⊢; omega)
  clear c3
  have H' := Aside0.mk H
  clear H
  go_enter Tryz.func38, Tryz.ntmps38
  go_wp2
  repeat (go_quiet (fail); try go_wp2)
  go_loopg [13] k (fun kq v13 w' => ∃ (x13_1 : Int), v13 = .int .i64 x13_1 ∧ Aside0 (api_Change.l0 kq l0 l1 (l0.length : Int) x13_1 = some r) ∧ Aside0 (kq ≤ k) ∧ Drawn0 w w')
  case atStart => exact ⟨(0), rs_, H', ⟨Nat.le_refl _⟩, dr_⟩
  case round =>
   clear H'
   try clear c1
   try clear p2
   try clear c3
   try clear c3b0
   try clear c3b1
   try clear c3b2
   obtain ⟨x13_1, rfl, HA, HK1, ⟨m1, rfl⟩⟩ := hrel
   cases gk with
   | zero => exact absurd HA.out (by simp [api_Change.l0])
   | succ k1 =>
    have H := HA.out
    clear HA
    simp only [api_Change.l0] at H
    by_cases c4 : x13_1 < (l0.length : Int)
    ·
     rw [if_pos c4] at H
     have c4b0 : decide (x13_1 < (l0.length : Int)) = true := decide_eq_true c4
     clear c4
     obtain ⟨c5b0, H⟩ := gdd H
     obtain ⟨c6b0, H⟩ := gdd H
     obtain ⟨c7b0, H⟩ := gdd H
     by_cases c8 : ((!(((rd_T48 l0 x13_1).f0.f0) == ((rd_T48 l1 x13_1).f0.f0)) || (!((((rd_T48 l0 x13_1).f0.f1).toList) == (((rd_T48 l1 x13_1).f0.f1).toList)) || ((!(((rd_T48 l0 x13_1).f0.f2.f0) == ((rd_T48 l1 x13_1).f0.f2.f0)) || (!(((rd_T48 l0 x13_1).f0.f2.f1) == ((rd_T48 l1 x13_1).f0.f2.f1))))))) || (!(((rd_T48 l0 x13_1).f1) == ((rd_T48 l1 x13_1).f1)))) = true
     ·
      rw [if_pos c8] at H
      have c8b0 : ((!(((rd_T48 l0 x13_1).f0.f0) == ((rd_T48 l1 x13_1).f0.f0)) || (!((((rd_T48 l0 x13_1).f0.f1).toList) == (((rd_T48 l1 x13_1).f0.f1).toList)) || ((!(((rd_T48 l0 x13_1).f0.f2.f0) == ((rd_T48 l1 x13_1).f0.f2.f0)) || (!(((rd_T48 l0 x13_1).f0.f2.f1) == ((rd_T48 l1 x13_1).f0.f2.f1))))))) || (!(((rd_T48 l0 x13_1).f1) == ((rd_T48 l1 x13_1).f1)))) = true := c8
      clear c8
      obtain rfl := Option.some.inj H
      have p473 : 0 ≤ (x13_1 : Int) := od
      have q473 : x13_1 < (l0.length : Int) := od
      obtain ⟨ad473, e473, hx473_0, hx473_1, hx473_2, hx473_3, hx473_4⟩ := at_T48 HR0.out x13_1 p473 q473
      cases e473
      replace p473 := eq_true p473
      replace q473 := eq_true q473
      have p474 : 0 ≤ (x13_1 : Int) := od
      have q474 : x13_1 < (l1.length : Int) := od
      obtain ⟨ad474, e474, hx474_0, hx474_1, hx474_2, hx474_3, hx474_4⟩ := at_T48 HR1.out x13_1 p474 q474
      cases e474
      replace p474 := eq_true p474
      replace q474 := eq_true q474
      go_wp2
      repeat (go_quiet (fail); try go_wp2)
      go_ret
      exact ⟨rs_, dr_⟩
     ·
      rw [if_neg c8] at H
      have c8b0 : ((!(((rd_T48 l0 x13_1).f0.f0) == ((rd_T48 l1 x13_1).f0.f0)) || (!((((rd_T48 l0 x13_1).f0.f1).toList) == (((rd_T48 l1 x13_1).f0.f1).toList)) || ((!(((rd_T48 l0 x13_1).f0.f2.f0) == ((rd_T48 l1 x13_1).f0.f2.f0)) || (!(((rd_T48 l0 x13_1).f0.f2.f1) == ((rd_T48 l1 x13_1).f0.f2.f1))))))) || (!(((rd_T48 l0 x13_1).f1) == ((rd_T48 l1 x13_1).f1)))) = false := by simpa using c8
      clear c8
      have H' := Aside0.mk H
      clear H
      have p473 : 0 ≤ (x13_1 : Int) := od
      have q473 : x13_1 < (l0.length : Int) := od
      obtain ⟨ad473, e473, hx473_0, hx473_1, hx473_2, hx473_3, hx473_4⟩ := at_T48 HR0.out x13_1 p473 q473
      cases e473
      replace p473 := eq_true p473
      replace q473 := eq_true q473
      have p474 : 0 ≤ (x13_1 : Int) := od
      have q474 : x13_1 < (l1.length : Int) := od
      obtain ⟨ad474, e474, hx474_0, hx474_1, hx474_2, hx474_3, hx474_4⟩ := at_T48 HR1.out x13_1 p474 q474
      cases e474
      replace p474 := eq_true p474
      replace q474 := eq_true q474
      go_wp2
      repeat (go_quiet (fail); try go_wp2)
      go_roundg k1
      case measure => have := HK1.out; omega
      case rel => exact ⟨(wrap64 (x13_1 + 1)), rs_, H', ⟨by have := HK1.out; omega⟩, dr_⟩
    ·
     rw [if_neg c4] at H
     have c4b0 : decide (x13_1 < (l0.length : Int)) = false := decide_eq_false c4
     clear c4
     obtain rfl := Option.some.inj H
     go_wp2
     repeat (go_quiet (fail); try go_wp2)
     go_ret
     exact ⟨rs_, dr_⟩
 ·
  rw [if_neg c3] at H
  have c3b0 : ((l0.length : Int) == (l1.length : Int)) = false := beq_eq_false_iff_ne.mpr c3
  have c3b1 : ((l0.length : Int) != (l1.length : Int)) = true := bne_iff_ne.mpr c3
  have c3b2 : (l0.length == l1.length) = false := by first | simpa using c3 | (simp at c3 ⊢; omega)
  obtain rfl := Option.some.inj H
  go_enter Tryz.func38, Tryz.ntmps38
  go_wp2
  repeat (go_quiet (fail); try go_wp2)
  go_ret
  exact ⟨rs_, dr_⟩
def diff_Same.f (k : Nat) (l0 : List (S48)) (l1 : List (S48)) : Option (Bool) := (api_Change.f k l0 l1).bind fun t475 => (some t475)
theorem diff_Same.mono : ∀ a0 a1 k, LeO (diff_Same.f k a0 a1) (diff_Same.f (k + 1) a0 a1) := by
 intro a0 a1 k
 unfold diff_Same.f
 exact lo
instance diff_Same.mI {a0 a1 k} : LeC (diff_Same.f k a0 a1) (diff_Same.f (k + 1) a0 a1) := ⟨diff_Same.mono _ _ _⟩
theorem diff_Same.calls (k : Nat) (A0 : Option Addr) (c0 : Nat) (l0 : List (S48)) (A1 : Option Addr) (c1 : Nat) (l1 : List (S48)) (r : Bool) (w : World) (hr0 : Kd.C k48 w A0 l0.length l0) (hc0 : l0.length ≤ c0) (hr1 : Kd.C k48 w A1 l1.length l1) (hc1 : l1.length ≤ c1) (h : diff_Same.f k l0 l1 = some r) :
 Calls Tryz.prog 19 #[.slice A0 l0.length c0, .slice A1 l1.length c1] w fun e w' => e = .returned (.bool r) ∧ Drawn0 w w' := by
 have HR0 := Aside0.mk hr0
 have HC0 := Aside0.mk hc0
 clear hr0 hc0
 have HR1 := Aside0.mk hr1
 have HC1 := Aside0.mk hc1
 clear hr1 hc1
 have H : ((api_Change.f k l0 l1).bind fun t475 => (some t475)) = some r := h
 clear h
 obtain ⟨t475, A3, H⟩ := bs H
 try dsimp only at H
 obtain rfl := Option.some.inj H
 go_enter Tryz.func19, Tryz.ntmps19
 go_wp2_with (first | (refine gL (some 7) rfl Tryz.func38 #[.slice A0 l0.length c0, .slice A1 l1.length c1] ?_; (with_reducible refine (api_Change.calls k _ _ l0 _ _ l1 t475 _ ?side1 ?side2 ?side3 ?side4 A3.out).mono ?_); (case side1 => exact uC <| HR0.out); (case side2 => exact HC0.out); (case side3 => exact uC <| HR1.out); (case side4 => exact HC1.out); rintro e w' ⟨rfl, ⟨nd, rfl⟩⟩; refine ⟨_, rfl, ?_⟩))
 go_ret
 exact ⟨rs_, dr_⟩
def stringslite_HasPrefix.f (a0 : ByteArray) (a1 : ByteArray) : Option (Bool) := if (a0.size : Int) ≥ (a1.size : Int) then (if 0 ≤ (a1.size : Int) then (if (a1.size : Int) ≤ (a0.size : Int) then (some ((a0.extract 0 ((a1.size : Int) : Int).toNat).toList == a1.toList)) else (none)) else (none)) else (some false)
theorem stringslite_HasPrefix.calls (a0 : ByteArray) (a1 : ByteArray) (r : Bool) (w : World) (h : stringslite_HasPrefix.f a0 a1 = some r) :
 Calls Tryz.prog 90 #[.string a0, .string a1] w fun e w' => e = .returned (.bool r) ∧ Drawn0 w w' := by
 have H : (if (a0.size : Int) ≥ (a1.size : Int) then (if 0 ≤ (a1.size : Int) then (if (a1.size : Int) ≤ (a0.size : Int) then (some ((a0.extract 0 ((a1.size : Int) : Int).toNat).toList == a1.toList)) else (none)) else (none)) else (some false)) = some r := h
 clear h
 by_cases c3 : (a0.size : Int) ≥ (a1.size : Int)
 ·
  rw [if_pos c3] at H
  have c3b0 : decide ((a1.size : Int) ≤ (a0.size : Int)) = true := decide_eq_true c3
  have c3b1 : decide (a1.size ≤ a0.size) = true := decide_eq_true (Int.ofNat_le.mp c3)
  clear c3
  obtain ⟨c4, H⟩ := gd H
  have c4b0 := eq_true c4
  have c4b1 : decide (0 ≤ (a1.size : Int)) = true := decide_eq_true c4
  clear c4
  obtain ⟨c5, H⟩ := gd H
  have c5b0 := eq_true c5
  have c5b1 : decide ((a1.size : Int) ≤ (a0.size : Int)) = true := decide_eq_true c5
  clear c5
  obtain rfl := Option.some.inj H
  go_enter Tryz.func90, Tryz.ntmps90
  go_wp2
  go_ret
  exact ⟨rs_, dr_⟩
 ·
  rw [if_neg c3] at H
  have c3b0 : decide ((a1.size : Int) ≤ (a0.size : Int)) = false := decide_eq_false c3
  have c3b1 : decide (a1.size ≤ a0.size) = false := decide_eq_false (fun h => c3 (Int.ofNat_le.mpr h))
  clear c3
  obtain rfl := Option.some.inj H
  go_enter Tryz.func90, Tryz.ntmps90
  go_wp2
  go_ret
  exact ⟨rs_, dr_⟩
def stringslite_CutPrefix.f (a0 : ByteArray) (a1 : ByteArray) : Option (ByteArray × Bool) := (stringslite_HasPrefix.f a0 a1).bind fun t476 => (if t476 = true then (if 0 ≤ (a1.size : Int) then (if (a1.size : Int) ≤ (a0.size : Int) then (some (a0.extract ((a1.size : Int) : Int).toNat a0.size, true)) else (none)) else (none)) else (some (a0, false)))
theorem stringslite_CutPrefix.calls (a0 : ByteArray) (a1 : ByteArray) (r1 : ByteArray) (r2 : Bool) (w : World) (h : stringslite_CutPrefix.f a0 a1 = some (r1, r2)) :
 Calls Tryz.prog 75 #[.string a0, .string a1] w fun e w' => e = .returned (.tuple #[.string r1, .bool r2]) ∧ Drawn0 w w' := by
 have H : ((stringslite_HasPrefix.f a0 a1).bind fun t476 => (if t476 = true then (if 0 ≤ (a1.size : Int) then (if (a1.size : Int) ≤ (a0.size : Int) then (some (a0.extract ((a1.size : Int) : Int).toNat a0.size, true)) else (none)) else (none)) else (some (a0, false)))) = some (r1, r2) := h
 clear h
 obtain ⟨t476, A3, H⟩ := bs H
 try dsimp only at H
 by_cases c4 : t476 = true
 ·
  subst c4
  rw [if_pos rfl] at H
  obtain ⟨c5, H⟩ := gd H
  have c5b0 := eq_true c5
  have c5b1 : decide (0 ≤ (a1.size : Int)) = true := decide_eq_true c5
  clear c5
  obtain ⟨c6, H⟩ := gd H
  have c6b0 := eq_true c6
  have c6b1 : decide ((a1.size : Int) ≤ (a0.size : Int)) = true := decide_eq_true c6
  clear c6
  simp only [Option.some.injEq, Prod.mk.injEq] at H
  obtain ⟨rfl, rfl⟩ := H
  go_enter Tryz.func75, Tryz.ntmps75
  go_wp2_with (first | (refine gL (some 8) rfl Tryz.func90 #[.string a0, .string a1] ?_; (with_reducible refine (stringslite_HasPrefix.calls a0 a1 true _ A3.out).mono ?_); rintro e w' ⟨rfl, ⟨nd, rfl⟩⟩; refine ⟨_, rfl, ?_⟩))
  go_ret2
  exact ⟨rs_, dr_⟩
 ·
  replace c4 := Bool.eq_false_iff.mpr c4
  subst c4
  rw [if_neg (show ¬ (false = true) by decide)] at H
  simp only [Option.some.injEq, Prod.mk.injEq] at H
  obtain ⟨rfl, rfl⟩ := H
  go_enter Tryz.func75, Tryz.ntmps75
  go_wp2_with (first | (refine gL (some 8) rfl Tryz.func90 #[.string a0, .string a1] ?_; (with_reducible refine (stringslite_HasPrefix.calls a0 a1 false _ A3.out).mono ?_); rintro e w' ⟨rfl, ⟨nd, rfl⟩⟩; refine ⟨_, rfl, ?_⟩))
  go_ret2
  exact ⟨rs_, dr_⟩
def strings_CutPrefix.f (a0 : ByteArray) (a1 : ByteArray) : Option (ByteArray × Bool) := (stringslite_CutPrefix.f a0 a1).bind fun bt477 => (some (bt477.1, bt477.2))
theorem strings_CutPrefix.calls (a0 : ByteArray) (a1 : ByteArray) (r1 : ByteArray) (r2 : Bool) (w : World) (h : strings_CutPrefix.f a0 a1 = some (r1, r2)) :
 Calls Tryz.prog 57 #[.string a0, .string a1] w fun e w' => e = .returned (.tuple #[.string r1, .bool r2]) ∧ Drawn0 w w' := by
 have H : ((stringslite_CutPrefix.f a0 a1).bind fun bt477 => (some (bt477.1, bt477.2))) = some (r1, r2) := h
 clear h
 obtain ⟨⟨t477, t478⟩, A3, H⟩ := bs H
 try dsimp only at H
 simp only [Option.some.injEq, Prod.mk.injEq] at H
 obtain ⟨rfl, rfl⟩ := H
 go_enter Tryz.func57, Tryz.ntmps57
 go_wp2_with (first | (refine gL (some 8) rfl Tryz.func75 #[.string a0, .string a1] ?_; (with_reducible refine (stringslite_CutPrefix.calls a0 a1 t477 t478 _ A3.out).mono ?_); rintro e w' ⟨rfl, ⟨nd, rfl⟩⟩; refine ⟨_, rfl, ?_⟩))
 go_ret2
 exact ⟨rs_, dr_⟩
def stringslite_TrimPrefix.f (a0 : ByteArray) (a1 : ByteArray) : Option (ByteArray) := (stringslite_HasPrefix.f a0 a1).bind fun t479 => (if t479 = true then (if 0 ≤ (a1.size : Int) then (if (a1.size : Int) ≤ (a0.size : Int) then (some (a0.extract ((a1.size : Int) : Int).toNat a0.size)) else (none)) else (none)) else (some a0))
theorem stringslite_TrimPrefix.calls (a0 : ByteArray) (a1 : ByteArray) (r : ByteArray) (w : World) (h : stringslite_TrimPrefix.f a0 a1 = some r) :
 Calls Tryz.prog 111 #[.string a0, .string a1] w fun e w' => e = .returned (.string r) ∧ Drawn0 w w' := by
 have H : ((stringslite_HasPrefix.f a0 a1).bind fun t479 => (if t479 = true then (if 0 ≤ (a1.size : Int) then (if (a1.size : Int) ≤ (a0.size : Int) then (some (a0.extract ((a1.size : Int) : Int).toNat a0.size)) else (none)) else (none)) else (some a0))) = some r := h
 clear h
 obtain ⟨t479, A3, H⟩ := bs H
 try dsimp only at H
 by_cases c4 : t479 = true
 ·
  subst c4
  rw [if_pos rfl] at H
  obtain ⟨c5, H⟩ := gd H
  have c5b0 := eq_true c5
  have c5b1 : decide (0 ≤ (a1.size : Int)) = true := decide_eq_true c5
  clear c5
  obtain ⟨c6, H⟩ := gd H
  have c6b0 := eq_true c6
  have c6b1 : decide ((a1.size : Int) ≤ (a0.size : Int)) = true := decide_eq_true c6
  clear c6
  obtain rfl := Option.some.inj H
  go_enter Tryz.func111, Tryz.ntmps111
  go_wp2_with (first | (refine gL (some 7) rfl Tryz.func90 #[.string a0, .string a1] ?_; (with_reducible refine (stringslite_HasPrefix.calls a0 a1 true _ A3.out).mono ?_); rintro e w' ⟨rfl, ⟨nd, rfl⟩⟩; refine ⟨_, rfl, ?_⟩))
  go_ret
  exact ⟨rs_, dr_⟩
 ·
  replace c4 := Bool.eq_false_iff.mpr c4
  subst c4
  rw [if_neg (show ¬ (false = true) by decide)] at H
  obtain rfl := Option.some.inj H
  go_enter Tryz.func111, Tryz.ntmps111
  go_wp2_with (first | (refine gL (some 7) rfl Tryz.func90 #[.string a0, .string a1] ?_; (with_reducible refine (stringslite_HasPrefix.calls a0 a1 false _ A3.out).mono ?_); rintro e w' ⟨rfl, ⟨nd, rfl⟩⟩; refine ⟨_, rfl, ?_⟩))
  go_ret
  exact ⟨rs_, dr_⟩
def strings_TrimPrefix.f (a0 : ByteArray) (a1 : ByteArray) : Option (ByteArray) := (stringslite_TrimPrefix.f a0 a1).bind fun t480 => (some t480)
theorem strings_TrimPrefix.calls (a0 : ByteArray) (a1 : ByteArray) (r : ByteArray) (w : World) (h : strings_TrimPrefix.f a0 a1 = some r) :
 Calls Tryz.prog 91 #[.string a0, .string a1] w fun e w' => e = .returned (.string r) ∧ Drawn0 w w' := by
 have H : ((stringslite_TrimPrefix.f a0 a1).bind fun t480 => (some t480)) = some r := h
 clear h
 obtain ⟨t480, A3, H⟩ := bs H
 try dsimp only at H
 obtain rfl := Option.some.inj H
 go_enter Tryz.func91, Tryz.ntmps91
 go_wp2_with (first | (refine gL (some 7) rfl Tryz.func111 #[.string a0, .string a1] ?_; (with_reducible refine (stringslite_TrimPrefix.calls a0 a1 t480 _ A3.out).mono ?_); rintro e w' ⟨rfl, ⟨nd, rfl⟩⟩; refine ⟨_, rfl, ?_⟩))
 go_ret
 exact ⟨rs_, dr_⟩
def sat_digits.f (a0 : ByteArray) : Option (Bool) := if a0.toList = ([] : List UInt8) then (some false) else (if 0 < (a0.size : Int) then (if (bt a0 0) = 48 then (if a0.toList = ([48] : List UInt8) then ((strings_Trim.f a0 (⟨#[48, 49, 50, 51, 52, 53, 54, 55, 56, 57]⟩ : ByteArray)).bind fun t481 => (some (t481.toList == ([] : List UInt8)))) else (some false)) else ((strings_Trim.f a0 (⟨#[48, 49, 50, 51, 52, 53, 54, 55, 56, 57]⟩ : ByteArray)).bind fun t482 => (some (t482.toList == ([] : List UInt8))))) else (none))
theorem sat_digits.calls (a0 : ByteArray) (r : Bool) (w : World) (h : sat_digits.f a0 = some r) :
 Calls Tryz.prog 92 #[.string a0] w fun e w' => e = .returned (.bool r) ∧ Below w.heap.size w w' := by
 have HB := Aside0.mk (Below.refl w.heap.size w)
 have H : (if a0.toList = ([] : List UInt8) then (some false) else (if 0 < (a0.size : Int) then (if (bt a0 0) = 48 then (if a0.toList = ([48] : List UInt8) then ((strings_Trim.f a0 (⟨#[48, 49, 50, 51, 52, 53, 54, 55, 56, 57]⟩ : ByteArray)).bind fun t481 => (some (t481.toList == ([] : List UInt8)))) else (some false)) else ((strings_Trim.f a0 (⟨#[48, 49, 50, 51, 52, 53, 54, 55, 56, 57]⟩ : ByteArray)).bind fun t482 => (some (t482.toList == ([] : List UInt8))))) else (none))) = some r := h
 clear h
 by_cases c2 : a0.toList = ([] : List UInt8)
 ·
  rw [if_pos c2] at H
  have c2b0 : (a0.toList == ([] : List UInt8)) = true := beq_iff_eq.mpr c2
  have c2b1 : (a0.toList != ([] : List UInt8)) = false := bne_eq_false_iff_eq.mpr c2
  clear c2
  obtain rfl := Option.some.inj H
  go_enter Tryz.func92, Tryz.ntmps92
  go_wp2
  go_ret
  exact ⟨re_, uW HB.out⟩
 ·
  rw [if_neg c2] at H
  have c2b0 : (a0.toList == ([] : List UInt8)) = false := beq_eq_false_iff_ne.mpr c2
  have c2b1 : (a0.toList != ([] : List UInt8)) = true := bne_iff_ne.mpr c2
  by_cases c3 : 0 < (a0.size : Int)
  ·
   rw [if_pos c3] at H
   have c3b0 : decide (0 < (a0.size : Int)) = true := decide_eq_true c3
   have c3b1 : decide (0 < a0.size) = true := decide_eq_true (by omega)
   clear c3
   by_cases c5 : (bt a0 0) = 48
   ·
    rw [if_pos c5] at H
    have c5b0 : ((bt a0 0) == 48) = true := beq_iff_eq.mpr c5
    have c5b1 : ((bt a0 0) != 48) = false := bne_eq_false_iff_eq.mpr c5
    clear c5
    by_cases c6 : a0.toList = ([48] : List UInt8)
    ·
     rw [if_pos c6] at H
     have c6b0 : (a0.toList == ([48] : List UInt8)) = true := beq_iff_eq.mpr c6
     have c6b1 : (a0.toList != ([48] : List UInt8)) = false := bne_eq_false_iff_eq.mpr c6
     clear c6
     obtain ⟨t481, A7, H⟩ := bs H
     try dsimp only at H
     obtain rfl := Option.some.inj H
     have p4 : 0 ≤ (0 : Int) := (by omega)
     have q4 : 0 < a0.size := (by have : (0 : Int) < (a0.size : Int) := od; omega)
     have hx4 : ∀ h : 0 < a0.size, ((a0[0]'h).toNat : Int) = bt a0 0 := bt_at a0 0
     clear p4
     have qi4 : (0 < (a0.size : Int)) = True := eq_true (od)
     replace q4 := eq_true q4
     go_enter Tryz.func92, Tryz.ntmps92
     go_wp2_with (first | (refine gL (some 15) rfl Tryz.func112 #[.string a0, .string (⟨#[48, 49, 50, 51, 52, 53, 54, 55, 56, 57]⟩ : ByteArray)] ?_; (with_reducible refine (strings_Trim.calls a0 (⟨#[48, 49, 50, 51, 52, 53, 54, 55, 56, 57]⟩ : ByteArray) t481 _ A7.out).mono ?_); rintro e w8 ⟨rfl, hb⟩; refine ⟨_, rfl, ?_⟩; replace HB := cW HB hb; (try clear hb)))
     go_ret
     exact ⟨re_, uW HB.out⟩
    ·
     rw [if_neg c6] at H
     have c6b0 : (a0.toList == ([48] : List UInt8)) = false := beq_eq_false_iff_ne.mpr c6
     have c6b1 : (a0.toList != ([48] : List UInt8)) = true := bne_iff_ne.mpr c6
     obtain rfl := Option.some.inj H
     have p4 : 0 ≤ (0 : Int) := (by omega)
     have q4 : 0 < a0.size := (by have : (0 : Int) < (a0.size : Int) := od; omega)
     have hx4 : ∀ h : 0 < a0.size, ((a0[0]'h).toNat : Int) = bt a0 0 := bt_at a0 0
     clear p4
     have qi4 : (0 < (a0.size : Int)) = True := eq_true (od)
     replace q4 := eq_true q4
     go_enter Tryz.func92, Tryz.ntmps92
     go_wp2
     go_ret
     exact ⟨re_, uW HB.out⟩
   ·
    rw [if_neg c5] at H
    have c5b0 : ((bt a0 0) == 48) = false := beq_eq_false_iff_ne.mpr c5
    have c5b1 : ((bt a0 0) != 48) = true := bne_iff_ne.mpr c5
    obtain ⟨t482, A9, H⟩ := bs H
    try dsimp only at H
    obtain rfl := Option.some.inj H
    have p4 : 0 ≤ (0 : Int) := (by omega)
    have q4 : 0 < a0.size := (by have : (0 : Int) < (a0.size : Int) := od; omega)
    have hx4 : ∀ h : 0 < a0.size, ((a0[0]'h).toNat : Int) = bt a0 0 := bt_at a0 0
    clear p4
    have qi4 : (0 < (a0.size : Int)) = True := eq_true (od)
    replace q4 := eq_true q4
    go_enter Tryz.func92, Tryz.ntmps92
    go_wp2_with (first | (refine gL (some 15) rfl Tryz.func112 #[.string a0, .string (⟨#[48, 49, 50, 51, 52, 53, 54, 55, 56, 57]⟩ : ByteArray)] ?_; (with_reducible refine (strings_Trim.calls a0 (⟨#[48, 49, 50, 51, 52, 53, 54, 55, 56, 57]⟩ : ByteArray) t482 _ A9.out).mono ?_); rintro e w10 ⟨rfl, hb⟩; refine ⟨_, rfl, ?_⟩; replace HB := cW HB hb; (try clear hb)))
    go_ret
    exact ⟨re_, uW HB.out⟩
  ·
   rw [if_neg c3] at H
   exact absurd H (by simp)
def sat_Read.f (a0 : ByteArray) : Option (Int × Int) := (strings_TrimPrefix.f a0 (⟨#[45]⟩ : ByteArray)).bind fun t => ((sat_digits.f t).bind fun d => (if d = true then (if a0.toList = ([45, 48] : List UInt8) then (some (0, 2)) else (if a0.size ≤ 140737488355328 then (some (match Lib.parseIntB 64 a0.data.toList with | .ok v => (v, 0) | _ => (0, 3))) else (none))) else (some (0, 2))))
theorem sat_Read.calls (a0 : ByteArray) (r1 : Int) (r2 : Int) (w : World) (hL : LD w) (h : sat_Read.f a0 = some (r1, r2)) :
 Calls Tryz.prog 76 #[.string a0] w fun e w' => e = .returned (.tuple #[.int .i64 r1, .int .i64 r2]) ∧ Below w.heap.size w w' := by
 unfold sat_Read.f at h
 obtain ⟨t, h1, h⟩ := Option.bind_eq_some_iff.mp h
 obtain ⟨d, h2, h⟩ := Option.bind_eq_some_iff.mp h
 have H1 := Aside0.mk h1
 have H2 := Aside0.mk h2
 have HL0 := Aside0.mk hL
 clear h1 h2 hL
 cases d with
 | false =>
  rw [if_neg (by decide)] at h
  have h := Option.some.inj h
  injection h with h3 h4
  subst h3 h4
  go_enter Tryz.func76, Tryz.ntmps76
  go_wp2_with (first | (go_at_call 91; (with_reducible refine (strings_TrimPrefix.calls _ _ t _ H1.out).mono ?_); rintro e w1 ⟨rfl, ⟨n1, rfl⟩⟩) | (go_at_call 92; (with_reducible refine (sat_digits.calls _ false _ H2.out).mono ?_); rintro e w2 ⟨rfl, hb⟩; have HB := Aside0.mk (show Below w.heap.size w w2 from Below.trans (pw_below_drewN (Below.refl w.heap.size w) _) hb); clear hb))
  go_ret2
  exact ⟨rfl, HB.out⟩
 | true =>
  rw [if_pos rfl] at h
  by_cases hz : a0.toList = ([45, 48] : List UInt8)
  ·
   rw [if_pos hz] at h
   have h := Option.some.inj h
   injection h with h3 h4
   subst h3 h4
   have c6b0 : (a0.toList == ([45, 48] : List UInt8)) = true := beq_iff_eq.mpr hz
   clear hz
   go_enter Tryz.func76, Tryz.ntmps76
   go_wp2_with (first | (go_at_call 91; (with_reducible refine (strings_TrimPrefix.calls _ _ t _ H1.out).mono ?_); rintro e w1 ⟨rfl, ⟨n1, rfl⟩⟩) | (go_at_call 92; (with_reducible refine (sat_digits.calls _ true _ H2.out).mono ?_); rintro e w2 ⟨rfl, hb⟩; have HB := Aside0.mk (show Below w.heap.size w w2 from Below.trans (pw_below_drewN (Below.refl w.heap.size w) _) hb); clear hb))
   go_ret2
   exact ⟨rfl, HB.out⟩
  ·
   rw [if_neg hz] at h
   by_cases hs : a0.size ≤ 140737488355328
   ·
    rw [if_pos hs] at h
    have h := Option.some.inj h
    have c6b0 : (a0.toList == ([45, 48] : List UInt8)) = false := beq_eq_false_iff_ne.mpr hz
    have HS := Aside0.mk hs
    clear hz hs
    cases hp : Lib.parseIntB 64 a0.data.toList with
    | ok v =>
     rw [hp] at h
     injection h with h3 h4
     subst h3 h4
     have HP := Aside0.mk hp
     clear hp
     go_enter Tryz.func76, Tryz.ntmps76
     go_wp2_with (first | (go_at_call 91; (with_reducible refine (strings_TrimPrefix.calls _ _ t _ H1.out).mono ?_); rintro e w1 ⟨rfl, ⟨n1, rfl⟩⟩) | (go_at_call 92; (with_reducible refine (sat_digits.calls _ true _ H2.out).mono ?_); rintro e w2 ⟨rfl, hb⟩; have HB := Aside0.mk (show Below w.heap.size w w2 from Below.trans (pw_below_drewN (Below.refl w.heap.size w) _) hb); clear hb) | (go_at_call 93; refine (Tryz.strconv_ParseInt_10_at64_ok a0 (by have := HS.out; omega) _ HP.out _).mono ?_; rintro e w3 ⟨rfl, hw⟩; have HB3 := Aside0.mk (show Below w.heap.size w w3 from by rcases hw with rfl | ⟨t3, rfl⟩; exact HB.out; exact bytes_below HB.out HB.out.size _ t3); clear hw))
     go_ret2
     exact ⟨rfl, HB3.out⟩
    | range =>
     rw [hp] at h
     injection h with h3 h4
     subst h3 h4
     have HP := Aside0.mk hp
     clear hp
     go_enter Tryz.func76, Tryz.ntmps76
     go_wp2_with (first | (go_at_call 91; (with_reducible refine (strings_TrimPrefix.calls _ _ t _ H1.out).mono ?_); rintro e w1 ⟨rfl, ⟨n1, rfl⟩⟩) | (go_at_call 92; (with_reducible refine (sat_digits.calls _ true _ H2.out).mono ?_); rintro e w2 ⟨rfl, hb⟩; have HB := Aside0.mk (show Below w.heap.size w w2 from Below.trans (pw_below_drewN (Below.refl w.heap.size w) _) hb); clear hb) | (go_at_call 93; (obtain ⟨tp, p, hv⟩ := (LD.below HL0.out HB.out).ErrRange); refine (Tryz.strconv_ParseInt_10_at64_range_var a0 (by have := HS.out; omega) HP.out tp p _ hv).mono ?_; rintro e w3 ⟨N, rfl, hN, hc3, hb3⟩; have HB3 := Aside0.mk (show Below w.heap.size w w3 from HB.out.trans (hb3.mono HB.out.size)); clear hN hc3 hb3 hv))
     go_ret2
     exact ⟨rfl, HB3.out⟩
    | _ =>
     rw [hp] at h
     injection h with h3 h4
     subst h3 h4
     have HP := Aside0.mk hp
     clear hp
     go_enter Tryz.func76, Tryz.ntmps76
     go_wp2_with (first | (go_at_call 91; (with_reducible refine (strings_TrimPrefix.calls _ _ t _ H1.out).mono ?_); rintro e w1 ⟨rfl, ⟨n1, rfl⟩⟩) | (go_at_call 92; (with_reducible refine (sat_digits.calls _ true _ H2.out).mono ?_); rintro e w2 ⟨rfl, hb⟩; have HB := Aside0.mk (show Below w.heap.size w w2 from Below.trans (pw_below_drewN (Below.refl w.heap.size w) _) hb); clear hb) | (go_at_call 93; (obtain ⟨tp, p, hv⟩ := (LD.below HL0.out HB.out).ErrSyntax); refine (Tryz.strconv_ParseInt_10_at64_syntax_var a0 (by have := HS.out; omega) HP.out tp p _ hv).mono ?_; rintro e w3 ⟨N, rfl, hN, hc3, hb3⟩; have HB3 := Aside0.mk (show Below w.heap.size w w3 from HB.out.trans (hb3.mono HB.out.size)); clear hN hc3 hb3 hv))
     go_ret2
     exact ⟨rfl, HB3.out⟩
   ·
    rw [if_neg hs] at h
    exact absurd h (by simp)
end Go.Proofs.YtgcbejidponoaaaGreatDoor.X
