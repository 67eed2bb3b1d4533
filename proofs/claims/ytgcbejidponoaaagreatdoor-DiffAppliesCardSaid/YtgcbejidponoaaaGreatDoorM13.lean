/- Printed by a program of this session's own: what functions of the program compute, and that the machine computes it. No condition of its own. -/
import Derived.Test.YtgcbejidponoaaaGreatDoorM3
import Derived.Test.YtgcbejidponoaaaGreatDoorM11
import Derived.Test.YtgcbejidponoaaaGreatDoorM12
namespace Go.Proofs.YtgcbejidponoaaaGreatDoor.X
open Go.RowKit Go.Proofs.YtgcbejidponoaaaGreatDoorW.PrintWords Go.Proofs.YtgcbejidponoaaaGreatDoorW.PrintLast Go.Proofs.YtgcbejidponoaaaGreatDoorW.PrintMore
attribute [local go_sem] max2_int min2_int max_two min_two max_three min_three max_four min_four
set_option linter.unusedVariables false
set_option linter.unusedSimpArgs false
set_option maxHeartbeats 8000000
set_option maxRecDepth 100000
mutual
def r09_Apply.j0 : Nat → List (S45) → List (S48) → Bool → Option ((List (S45)) × Int)
 | 0, _, _, _ => none
 | k + 1, x0, x1, x18 => if x18 = true then (some (([] : List (S45)), 9)) else ((some (([] : List (S45)) : List (S45))).bind fun y646 => (if y646.length + x0.length < 3518437208883 then (r09_Apply.l0 k x1 (y646 ++ x0) 0) else (none)))
def r09_Apply.l0 : Nat → List (S48) → List (S45) → Int → Option ((List (S45)) × Int)
 | 0, _, _, _ => none
 | k + 1, x1, x6, x7 => if x7 < (x1.length : Int) then (if 0 ≤ x7 then ((r09_find.f k x6 ((rd_T48 x1 x7).f0.f0) ((rd_T48 x1 x7).f0.f1) ((rd_T48 x1 x7).f0.f2.f0) ((rd_T48 x1 x7).f0.f2.f1)).bind fun t654 => (if (rd_T48 x1 x7).f1 = true then (r09_Apply.j2 k x1 x6 x7 t654 (decide (t654 < 0)) ((rd_T48 x1 x7).f0.f0) ((rd_T48 x1 x7).f0.f1) ((rd_T48 x1 x7).f0.f2.f0) ((rd_T48 x1 x7).f0.f2.f1) ((rd_T48 x1 x7).f1)) else (r09_Apply.j2 k x1 x6 x7 t654 false ((rd_T48 x1 x7).f0.f0) ((rd_T48 x1 x7).f0.f1) ((rd_T48 x1 x7).f0.f2.f0) ((rd_T48 x1 x7).f0.f2.f1) ((rd_T48 x1 x7).f1)))) else (none)) else (some (x6, 0))
def r09_Apply.j2 : Nat → List (S48) → List (S45) → Int → Int → Bool → Int → ByteArray → Int → Bool → Bool → Option ((List (S45)) × Int)
 | 0, _, _, _, _, _, _, _, _, _, _ => none
 | k + 1, x1, x6, x7, x9, x41, x654000, x654001, x654002, x654003, x654004 => if x41 = true then (some (([] : List (S45)), 6)) else (if x654004 = true then ((some (([] : List (S45)) : List (S45))).bind fun y655 => (if 0 ≤ x9 then (if x9 ≤ (x6.length : Int) then ((some (x6.take (x9 : Int).toNat : List (S45))).bind fun y658 => (if y655.length + y658.length < 3518437208883 then ((some (y655 ++ y658 : List (S45))).bind fun y662 => (if 0 ≤ (wrap64 (x9 + 1)) then (if (wrap64 (x9 + 1)) ≤ (x6.length : Int) then ((some (x6.drop ((wrap64 (x9 + 1)) : Int).toNat : List (S45))).bind fun y665 => (if y662.length + y665.length < 3518437208883 then (r09_Apply.l0 k x1 (y662 ++ y665) (wrap64 (x7 + 1))) else (none))) else (none)) else (none))) else (none))) else (none)) else (none))) else (if x9 ≥ 0 then (if 0 ≤ x9 then (if x9 < (x6.length : Int) then (r09_Apply.l0 k x1 (x6.set (x9 : Int).toNat (⟨x654000, x654001, (⟨x654002, x654003⟩ : S43)⟩ : S45)) (wrap64 (x7 + 1))) else (none)) else (none)) else (r09_Apply.l1 k x1 x6 x7 0 x654000 x654001 x654002 x654003 x654004)))
def r09_Apply.l1 : Nat → List (S48) → List (S45) → Int → Int → Int → ByteArray → Int → Bool → Bool → Option ((List (S45)) × Int)
 | 0, _, _, _, _, _, _, _, _, _ => none
 | k + 1, x1, x6, x7, x9, x654000, x654001, x654002, x654003, x654004 => if x9 < (x6.length : Int) then (if 0 ≤ x9 then ((r08_Before.f ((rd_T45 x6 x9).f0) ((rd_T45 x6 x9).f1) ((rd_T45 x6 x9).f2.f0) ((rd_T45 x6 x9).f2.f1) x654000 x654001 x654002 x654003).bind fun t674 => (if t674 = true then (r09_Apply.l1 k x1 x6 x7 (wrap64 (x9 + 1)) x654000 x654001 x654002 x654003 x654004) else ((some (([] : List (S45)) : List (S45))).bind fun y675 => (if x9 ≤ (x6.length : Int) then ((some (x6.drop (x9 : Int).toNat : List (S45))).bind fun y678 => (if y675.length + y678.length < 3518437208883 then ((some (y675 ++ y678 : List (S45))).bind fun y682 => ((some (x6.take (x9 : Int).toNat : List (S45))).bind fun y685 => (if y685.length < 3518437208883 then ((some (y685 ++ [(⟨x654000, x654001, (⟨x654002, x654003⟩ : S43)⟩ : S45)] : List (S45))).bind fun y688 => (if y688.length + y682.length < 3518437208883 then (r09_Apply.l0 k x1 (y688 ++ y682) (wrap64 (x7 + 1))) else (none))) else (none)))) else (none))) else (none))))) else (none)) else ((some (([] : List (S45)) : List (S45))).bind fun y694 => (if 0 ≤ x9 then (if x9 ≤ (x6.length : Int) then ((some (x6.drop (x9 : Int).toNat : List (S45))).bind fun y697 => (if y694.length + y697.length < 3518437208883 then ((some (y694 ++ y697 : List (S45))).bind fun y701 => ((some (x6.take (x9 : Int).toNat : List (S45))).bind fun y704 => (if y704.length < 3518437208883 then ((some (y704 ++ [(⟨x654000, x654001, (⟨x654002, x654003⟩ : S43)⟩ : S45)] : List (S45))).bind fun y707 => (if y707.length + y701.length < 3518437208883 then (r09_Apply.l0 k x1 (y707 ++ y701) (wrap64 (x7 + 1))) else (none))) else (none)))) else (none))) else (none)) else (none)))
end
def r09_Apply.f (k : Nat) (l0 : List (S45)) (l1 : List (S48)) : Option ((List (S45)) × Int) := (r08_Right.f k l0).bind fun t644 => (if t644 = true then ((r09_Right.f k l1).bind fun t645 => (r09_Apply.j0 k l0 l1 (!t645))) else (r09_Apply.j0 k l0 l1 true))
theorem r09_Apply.mono_l : ∀ k, (∀ y0 y1 y2, LeC (r09_Apply.j0 k y0 y1 y2) (r09_Apply.j0 (k + 1) y0 y1 y2)) ∧ (∀ y0 y1 y2, LeC (r09_Apply.l0 k y0 y1 y2) (r09_Apply.l0 (k + 1) y0 y1 y2)) ∧ (∀ y0 y1 y2 y3 y4 y5 y6 y7 y8 y9, LeC (r09_Apply.j2 k y0 y1 y2 y3 y4 y5 y6 y7 y8 y9) (r09_Apply.j2 (k + 1) y0 y1 y2 y3 y4 y5 y6 y7 y8 y9)) ∧ (∀ y0 y1 y2 y3 y4 y5 y6 y7 y8, LeC (r09_Apply.l1 k y0 y1 y2 y3 y4 y5 y6 y7 y8) (r09_Apply.l1 (k + 1) y0 y1 y2 y3 y4 y5 y6 y7 y8))
 | 0 => ⟨fun _ _ _ => ⟨fun r h => by simp [r09_Apply.j0] at h⟩, fun _ _ _ => ⟨fun r h => by simp [r09_Apply.l0] at h⟩, fun _ _ _ _ _ _ _ _ _ _ => ⟨fun r h => by simp [r09_Apply.j2] at h⟩, fun _ _ _ _ _ _ _ _ _ => ⟨fun r h => by simp [r09_Apply.l1] at h⟩⟩
 | k + 1 => by obtain ⟨ih0, ih1, ih2, ih3⟩ := r09_Apply.mono_l k; exact ⟨fun _ _ _ => by unfold r09_Apply.j0; exact lm, fun _ _ _ => by unfold r09_Apply.l0; exact lm, fun _ _ _ _ _ _ _ _ _ _ => by unfold r09_Apply.j2; exact lm, fun _ _ _ _ _ _ _ _ _ => by unfold r09_Apply.l1; exact lm⟩
theorem r09_Apply.mono : ∀ a0 a1 k, LeO (r09_Apply.f k a0 a1) (r09_Apply.f (k + 1) a0 a1) := by
 intro a0 a1 k
 obtain ⟨ih0, ih1, ih2, ih3⟩ := r09_Apply.mono_l k
 unfold r09_Apply.f
 exact lo
instance r09_Apply.mI {a0 a1 k} : LeC (r09_Apply.f k a0 a1) (r09_Apply.f (k + 1) a0 a1) := ⟨r09_Apply.mono _ _ _⟩
def r09_Apply.T12 : Bool × List (List Nat × List Nat) := (true, [([], []), ([], []), ([1], [1]), ([0, 2], [0, 2]), ([3], [3]), ([4], [4]), ([4], [4]), ([5, 6, 4], [4, 5, 6]), ([7, 4], [4, 7]), ([4], [4]), ([9, 4], [4, 9]), ([8, 10, 4, 4], [4, 8, 10]), ([4, 11], [4, 11])])
def r09_Apply.B12 : List Nat := [0, 0, 2, 7, 15, 31, 31, 127, 255, 31, 543, 2047, 4095]
theorem r09_Apply.tab12 : rtab .any (opsOf Tryz.f18 12) = r09_Apply.T12 := by kernel_rfl
theorem r09_Apply.bits12 : waitsOk r09_Apply.T12.2 r09_Apply.B12 = true := by kernel_rfl
def r09_Apply.T15 : Bool × List (List Nat × List Nat) := (true, [([], []), ([], []), ([0, 1], [0, 1]), ([], []), ([3], [3]), ([4], [4]), ([2, 5], [2, 5]), ([], []), ([6, 7, 6], [6, 7]), ([8, 8, 0, 1, 2, 3, 4, 5, 6, 7, 8], [0, 8])])
def r09_Apply.B15 : List Nat := [0, 0, 3, 0, 8, 24, 63, 0, 255, 511]
theorem r09_Apply.tab15 : rtab .any (opsOf Tryz.f18 15) = r09_Apply.T15 := by kernel_rfl
theorem r09_Apply.bits15 : waitsOk r09_Apply.T15.2 r09_Apply.B15 = true := by kernel_rfl
def r09_Apply.T17 : Bool × List (List Nat × List Nat) := (true, [([], []), ([], []), ([], []), ([1, 2], [1, 2]), ([0, 3], [0, 3]), ([], []), ([], []), ([6], [6]), ([5, 7], [5, 7]), ([4, 8, 4], [4, 8]), ([9, 9, 0, 1, 2, 3, 4, 5, 6, 7, 8, 9], [1, 5, 9])])
def r09_Apply.B17 : List Nat := [0, 0, 0, 6, 15, 0, 0, 64, 224, 511, 1023]
theorem r09_Apply.tab17 : rtab .any (opsOf Tryz.f18 17) = r09_Apply.T17 := by kernel_rfl
theorem r09_Apply.bits17 : waitsOk r09_Apply.T17.2 r09_Apply.B17 = true := by kernel_rfl
theorem r09_Apply.calls (k : Nat) (A0 : Option Addr) (c0 : Nat) (l0 : List (S45)) (A1 : Option Addr) (c1 : Nat) (l1 : List (S48)) (r1 : List (S45)) (r2 : Int) (w : World) (hr0 : Kd.C k45 w A0 l0.length l0) (hc0 : l0.length ≤ c0) (hr1 : Kd.C k48 w A1 l1.length l1) (hc1 : l1.length ≤ c1) (h : r09_Apply.f k l0 l1 = some (r1, r2)) :
 Calls Tryz.prog 18 #[.slice A0 l0.length c0, .slice A1 l1.length c1] w fun e w' => ∃ v0_ : Value, e = .returned (.tuple #[v0_, .int .i64 r2]) ∧ Kd.R k45 45 w' w.heap.size (fun _ => True) v0_ r1 ∧ Below w.heap.size w w' := by
 have hu48 := Tryz.underlying48
 have hu45 := Tryz.underlying45
 have HR0 := Aside0.mk hr0
 have HC0 := Aside0.mk hc0
 clear hr0 hc0
 have HR1 := Aside0.mk hr1
 have HC1 := Aside0.mk hc1
 clear hr1 hc1
 have HB := Aside0.mk (Below.refl w.heap.size w)
 have H : ((r08_Right.f k l0).bind fun t644 => (if t644 = true then ((r09_Right.f k l1).bind fun t645 => (r09_Apply.j0 k l0 l1 (!t645))) else (r09_Apply.j0 k l0 l1 true))) = some (r1, r2) := h
 clear h
 have HC3 := Aside0.mk H
 clear H
 go_enter Tryz.func18, Tryz.ntmps18
 go_upto_region 1 with (fail)
 go_cut [18] (fun v18 wc => ∃ (kq : Nat) (x18_2 : Bool), v18 = .bool x18_2 ∧ Aside0 (r09_Apply.j0 kq l0 l1 x18_2 = some (r1, r2)) ∧ Aside0 (kq ≤ k) ∧ Aside0 (Below w.heap.size w wc))
 case first =>
  have H := HC3.out
  clear HC3
  obtain ⟨t644, A4, H⟩ := bs H
  try dsimp only at H
  by_cases c5 : t644 = true
  ·
   subst c5
   rw [if_pos rfl] at H
   obtain ⟨t645, A6, H⟩ := bs H
   try dsimp only at H
   have H' := Aside0.mk H
   clear H
   go_wp2_with (first | (refine gL (some 12) rfl Tryz.func27 #[.slice A0 l0.length c0] ?_; (with_reducible refine (r08_Right.calls k _ _ l0 true _ ?side1 ?side2 A4.out).mono ?_); (case side1 => exact uC <| (Kd.C_below HR0.out HB.out)); (case side2 => exact HC0.out); rintro e w7 ⟨rfl, hb⟩; refine ⟨_, rfl, ?_⟩; replace HB := cW HB hb; (try clear hb)) | (go_at_call 22; (with_reducible refine (r09_Right.calls k _ _ l1 t645 _ ?side1 ?side2 A6.out).mono ?_); (case side1 => exact uC <| (Kd.C_below HR1.out HB.out)); (case side2 => exact HC1.out); rintro e w8 ⟨rfl, hb⟩; replace HB := cW HB hb; (try clear hb)))
   go_meet
   case rel => exact ⟨_, (!t645), rs_, H', ⟨by first | omega | exact Nat.le_refl _⟩, ⟨uW HB.out⟩⟩
  ·
   replace c5 := Bool.eq_false_iff.mpr c5
   subst c5
   rw [if_neg (show ¬ (false = true) by decide)] at H
   have H' := Aside0.mk H
   clear H
   go_wp2_with (first | (refine gL (some 12) rfl Tryz.func27 #[.slice A0 l0.length c0] ?_; (with_reducible refine (r08_Right.calls k _ _ l0 false _ ?side1 ?side2 A4.out).mono ?_); (case side1 => exact uC <| (Kd.C_below HR0.out HB.out)); (case side2 => exact HC0.out); rintro e w9 ⟨rfl, hb⟩; refine ⟨_, rfl, ?_⟩; replace HB := cW HB hb; (try clear hb)))
   go_meet
   case rel => exact ⟨_, (true), rs_, H', ⟨by first | omega | exact Nat.le_refl _⟩, ⟨uW HB.out⟩⟩
 case rest =>
  clear HC3
  try clear c1
  try clear c2
  try clear p2
  try clear c5
  obtain ⟨kq, x18_2, rfl, HA, HJ2, HB⟩ := hcut
  cases kq with
  | zero => exact absurd HA.out (by simp [r09_Apply.j0])
  | succ kj2 =>
   have H := HA.out
   clear HA
   simp only [r09_Apply.j0] at H
   by_cases c10 : x18_2 = true
   ·
    subst c10
    rw [if_pos rfl] at H
    simp only [Option.some.injEq, Prod.mk.injEq] at H
    obtain ⟨rfl, rfl⟩ := H
    go_wp2
    go_ret2
    exact ⟨_, re_, nl_, uW HB.out⟩
   ·
    replace c10 := Bool.eq_false_iff.mpr c10
    subst c10
    rw [if_neg (show ¬ (false = true) by decide)] at H
    obtain ⟨y646, Ny646, H⟩ := ys H
    try dsimp only at H
    by_cases c11 : y646.length + l0.length < 3518437208883
    ·
     rw [if_pos c11] at H
     have LMc11 := Aside0.mk c11
     clear c11
     obtain ⟨y649, hy649⟩ : ∃ y_ : List (S45), y_ = (y646 ++ l0) := ⟨_, rfl⟩
     replace H : (r09_Apply.l0 kj2 l1 y649 0) = some (r1, r2) := by first | (rw [hy649]; with_reducible exact H) | (have H2_ := (Option.bind_some _ _).symm.trans H; rw [hy649]; with_reducible exact H2_) | (have H2_ := (Option.bind_some _ _).symm.trans H; with_reducible exact H2_) | with_reducible exact H | (rw [hy649]; exact H) | exact H
     have Ny649 := Aside0.mk hy649
     clear hy649
     have H' := Aside0.mk H
     clear H
     go_wp2_with (first | ((with_reducible refine gate_dst (N := 19) rfl ?_); refine Kd.R_lit k45 _ 45 ?hg (N := 19) ?hd (xs := ([] : List (S45))) (inner := []) (ok := fun _ => True) (okp := fun _ => True) ?hr ?hp (fun _ hk => hk) trivial (Below.refl _ _) (Nat.le_refl _) (by simp) ?_; (case hd => rfl); (case hg => rfl); (case hr => first | (go_simp; done) | (go_simp; rfl)); (case hp => exact (Reps.none _ _)); intro v647 w12 ho13 hb hg_ hnew_; clear hg_ hnew_; (first | rw [← Ny646.out] at ho13 | (simp only [Int.reduceToNat] at ho13; rw [← Ny646.out] at ho13)); have HO648 := Aside0.mk (Kd.R_lower ho13 (below_size (uW HB.out))); replace HB := cW HB hb; clear hb ho13) | ((with_reducible refine gate_builtin (b := .append) (xs := #[.tmp 19, .tmp 20]) rfl ?_); at_builtin; refine Kd.R_append_rows k45 (w0 := w) w.heap.size rfl (.tmp 19) (.tmp 20) 22 45 (.agg #[(.int .i64 0), (.string ⟨#[]⟩), (.int .i64 0), (.bool false)]) 40 rfl Tryz.underlying22 info45 rfl (by decide) (by omega) v647 y646 l0 _ _ _ (fun _ => True) (fun _ => False) rfl rfl ?aO ?aR (fun _ _ h => h) (fun _ h => h.elim) ?aF ?aB ?aS ?aL ?_; (case aR => exact uC <| (Kd.C_below HR0.out HB.out)); (case aB => exact (uW HB.out)); (case aF => exact (fun _ _ => trivial)); (case aO => exact (uR HO648.out)); (case aS => exact (below_size (uW HB.out))); (case aL => have := LMc11.out; omega); intro v650 w14 ho hb hg hat; rw [← Ny649.out] at ho; replace HB := Aside0.mk (hb); have HO651 := Aside0.mk (ho); clear HO648; clear ho hb hg hat))
     go_loopg [6, 7] kj2 (fun kq v6 v7 w' => ∃ (x6_2 : List (S45)) (x7_2 : Int), v7 = .int .i64 x7_2 ∧ Aside0 (r09_Apply.l0 kq l1 x6_2 x7_2 = some (r1, r2)) ∧ Aside0 (kq ≤ kj2) ∧ Aside0 (Kd.R k45 45 w' w.heap.size (fun _ => True) v6 x6_2) ∧ Aside0 (Below w.heap.size w w'))
     case atStart => exact ⟨(y649), (0), rs_, H', ⟨Nat.le_refl _⟩, ⟨uR HO651.out⟩, ⟨uW HB.out⟩⟩
     case round =>
      clear H'
      try clear c1
      try clear c2
      try clear p2
      try clear c5
      try clear c10
      try clear c11
      try clear p2
      obtain ⟨x6_2, x7_2, rfl, HA, HK2, HO_6, HB⟩ := hrel
      cases gk with
      | zero => exact absurd HA.out (by simp [r09_Apply.l0])
      | succ k2 =>
       have H := HA.out
       clear HA
       simp only [r09_Apply.l0] at H
       by_cases c15 : x7_2 < (l1.length : Int)
       ·
        rw [if_pos c15] at H
        have c15b0 : decide (x7_2 < (l1.length : Int)) = true := decide_eq_true c15
        clear c15
        obtain ⟨c16b0, H⟩ := gdd H
        obtain ⟨t654, A17, H⟩ := bs H
        try dsimp only at H
        have HC18 := Aside0.mk H
        clear H
        have p652 : 0 ≤ (x7_2 : Int) := od
        have q652 : x7_2 < (l1.length : Int) := od
        obtain ⟨ad652, e652, hx652_0, hx652_1, hx652_2, hx652_3, hx652_4⟩ := at_T48 HR1.out x7_2 p652 q652
        cases e652
        replace hx652_0 := kc HB hx652_0
        replace hx652_1 := kc HB hx652_1
        replace hx652_2 := kc HB hx652_2
        replace hx652_3 := kc HB hx652_3
        replace hx652_4 := kc HB hx652_4
        replace p652 := eq_true p652
        replace q652 := eq_true q652
        go_upto_region 9 with (first | ((with_reducible refine gate_dst (N := 8) rfl ?_); refine bx (N := 8) #[.int .i64 0, .string (⟨#[]⟩ : ByteArray), .int .i64 0, .bool false, .bool false] 48 ?_; intro gb653 hg w19 hbox hb; replace HO_6 := cR HO_6 hb; have BK653 := Aside0.mk (hbox); have GW653 := gw hg (uW HB.out); have GE653 := GW653; replace HB := cW HB hb; clear hb hbox hg; obtain ⟨hcz20_0, hcz20_1, hcz20_2, hcz20_3, hcz20_4, hfz20_0, hfz20_1, hfz20_2, hfz20_3, hfz20_4⟩ := z5 BK653) | ((with_reducible refine gate_store (t := 48) (p := 8) rfl ?_); refine store_event (t := 48) (p := 8) (v := ?vo_w21) (w1 := (((((w19.setCell ⟨gb653, 0, none⟩ (.int .i64 ((rd_T48 l1 x7_2).f0.f0))).setCell ⟨gb653, 1, none⟩ (.string ((rd_T48 l1 x7_2).f0.f1))).setCell ⟨gb653, 2, none⟩ (.int .i64 ((rd_T48 l1 x7_2).f0.f2.f0))).setCell ⟨gb653, 3, none⟩ (.bool ((rd_T48 l1 x7_2).f0.f2.f1))).setCell ⟨gb653, 4, none⟩ (.bool ((rd_T48 l1 x7_2).f1)))) ?hg ?ho ?hn ?hr ?_; (case ho => rfl); (case hg => rfl); (case hn => rfl); (case hr => first | (go_simp; done) | (go_simp; rfl)); intro w21 hw; have n0_ : Aside0 (Kd.R k45 45 w21 w.heap.size (fun _ => True) u6 x6_2) := ⟨(by rw [hw]; exact (by exact uR <| Kd.R_mono (Kd.R_far (p := ⟨gb653, 4, none⟩) (Kd.R_far (p := ⟨gb653, 3, none⟩) (Kd.R_far (p := ⟨gb653, 2, none⟩) (Kd.R_far (p := ⟨gb653, 1, none⟩) (Kd.R_far (p := ⟨gb653, 0, none⟩) (Kd.R_types HO_6.out BK653.out (by decide)) (fun _ hk => hk.2) (.int .i64 ((rd_T48 l1 x7_2).f0.f0))) (fun _ hk => hk.2) (.string ((rd_T48 l1 x7_2).f0.f1))) (fun _ hk => hk.2) (.int .i64 ((rd_T48 l1 x7_2).f0.f2.f0))) (fun _ hk => hk.2) (.bool ((rd_T48 l1 x7_2).f0.f2.f1))) (fun _ hk => hk.2) (.bool ((rd_T48 l1 x7_2).f1))) (fun _ hk => trivial)))⟩; have n1_ : Aside0 (w21.heap[gb653]? = some (.cells #[.int .i64 ((rd_T48 l1 x7_2).f0.f0), .string ((rd_T48 l1 x7_2).f0.f1), .int .i64 ((rd_T48 l1 x7_2).f0.f2.f0), .bool ((rd_T48 l1 x7_2).f0.f2.f1), .bool ((rd_T48 l1 x7_2).f1)] 48 (0, 0))) := ⟨(by rw [hw]; exact (by (with_reducible repeat (first | refine blk_drewN ?_ _ | refine blk_drew ?_ | refine blk_alloc ?_ _)); refine blk_put (cs := #[.int .i64 ((rd_T48 l1 x7_2).f0.f0), .string ((rd_T48 l1 x7_2).f0.f1), .int .i64 ((rd_T48 l1 x7_2).f0.f2.f0), .bool ((rd_T48 l1 x7_2).f0.f2.f1), .bool false]) ?_ 4 _ rfl; (with_reducible repeat (first | refine blk_drewN ?_ _ | refine blk_drew ?_ | refine blk_alloc ?_ _)); refine blk_put (cs := #[.int .i64 ((rd_T48 l1 x7_2).f0.f0), .string ((rd_T48 l1 x7_2).f0.f1), .int .i64 ((rd_T48 l1 x7_2).f0.f2.f0), .bool false, .bool false]) ?_ 3 _ rfl; (with_reducible repeat (first | refine blk_drewN ?_ _ | refine blk_drew ?_ | refine blk_alloc ?_ _)); refine blk_put (cs := #[.int .i64 ((rd_T48 l1 x7_2).f0.f0), .string ((rd_T48 l1 x7_2).f0.f1), .int .i64 0, .bool false, .bool false]) ?_ 2 _ rfl; (with_reducible repeat (first | refine blk_drewN ?_ _ | refine blk_drew ?_ | refine blk_alloc ?_ _)); refine blk_put (cs := #[.int .i64 ((rd_T48 l1 x7_2).f0.f0), .string (⟨#[]⟩ : ByteArray), .int .i64 0, .bool false, .bool false]) ?_ 1 _ rfl; (with_reducible repeat (first | refine blk_drewN ?_ _ | refine blk_drew ?_ | refine blk_alloc ?_ _)); refine blk_put (cs := #[.int .i64 0, .string (⟨#[]⟩ : ByteArray), .int .i64 0, .bool false, .bool false]) ?_ 0 _ rfl; exact uB <| BK653.out))⟩; have n2_ : Aside0 (Below w.heap.size w w21) := ⟨(by rw [hw]; exact bl)⟩; clear hw; clear HO_6; clear BK653; clear HB; have HO_6 := n0_; have BK653 := n1_; have HB := n2_; clear n0_ n1_ n2_; obtain ⟨hcz22_0, hcz22_1, hcz22_2, hcz22_3, hcz22_4, hfz22_0, hfz22_1, hfz22_2, hfz22_3, hfz22_4⟩ := z5 BK653; obtain ⟨Ao23, co23, eo23⟩ := Kd.R_slice HO_6.out; subst eo23) | (refine gL (some 35) rfl Tryz.func28 #[.slice Ao23 x6_2.length co23, .agg #[.int .i64 ((rd_T48 l1 x7_2).f0.f0), .string ((rd_T48 l1 x7_2).f0.f1), .int .i64 ((rd_T48 l1 x7_2).f0.f2.f0), .bool ((rd_T48 l1 x7_2).f0.f2.f1)]] ?_; (with_reducible refine (r09_find.calls k2 _ _ x6_2 ((rd_T48 l1 x7_2).f0.f0) ((rd_T48 l1 x7_2).f0.f1) ((rd_T48 l1 x7_2).f0.f2.f0) ((rd_T48 l1 x7_2).f0.f2.f1) t654 _ ?side1 ?side2 A17.out).mono ?_); (case side1 => exact uC <| (Kd.R_reads' HO_6.out).2.2); (case side2 => exact (Kd.R_reads' HO_6.out).2.1); rintro e w24 ⟨rfl, hb⟩; refine ⟨_, rfl, ?_⟩; replace HO_6 := cR HO_6 hb; replace BK653 := cB BK653 hb; replace HB := Aside0.mk (below_step bl hb); (try clear hb)))
        (try simp only [Act.put, List.setIfInBounds_toArray, List.set_cons_zero, List.set_cons_succ])
        go_cut [41] (fun v41 wc => ∃ (kq : Nat) (x41_17 : Bool), v41 = .bool x41_17 ∧ Aside0 (r09_Apply.j2 kq l1 x6_2 x7_2 t654 x41_17 ((rd_T48 l1 x7_2).f0.f0) ((rd_T48 l1 x7_2).f0.f1) ((rd_T48 l1 x7_2).f0.f2.f0) ((rd_T48 l1 x7_2).f0.f2.f1) ((rd_T48 l1 x7_2).f1) = some (r1, r2)) ∧ Aside0 (kq ≤ k2) ∧ Aside0 (Kd.R k45 45 wc w.heap.size (fun _ => True) (.slice Ao23 x6_2.length co23) x6_2) ∧ Aside0 (wc.heap[gb653]? = some (.cells #[.int .i64 ((rd_T48 l1 x7_2).f0.f0), .string ((rd_T48 l1 x7_2).f0.f1), .int .i64 ((rd_T48 l1 x7_2).f0.f2.f0), .bool ((rd_T48 l1 x7_2).f0.f2.f1), .bool ((rd_T48 l1 x7_2).f1)] 48 (0, 0))) ∧ Aside0 (Below w.heap.size w wc))
        case first =>
         have H := HC18.out
         clear HC18
         obtain ⟨bq25, hbq25⟩ : ∃ b_ : Bool, b_ = ((rd_T48 l1 x7_2).f1) := ⟨_, rfl⟩
         replace H : (if bq25 = true then (r09_Apply.j2 k2 l1 x6_2 x7_2 t654 (decide (t654 < 0)) ((rd_T48 l1 x7_2).f0.f0) ((rd_T48 l1 x7_2).f0.f1) ((rd_T48 l1 x7_2).f0.f2.f0) ((rd_T48 l1 x7_2).f0.f2.f1) bq25) else (r09_Apply.j2 k2 l1 x6_2 x7_2 t654 false ((rd_T48 l1 x7_2).f0.f0) ((rd_T48 l1 x7_2).f0.f1) ((rd_T48 l1 x7_2).f0.f2.f0) ((rd_T48 l1 x7_2).f0.f2.f1) bq25)) = some (r1, r2) := by rw [← hbq25] at H; exact H
         have Nbq25 := Aside0.mk hbq25
         clear hbq25
         (try rw [← Nbq25.out])
         by_cases c26 : bq25 = true
         ·
          subst c26
          rw [if_pos rfl] at H
          have H' := Aside0.mk H
          clear H
          have hcz27_0 : w24.cell? ⟨gb653, 0, none⟩ = some (.int .i64 ((rd_T48 l1 x7_2).f0.f0)) := (blk_cell BK653.out 0).trans rfl
          have hcz27_1 : w24.cell? ⟨gb653, 1, none⟩ = some (.string ((rd_T48 l1 x7_2).f0.f1)) := (blk_cell BK653.out 1).trans rfl
          have hcz27_2 : w24.cell? ⟨gb653, 2, none⟩ = some (.int .i64 ((rd_T48 l1 x7_2).f0.f2.f0)) := (blk_cell BK653.out 2).trans rfl
          have hcz27_3 : w24.cell? ⟨gb653, 3, none⟩ = some (.bool ((rd_T48 l1 x7_2).f0.f2.f1)) := (blk_cell BK653.out 3).trans rfl
          have hcz27_4 : w24.cell? ⟨gb653, 4, none⟩ = some (.bool true) := (blk_cell BK653.out 4).trans (by first | rfl | (rw [← Nbq25.out]; rfl))
          have hfz27_0 := blk_frozen BK653.out 0
          have hfz27_1 := blk_frozen BK653.out 1
          have hfz27_2 := blk_frozen BK653.out 2
          have hfz27_3 := blk_frozen BK653.out 3
          have hfz27_4 := blk_frozen BK653.out 4
          go_wp2
          go_meet
          case rel => exact ⟨_, (decide (t654 < 0)), rs_, (by first | exact H' | (rw [← Nbq25.out]; exact H')), ⟨by have := HJ2.out; have := HK2.out; first | omega | exact Nat.le_refl _⟩, ⟨uR HO_6.out⟩, ⟨uB BK653.out⟩, ⟨bl⟩⟩
         ·
          replace c26 := Bool.eq_false_iff.mpr c26
          subst c26
          rw [if_neg (show ¬ (false = true) by decide)] at H
          have H' := Aside0.mk H
          clear H
          have hcz28_0 : w24.cell? ⟨gb653, 0, none⟩ = some (.int .i64 ((rd_T48 l1 x7_2).f0.f0)) := (blk_cell BK653.out 0).trans rfl
          have hcz28_1 : w24.cell? ⟨gb653, 1, none⟩ = some (.string ((rd_T48 l1 x7_2).f0.f1)) := (blk_cell BK653.out 1).trans rfl
          have hcz28_2 : w24.cell? ⟨gb653, 2, none⟩ = some (.int .i64 ((rd_T48 l1 x7_2).f0.f2.f0)) := (blk_cell BK653.out 2).trans rfl
          have hcz28_3 : w24.cell? ⟨gb653, 3, none⟩ = some (.bool ((rd_T48 l1 x7_2).f0.f2.f1)) := (blk_cell BK653.out 3).trans rfl
          have hcz28_4 : w24.cell? ⟨gb653, 4, none⟩ = some (.bool false) := (blk_cell BK653.out 4).trans (by first | rfl | (rw [← Nbq25.out]; rfl))
          have hfz28_0 := blk_frozen BK653.out 0
          have hfz28_1 := blk_frozen BK653.out 1
          have hfz28_2 := blk_frozen BK653.out 2
          have hfz28_3 := blk_frozen BK653.out 3
          have hfz28_4 := blk_frozen BK653.out 4
          go_wp2
          go_meet
          case rel => exact ⟨_, (false), rs_, (by first | exact H' | (rw [← Nbq25.out]; exact H')), ⟨by have := HJ2.out; have := HK2.out; first | omega | exact Nat.le_refl _⟩, ⟨uR HO_6.out⟩, ⟨uB BK653.out⟩, ⟨bl⟩⟩
        case rest =>
         clear HC18
         try clear c1
         try clear c2
         try clear p2
         try clear q2
         try clear c5
         try clear p6
         try clear q6
         try clear hx6
         try clear c10
         try clear c11
         try clear c15
         try clear c15b0
         try clear c16
         try clear c16b0
         try clear c18
         try clear q25
         try clear c26
         try clear c27
         try clear c28
         try clear hcz20_0
         try clear hcz20_1
         try clear hcz20_2
         try clear hcz20_3
         try clear hcz20_4
         try clear hcz22_0
         try clear hcz22_1
         try clear hcz22_2
         try clear hcz22_3
         try clear hcz22_4
         try clear hcz27_0
         try clear hcz27_1
         try clear hcz27_2
         try clear hcz27_3
         try clear hcz27_4
         try clear hcz28_0
         try clear hcz28_1
         try clear hcz28_2
         try clear hcz28_3
         try clear hcz28_4
         try clear hfz20_0
         try clear hfz20_1
         try clear hfz20_2
         try clear hfz20_3
         try clear hfz20_4
         try clear hfz22_0
         try clear hfz22_1
         try clear hfz22_2
         try clear hfz22_3
         try clear hfz22_4
         try clear hfz27_0
         try clear hfz27_1
         try clear hfz27_2
         try clear hfz27_3
         try clear hfz27_4
         try clear hfz28_0
         try clear hfz28_1
         try clear hfz28_2
         try clear hfz28_3
         try clear hfz28_4
         try clear hx652_0
         try clear hx652_1
         try clear hx652_2
         try clear hx652_3
         try clear hx652_4
         try clear p2
         try clear p652
         try clear q652
         obtain ⟨kq, x41_17, rfl, HA, HJ17, HO_6, BK653, HB⟩ := hcut
         cases kq with
         | zero => exact absurd HA.out (by simp [r09_Apply.j2])
         | succ kj17 =>
          have H := HA.out
          clear HA
          simp only [r09_Apply.j2] at H
          by_cases c29 : x41_17 = true
          ·
           subst c29
           rw [if_pos rfl] at H
           simp only [Option.some.injEq, Prod.mk.injEq] at H
           obtain ⟨rfl, rfl⟩ := H
           go_wp2
           go_ret2
           exact ⟨_, re_, nl_, bl⟩
          ·
           replace c29 := Bool.eq_false_iff.mpr c29
           subst c29
           rw [if_neg (show ¬ (false = true) by decide)] at H
           by_cases c30 : ((rd_T48 l1 x7_2).f1) = true
           ·
            rw [if_pos c30] at H
            have c30b0 : ((rd_T48 l1 x7_2).f1) = true := c30
            clear c30
            obtain ⟨y655, Ny655, H⟩ := ys H
            try dsimp only at H
            obtain ⟨c31, H⟩ := gd H
            have c31b0 := eq_true c31
            have c31b1 : decide (0 ≤ t654) = true := decide_eq_true c31
            clear c31
            obtain ⟨c32, H⟩ := gd H
            have c32b0 := eq_true c32
            have c32b1 : decide (t654 ≤ (x6_2.length : Int)) = true := decide_eq_true c32
            clear c32
            obtain ⟨y658, Ny658, H⟩ := ys H
            try dsimp only at H
            obtain ⟨c33, H⟩ := gd H
            have LMc33 := Aside0.mk c33
            clear c33
            obtain ⟨y662, Ny662, H⟩ := ys H
            try dsimp only at H
            obtain ⟨ji34, hji34⟩ : ∃ j_ : Int, (wrap64 (t654 + 1)) = j_ := ⟨_, rfl⟩
            (first | rw [hji34] at H | simp only [hji34] at H)
            have hji34w : (IntKind.i64.wrap (t654 + 1)) = ji34 := (i64_w _).trans hji34
            obtain ⟨c35, H⟩ := gd H
            have c35b0 := eq_true c35
            have c35b1 : decide (0 ≤ (ji34)) = true := decide_eq_true c35
            clear c35
            obtain ⟨c36, H⟩ := gd H
            have c36b0 := eq_true c36
            have c36b1 : decide ((ji34) ≤ (x6_2.length : Int)) = true := decide_eq_true c36
            clear c36
            obtain ⟨y665, Ny665, H⟩ := ys H
            try dsimp only at H
            obtain ⟨c37, H⟩ := gd H
            have LMc37 := Aside0.mk c37
            clear c37
            obtain ⟨y669, hy669⟩ : ∃ y_ : List (S45), y_ = (y662 ++ y665) := ⟨_, rfl⟩
            replace H : (r09_Apply.l0 kj17 l1 y669 (wrap64 (x7_2 + 1))) = some (r1, r2) := by first | (rw [hy669]; with_reducible exact H) | (have H2_ := (Option.bind_some _ _).symm.trans H; rw [hy669]; with_reducible exact H2_) | (have H2_ := (Option.bind_some _ _).symm.trans H; with_reducible exact H2_) | with_reducible exact H | (rw [hy669]; exact H) | exact H
            have Ny669 := Aside0.mk hy669
            clear hy669
            have H' := Aside0.mk H
            clear H
            obtain ⟨hcz38_0, hcz38_1, hcz38_2, hcz38_3, hcz38_4, hfz38_0, hfz38_1, hfz38_2, hfz38_3, hfz38_4⟩ := z5 BK653
            try go_wp2
            replace HO_6 := Aside0.mk (Kd.R_drew HO_6.out)
            replace BK653 := Aside0.mk (blk_drew BK653.out)
            replace HB := Aside0.mk (below_drew1 HB.out)
            have q40 : (t654 : Int) ≤ ((x6_2.length : Int) : Int) := od
            obtain ⟨i040, hi040, _, hsz40, _⟩ := info_parts info45
            have hroom40 : x6_2.length ≤ co23 := (Kd.R_reads' HO_6.out).2.1
            have hC40 : Kd.C k45 _ Ao23 x6_2.length x6_2 := (Kd.R_reads' HO_6.out).2.2
            have hcut40 := cut_to (P := Tryz.prog) 22 45 .i64 Tryz.underlying22 hi040 Ao23 x6_2.length co23 t654 (od) q40 hroom40
            have hr40 := Kd.C_take (m := (t654 : Int).toNat) hC40 (by omega)
            have hy40 : y658.length = (t654 : Int).toNat := (by rw [Ny658.out, List.length_take]; omega)
            rw [← Ny658.out] at hr40
            rw [← hy40] at hcut40
            have HR661 := Aside0.mk hr40
            have HC661 := Aside0.mk (show y658.length ≤ co23 from by omega)
            clear hr40 hC40 hroom40 hi040 hsz40
            have KY40 := Aside0.mk hy40
            clear hy40
            have KL40 := Aside0.mk (show (t654 : Int).toNat ≤ x6_2.length from by omega)
            replace q40 := eq_true q40
            have q41 : ((ji34) : Int) ≤ ((x6_2.length : Int) : Int) := od
            obtain ⟨i041, hi041, _, hsz41, _⟩ := info_parts info45
            have hroom41 : x6_2.length ≤ co23 := (Kd.R_reads' HO_6.out).2.1
            have hC41 : Kd.C k45 _ Ao23 x6_2.length x6_2 := (Kd.R_reads' HO_6.out).2.2
            have q041 : (0 : Int) ≤ ((ji34) : Int) := od
            have hcut41 := cut_from (P := Tryz.prog) 22 45 .i64 Tryz.underlying22 hi041 4 hsz41 Ao23 x6_2.length co23 (ji34) q041 q41
            have hr41 := Kd.C_drop (m := ((ji34) : Int).toNat) (c := co23) hC41 (by omega) hroom41
            obtain ⟨A41, hA41⟩ : ∃ A1, A1 = (if co23 = ((ji34) : Int).toNat then Ao23 else (Ao23 : Option Addr).map (·.add (((ji34) : Int).toNat * 4))) := ⟨_, rfl⟩
            obtain ⟨c41, hc41⟩ : ∃ c1, c1 = co23 - ((ji34) : Int).toNat := ⟨_, rfl⟩
            have hy41 : y665.length = x6_2.length - ((ji34) : Int).toNat := (by rw [Ny665.out, List.length_drop] <;> omega)
            rw [show (x6_2).drop ((ji34) : Int).toNat = y665 from Ny665.out.symm] at hr41
            replace hr41 : Kd.C k45 _ A41 y665.length y665 := (by rw [hA41]; exact hr41)
            rw [← hy41, ← hA41, ← hc41] at hcut41
            have HR668 := Aside0.mk hr41
            have HC668 := Aside0.mk (show y665.length ≤ c41 from by rw [hy41, hc41]; exact Nat.sub_le_sub_right hroom41 _)
            clear hr41 hC41 hroom41 hi041 hsz41 hc41
            have KY41 := Aside0.mk hy41
            have KA41 := Aside0.mk hA41
            clear hy41 hA41
            have KL41 := Aside0.mk (show ((ji34) : Int).toNat ≤ x6_2.length from by omega)
            replace q41 := eq_true q41
            refine start_ (n := 11) (S := fun w' => True) (ds := []) _ (by kernel_rfl) rfl rfl trivial (fun hHeld => ?_); refine with_tabW r09_Apply.tab17 r09_Apply.bits17 (fun HT_ HW_ => ?_)
            generalize wc.drew = w39 at HO_6 BK653 HB HR661 HR668 hHeld ⊢
            refine p1 1 (some 75) ?_
            refine p1 2 (some 76) ?_
            refine p1 3 (some 77) ?_
            refine p1 5 (some 79) ?_
            refine p1 6 (some 80) ?_
            refine p1 7 (some 81) ?_
            refine p1 8 (some 82) ?_
            refine o1 0 (some 74) rfl rfl (fun K hK => ?_)
            refine Kd.R_lit_step k45 _ 45 ?hg (N := 74) ?hd (xs := ([] : List (S45))) (inner := []) (ok := fun _ => True) (okp := fun _ => True) ?hr ?hp (fun _ hk => hk) trivial (Below.refl _ _) (Nat.le_refl _) (by simp) ?_; (case hd => rfl); (case hg => rfl); (case hr => first | (go_simp; done) | (go_simp; rfl)); (case hp => exact (Reps.none _ _))
            intro v656 w42 ho43 hb hg_ hnew_
            clear hg_ hnew_
            (first | rw [← Ny655.out] at ho43 | (simp only [Int.reduceToNat] at ho43; rw [← Ny655.out] at ho43))
            have HO657 := Aside0.mk (Kd.R_lower (Kd.R_new' ho43 (Kd.R_lt (uR HO_6.out))) (below_size bl))
            replace HO_6 := Aside0.mk (Kd.R_elder' (uR HO_6.out) (Kd.R_base ho43) hb)
            replace BK653 := cB BK653 hb
            replace HR661 := cC HR661 hb
            replace HR668 := cC HR668 hb
            replace HB := Aside0.mk (below_step bl hb)
            clear hb ho43
            refine hK.out _ _ trivial (fun hHeld => ?_)
            clear hK K
            refine norm_ (a' := ?_) ?_ ?_
            rotate_left
            ·
             show Act.put _ (some 74) _ = _
             simp only [Act.put, List.setIfInBounds_toArray, List.set_cons_zero, List.set_cons_succ, i64_w, i32_w]
             rfl
            refine o1 4 (some 78) rfl rfl (fun K hK => ?_)
            refine Kd.R_append_rows_step k45 (w0 := w) w.heap.size (by rfl) (.tmp 74) (.tmp 77) 22 45 (.agg #[(.int .i64 0), (.string ⟨#[]⟩), (.int .i64 0), (.bool false)]) 40 rfl Tryz.underlying22 info45 rfl (by decide) (by omega) v656 y655 y658 _ _ _ (fun k_ => some k_ ≠ (.slice Ao23 x6_2.length co23 : Value).ownBlock) (fun _ => False) rfl rfl ?aO ?aR (fun _ _ h => h) (fun _ h => h.elim) ?aF ?aB ?aS ?aL ?_
            (case aR => repeat (first | exact (by repeat (first | (with_reducible exact HR661.out) | (with_reducible refine Kd.C_alloc ?_ _) | (with_reducible refine Kd.C_drewN ?_ _) | (with_reducible refine Kd.C_drew ?_) | exact HR661.out)) | (with_reducible refine Kd.C_alloc ?_ _) | (with_reducible refine Kd.C_drewN ?_ _) | (with_reducible refine Kd.C_drew ?_)))
            (case aB => exact bl)
            (case aF => exact (fun k_ hk => Kd.fresh' (Kd.R_lt (uR HO_6.out)) k_ hk))
            (case aO => exact (by exact uR <| Kd.R_mono HO657.out (fun _ hk => hk.2)))
            (case aS => exact (below_size bl))
            (case aL => have := LMc33.out; omega)
            intro v663 w44 ho hb hg hat
            rw [← Ny662.out] at ho
            replace BK653 := Aside0.mk (blk_grown (g := gb653) (o := .cells #[.int .i64 ((rd_T48 l1 x7_2).f0.f0), .string ((rd_T48 l1 x7_2).f0.f1), .int .i64 ((rd_T48 l1 x7_2).f0.f2.f0), .bool ((rd_T48 l1 x7_2).f0.f2.f1), .bool ((rd_T48 l1 x7_2).f1)] 48 (0, 0)) (uB BK653.out) hg (Kd.R_ne HO657.out BK653.out (by decide)))
            replace HB := Aside0.mk (hb)
            replace HR661 := Aside0.mk ((show Kd.C k45 w44 Ao23 y658.length y658 from by rw [Ny658.out]; exact Kd.C_take (m := (t654 : Int).toNat) ((Kd.R_reads' (Kd.R_after (ok := (fun _ => True)) (uR HO_6.out) hg hat)).2.2) KL40.out))
            replace HR668 := Aside0.mk ((show Kd.C k45 w44 A41 y665.length y665 from by rw [Ny665.out, KA41.out]; exact Kd.C_drop (m := ((ji34) : Int).toNat) (c := co23) ((Kd.R_reads' (Kd.R_after (ok := (fun _ => True)) (uR HO_6.out) hg hat)).2.2) KL41.out ((Kd.R_reads' (Kd.R_after (ok := (fun _ => True)) (uR HO_6.out) hg hat)).2.1)))
            replace HO_6 := Aside0.mk (Kd.R_after (ok := (fun _ => True)) (uR HO_6.out) hg hat)
            have HO664 := Aside0.mk (ho)
            clear HO657
            clear ho hb hg hat
            refine hK.out _ _ trivial (fun hHeld => ?_)
            clear hK K
            refine norm_ (a' := ?_) ?_ ?_
            rotate_left
            ·
             show Act.put _ (some 78) _ = _
             simp only [Act.put, List.setIfInBounds_toArray, List.set_cons_zero, List.set_cons_succ, i64_w, i32_w]
             rfl
            refine o1 9 (some 83) rfl rfl (fun K hK => ?_)
            refine Kd.R_append_rows_step k45 (w0 := w) w.heap.size (by rfl) (.tmp 78) (.tmp 82) 22 45 (.agg #[(.int .i64 0), (.string ⟨#[]⟩), (.int .i64 0), (.bool false)]) 40 rfl Tryz.underlying22 info45 rfl (by decide) (by omega) v663 y662 y665 _ _ _ (fun k_ => some k_ ≠ (.slice Ao23 x6_2.length co23 : Value).ownBlock) (fun _ => False) rfl rfl ?aO ?aR (fun _ _ h => h) (fun _ h => h.elim) ?aF ?aB ?aS ?aL ?_
            (case aR => repeat (first | exact (by repeat (first | (with_reducible exact HR668.out) | (with_reducible refine Kd.C_alloc ?_ _) | (with_reducible refine Kd.C_drewN ?_ _) | (with_reducible refine Kd.C_drew ?_) | exact HR668.out)) | (with_reducible refine Kd.C_alloc ?_ _) | (with_reducible refine Kd.C_drewN ?_ _) | (with_reducible refine Kd.C_drew ?_)))
            (case aB => exact bl)
            (case aF => exact (fun k_ hk => Kd.fresh' (Kd.R_lt (uR HO_6.out)) k_ hk))
            (case aO => exact (uR HO664.out))
            (case aS => exact (below_size bl))
            (case aL => have := LMc37.out; omega)
            intro v670 w45 ho hb hg hat
            rw [← Ny669.out] at ho
            replace BK653 := Aside0.mk (blk_grown (g := gb653) (o := .cells #[.int .i64 ((rd_T48 l1 x7_2).f0.f0), .string ((rd_T48 l1 x7_2).f0.f1), .int .i64 ((rd_T48 l1 x7_2).f0.f2.f0), .bool ((rd_T48 l1 x7_2).f0.f2.f1), .bool ((rd_T48 l1 x7_2).f1)] 48 (0, 0)) (uB BK653.out) hg (Kd.R_ne HO664.out BK653.out (by decide)))
            replace HB := Aside0.mk (hb)
            replace HR661 := Aside0.mk ((show Kd.C k45 w45 Ao23 y658.length y658 from by rw [Ny658.out]; exact Kd.C_take (m := (t654 : Int).toNat) ((Kd.R_reads' (Kd.R_after (ok := (fun _ => True)) (uR HO_6.out) hg hat)).2.2) KL40.out))
            replace HR668 := Aside0.mk ((show Kd.C k45 w45 A41 y665.length y665 from by rw [Ny665.out, KA41.out]; exact Kd.C_drop (m := ((ji34) : Int).toNat) (c := co23) ((Kd.R_reads' (Kd.R_after (ok := (fun _ => True)) (uR HO_6.out) hg hat)).2.2) KL41.out ((Kd.R_reads' (Kd.R_after (ok := (fun _ => True)) (uR HO_6.out) hg hat)).2.1)))
            replace HO_6 := Aside0.mk (Kd.R_after (ok := (fun _ => True)) (uR HO_6.out) hg hat)
            have HO671 := Aside0.mk (ho)
            clear HO664
            clear ho hb hg hat
            refine hK.out _ _ trivial (fun hHeld => ?_)
            clear hK K
            refine norm_ (a' := ?_) ?_ ?_
            rotate_left
            ·
             show Act.put _ (some 83) _ = _
             simp only [Act.put, List.setIfInBounds_toArray, List.set_cons_zero, List.set_cons_succ, i64_w, i32_w]
             rfl
            refine p1 10 (some 6) ?_
            refine done_ (done_of HT_.out (by kernel_rfl)) ?_
            try go_wp2
            go_roundg kj17
            case measure => have := HJ2.out; have := HK2.out; have := HJ17.out; omega
            case rel => exact ⟨(y669), (wrap64 (x7_2 + 1)), rs_, (by first | exact H' | (rw [← Nbq25.out]; exact H')), ⟨by have := HJ2.out; have := HK2.out; have := HJ17.out; omega⟩, ⟨by exact uR <| Kd.R_mono HO671.out (fun _ hk => trivial)⟩, ⟨bl⟩⟩
           ·
            rw [if_neg c30] at H
            have c30b0 : ((rd_T48 l1 x7_2).f1) = false := by simpa using c30
            clear c30
            by_cases c46 : t654 ≥ 0
            ·
             rw [if_pos c46] at H
             have c46b0 : decide (0 ≤ t654) = true := decide_eq_true c46
             clear c46
             obtain ⟨c47b0, H⟩ := gdd H
             obtain ⟨c48b0, H⟩ := gdd H
             obtain ⟨y672, hy672⟩ : ∃ y_ : List (S45), y_ = (x6_2.set (t654 : Int).toNat (⟨((rd_T48 l1 x7_2).f0.f0), ((rd_T48 l1 x7_2).f0.f1), (⟨((rd_T48 l1 x7_2).f0.f2.f0), ((rd_T48 l1 x7_2).f0.f2.f1)⟩ : S43)⟩ : S45)) := ⟨_, rfl⟩
             replace H : (r09_Apply.l0 kj17 l1 y672 (wrap64 (x7_2 + 1))) = some (r1, r2) := by first | (rw [hy672]; with_reducible exact H) | (have H2_ := (Option.bind_some _ _).symm.trans H; rw [hy672]; with_reducible exact H2_) | (have H2_ := (Option.bind_some _ _).symm.trans H; with_reducible exact H2_) | with_reducible exact H | (rw [hy672]; exact H) | exact H
             have Ny672 := Aside0.mk hy672
             clear hy672
             have H' := Aside0.mk H
             clear H
             obtain ⟨hcz50_0, hcz50_1, hcz50_2, hcz50_3, hcz50_4, hfz50_0, hfz50_1, hfz50_2, hfz50_3, hfz50_4⟩ := z5 BK653
             have p49 : 0 ≤ (t654 : Int) := od
             have q49 : (t654 : Int) < ((x6_2.length : Int) : Int) := od
             obtain ⟨go49, co49, eo49, gb49, gl49, cl49, HG49⟩ := Kd.R_form HO_6.out (by omega)
             (first | cases eo49 | (injection eo49 with ea_ en_ ec_; (first | subst ea_ | (injection ea_ with ea_; subst ea_)); subst ec_; clear en_))
             have GB49 := Aside0.mk gb49
             have GG49 := Aside0.mk HG49
             clear gb49 gl49 HG49
             obtain ⟨ce49, hcl49, hM49, hcc49, hfr49⟩ := Kd.R_elem HO_6.out z45 (t654 : Int) p49 q49
             obtain rfl := k45_openM hM49
             have hx49_0 : wc.cell? ⟨go49, (t654 : Int).toNat * 4, none⟩ = some (.int .i64 ((rd_T45 x6_2 t654).f0)) := hcc49 0 _ rfl
             have hx49_1 : wc.cell? ⟨go49, (t654 : Int).toNat * 4 + 1, none⟩ = some (.string ((rd_T45 x6_2 t654).f1)) := hcc49 1 _ rfl
             have hx49_2 : wc.cell? ⟨go49, (t654 : Int).toNat * 4 + 2, none⟩ = some (.int .i64 ((rd_T45 x6_2 t654).f2.f0)) := hcc49 2 _ rfl
             have hx49_3 : wc.cell? ⟨go49, (t654 : Int).toNat * 4 + 3, none⟩ = some (.bool ((rd_T45 x6_2 t654).f2.f1)) := hcc49 3 _ rfl
             have hf49_0 : wc.frozen? ⟨go49, (t654 : Int).toNat * 4, none⟩ = false := hfr49 0
             have hf49_1 : wc.frozen? ⟨go49, (t654 : Int).toNat * 4 + 1, none⟩ = false := hfr49 1
             have hf49_2 : wc.frozen? ⟨go49, (t654 : Int).toNat * 4 + 2, none⟩ = false := hfr49 2
             have hf49_3 : wc.frozen? ⟨go49, (t654 : Int).toNat * 4 + 3, none⟩ = false := hfr49 3
             clear hcl49 hcc49 hfr49 hM49
             replace p49 := eq_true p49
             replace q49 := eq_true q49
             have HX51 := Aside0.mk (show Kd.R k45 45 wc w.heap.size (fun _ => True) (.slice (some ⟨go49, 0, none⟩) x6_2.length co23) x6_2 from (uR HO_6.out))
             obtain ⟨ce51, hcl51, hM51, hcc51, hfr51⟩ := Kd.R_elem HX51.out z45 (t654 : Int) (od) (by have h_ : (t654 : Int) < ((x6_2.length : Int) : Int) := od; first | exact h_ | (have e_ := (Kd.R_reads' HO_6.out).1; omega) | simpa using h_)
             obtain rfl := k45_openM hM51
             have HP51 := Kd.R_seg HX51.out (t654 : Int) (od) (by have h_ : (t654 : Int) < ((x6_2.length : Int) : Int) := od; first | exact h_ | (have e_ := (Kd.R_reads' HO_6.out).1; omega) | simpa using h_) (seg := [.int .i64 ((rd_T48 l1 x7_2).f0.f0), .string ((rd_T48 l1 x7_2).f0.f1), .int .i64 ((rd_T48 l1 x7_2).f0.f2.f0), .bool ((rd_T48 l1 x7_2).f0.f2.f1)]) (j := 0) hcl51 hcc51 (show 4 ≤ 4 from by decide) (x' := (⟨((rd_T48 l1 x7_2).f0.f0), ((rd_T48 l1 x7_2).f0.f1), (⟨((rd_T48 l1 x7_2).f0.f2.f0), ((rd_T48 l1 x7_2).f0.f2.f1)⟩ : S43)⟩ : S45)) (k45_mkM _ _ _ (⟨((rd_T48 l1 x7_2).f0.f0), ((rd_T48 l1 x7_2).f0.f1), (⟨((rd_T48 l1 x7_2).f0.f2.f0), ((rd_T48 l1 x7_2).f0.f2.f1)⟩ : S43)⟩ : S45) ) (fun _ hk => hk)
             have hx51_0 := hcc51 0 _ rfl
             (try simp only [show (k45).sz = 4 from rfl, Nat.mul_one, Nat.add_zero] at hx51_0)
             have hf51_0 := hfr51 0
             (try simp only [show (k45).sz = 4 from rfl, Nat.mul_one, Nat.add_zero] at hf51_0)
             have hx51_1 := hcc51 1 _ rfl
             (try simp only [show (k45).sz = 4 from rfl, Nat.mul_one, Nat.add_zero] at hx51_1)
             have hf51_1 := hfr51 1
             (try simp only [show (k45).sz = 4 from rfl, Nat.mul_one, Nat.add_zero] at hf51_1)
             have hx51_2 := hcc51 2 _ rfl
             (try simp only [show (k45).sz = 4 from rfl, Nat.mul_one, Nat.add_zero] at hx51_2)
             have hf51_2 := hfr51 2
             (try simp only [show (k45).sz = 4 from rfl, Nat.mul_one, Nat.add_zero] at hf51_2)
             have hx51_3 := hcc51 3 _ rfl
             (try simp only [show (k45).sz = 4 from rfl, Nat.mul_one, Nat.add_zero] at hx51_3)
             have hf51_3 := hfr51 3
             (try simp only [show (k45).sz = 4 from rfl, Nat.mul_one, Nat.add_zero] at hf51_3)
             clear hcl51 hcc51 hfr51 hM51
             go_wp2_with (first | ((with_reducible refine gate_store (t := 45) (p := 91) rfl ?_); refine store_event (t := 45) (p := 91) (v := ?vo_w52) (w1 := ((((wc.setCell ⟨go49, (t654 : Int).toNat * 4, none⟩ (.int .i64 ((rd_T48 l1 x7_2).f0.f0))).setCell ⟨go49, (t654 : Int).toNat * 4 + 1, none⟩ (.string ((rd_T48 l1 x7_2).f0.f1))).setCell ⟨go49, (t654 : Int).toNat * 4 + 2, none⟩ (.int .i64 ((rd_T48 l1 x7_2).f0.f2.f0))).setCell ⟨go49, (t654 : Int).toNat * 4 + 3, none⟩ (.bool ((rd_T48 l1 x7_2).f0.f2.f1)))) ?hg ?ho ?hn ?hr ?_; (case ho => rfl); (case hg => rfl); (case hn => rfl); (case hr => first | (go_simp; done) | (go_simp; rfl)); intro w52 hw; have hg : wc.grownBy w52 (some go49) := (by rw [hw]; exact HP51.2); have hp_ : Kd.R k45 45 w52 w.heap.size (fun _ => True) (.slice (some ⟨go49, 0, none⟩) x6_2.length co23) y672 := (by rw [hw, Ny672.out]; exact HP51.1); clear HP51; replace BK653 := Aside0.mk (blk_grown (g := gb653) (o := .cells #[.int .i64 ((rd_T48 l1 x7_2).f0.f0), .string ((rd_T48 l1 x7_2).f0.f1), .int .i64 ((rd_T48 l1 x7_2).f0.f2.f0), .bool ((rd_T48 l1 x7_2).f0.f2.f1), .bool ((rd_T48 l1 x7_2).f1)] 48 (0, 0)) (uB BK653.out) hg (Kd.R_ne HO_6.out BK653.out (by decide))); replace HO_6 := Aside0.mk (hp_); replace HB := Aside0.mk ((by rw [hw]; exact below_set (below_set (below_set (below_set (HB.out) GB49.out) GB49.out) GB49.out) GB49.out : Below w.heap.size w w52)); clear hg hw hp_))
             go_roundg kj17
             case measure => have := HJ2.out; have := HK2.out; have := HJ17.out; omega
             case rel => exact ⟨(y672), (wrap64 (x7_2 + 1)), rs_, (by first | exact H' | (rw [← Nbq25.out]; exact H')), ⟨by have := HJ2.out; have := HK2.out; have := HJ17.out; omega⟩, ⟨uR HO_6.out⟩, ⟨bl⟩⟩
            ·
             rw [if_neg c46] at H
             have c46b0 : decide (0 ≤ t654) = false := decide_eq_false c46
             clear c46
             have H' := Aside0.mk H
             clear H
             obtain ⟨hcz53_0, hcz53_1, hcz53_2, hcz53_3, hcz53_4, hfz53_0, hfz53_1, hfz53_2, hfz53_3, hfz53_4⟩ := z5 BK653
             go_wp2
             go_loopg [9] kj17 (fun kq v9 w' => ∃ (x9_4 : Int), v9 = .int .i64 x9_4 ∧ Aside0 (r09_Apply.l1 kq l1 x6_2 x7_2 x9_4 ((rd_T48 l1 x7_2).f0.f0) ((rd_T48 l1 x7_2).f0.f1) ((rd_T48 l1 x7_2).f0.f2.f0) ((rd_T48 l1 x7_2).f0.f2.f1) ((rd_T48 l1 x7_2).f1) = some (r1, r2)) ∧ Aside0 (kq ≤ kj17) ∧ Aside0 (Kd.R k45 45 w' w.heap.size (fun _ => True) (.slice Ao23 x6_2.length co23) x6_2) ∧ Aside0 (w'.heap[gb653]? = some (.cells #[.int .i64 ((rd_T48 l1 x7_2).f0.f0), .string ((rd_T48 l1 x7_2).f0.f1), .int .i64 ((rd_T48 l1 x7_2).f0.f2.f0), .bool ((rd_T48 l1 x7_2).f0.f2.f1), .bool ((rd_T48 l1 x7_2).f1)] 48 (0, 0))) ∧ Aside0 (Below w.heap.size w w'))
             case atStart => exact ⟨(0), rs_, (by first | exact H' | (rw [← Nbq25.out]; exact H')), ⟨Nat.le_refl _⟩, ⟨uR HO_6.out⟩, ⟨uB BK653.out⟩, ⟨bl⟩⟩
             case round =>
              clear H'
              try clear c1
              try clear c2
              try clear p2
              try clear q2
              try clear c3
              try clear c4
              try clear p4
              try clear q4
              try clear hx4
              try clear hf4
              try clear c5
              try clear hx5
              try clear hf5
              try clear p6
              try clear q6
              try clear hx6
              try clear c10
              try clear c11
              try clear c15
              try clear c15b0
              try clear c16
              try clear c16b0
              try clear c18
              try clear q25
              try clear c26
              try clear c27
              try clear c28
              try clear c29
              try clear c30
              try clear c30b0
              try clear c31
              try clear c31b0
              try clear c31b1
              try clear c32
              try clear c32b0
              try clear c32b1
              try clear c33
              try clear c35
              try clear c35b0
              try clear c35b1
              try clear c36
              try clear c36b0
              try clear c36b1
              try clear c37
              try clear q40
              try clear c41
              try clear q41
              try clear c46
              try clear c46b0
              try clear c47
              try clear c47b0
              try clear c48
              try clear c48b0
              try clear c49
              try clear p49
              try clear q49
              try clear hx49
              try clear hf49
              try clear c51
              try clear hx51
              try clear hf51
              try clear hcz20_0
              try clear hcz20_1
              try clear hcz20_2
              try clear hcz20_3
              try clear hcz20_4
              try clear hcz22_0
              try clear hcz22_1
              try clear hcz22_2
              try clear hcz22_3
              try clear hcz22_4
              try clear hcz27_0
              try clear hcz27_1
              try clear hcz27_2
              try clear hcz27_3
              try clear hcz27_4
              try clear hcz28_0
              try clear hcz28_1
              try clear hcz28_2
              try clear hcz28_3
              try clear hcz28_4
              try clear hcz38_0
              try clear hcz38_1
              try clear hcz38_2
              try clear hcz38_3
              try clear hcz38_4
              try clear hcz50_0
              try clear hcz50_1
              try clear hcz50_2
              try clear hcz50_3
              try clear hcz50_4
              try clear hcz53_0
              try clear hcz53_1
              try clear hcz53_2
              try clear hcz53_3
              try clear hcz53_4
              try clear hfz20_0
              try clear hfz20_1
              try clear hfz20_2
              try clear hfz20_3
              try clear hfz20_4
              try clear hfz22_0
              try clear hfz22_1
              try clear hfz22_2
              try clear hfz22_3
              try clear hfz22_4
              try clear hfz27_0
              try clear hfz27_1
              try clear hfz27_2
              try clear hfz27_3
              try clear hfz27_4
              try clear hfz28_0
              try clear hfz28_1
              try clear hfz28_2
              try clear hfz28_3
              try clear hfz28_4
              try clear hfz38_0
              try clear hfz38_1
              try clear hfz38_2
              try clear hfz38_3
              try clear hfz38_4
              try clear hfz50_0
              try clear hfz50_1
              try clear hfz50_2
              try clear hfz50_3
              try clear hfz50_4
              try clear hfz53_0
              try clear hfz53_1
              try clear hfz53_2
              try clear hfz53_3
              try clear hfz53_4
              try clear hx49_0
              try clear hx49_1
              try clear hx49_2
              try clear hx49_3
              try clear hx51_0
              try clear hx51_1
              try clear hx51_2
              try clear hx51_3
              try clear hx652_0
              try clear hx652_1
              try clear hx652_2
              try clear hx652_3
              try clear hx652_4
              try clear p2
              try clear p49
              try clear p6
              try clear p652
              try clear q041
              try clear q2
              try clear q25
              try clear q40
              try clear q41
              try clear q49
              try clear q6
              try clear q652
              obtain ⟨x9_4, rfl, HA, HK4, HO_6, BK653, HB⟩ := hrel
              cases gk with
              | zero => exact absurd HA.out (by simp [r09_Apply.l1])
              | succ k4 =>
               have H := HA.out
               clear HA
               simp only [r09_Apply.l1] at H
               by_cases c54 : x9_4 < (x6_2.length : Int)
               ·
                rw [if_pos c54] at H
                have c54b0 : decide (x9_4 < (x6_2.length : Int)) = true := decide_eq_true c54
                clear c54
                obtain ⟨c55b0, H⟩ := gdd H
                obtain ⟨t674, A56, H⟩ := bs H
                try dsimp only at H
                by_cases c57 : t674 = true
                ·
                 subst c57
                 rw [if_pos rfl] at H
                 have H' := Aside0.mk H
                 clear H
                 try go_wp2
                 replace HO_6 := Aside0.mk (Kd.R_drew HO_6.out)
                 replace BK653 := Aside0.mk (blk_drew BK653.out)
                 replace HB := Aside0.mk (below_drew1 HB.out)
                 have p673 : 0 ≤ (x9_4 : Int) := od
                 have q673 : x9_4 < (x6_2.length : Int) := od
                 obtain ⟨ad673, e673, hx673_0, hx673_1, hx673_2, hx673_3⟩ := at_T45 (Kd.R_reads' HO_6.out).2.2 x9_4 p673 q673
                 cases e673
                 replace p673 := eq_true p673
                 replace q673 := eq_true q673
                 refine start_ (n := 13) (S := fun w' => w'.cell? ⟨gb653, 0, none⟩ = some (.int .i64 ((rd_T48 l1 x7_2).f0.f0)) ∧ w'.cell? ⟨gb653, 1, none⟩ = some (.string ((rd_T48 l1 x7_2).f0.f1)) ∧ w'.cell? ⟨gb653, 2, none⟩ = some (.int .i64 ((rd_T48 l1 x7_2).f0.f2.f0)) ∧ w'.cell? ⟨gb653, 3, none⟩ = some (.bool ((rd_T48 l1 x7_2).f0.f2.f1)) ∧ w'.cell? ⟨gb653, 4, none⟩ = some (.bool ((rd_T48 l1 x7_2).f1)) ∧ w'.cell? (ad673.add ((x9_4).toNat * 4)) = some (.int .i64 ((rd_T45 x6_2 x9_4).f0)) ∧ w'.cell? ⟨(ad673.add ((x9_4).toNat * 4)).block, (ad673.add ((x9_4).toNat * 4)).off + 1, none⟩ = some (.string ((rd_T45 x6_2 x9_4).f1)) ∧ w'.cell? ⟨(ad673.add ((x9_4).toNat * 4)).block, (ad673.add ((x9_4).toNat * 4)).off + 2, none⟩ = some (.int .i64 ((rd_T45 x6_2 x9_4).f2.f0)) ∧ w'.cell? ⟨(ad673.add ((x9_4).toNat * 4)).block, (ad673.add ((x9_4).toNat * 4)).off + 3, none⟩ = some (.bool ((rd_T45 x6_2 x9_4).f2.f1))) (ds := []) _ (by kernel_rfl) rfl rfl ⟨(blk_cell BK653.out 0).trans rfl, (blk_cell BK653.out 1).trans rfl, (blk_cell BK653.out 2).trans rfl, (blk_cell BK653.out 3).trans rfl, (blk_cell BK653.out 4).trans rfl, hx673_0, hx673_1, hx673_2, hx673_3⟩ (fun hHeld => ?_); refine with_tabW r09_Apply.tab12 r09_Apply.bits12 (fun HT_ HW_ => ?_)
                 generalize wr.drew = w58 at HO_6 BK653 HB hx673_0 hx673_1 hx673_2 hx673_3 hHeld ⊢
                 refine p1 0 (some 42) ?_
                 refine p1 1 (some 43) ?_
                 refine p1 2 (some 44) ?_
                 refine p1 3 (some 45) ?_
                 refine p1 4 (some 46) ?_
                 refine p1 5 (some 47) ?_
                 refine p1 6 (some 48) ?_
                 refine p1 7 (some 49) ?_
                 refine p1 9 (some 51) ?_
                 refine t1 8 (some 50) rfl rfl hHeld (Or.inl ⟨by rfl, by rintro w' ⟨s0, s1, s2, s3, s4, s5, s6, s7, s8⟩; go_simp; with_reducible rfl⟩) ?_
                 refine t1 10 (some 52) rfl rfl hHeld (Or.inl ⟨by rfl, by rintro w' ⟨s0, s1, s2, s3, s4, s5, s6, s7, s8⟩; go_simp; with_reducible rfl⟩) ?_
                 refine o1 11 (some 53) rfl rfl (fun K hK => ?_)
                 refine gS Tryz.func37 #[.agg #[.int .i64 ((rd_T45 x6_2 x9_4).f0), .string ((rd_T45 x6_2 x9_4).f1), .int .i64 ((rd_T45 x6_2 x9_4).f2.f0), .bool ((rd_T45 x6_2 x9_4).f2.f1)], .agg #[.int .i64 ((rd_T48 l1 x7_2).f0.f0), .string ((rd_T48 l1 x7_2).f0.f1), .int .i64 ((rd_T48 l1 x7_2).f0.f2.f0), .bool ((rd_T48 l1 x7_2).f0.f2.f1)]] ?_
                 with_reducible refine (r08_Before.calls ((rd_T45 x6_2 x9_4).f0) ((rd_T45 x6_2 x9_4).f1) ((rd_T45 x6_2 x9_4).f2.f0) ((rd_T45 x6_2 x9_4).f2.f1) ((rd_T48 l1 x7_2).f0.f0) ((rd_T48 l1 x7_2).f0.f1) ((rd_T48 l1 x7_2).f0.f2.f0) ((rd_T48 l1 x7_2).f0.f2.f1) true _ A56.out).mono ?_
                 rintro e w59 ⟨rfl, hb⟩
                 have HS5_ := (hb.cell (World.block_lt_of_cell? _ _ (hHeld.2.2.2.2.2.1))).trans (hHeld.2.2.2.2.2.1)
                 have HS6_ := (hb.cell (World.block_lt_of_cell? _ _ (hHeld.2.2.2.2.2.2.1))).trans (hHeld.2.2.2.2.2.2.1)
                 have HS7_ := (hb.cell (World.block_lt_of_cell? _ _ (hHeld.2.2.2.2.2.2.2.1))).trans (hHeld.2.2.2.2.2.2.2.1)
                 have HS8_ := (hb.cell (World.block_lt_of_cell? _ _ (hHeld.2.2.2.2.2.2.2.2))).trans (hHeld.2.2.2.2.2.2.2.2)
                 refine ⟨_, rfl, ?_⟩
                 replace HO_6 := cR HO_6 hb
                 replace BK653 := cB BK653 hb
                 replace HB := Aside0.mk (below_step bl hb)
                 (try clear hb)
                 refine hK.out _ _ ⟨(blk_cell BK653.out 0).trans rfl, (blk_cell BK653.out 1).trans rfl, (blk_cell BK653.out 2).trans rfl, (blk_cell BK653.out 3).trans rfl, (blk_cell BK653.out 4).trans rfl, HS5_, HS6_, HS7_, HS8_⟩ (fun hHeld => ?_)
                 clear hK K
                 refine norm_ (a' := ?_) ?_ ?_
                 rotate_left
                 ·
                  show Act.put _ (some 53) _ = _
                  simp only [Act.put, List.setIfInBounds_toArray, List.set_cons_zero, List.set_cons_succ, i64_w, i32_w]
                  rfl
                 refine p1 12 (some 54) ?_
                 refine done_ (done_of HT_.out (by kernel_rfl)) ?_
                 try go_wp2
                 go_roundg k4
                 case measure => have := HJ2.out; have := HK2.out; have := HJ17.out; have := HK4.out; omega
                 case rel => exact ⟨(wrap64 (x9_4 + 1)), rs_, (by first | exact H' | (rw [← Nbq25.out]; exact H')), ⟨by have := HJ2.out; have := HK2.out; have := HJ17.out; have := HK4.out; omega⟩, ⟨uR HO_6.out⟩, ⟨uB BK653.out⟩, ⟨bl⟩⟩
                ·
                 replace c57 := Bool.eq_false_iff.mpr c57
                 subst c57
                 rw [if_neg (show ¬ (false = true) by decide)] at H
                 obtain ⟨y675, Ny675, H⟩ := ys H
                 try dsimp only at H
                 have c60b0 := eq_true (od : 0 ≤ x9_4)
                 obtain ⟨c61, H⟩ := gd H
                 have c61b0 := eq_true c61
                 have c61b1 : decide (x9_4 ≤ (x6_2.length : Int)) = true := decide_eq_true c61
                 clear c61
                 obtain ⟨y678, Ny678, H⟩ := ys H
                 try dsimp only at H
                 obtain ⟨c62, H⟩ := gd H
                 have LMc62 := Aside0.mk c62
                 clear c62
                 obtain ⟨y682, Ny682, H⟩ := ys H
                 try dsimp only at H
                 have c63b0 := eq_true (od : x9_4 ≤ (x6_2.length : Int))
                 obtain ⟨y685, Ny685, H⟩ := ys H
                 try dsimp only at H
                 obtain ⟨c64, H⟩ := gd H
                 have LMc64 := Aside0.mk c64
                 clear c64
                 obtain ⟨y688, Ny688, H⟩ := ys H
                 try dsimp only at H
                 obtain ⟨c65, H⟩ := gd H
                 have LMc65 := Aside0.mk c65
                 clear c65
                 obtain ⟨y691, hy691⟩ : ∃ y_ : List (S45), y_ = (y688 ++ y682) := ⟨_, rfl⟩
                 replace H : (r09_Apply.l0 k4 l1 y691 (wrap64 (x7_2 + 1))) = some (r1, r2) := by first | (rw [hy691]; with_reducible exact H) | (have H2_ := (Option.bind_some _ _).symm.trans H; rw [hy691]; with_reducible exact H2_) | (have H2_ := (Option.bind_some _ _).symm.trans H; with_reducible exact H2_) | with_reducible exact H | (rw [hy691]; exact H) | exact H
                 have Ny691 := Aside0.mk hy691
                 clear hy691
                 have H' := Aside0.mk H
                 clear H
                 try go_wp2
                 replace HO_6 := Aside0.mk (Kd.R_drew HO_6.out)
                 replace BK653 := Aside0.mk (blk_drew BK653.out)
                 replace HB := Aside0.mk (below_drew1 HB.out)
                 have p673 : 0 ≤ (x9_4 : Int) := od
                 have q673 : x9_4 < (x6_2.length : Int) := od
                 obtain ⟨ad673, e673, hx673_0, hx673_1, hx673_2, hx673_3⟩ := at_T45 (Kd.R_reads' HO_6.out).2.2 x9_4 p673 q673
                 cases e673
                 replace p673 := eq_true p673
                 replace q673 := eq_true q673
                 refine start_ (n := 13) (S := fun w' => w'.cell? ⟨gb653, 0, none⟩ = some (.int .i64 ((rd_T48 l1 x7_2).f0.f0)) ∧ w'.cell? ⟨gb653, 1, none⟩ = some (.string ((rd_T48 l1 x7_2).f0.f1)) ∧ w'.cell? ⟨gb653, 2, none⟩ = some (.int .i64 ((rd_T48 l1 x7_2).f0.f2.f0)) ∧ w'.cell? ⟨gb653, 3, none⟩ = some (.bool ((rd_T48 l1 x7_2).f0.f2.f1)) ∧ w'.cell? ⟨gb653, 4, none⟩ = some (.bool ((rd_T48 l1 x7_2).f1)) ∧ w'.cell? (ad673.add ((x9_4).toNat * 4)) = some (.int .i64 ((rd_T45 x6_2 x9_4).f0)) ∧ w'.cell? ⟨(ad673.add ((x9_4).toNat * 4)).block, (ad673.add ((x9_4).toNat * 4)).off + 1, none⟩ = some (.string ((rd_T45 x6_2 x9_4).f1)) ∧ w'.cell? ⟨(ad673.add ((x9_4).toNat * 4)).block, (ad673.add ((x9_4).toNat * 4)).off + 2, none⟩ = some (.int .i64 ((rd_T45 x6_2 x9_4).f2.f0)) ∧ w'.cell? ⟨(ad673.add ((x9_4).toNat * 4)).block, (ad673.add ((x9_4).toNat * 4)).off + 3, none⟩ = some (.bool ((rd_T45 x6_2 x9_4).f2.f1))) (ds := []) _ (by kernel_rfl) rfl rfl ⟨(blk_cell BK653.out 0).trans rfl, (blk_cell BK653.out 1).trans rfl, (blk_cell BK653.out 2).trans rfl, (blk_cell BK653.out 3).trans rfl, (blk_cell BK653.out 4).trans rfl, hx673_0, hx673_1, hx673_2, hx673_3⟩ (fun hHeld => ?_); refine with_tabW r09_Apply.tab12 r09_Apply.bits12 (fun HT_ HW_ => ?_)
                 generalize wr.drew = w66 at HO_6 BK653 HB hx673_0 hx673_1 hx673_2 hx673_3 hHeld ⊢
                 refine p1 0 (some 42) ?_
                 refine p1 1 (some 43) ?_
                 refine p1 2 (some 44) ?_
                 refine p1 3 (some 45) ?_
                 refine p1 4 (some 46) ?_
                 refine p1 5 (some 47) ?_
                 refine p1 6 (some 48) ?_
                 refine p1 7 (some 49) ?_
                 refine p1 9 (some 51) ?_
                 refine t1 8 (some 50) rfl rfl hHeld (Or.inl ⟨by rfl, by rintro w' ⟨s0, s1, s2, s3, s4, s5, s6, s7, s8⟩; go_simp; with_reducible rfl⟩) ?_
                 refine t1 10 (some 52) rfl rfl hHeld (Or.inl ⟨by rfl, by rintro w' ⟨s0, s1, s2, s3, s4, s5, s6, s7, s8⟩; go_simp; with_reducible rfl⟩) ?_
                 refine o1 11 (some 53) rfl rfl (fun K hK => ?_)
                 refine gS Tryz.func37 #[.agg #[.int .i64 ((rd_T45 x6_2 x9_4).f0), .string ((rd_T45 x6_2 x9_4).f1), .int .i64 ((rd_T45 x6_2 x9_4).f2.f0), .bool ((rd_T45 x6_2 x9_4).f2.f1)], .agg #[.int .i64 ((rd_T48 l1 x7_2).f0.f0), .string ((rd_T48 l1 x7_2).f0.f1), .int .i64 ((rd_T48 l1 x7_2).f0.f2.f0), .bool ((rd_T48 l1 x7_2).f0.f2.f1)]] ?_
                 with_reducible refine (r08_Before.calls ((rd_T45 x6_2 x9_4).f0) ((rd_T45 x6_2 x9_4).f1) ((rd_T45 x6_2 x9_4).f2.f0) ((rd_T45 x6_2 x9_4).f2.f1) ((rd_T48 l1 x7_2).f0.f0) ((rd_T48 l1 x7_2).f0.f1) ((rd_T48 l1 x7_2).f0.f2.f0) ((rd_T48 l1 x7_2).f0.f2.f1) false _ A56.out).mono ?_
                 rintro e w67 ⟨rfl, hb⟩
                 have HS5_ := (hb.cell (World.block_lt_of_cell? _ _ (hHeld.2.2.2.2.2.1))).trans (hHeld.2.2.2.2.2.1)
                 have HS6_ := (hb.cell (World.block_lt_of_cell? _ _ (hHeld.2.2.2.2.2.2.1))).trans (hHeld.2.2.2.2.2.2.1)
                 have HS7_ := (hb.cell (World.block_lt_of_cell? _ _ (hHeld.2.2.2.2.2.2.2.1))).trans (hHeld.2.2.2.2.2.2.2.1)
                 have HS8_ := (hb.cell (World.block_lt_of_cell? _ _ (hHeld.2.2.2.2.2.2.2.2))).trans (hHeld.2.2.2.2.2.2.2.2)
                 refine ⟨_, rfl, ?_⟩
                 replace HO_6 := cR HO_6 hb
                 replace BK653 := cB BK653 hb
                 replace HB := Aside0.mk (below_step bl hb)
                 (try clear hb)
                 refine hK.out _ _ ⟨(blk_cell BK653.out 0).trans rfl, (blk_cell BK653.out 1).trans rfl, (blk_cell BK653.out 2).trans rfl, (blk_cell BK653.out 3).trans rfl, (blk_cell BK653.out 4).trans rfl, HS5_, HS6_, HS7_, HS8_⟩ (fun hHeld => ?_)
                 clear hK K
                 refine norm_ (a' := ?_) ?_ ?_
                 rotate_left
                 ·
                  show Act.put _ (some 53) _ = _
                  simp only [Act.put, List.setIfInBounds_toArray, List.set_cons_zero, List.set_cons_succ, i64_w, i32_w]
                  rfl
                 refine p1 12 (some 54) ?_
                 refine done_ (done_of HT_.out (by kernel_rfl)) ?_
                 try go_wp2_with (first | ((with_reducible refine gate_dst (N := 57) rfl ?_); refine Kd.R_lit k45 _ 45 ?hg (N := 57) ?hd (xs := ([] : List (S45))) (inner := []) (ok := fun _ => True) (okp := fun _ => True) ?hr ?hp (fun _ hk => hk) trivial (Below.refl _ _) (Nat.le_refl _) (by simp) ?_; (case hd => rfl); (case hg => rfl); (case hr => first | (go_simp; done) | (go_simp; rfl)); (case hp => exact (Reps.none _ _)); intro v676 w68 ho69 hb hg_ hnew_; clear hg_ hnew_; (first | rw [← Ny675.out] at ho69 | (simp only [Int.reduceToNat] at ho69; rw [← Ny675.out] at ho69)); have HO677 := Aside0.mk (Kd.R_lower (Kd.R_new' ho69 (Kd.R_lt (uR HO_6.out))) (below_size bl)); replace HO_6 := Aside0.mk (Kd.R_elder' (uR HO_6.out) (Kd.R_base ho69) hb); replace BK653 := cB BK653 hb; replace HB := Aside0.mk (below_step bl hb); clear hb ho69; have q70 : (x9_4 : Int) ≤ ((x6_2.length : Int) : Int) := od; obtain ⟨i070, hi070, _, hsz70, _⟩ := info_parts info45; have hroom70 : x6_2.length ≤ co23 := (Kd.R_reads' HO_6.out).2.1; have hC70 : Kd.C k45 _ (some ad673) x6_2.length x6_2 := (Kd.R_reads' HO_6.out).2.2; have q070 : (0 : Int) ≤ (x9_4 : Int) := od; have hcut70 := cut_from (P := Tryz.prog) 22 45 .i64 Tryz.underlying22 hi070 4 hsz70 (some ad673) x6_2.length co23 x9_4 q070 q70; have hr70 := Kd.C_drop (m := (x9_4 : Int).toNat) (c := co23) hC70 (by omega) hroom70; obtain ⟨A70, hA70⟩ : ∃ A1, A1 = (if co23 = (x9_4 : Int).toNat then (some ad673) else ((some ad673) : Option Addr).map (·.add ((x9_4 : Int).toNat * 4))) := ⟨_, rfl⟩; obtain ⟨c70, hc70⟩ : ∃ c1, c1 = co23 - (x9_4 : Int).toNat := ⟨_, rfl⟩; have hy70 : y678.length = x6_2.length - (x9_4 : Int).toNat := (by rw [Ny678.out, List.length_drop] <;> omega); rw [show (x6_2).drop (x9_4 : Int).toNat = y678 from Ny678.out.symm] at hr70; replace hr70 : Kd.C k45 _ A70 y678.length y678 := (by rw [hA70]; exact hr70); rw [← hy70, ← hA70, ← hc70] at hcut70; have HR681 := Aside0.mk hr70; have HC681 := Aside0.mk (show y678.length ≤ c70 from by rw [hy70, hc70]; exact Nat.sub_le_sub_right hroom70 _); clear hr70 hC70 hroom70 hi070 hsz70 hc70; have KY70 := Aside0.mk hy70; have KA70 := Aside0.mk hA70; clear hy70 hA70; have KL70 := Aside0.mk (show (x9_4 : Int).toNat ≤ x6_2.length from by omega); replace q70 := eq_true q70) | ((with_reducible refine gate_builtin (b := .append) (xs := #[.tmp 57, .tmp 60]) rfl ?_); at_builtin; refine Kd.R_append_rows k45 (w0 := w) w.heap.size rfl (.tmp 57) (.tmp 60) 22 45 (.agg #[(.int .i64 0), (.string ⟨#[]⟩), (.int .i64 0), (.bool false)]) 40 rfl Tryz.underlying22 info45 rfl (by decide) (by omega) v676 y675 y678 _ _ _ (fun k_ => some k_ ≠ (.slice (some ad673) x6_2.length co23 : Value).ownBlock) (fun _ => False) rfl rfl ?aO ?aR (fun _ _ h => h) (fun _ h => h.elim) ?aF ?aB ?aS ?aL ?_; (case aR => repeat (first | exact (by repeat (first | (with_reducible exact HR681.out) | (with_reducible refine Kd.C_alloc ?_ _) | (with_reducible refine Kd.C_drewN ?_ _) | (with_reducible refine Kd.C_drew ?_) | exact HR681.out)) | (with_reducible refine Kd.C_alloc ?_ _) | (with_reducible refine Kd.C_drewN ?_ _) | (with_reducible refine Kd.C_drew ?_))); (case aB => exact bl); (case aF => exact (fun k_ hk => Kd.fresh' (Kd.R_lt (uR HO_6.out)) k_ hk)); (case aO => exact (by exact uR <| Kd.R_mono HO677.out (fun _ hk => hk.2))); (case aS => exact (below_size bl)); (case aL => have := LMc62.out; omega); intro v683 w71 ho hb hg hat; rw [← Ny682.out] at ho; replace BK653 := Aside0.mk (blk_grown (g := gb653) (o := .cells #[.int .i64 ((rd_T48 l1 x7_2).f0.f0), .string ((rd_T48 l1 x7_2).f0.f1), .int .i64 ((rd_T48 l1 x7_2).f0.f2.f0), .bool ((rd_T48 l1 x7_2).f0.f2.f1), .bool ((rd_T48 l1 x7_2).f1)] 48 (0, 0)) (uB BK653.out) hg (Kd.R_ne HO677.out BK653.out (by decide))); replace HB := Aside0.mk (hb); replace HR681 := Aside0.mk ((show Kd.C k45 w71 A70 y678.length y678 from by rw [Ny678.out, KA70.out]; exact Kd.C_drop (m := (x9_4 : Int).toNat) (c := co23) ((Kd.R_reads' (Kd.R_after (ok := (fun _ => True)) (uR HO_6.out) hg hat)).2.2) KL70.out ((Kd.R_reads' (Kd.R_after (ok := (fun _ => True)) (uR HO_6.out) hg hat)).2.1))); replace HO_6 := Aside0.mk (Kd.R_after (ok := (fun _ => True)) (uR HO_6.out) hg hat); have HO684 := Aside0.mk (ho); clear HO677; clear ho hb hg hat))
                 replace HO_6 := Aside0.mk (Kd.R_drew HO_6.out)
                 replace HO684 := Aside0.mk (Kd.R_drew HO684.out)
                 replace BK653 := Aside0.mk (blk_drew BK653.out)
                 replace HR681 := Aside0.mk (Kd.C_drew HR681.out)
                 replace HB := Aside0.mk (below_drew1 HB.out)
                 have q73 : (x9_4 : Int) ≤ ((x6_2.length : Int) : Int) := od
                 obtain ⟨i073, hi073, _, hsz73, _⟩ := info_parts info45
                 have hcut73 := cut_to (P := Tryz.prog) 22 45 .i64 Tryz.underlying22 hi073 (some ad673) x6_2.length co23 x9_4 (od) q73 (Kd.R_reads' HO_6.out).2.1
                 have hr73 := Kd.R_take (m := (x9_4 : Int).toNat) HO_6.out (by omega)
                 have hy73 : y685.length = (x9_4 : Int).toNat := (by rw [Ny685.out, List.length_take]; omega)
                 rw [← Ny685.out] at hr73
                 rw [← hy73] at hr73 hcut73
                 clear hy73 hi073 hsz73 HO_6
                 have HO687 := Aside0.mk hr73
                 clear hr73
                 replace q73 := eq_true q73
                 refine start_ (n := 10) (S := fun w' => w'.cell? ⟨gb653, 0, none⟩ = some (.int .i64 ((rd_T48 l1 x7_2).f0.f0)) ∧ w'.cell? ⟨gb653, 1, none⟩ = some (.string ((rd_T48 l1 x7_2).f0.f1)) ∧ w'.cell? ⟨gb653, 2, none⟩ = some (.int .i64 ((rd_T48 l1 x7_2).f0.f2.f0)) ∧ w'.cell? ⟨gb653, 3, none⟩ = some (.bool ((rd_T48 l1 x7_2).f0.f2.f1)) ∧ w'.cell? ⟨gb653, 4, none⟩ = some (.bool ((rd_T48 l1 x7_2).f1))) (ds := []) _ (by kernel_rfl) rfl rfl ⟨(blk_cell BK653.out 0).trans rfl, (blk_cell BK653.out 1).trans rfl, (blk_cell BK653.out 2).trans rfl, (blk_cell BK653.out 3).trans rfl, (blk_cell BK653.out 4).trans rfl⟩ (fun hHeld => ?_); refine with_tabW r09_Apply.tab15 r09_Apply.bits15 (fun HT_ HW_ => ?_)
                 generalize w71.drew = w72 at HO684 BK653 HR681 HB HO687 hHeld ⊢
                 refine p1 0 (some 62) ?_
                 refine p1 1 (some 63) ?_
                 refine p1 2 (some 64) ?_
                 refine p1 3 (some 65) ?_
                 refine p1 7 (some 69) ?_
                 refine t1 4 (some 66) rfl rfl hHeld (Or.inl ⟨by rfl, by rintro w' ⟨s0, s1, s2, s3, s4⟩; go_simp; with_reducible rfl⟩) ?_
                 refine o1 5 (some 67) rfl rfl (fun K hK => ?_)
                 refine value_ (w1 := ?_) (v := ?_) (by rfl) rfl ?_ ?_
                 rotate_left 2
                 ·
                  go_simp
                  constructor
                  ·
                   rfl
                  ·
                   rfl
                 refine hK.out _ _ ⟨(blk_cell (blk_alloc BK653.out _) 0).trans rfl, (blk_cell (blk_alloc BK653.out _) 1).trans rfl, (blk_cell (blk_alloc BK653.out _) 2).trans rfl, (blk_cell (blk_alloc BK653.out _) 3).trans rfl, (blk_cell (blk_alloc BK653.out _) 4).trans rfl⟩ (fun hHeld => ?_)
                 clear hK K
                 refine norm_ (a' := ?_) ?_ ?_
                 rotate_left
                 ·
                  show Act.put _ (some 67) _ = _
                  simp only [Act.put, List.setIfInBounds_toArray, List.set_cons_zero, List.set_cons_succ, i64_w, i32_w]
                  rfl
                 refine o1 6 (some 68) rfl rfl (fun K hK => ?_)
                 refine Kd.R_append_step k45 (w0 := w) w.heap.size (by rfl) (.tmp 64) (.tmp 67) 22 45 (.agg #[(.int .i64 0), (.string ⟨#[]⟩), (.int .i64 0), (.bool false)]) 40 rfl Tryz.underlying22 info45 rfl (by decide) (by omega) (.slice (some ad673) y685.length co23) y685 (⟨((rd_T48 l1 x7_2).f0.f0), ((rd_T48 l1 x7_2).f0.f1), (⟨((rd_T48 l1 x7_2).f0.f2.f0), ((rd_T48 l1 x7_2).f0.f2.f1)⟩ : S43)⟩ : S45) [.int .i64 ((rd_T48 l1 x7_2).f0.f0), .string ((rd_T48 l1 x7_2).f0.f1), .int .i64 ((rd_T48 l1 x7_2).f0.f2.f0), .bool ((rd_T48 l1 x7_2).f0.f2.f1)] (fun k_ => some k_ ≠ (v683 : Value).ownBlock) (fun _ => False) rfl rfl ?aP (fun _ hk => hk.elim) ?aF ?aO ?aB ?aS ?aL ?_
                 (case aP => exact k45_mkM _ _ _ (⟨((rd_T48 l1 x7_2).f0.f0), ((rd_T48 l1 x7_2).f0.f1), (⟨((rd_T48 l1 x7_2).f0.f2.f0), ((rd_T48 l1 x7_2).f0.f2.f1)⟩ : S43)⟩ : S45))
                 (case aB => exact bl)
                 (case aF => exact (fun k_ hk => Kd.fresh' (Kd.R_lt (uR HO684.out)) k_ hk))
                 (case aO => exact (by exact uR <| Kd.R_mono HO687.out (fun _ hk => hk.2)))
                 (case aS => exact (below_size bl))
                 (case aL => have := LMc64.out; omega)
                 intro v689 w74 ho hb hg hat
                 rw [← Ny688.out] at ho
                 replace BK653 := Aside0.mk (blk_grown (g := gb653) (o := .cells #[.int .i64 ((rd_T48 l1 x7_2).f0.f0), .string ((rd_T48 l1 x7_2).f0.f1), .int .i64 ((rd_T48 l1 x7_2).f0.f2.f0), .bool ((rd_T48 l1 x7_2).f0.f2.f1), .bool ((rd_T48 l1 x7_2).f1)] 48 (0, 0)) (uB BK653.out) hg (Kd.R_ne HO687.out BK653.out (by decide)))
                 replace HO684 := Aside0.mk (Kd.R_after (ok := (fun _ => True)) (by exact uR <| Kd.R_mono HO684.out (fun _ hk => ⟨trivial, by first | exact hk | (revert hk; cases Ao23 <;> exact id)⟩)) hg hat)
                 replace HB := Aside0.mk (hb)
                 have HO690 := Aside0.mk (ho)
                 clear HO687
                 clear ho hb hg hat
                 obtain ⟨Ao76, co76, eo76⟩ := Kd.R_slice HO684.out
                 (first | subst eo76 | (injection eo76 with f1_ f2_ f3_; have f4_ := f1_.symm; have f5_ := f3_.symm; clear f1_ f2_ f3_; subst f4_; subst f5_))
                 refine hK.out _ _ ⟨(blk_cell BK653.out 0).trans rfl, (blk_cell BK653.out 1).trans rfl, (blk_cell BK653.out 2).trans rfl, (blk_cell BK653.out 3).trans rfl, (blk_cell BK653.out 4).trans rfl⟩ (fun hHeld => ?_)
                 clear hK K
                 refine norm_ (a' := ?_) ?_ ?_
                 rotate_left
                 ·
                  show Act.put _ (some 68) _ = _
                  simp only [Act.put, List.setIfInBounds_toArray, List.set_cons_zero, List.set_cons_succ, i64_w, i32_w]
                  rfl
                 refine o1 8 (some 70) rfl rfl (fun K hK => ?_)
                 refine Kd.R_append_rows_step k45 (w0 := w) w.heap.size (by rfl) (.tmp 68) (.tmp 69) 22 45 (.agg #[(.int .i64 0), (.string ⟨#[]⟩), (.int .i64 0), (.bool false)]) 40 rfl Tryz.underlying22 info45 rfl (by decide) (by omega) v689 y688 y682 _ _ _ (fun k_ => some k_ ≠ (.slice Ao76 y682.length co76 : Value).ownBlock) (fun _ => False) rfl rfl ?aO ?aR (fun _ _ h => h) (fun _ h => h.elim) ?aF ?aB ?aS ?aL ?_
                 (case aR => exact uC <| (Kd.R_reads' HO684.out).2.2)
                 (case aB => exact bl)
                 (case aF => exact (fun k_ hk => Kd.fresh' (Kd.R_lt (uR HO684.out)) k_ hk))
                 (case aO => exact (uR HO690.out))
                 (case aS => exact (below_size bl))
                 (case aL => have := LMc65.out; omega)
                 intro v692 w75 ho hb hg hat
                 rw [← Ny691.out] at ho
                 replace BK653 := Aside0.mk (blk_grown (g := gb653) (o := .cells #[.int .i64 ((rd_T48 l1 x7_2).f0.f0), .string ((rd_T48 l1 x7_2).f0.f1), .int .i64 ((rd_T48 l1 x7_2).f0.f2.f0), .bool ((rd_T48 l1 x7_2).f0.f2.f1), .bool ((rd_T48 l1 x7_2).f1)] 48 (0, 0)) (uB BK653.out) hg (Kd.R_ne HO690.out BK653.out (by decide)))
                 replace HO684 := Aside0.mk (Kd.R_after (ok := (fun _ => True)) (uR HO684.out) hg hat)
                 replace HB := Aside0.mk (hb)
                 have HO693 := Aside0.mk (ho)
                 clear HO690
                 clear ho hb hg hat
                 refine hK.out _ _ ⟨(blk_cell BK653.out 0).trans rfl, (blk_cell BK653.out 1).trans rfl, (blk_cell BK653.out 2).trans rfl, (blk_cell BK653.out 3).trans rfl, (blk_cell BK653.out 4).trans rfl⟩ (fun hHeld => ?_)
                 clear hK K
                 refine norm_ (a' := ?_) ?_ ?_
                 rotate_left
                 ·
                  show Act.put _ (some 70) _ = _
                  simp only [Act.put, List.setIfInBounds_toArray, List.set_cons_zero, List.set_cons_succ, i64_w, i32_w]
                  rfl
                 refine p1 9 (some 6) ?_
                 refine done_ (done_of HT_.out (by kernel_rfl)) ?_
                 try go_wp2
                 go_roundg k4
                 case measure => have := HJ2.out; have := HK2.out; have := HJ17.out; have := HK4.out; omega
                 case rel => exact ⟨(y691), (wrap64 (x7_2 + 1)), rs_, (by first | exact H' | (rw [← Nbq25.out]; exact H')), ⟨by have := HJ2.out; have := HK2.out; have := HJ17.out; have := HK4.out; omega⟩, ⟨by exact uR <| Kd.R_mono HO693.out (fun _ hk => trivial)⟩, ⟨bl⟩⟩
               ·
                rw [if_neg c54] at H
                have c54b0 : decide (x9_4 < (x6_2.length : Int)) = false := decide_eq_false c54
                clear c54
                obtain ⟨y694, Ny694, H⟩ := ys H
                try dsimp only at H
                obtain ⟨c77, H⟩ := gd H
                have c77b0 := eq_true c77
                have c77b1 : decide (0 ≤ x9_4) = true := decide_eq_true c77
                clear c77
                obtain ⟨c78, H⟩ := gd H
                have c78b0 := eq_true c78
                have c78b1 : decide (x9_4 ≤ (x6_2.length : Int)) = true := decide_eq_true c78
                clear c78
                obtain ⟨y697, Ny697, H⟩ := ys H
                try dsimp only at H
                obtain ⟨c79, H⟩ := gd H
                have LMc79 := Aside0.mk c79
                clear c79
                obtain ⟨y701, Ny701, H⟩ := ys H
                try dsimp only at H
                have c80b0 := eq_true (od : x9_4 ≤ (x6_2.length : Int))
                obtain ⟨y704, Ny704, H⟩ := ys H
                try dsimp only at H
                obtain ⟨c81, H⟩ := gd H
                have LMc81 := Aside0.mk c81
                clear c81
                obtain ⟨y707, Ny707, H⟩ := ys H
                try dsimp only at H
                obtain ⟨c82, H⟩ := gd H
                have LMc82 := Aside0.mk c82
                clear c82
                obtain ⟨y710, hy710⟩ : ∃ y_ : List (S45), y_ = (y707 ++ y701) := ⟨_, rfl⟩
                replace H : (r09_Apply.l0 k4 l1 y710 (wrap64 (x7_2 + 1))) = some (r1, r2) := by first | (rw [hy710]; with_reducible exact H) | (have H2_ := (Option.bind_some _ _).symm.trans H; rw [hy710]; with_reducible exact H2_) | (have H2_ := (Option.bind_some _ _).symm.trans H; with_reducible exact H2_) | with_reducible exact H | (rw [hy710]; exact H) | exact H
                have Ny710 := Aside0.mk hy710
                clear hy710
                have H' := Aside0.mk H
                clear H
                try go_wp2
                replace HO_6 := Aside0.mk (Kd.R_drew HO_6.out)
                replace BK653 := Aside0.mk (blk_drew BK653.out)
                replace HB := Aside0.mk (below_drew1 HB.out)
                refine start_ (n := 13) (S := fun w' => True) (ds := []) _ (by kernel_rfl) rfl rfl trivial (fun hHeld => ?_); refine with_tabW r09_Apply.tab12 r09_Apply.bits12 (fun HT_ HW_ => ?_)
                generalize wr.drew = w83 at HO_6 BK653 HB hHeld ⊢
                refine p1 0 (some 42) ?_
                refine p1 1 (some 43) ?_
                refine p1 2 (some 44) ?_
                refine p1 3 (some 45) ?_
                refine p1 4 (some 46) ?_
                refine p2 5 (some 47) ?_
                refine p2 6 (some 48) ?_
                refine p2 7 (some 49) ?_
                refine p2 8 (some 50) ?_
                refine p2 9 (some 51) ?_
                refine p2 10 (some 52) ?_
                refine p2 11 (some 53) ?_
                refine p1 12 (some 54) ?_
                refine done_ (done_of HT_.out (by kernel_rfl)) ?_
                try go_wp2_with (first | ((with_reducible refine gate_dst (N := 57) rfl ?_); refine Kd.R_lit k45 _ 45 ?hg (N := 57) ?hd (xs := ([] : List (S45))) (inner := []) (ok := fun _ => True) (okp := fun _ => True) ?hr ?hp (fun _ hk => hk) trivial (Below.refl _ _) (Nat.le_refl _) (by simp) ?_; (case hd => rfl); (case hg => rfl); (case hr => first | (go_simp; done) | (go_simp; rfl)); (case hp => exact (Reps.none _ _)); intro v695 w84 ho85 hb hg_ hnew_; clear hg_ hnew_; (first | rw [← Ny694.out] at ho85 | (simp only [Int.reduceToNat] at ho85; rw [← Ny694.out] at ho85)); have HO696 := Aside0.mk (Kd.R_lower (Kd.R_new' ho85 (Kd.R_lt (uR HO_6.out))) (below_size bl)); replace HO_6 := Aside0.mk (Kd.R_elder' (uR HO_6.out) (Kd.R_base ho85) hb); replace BK653 := cB BK653 hb; replace HB := Aside0.mk (below_step bl hb); clear hb ho85; have q86 : (x9_4 : Int) ≤ ((x6_2.length : Int) : Int) := od; obtain ⟨i086, hi086, _, hsz86, _⟩ := info_parts info45; have hroom86 : x6_2.length ≤ co23 := (Kd.R_reads' HO_6.out).2.1; have hC86 : Kd.C k45 _ Ao23 x6_2.length x6_2 := (Kd.R_reads' HO_6.out).2.2; have q086 : (0 : Int) ≤ (x9_4 : Int) := od; have hcut86 := cut_from (P := Tryz.prog) 22 45 .i64 Tryz.underlying22 hi086 4 hsz86 Ao23 x6_2.length co23 x9_4 q086 q86; have hr86 := Kd.C_drop (m := (x9_4 : Int).toNat) (c := co23) hC86 (by omega) hroom86; obtain ⟨A86, hA86⟩ : ∃ A1, A1 = (if co23 = (x9_4 : Int).toNat then Ao23 else (Ao23 : Option Addr).map (·.add ((x9_4 : Int).toNat * 4))) := ⟨_, rfl⟩; obtain ⟨c86, hc86⟩ : ∃ c1, c1 = co23 - (x9_4 : Int).toNat := ⟨_, rfl⟩; have hy86 : y697.length = x6_2.length - (x9_4 : Int).toNat := (by rw [Ny697.out, List.length_drop] <;> omega); rw [show (x6_2).drop (x9_4 : Int).toNat = y697 from Ny697.out.symm] at hr86; replace hr86 : Kd.C k45 _ A86 y697.length y697 := (by rw [hA86]; exact hr86); rw [← hy86, ← hA86, ← hc86] at hcut86; have HR700 := Aside0.mk hr86; have HC700 := Aside0.mk (show y697.length ≤ c86 from by rw [hy86, hc86]; exact Nat.sub_le_sub_right hroom86 _); clear hr86 hC86 hroom86 hi086 hsz86 hc86; have KY86 := Aside0.mk hy86; have KA86 := Aside0.mk hA86; clear hy86 hA86; have KL86 := Aside0.mk (show (x9_4 : Int).toNat ≤ x6_2.length from by omega); replace q86 := eq_true q86) | ((with_reducible refine gate_builtin (b := .append) (xs := #[.tmp 57, .tmp 60]) rfl ?_); at_builtin; refine Kd.R_append_rows k45 (w0 := w) w.heap.size rfl (.tmp 57) (.tmp 60) 22 45 (.agg #[(.int .i64 0), (.string ⟨#[]⟩), (.int .i64 0), (.bool false)]) 40 rfl Tryz.underlying22 info45 rfl (by decide) (by omega) v695 y694 y697 _ _ _ (fun k_ => some k_ ≠ (.slice Ao23 x6_2.length co23 : Value).ownBlock) (fun _ => False) rfl rfl ?aO ?aR (fun _ _ h => h) (fun _ h => h.elim) ?aF ?aB ?aS ?aL ?_; (case aR => repeat (first | exact (by repeat (first | (with_reducible exact HR700.out) | (with_reducible refine Kd.C_alloc ?_ _) | (with_reducible refine Kd.C_drewN ?_ _) | (with_reducible refine Kd.C_drew ?_) | exact HR700.out)) | (with_reducible refine Kd.C_alloc ?_ _) | (with_reducible refine Kd.C_drewN ?_ _) | (with_reducible refine Kd.C_drew ?_))); (case aB => exact bl); (case aF => exact (fun k_ hk => Kd.fresh' (Kd.R_lt (uR HO_6.out)) k_ hk)); (case aO => exact (by exact uR <| Kd.R_mono HO696.out (fun _ hk => hk.2))); (case aS => exact (below_size bl)); (case aL => have := LMc79.out; omega); intro v702 w87 ho hb hg hat; rw [← Ny701.out] at ho; replace BK653 := Aside0.mk (blk_grown (g := gb653) (o := .cells #[.int .i64 ((rd_T48 l1 x7_2).f0.f0), .string ((rd_T48 l1 x7_2).f0.f1), .int .i64 ((rd_T48 l1 x7_2).f0.f2.f0), .bool ((rd_T48 l1 x7_2).f0.f2.f1), .bool ((rd_T48 l1 x7_2).f1)] 48 (0, 0)) (uB BK653.out) hg (Kd.R_ne HO696.out BK653.out (by decide))); replace HB := Aside0.mk (hb); replace HR700 := Aside0.mk ((show Kd.C k45 w87 A86 y697.length y697 from by rw [Ny697.out, KA86.out]; exact Kd.C_drop (m := (x9_4 : Int).toNat) (c := co23) ((Kd.R_reads' (Kd.R_after (ok := (fun _ => True)) (uR HO_6.out) hg hat)).2.2) KL86.out ((Kd.R_reads' (Kd.R_after (ok := (fun _ => True)) (uR HO_6.out) hg hat)).2.1))); replace HO_6 := Aside0.mk (Kd.R_after (ok := (fun _ => True)) (uR HO_6.out) hg hat); have HO703 := Aside0.mk (ho); clear HO696; clear ho hb hg hat))
                replace HO_6 := Aside0.mk (Kd.R_drew HO_6.out)
                replace HO703 := Aside0.mk (Kd.R_drew HO703.out)
                replace BK653 := Aside0.mk (blk_drew BK653.out)
                replace HR700 := Aside0.mk (Kd.C_drew HR700.out)
                replace HB := Aside0.mk (below_drew1 HB.out)
                have q89 : (x9_4 : Int) ≤ ((x6_2.length : Int) : Int) := od
                obtain ⟨i089, hi089, _, hsz89, _⟩ := info_parts info45
                have hcut89 := cut_to (P := Tryz.prog) 22 45 .i64 Tryz.underlying22 hi089 Ao23 x6_2.length co23 x9_4 (od) q89 (Kd.R_reads' HO_6.out).2.1
                have hr89 := Kd.R_take (m := (x9_4 : Int).toNat) HO_6.out (by omega)
                have hy89 : y704.length = (x9_4 : Int).toNat := (by rw [Ny704.out, List.length_take]; omega)
                rw [← Ny704.out] at hr89
                rw [← hy89] at hr89 hcut89
                clear hy89 hi089 hsz89 HO_6
                have HO706 := Aside0.mk hr89
                clear hr89
                replace q89 := eq_true q89
                refine start_ (n := 10) (S := fun w' => w'.cell? ⟨gb653, 0, none⟩ = some (.int .i64 ((rd_T48 l1 x7_2).f0.f0)) ∧ w'.cell? ⟨gb653, 1, none⟩ = some (.string ((rd_T48 l1 x7_2).f0.f1)) ∧ w'.cell? ⟨gb653, 2, none⟩ = some (.int .i64 ((rd_T48 l1 x7_2).f0.f2.f0)) ∧ w'.cell? ⟨gb653, 3, none⟩ = some (.bool ((rd_T48 l1 x7_2).f0.f2.f1)) ∧ w'.cell? ⟨gb653, 4, none⟩ = some (.bool ((rd_T48 l1 x7_2).f1))) (ds := []) _ (by kernel_rfl) rfl rfl ⟨(blk_cell BK653.out 0).trans rfl, (blk_cell BK653.out 1).trans rfl, (blk_cell BK653.out 2).trans rfl, (blk_cell BK653.out 3).trans rfl, (blk_cell BK653.out 4).trans rfl⟩ (fun hHeld => ?_); refine with_tabW r09_Apply.tab15 r09_Apply.bits15 (fun HT_ HW_ => ?_)
                generalize w87.drew = w88 at HO703 BK653 HR700 HB HO706 hHeld ⊢
                refine p1 0 (some 62) ?_
                refine p1 1 (some 63) ?_
                refine p1 2 (some 64) ?_
                refine p1 3 (some 65) ?_
                refine p1 7 (some 69) ?_
                refine t1 4 (some 66) rfl rfl hHeld (Or.inl ⟨by rfl, by rintro w' ⟨s0, s1, s2, s3, s4⟩; go_simp; with_reducible rfl⟩) ?_
                refine o1 5 (some 67) rfl rfl (fun K hK => ?_)
                refine value_ (w1 := ?_) (v := ?_) (by rfl) rfl ?_ ?_
                rotate_left 2
                ·
                 go_simp
                 constructor
                 ·
                  rfl
                 ·
                  rfl
                refine hK.out _ _ ⟨(blk_cell (blk_alloc BK653.out _) 0).trans rfl, (blk_cell (blk_alloc BK653.out _) 1).trans rfl, (blk_cell (blk_alloc BK653.out _) 2).trans rfl, (blk_cell (blk_alloc BK653.out _) 3).trans rfl, (blk_cell (blk_alloc BK653.out _) 4).trans rfl⟩ (fun hHeld => ?_)
                clear hK K
                refine norm_ (a' := ?_) ?_ ?_
                rotate_left
                ·
                 show Act.put _ (some 67) _ = _
                 simp only [Act.put, List.setIfInBounds_toArray, List.set_cons_zero, List.set_cons_succ, i64_w, i32_w]
                 rfl
                refine o1 6 (some 68) rfl rfl (fun K hK => ?_)
                refine Kd.R_append_step k45 (w0 := w) w.heap.size (by rfl) (.tmp 64) (.tmp 67) 22 45 (.agg #[(.int .i64 0), (.string ⟨#[]⟩), (.int .i64 0), (.bool false)]) 40 rfl Tryz.underlying22 info45 rfl (by decide) (by omega) (.slice Ao23 y704.length co23) y704 (⟨((rd_T48 l1 x7_2).f0.f0), ((rd_T48 l1 x7_2).f0.f1), (⟨((rd_T48 l1 x7_2).f0.f2.f0), ((rd_T48 l1 x7_2).f0.f2.f1)⟩ : S43)⟩ : S45) [.int .i64 ((rd_T48 l1 x7_2).f0.f0), .string ((rd_T48 l1 x7_2).f0.f1), .int .i64 ((rd_T48 l1 x7_2).f0.f2.f0), .bool ((rd_T48 l1 x7_2).f0.f2.f1)] (fun k_ => some k_ ≠ (v702 : Value).ownBlock) (fun _ => False) rfl rfl ?aP (fun _ hk => hk.elim) ?aF ?aO ?aB ?aS ?aL ?_
                (case aP => exact k45_mkM _ _ _ (⟨((rd_T48 l1 x7_2).f0.f0), ((rd_T48 l1 x7_2).f0.f1), (⟨((rd_T48 l1 x7_2).f0.f2.f0), ((rd_T48 l1 x7_2).f0.f2.f1)⟩ : S43)⟩ : S45))
                (case aB => exact bl)
                (case aF => exact (fun k_ hk => Kd.fresh' (Kd.R_lt (uR HO703.out)) k_ hk))
                (case aO => exact (by exact uR <| Kd.R_mono HO706.out (fun _ hk => hk.2)))
                (case aS => exact (below_size bl))
                (case aL => have := LMc81.out; omega)
                intro v708 w90 ho hb hg hat
                rw [← Ny707.out] at ho
                replace BK653 := Aside0.mk (blk_grown (g := gb653) (o := .cells #[.int .i64 ((rd_T48 l1 x7_2).f0.f0), .string ((rd_T48 l1 x7_2).f0.f1), .int .i64 ((rd_T48 l1 x7_2).f0.f2.f0), .bool ((rd_T48 l1 x7_2).f0.f2.f1), .bool ((rd_T48 l1 x7_2).f1)] 48 (0, 0)) (uB BK653.out) hg (Kd.R_ne HO706.out BK653.out (by decide)))
                replace HO703 := Aside0.mk (Kd.R_after (ok := (fun _ => True)) (by exact uR <| Kd.R_mono HO703.out (fun _ hk => ⟨trivial, by first | exact hk | (revert hk; cases Ao23 <;> exact id)⟩)) hg hat)
                replace HB := Aside0.mk (hb)
                have HO709 := Aside0.mk (ho)
                clear HO706
                clear ho hb hg hat
                obtain ⟨Ao92, co92, eo92⟩ := Kd.R_slice HO703.out
                (first | subst eo92 | (injection eo92 with f1_ f2_ f3_; have f4_ := f1_.symm; have f5_ := f3_.symm; clear f1_ f2_ f3_; subst f4_; subst f5_))
                refine hK.out _ _ ⟨(blk_cell BK653.out 0).trans rfl, (blk_cell BK653.out 1).trans rfl, (blk_cell BK653.out 2).trans rfl, (blk_cell BK653.out 3).trans rfl, (blk_cell BK653.out 4).trans rfl⟩ (fun hHeld => ?_)
                clear hK K
                refine norm_ (a' := ?_) ?_ ?_
                rotate_left
                ·
                 show Act.put _ (some 68) _ = _
                 simp only [Act.put, List.setIfInBounds_toArray, List.set_cons_zero, List.set_cons_succ, i64_w, i32_w]
                 rfl
                refine o1 8 (some 70) rfl rfl (fun K hK => ?_)
                refine Kd.R_append_rows_step k45 (w0 := w) w.heap.size (by rfl) (.tmp 68) (.tmp 69) 22 45 (.agg #[(.int .i64 0), (.string ⟨#[]⟩), (.int .i64 0), (.bool false)]) 40 rfl Tryz.underlying22 info45 rfl (by decide) (by omega) v708 y707 y701 _ _ _ (fun k_ => some k_ ≠ (.slice Ao92 y701.length co92 : Value).ownBlock) (fun _ => False) rfl rfl ?aO ?aR (fun _ _ h => h) (fun _ h => h.elim) ?aF ?aB ?aS ?aL ?_
                (case aR => exact uC <| (Kd.R_reads' HO703.out).2.2)
                (case aB => exact bl)
                (case aF => exact (fun k_ hk => Kd.fresh' (Kd.R_lt (uR HO703.out)) k_ hk))
                (case aO => exact (uR HO709.out))
                (case aS => exact (below_size bl))
                (case aL => have := LMc82.out; omega)
                intro v711 w91 ho hb hg hat
                rw [← Ny710.out] at ho
                replace BK653 := Aside0.mk (blk_grown (g := gb653) (o := .cells #[.int .i64 ((rd_T48 l1 x7_2).f0.f0), .string ((rd_T48 l1 x7_2).f0.f1), .int .i64 ((rd_T48 l1 x7_2).f0.f2.f0), .bool ((rd_T48 l1 x7_2).f0.f2.f1), .bool ((rd_T48 l1 x7_2).f1)] 48 (0, 0)) (uB BK653.out) hg (Kd.R_ne HO709.out BK653.out (by decide)))
                replace HO703 := Aside0.mk (Kd.R_after (ok := (fun _ => True)) (uR HO703.out) hg hat)
                replace HB := Aside0.mk (hb)
                have HO712 := Aside0.mk (ho)
                clear HO709
                clear ho hb hg hat
                refine hK.out _ _ ⟨(blk_cell BK653.out 0).trans rfl, (blk_cell BK653.out 1).trans rfl, (blk_cell BK653.out 2).trans rfl, (blk_cell BK653.out 3).trans rfl, (blk_cell BK653.out 4).trans rfl⟩ (fun hHeld => ?_)
                clear hK K
                refine norm_ (a' := ?_) ?_ ?_
                rotate_left
                ·
                 show Act.put _ (some 70) _ = _
                 simp only [Act.put, List.setIfInBounds_toArray, List.set_cons_zero, List.set_cons_succ, i64_w, i32_w]
                 rfl
                refine p1 9 (some 6) ?_
                refine done_ (done_of HT_.out (by kernel_rfl)) ?_
                try go_wp2
                go_roundg k4
                case measure => have := HJ2.out; have := HK2.out; have := HJ17.out; have := HK4.out; omega
                case rel => exact ⟨(y710), (wrap64 (x7_2 + 1)), rs_, (by first | exact H' | (rw [← Nbq25.out]; exact H')), ⟨by have := HJ2.out; have := HK2.out; have := HJ17.out; have := HK4.out; omega⟩, ⟨by exact uR <| Kd.R_mono HO712.out (fun _ hk => trivial)⟩, ⟨bl⟩⟩
       ·
        rw [if_neg c15] at H
        have c15b0 : decide (x7_2 < (l1.length : Int)) = false := decide_eq_false c15
        clear c15
        simp only [Option.some.injEq, Prod.mk.injEq] at H
        obtain ⟨rfl, rfl⟩ := H
        go_wp2
        go_ret2
        exact ⟨_, re_, uR HO_6.out, uW HB.out⟩
    ·
     rw [if_neg c11] at H
     exact absurd H (by simp)
end Go.Proofs.YtgcbejidponoaaaGreatDoor.X
