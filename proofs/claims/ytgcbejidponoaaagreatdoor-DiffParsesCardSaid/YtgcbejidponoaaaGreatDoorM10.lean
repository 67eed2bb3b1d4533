/- Printed by a program of this session's own: what functions of the program compute, and that the machine computes it. No condition of its own. -/
import Derived.Test.YtgcbejidponoaaaGreatDoorM3
import Derived.Test.YtgcbejidponoaaaGreatDoorM4
import Derived.Test.YtgcbejidponoaaaGreatDoorM6
import Derived.Test.YtgcbejidponoaaaGreatDoorM8
namespace Go.Proofs.YtgcbejidponoaaaGreatDoor.X
open Go.RowKit Go.Proofs.YtgcbejidponoaaaGreatDoorW.PrintWords Go.Proofs.YtgcbejidponoaaaGreatDoorW.PrintLast Go.Proofs.YtgcbejidponoaaaGreatDoorW.PrintMore
attribute [local go_sem] max2_int min2_int max_two min_two max_three min_three max_four min_four
set_option linter.unusedVariables false
set_option linter.unusedSimpArgs false
set_option maxHeartbeats 8000000
set_option maxRecDepth 100000
mutual
def diff_Apply.j0 : Nat → List (S45) → List (S48) → Bool → Option ((List (S45)) × Int)
 | 0, _, _, _ => none
 | k + 1, x0, x1, x18 => if x18 = true then (none) else (diff_Apply.l0 k ([] : List (S45)) x0 x1 (x1.length : Int) 0)
def diff_Apply.l0 : Nat → List (S45) → List (S45) → List (S48) → Int → Int → Option ((List (S45)) × Int)
 | 0, _, _, _, _, _ => none
 | k + 1, x6, x7, x20, x21, x22 => if x22 < x21 then (if 0 ≤ x22 then (if x22 < (x20.length : Int) then (diff_Apply.l1 k x6 x7 x20 x21 x22 ((rd_T48 x20 x22).f0.f0) ((rd_T48 x20 x22).f0.f1) ((rd_T48 x20 x22).f0.f2.f0) ((rd_T48 x20 x22).f0.f2.f1) ((rd_T48 x20 x22).f1)) else (none)) else (none)) else (if x6.length + x7.length < 3518437208883 then (some ((x6 ++ x7), 0)) else (none))
def diff_Apply.j3 : Nat → List (S45) → List (S45) → List (S48) → Int → Int → Int → ByteArray → Int → Bool → Bool → Option ((List (S45)) × Int)
 | 0, _, _, _, _, _, _, _, _, _, _ => none
 | k + 1, x6, x7, x20, x21, x22, x317000, x317001, x317002, x317003, x317004 => if (x7.length : Int) > 0 then (if 0 < (x7.length : Int) then ((row_Before.f k x317000 x317001 x317002 x317003 ((rd_T45 x7 0).f0) ((rd_T45 x7 0).f1) ((rd_T45 x7 0).f2.f0) ((rd_T45 x7 0).f2.f1)).bind fun t320 => (diff_Apply.j4 k x6 x7 (!t320) x20 x21 x22 x317000 x317001 x317002 x317003 x317004)) else (none)) else (diff_Apply.j4 k x6 x7 false x20 x21 x22 x317000 x317001 x317002 x317003 x317004)
def diff_Apply.j4 : Nat → List (S45) → List (S45) → Bool → List (S48) → Int → Int → Int → ByteArray → Int → Bool → Bool → Option ((List (S45)) × Int)
 | 0, _, _, _, _, _, _, _, _, _, _, _ => none
 | k + 1, x6, x7, x10, x20, x21, x22, x317000, x317001, x317002, x317003, x317004 => if x10 = true then (if 1 ≤ (x7.length : Int) then (diff_Apply.j5 k x6 (x7.drop 1) x10 x20 x21 x22 x317000 x317001 x317002 x317003 x317004) else (none)) else (diff_Apply.j5 k x6 x7 x10 x20 x21 x22 x317000 x317001 x317002 x317003 x317004)
def diff_Apply.j5 : Nat → List (S45) → List (S45) → Bool → List (S48) → Int → Int → Int → ByteArray → Int → Bool → Bool → Option ((List (S45)) × Int)
 | 0, _, _, _, _, _, _, _, _, _, _, _ => none
 | k + 1, x6, x7, x10, x20, x21, x22, x317000, x317001, x317002, x317003, x317004 => if x317004 = true then (if x10 = true then (diff_Apply.l0 k x6 x7 x20 x21 (wrap64 (x22 + 1))) else (some (([] : List (S45)), 6))) else (if x6.length < 3518437208883 then (diff_Apply.l0 k (x6 ++ [(⟨x317000, x317001, (⟨x317002, x317003⟩ : S43)⟩ : S45)]) x7 x20 x21 (wrap64 (x22 + 1))) else (none))
def diff_Apply.l1 : Nat → List (S45) → List (S45) → List (S48) → Int → Int → Int → ByteArray → Int → Bool → Bool → Option ((List (S45)) × Int)
 | 0, _, _, _, _, _, _, _, _, _, _ => none
 | k + 1, x6, x7, x20, x21, x22, x317000, x317001, x317002, x317003, x317004 => if (x7.length : Int) > 0 then (if 0 < (x7.length : Int) then ((row_Before.f k ((rd_T45 x7 0).f0) ((rd_T45 x7 0).f1) ((rd_T45 x7 0).f2.f0) ((rd_T45 x7 0).f2.f1) x317000 x317001 x317002 x317003).bind fun t318 => (if t318 = true then (none) else (diff_Apply.j3 k x6 x7 x20 x21 x22 x317000 x317001 x317002 x317003 x317004))) else (none)) else (diff_Apply.j3 k x6 x7 x20 x21 x22 x317000 x317001 x317002 x317003 x317004)
end
def diff_Apply.f (k : Nat) (l0 : List (S45)) (l1 : List (S48)) : Option ((List (S45)) × Int) := (row_Right.f k l0).bind fun t310 => (if t310 = true then ((diff_right.f k l1).bind fun t311 => (diff_Apply.j0 k l0 l1 (!t311))) else (diff_Apply.j0 k l0 l1 true))
theorem diff_Apply.mono_l : ∀ k, (∀ y0 y1 y2, LeC (diff_Apply.j0 k y0 y1 y2) (diff_Apply.j0 (k + 1) y0 y1 y2)) ∧ (∀ y0 y1 y2 y3 y4, LeC (diff_Apply.l0 k y0 y1 y2 y3 y4) (diff_Apply.l0 (k + 1) y0 y1 y2 y3 y4)) ∧ (∀ y0 y1 y2 y3 y4 y5 y6 y7 y8 y9, LeC (diff_Apply.j3 k y0 y1 y2 y3 y4 y5 y6 y7 y8 y9) (diff_Apply.j3 (k + 1) y0 y1 y2 y3 y4 y5 y6 y7 y8 y9)) ∧ (∀ y0 y1 y2 y3 y4 y5 y6 y7 y8 y9 y10, LeC (diff_Apply.j4 k y0 y1 y2 y3 y4 y5 y6 y7 y8 y9 y10) (diff_Apply.j4 (k + 1) y0 y1 y2 y3 y4 y5 y6 y7 y8 y9 y10)) ∧ (∀ y0 y1 y2 y3 y4 y5 y6 y7 y8 y9 y10, LeC (diff_Apply.j5 k y0 y1 y2 y3 y4 y5 y6 y7 y8 y9 y10) (diff_Apply.j5 (k + 1) y0 y1 y2 y3 y4 y5 y6 y7 y8 y9 y10)) ∧ (∀ y0 y1 y2 y3 y4 y5 y6 y7 y8 y9, LeC (diff_Apply.l1 k y0 y1 y2 y3 y4 y5 y6 y7 y8 y9) (diff_Apply.l1 (k + 1) y0 y1 y2 y3 y4 y5 y6 y7 y8 y9))
 | 0 => ⟨fun _ _ _ => ⟨fun r h => by simp [diff_Apply.j0] at h⟩, fun _ _ _ _ _ => ⟨fun r h => by simp [diff_Apply.l0] at h⟩, fun _ _ _ _ _ _ _ _ _ _ => ⟨fun r h => by simp [diff_Apply.j3] at h⟩, fun _ _ _ _ _ _ _ _ _ _ _ => ⟨fun r h => by simp [diff_Apply.j4] at h⟩, fun _ _ _ _ _ _ _ _ _ _ _ => ⟨fun r h => by simp [diff_Apply.j5] at h⟩, fun _ _ _ _ _ _ _ _ _ _ => ⟨fun r h => by simp [diff_Apply.l1] at h⟩⟩
 | k + 1 => by obtain ⟨ih0, ih1, ih2, ih3, ih4, ih5⟩ := diff_Apply.mono_l k; exact ⟨fun _ _ _ => by unfold diff_Apply.j0; exact lm, fun _ _ _ _ _ => by unfold diff_Apply.l0; exact lm, fun _ _ _ _ _ _ _ _ _ _ => by unfold diff_Apply.j3; exact lm, fun _ _ _ _ _ _ _ _ _ _ _ => by unfold diff_Apply.j4; exact lm, fun _ _ _ _ _ _ _ _ _ _ _ => by unfold diff_Apply.j5; exact lm, fun _ _ _ _ _ _ _ _ _ _ => by unfold diff_Apply.l1; exact lm⟩
theorem diff_Apply.mono : ∀ a0 a1 k, LeO (diff_Apply.f k a0 a1) (diff_Apply.f (k + 1) a0 a1) := by
 intro a0 a1 k
 obtain ⟨ih0, ih1, ih2, ih3, ih4, ih5⟩ := diff_Apply.mono_l k
 unfold diff_Apply.f
 exact lo
instance diff_Apply.mI {a0 a1 k} : LeC (diff_Apply.f k a0 a1) (diff_Apply.f (k + 1) a0 a1) := ⟨diff_Apply.mono _ _ _⟩
def diff_Apply.T8 : Bool × List (List Nat × List Nat) := (true, [([], []), ([0], [0]), ([1], [1]), ([2], [2]), ([3], [3]), ([4, 3], [3, 4]), ([5, 3], [3, 5]), ([3], [3]), ([7, 3], [3, 7]), ([6, 8, 3, 3], [3, 6, 8]), ([3, 9], [3, 9])])
def diff_Apply.B8 : List Nat := [0, 1, 3, 7, 15, 31, 63, 15, 143, 511, 1023]
theorem diff_Apply.tab8 : rtab .any (opsOf Tryz.f17 8) = diff_Apply.T8 := by kernel_rfl
theorem diff_Apply.bits8 : waitsOk diff_Apply.T8.2 diff_Apply.B8 = true := by kernel_rfl
def diff_Apply.T10 : Bool × List (List Nat × List Nat) := (true, [([], []), ([0], [0]), ([1], [1]), ([2], [2]), ([3], [3]), ([4, 3], [3, 4]), ([3], [3]), ([6, 3], [3, 6]), ([7, 3], [3, 7]), ([5, 8, 3, 3], [3, 5, 8]), ([9, 3], [3, 9]), ([3, 10], [3, 10]), ([11, 9, 0, 1, 2, 3, 4, 5, 6, 7, 8, 9, 10, 11], [11])])
def diff_Apply.B10 : List Nat := [0, 1, 3, 7, 15, 31, 15, 79, 207, 511, 1023, 2047, 4095]
theorem diff_Apply.tab10 : rtab .any (opsOf Tryz.f17 10) = diff_Apply.T10 := by kernel_rfl
theorem diff_Apply.bits10 : waitsOk diff_Apply.T10.2 diff_Apply.B10 = true := by kernel_rfl
theorem diff_Apply.calls (k : Nat) (P0_ : Nat → Prop) (A0 : Option Addr) (c0 : Nat) (l0 : List (S45)) (A1 : Option Addr) (c1 : Nat) (l1 : List (S48)) (r1 : List (S45)) (r2 : Int) (w : World) (hs0 : Kd.V k45 45 w w.heap.size (fun k_ => P0_ k_) (.slice A0 l0.length c0) l0) (hr1 : Kd.C k48 w A1 l1.length l1) (hc1 : l1.length ≤ c1) (hL : LD w) (h : diff_Apply.f k l0 l1 = some (r1, r2)) :
 Calls Tryz.prog 17 #[.slice A0 l0.length c0, .slice A1 l1.length c1] w fun e w' => ∃ v0_ : Value, e = .returned (.tuple #[v0_, .int .i64 r2]) ∧ Kd.R k45 45 w' w.heap.size (fun k_ => (w.heap.size ≤ k_)) v0_ r1 ∧ Below w.heap.size w w' := by
 have HL0 := Aside0.mk hL
 clear hL
 have hu48 := Tryz.underlying48
 have hu45 := Tryz.underlying45
 have HO0 := Aside0.mk (show Kd.V k45 45 w w.heap.size (fun k_ => (P0_ k_ ∨ w.heap.size ≤ k_)) (.slice A0 l0.length c0) l0 from Kd.V_mono hs0 (fun k_ hk => .inl hk))
 have HR1 := Aside0.mk hr1
 have HC1 := Aside0.mk hc1
 clear hr1 hc1
 have HB := Aside0.mk (Below.refl w.heap.size w)
 have H : ((row_Right.f k l0).bind fun t310 => (if t310 = true then ((diff_right.f k l1).bind fun t311 => (diff_Apply.j0 k l0 l1 (!t311))) else (diff_Apply.j0 k l0 l1 true))) = some (r1, r2) := h
 clear h
 have HC3 := Aside0.mk H
 clear H
 go_enter Tryz.func17, Tryz.ntmps17
 go_upto_region 1 with (fail)
 go_cut [18] (fun v18 wc => ∃ (kq : Nat) (x18_2 : Bool), v18 = .bool x18_2 ∧ Aside0 (diff_Apply.j0 kq l0 l1 x18_2 = some (r1, r2)) ∧ Aside0 (kq ≤ k) ∧ Aside0 (Kd.V k45 45 wc w.heap.size (fun k_ => (P0_ k_ ∨ w.heap.size ≤ k_)) (.slice A0 l0.length c0) l0) ∧ Aside0 (Below w.heap.size w wc))
 case first =>
  have H := HC3.out
  clear HC3
  obtain ⟨t310, A4, H⟩ := bs H
  try dsimp only at H
  by_cases c5 : t310 = true
  ·
   subst c5
   rw [if_pos rfl] at H
   obtain ⟨t311, A6, H⟩ := bs H
   try dsimp only at H
   have H' := Aside0.mk H
   clear H
   go_wp2_with (first | (refine gL (some 12) rfl Tryz.func24 #[.slice A0 l0.length c0] ?_; (with_reducible refine (row_Right.calls (hL := ld) k _ _ l0 true _ ?side1 ?side2 A4.out).mono ?_); (case side1 => exact uC <| (Kd.V_reads' HO0.out).2.2); (case side2 => exact (Kd.V_reads' HO0.out).2.1); rintro e w7 ⟨rfl, hb⟩; refine ⟨_, rfl, ?_⟩; replace HO0 := cV HO0 hb; replace HB := cW HB hb; (try clear hb)) | (go_at_call 36; (with_reducible refine (diff_right.calls (hL := ld) k _ _ l1 t311 _ ?side1 ?side2 A6.out).mono ?_); (case side1 => exact uC <| (Kd.C_below HR1.out HB.out)); (case side2 => exact HC1.out); rintro e w8 ⟨rfl, hb⟩; replace HO0 := cV HO0 hb; replace HB := cW HB hb; (try clear hb)))
   go_meet
   case rel => exact ⟨_, (!t311), rs_, H', ⟨by first | omega | exact Nat.le_refl _⟩, ⟨uV HO0.out⟩, ⟨uW HB.out⟩⟩
  ·
   replace c5 := Bool.eq_false_iff.mpr c5
   subst c5
   rw [if_neg (show ¬ (false = true) by decide)] at H
   have H' := Aside0.mk H
   clear H
   go_wp2_with (first | (refine gL (some 12) rfl Tryz.func24 #[.slice A0 l0.length c0] ?_; (with_reducible refine (row_Right.calls (hL := ld) k _ _ l0 false _ ?side1 ?side2 A4.out).mono ?_); (case side1 => exact uC <| (Kd.V_reads' HO0.out).2.2); (case side2 => exact (Kd.V_reads' HO0.out).2.1); rintro e w9 ⟨rfl, hb⟩; refine ⟨_, rfl, ?_⟩; replace HO0 := cV HO0 hb; replace HB := cW HB hb; (try clear hb)))
   go_meet
   case rel => exact ⟨_, (true), rs_, H', ⟨by first | omega | exact Nat.le_refl _⟩, ⟨uV HO0.out⟩, ⟨uW HB.out⟩⟩
 case rest =>
  clear HC3
  try clear c1
  try clear c2
  try clear p2
  try clear c5
  obtain ⟨kq, x18_2, rfl, HA, HJ2, HO_0, HB⟩ := hcut
  cases kq with
  | zero => exact absurd HA.out (by simp [diff_Apply.j0])
  | succ kj2 =>
   have H := HA.out
   clear HA
   simp only [diff_Apply.j0] at H
   by_cases c10 : x18_2 = true
   ·
    subst c10
    rw [if_pos rfl] at H
    exact absurd H (by simp)
   ·
    replace c10 := Bool.eq_false_iff.mpr c10
    subst c10
    rw [if_neg (show ¬ (false = true) by decide)] at H
    have H' := Aside0.mk H
    clear H
    go_wp2
    go_loopg [6, 7, 22] kj2 (fun kq v6 v7 v22 w' => ∃ (x6_2 : List (S45)) (x7_2 : List (S45)) (x22_2 : Int), v22 = .int .i64 x22_2 ∧ Aside0 (diff_Apply.l0 kq x6_2 x7_2 l1 (l1.length : Int) x22_2 = some (r1, r2)) ∧ Aside0 (kq ≤ kj2) ∧ Aside0 (Kd.R k45 45 w' w.heap.size (fun k_ => (w.heap.size ≤ k_)) v6 x6_2) ∧ Aside0 (Kd.V k45 45 w' w.heap.size (fun k_ => (P0_ k_ ∨ w.heap.size ≤ k_) ∧ some k_ ≠ (v6 : Value).ownBlock) v7 x7_2) ∧ Aside0 (Below w.heap.size w w'))
    case atStart => exact ⟨(([] : List (S45))), (l0), (0), rs_, H', ⟨Nat.le_refl _⟩, ⟨nl_⟩, ⟨by exact uV <| Kd.V_mono HO_0.out (fun _ hk => ⟨hk, (by simp [Value.ownBlock])⟩)⟩, ⟨uW HB.out⟩⟩
    case round =>
     clear H'
     try clear c1
     try clear c2
     try clear p2
     try clear c5
     try clear c10
     try clear p2
     obtain ⟨x6_2, x7_2, x22_2, rfl, HA, HK2, HO_6, HO_7, HB⟩ := hrel
     cases gk with
     | zero => exact absurd HA.out (by simp [diff_Apply.l0])
     | succ k2 =>
      have H := HA.out
      clear HA
      simp only [diff_Apply.l0] at H
      by_cases c11 : x22_2 < (l1.length : Int)
      ·
       rw [if_pos c11] at H
       have c11b0 : decide (x22_2 < (l1.length : Int)) = true := decide_eq_true c11
       clear c11
       obtain ⟨c12b0, H⟩ := gdd H
       obtain ⟨c13b0, H⟩ := gdd H
       have HC14 := Aside0.mk H
       clear H
       have p315 : 0 ≤ (x22_2 : Int) := od
       have q315 : x22_2 < (l1.length : Int) := od
       obtain ⟨ad315, e315, hx315_0, hx315_1, hx315_2, hx315_3, hx315_4⟩ := at_T48 HR1.out x22_2 p315 q315
       cases e315
       replace hx315_0 := kc HB hx315_0
       replace hx315_1 := kc HB hx315_1
       replace hx315_2 := kc HB hx315_2
       replace hx315_3 := kc HB hx315_3
       replace hx315_4 := kc HB hx315_4
       replace p315 := eq_true p315
       replace q315 := eq_true q315
       go_upto_block 2 with (first | ((with_reducible refine gate_dst (N := 9) rfl ?_); refine bx (N := 9) #[.int .i64 0, .string (⟨#[]⟩ : ByteArray), .int .i64 0, .bool false, .bool false] 48 ?_; intro gb316 hg w15 hbox hb; replace HO_6 := cR HO_6 hb; replace HO_7 := Aside0.mk (Kd.V_below (Kd.V_elderB (uV HO_7.out) gb316 (Nat.le_of_eq hg.symm)) hb); have BK316 := Aside0.mk (hbox); have GW316 := gw hg (uW HB.out); have GE316 := GW316; replace HB := cW HB hb; clear hb hbox hg; obtain ⟨hcz16_0, hcz16_1, hcz16_2, hcz16_3, hcz16_4, hfz16_0, hfz16_1, hfz16_2, hfz16_3, hfz16_4⟩ := z5 BK316) | ((with_reducible refine gate_store (t := 48) (p := 9) rfl ?_); refine store_event (t := 48) (p := 9) (v := ?vo_w17) (w1 := (((((w15.setCell ⟨gb316, 0, none⟩ (.int .i64 ((rd_T48 l1 x22_2).f0.f0))).setCell ⟨gb316, 1, none⟩ (.string ((rd_T48 l1 x22_2).f0.f1))).setCell ⟨gb316, 2, none⟩ (.int .i64 ((rd_T48 l1 x22_2).f0.f2.f0))).setCell ⟨gb316, 3, none⟩ (.bool ((rd_T48 l1 x22_2).f0.f2.f1))).setCell ⟨gb316, 4, none⟩ (.bool ((rd_T48 l1 x22_2).f1)))) ?hg ?ho ?hn ?hr ?_; (case ho => rfl); (case hg => rfl); (case hn => rfl); (case hr => first | (go_simp; done) | (go_simp; rfl)); intro w17 hw; have n0_ : Aside0 (Kd.R k45 45 w17 w.heap.size (fun k_ => (w.heap.size ≤ k_)) u6 x6_2) := ⟨(by rw [hw]; exact (by exact uR <| Kd.R_mono (Kd.R_far (p := ⟨gb316, 4, none⟩) (Kd.R_far (p := ⟨gb316, 3, none⟩) (Kd.R_far (p := ⟨gb316, 2, none⟩) (Kd.R_far (p := ⟨gb316, 1, none⟩) (Kd.R_far (p := ⟨gb316, 0, none⟩) (Kd.R_types HO_6.out BK316.out (by decide)) (fun _ hk => hk.2) (.int .i64 ((rd_T48 l1 x22_2).f0.f0))) (fun _ hk => hk.2) (.string ((rd_T48 l1 x22_2).f0.f1))) (fun _ hk => hk.2) (.int .i64 ((rd_T48 l1 x22_2).f0.f2.f0))) (fun _ hk => hk.2) (.bool ((rd_T48 l1 x22_2).f0.f2.f1))) (fun _ hk => hk.2) (.bool ((rd_T48 l1 x22_2).f1))) (fun _ hk => hk.1)))⟩; have n1_ : Aside0 (Kd.V k45 45 w17 w.heap.size (fun k_ => (P0_ k_ ∨ w.heap.size ≤ k_) ∧ some k_ ≠ (u6 : Value).ownBlock ∧ k_ ≠ gb316) u7 x7_2) := ⟨(by rw [hw]; exact (by exact uV <| Kd.V_mono (Kd.V_far (p := ⟨gb316, 4, none⟩) (Kd.V_far (p := ⟨gb316, 3, none⟩) (Kd.V_far (p := ⟨gb316, 2, none⟩) (Kd.V_far (p := ⟨gb316, 1, none⟩) (Kd.V_far (p := ⟨gb316, 0, none⟩) (Kd.V_mono HO_7.out (fun k_ hk => (⟨hk, hk.2⟩ : _ ∧ k_ ≠ gb316))) (fun _ hk => hk.2) (.int .i64 ((rd_T48 l1 x22_2).f0.f0))) (fun _ hk => hk.2) (.string ((rd_T48 l1 x22_2).f0.f1))) (fun _ hk => hk.2) (.int .i64 ((rd_T48 l1 x22_2).f0.f2.f0))) (fun _ hk => hk.2) (.bool ((rd_T48 l1 x22_2).f0.f2.f1))) (fun _ hk => hk.2) (.bool ((rd_T48 l1 x22_2).f1))) (fun _ hk => ⟨hk.1.1.1, ⟨hk.1.1.2, hk.1.2⟩⟩)))⟩; have n2_ : Aside0 (w17.heap[gb316]? = some (.cells #[.int .i64 ((rd_T48 l1 x22_2).f0.f0), .string ((rd_T48 l1 x22_2).f0.f1), .int .i64 ((rd_T48 l1 x22_2).f0.f2.f0), .bool ((rd_T48 l1 x22_2).f0.f2.f1), .bool ((rd_T48 l1 x22_2).f1)] 48 (0, 0))) := ⟨(by rw [hw]; exact (by (with_reducible repeat (first | refine blk_drewN ?_ _ | refine blk_drew ?_ | refine blk_alloc ?_ _)); refine blk_put (cs := #[.int .i64 ((rd_T48 l1 x22_2).f0.f0), .string ((rd_T48 l1 x22_2).f0.f1), .int .i64 ((rd_T48 l1 x22_2).f0.f2.f0), .bool ((rd_T48 l1 x22_2).f0.f2.f1), .bool false]) ?_ 4 _ rfl; (with_reducible repeat (first | refine blk_drewN ?_ _ | refine blk_drew ?_ | refine blk_alloc ?_ _)); refine blk_put (cs := #[.int .i64 ((rd_T48 l1 x22_2).f0.f0), .string ((rd_T48 l1 x22_2).f0.f1), .int .i64 ((rd_T48 l1 x22_2).f0.f2.f0), .bool false, .bool false]) ?_ 3 _ rfl; (with_reducible repeat (first | refine blk_drewN ?_ _ | refine blk_drew ?_ | refine blk_alloc ?_ _)); refine blk_put (cs := #[.int .i64 ((rd_T48 l1 x22_2).f0.f0), .string ((rd_T48 l1 x22_2).f0.f1), .int .i64 0, .bool false, .bool false]) ?_ 2 _ rfl; (with_reducible repeat (first | refine blk_drewN ?_ _ | refine blk_drew ?_ | refine blk_alloc ?_ _)); refine blk_put (cs := #[.int .i64 ((rd_T48 l1 x22_2).f0.f0), .string (⟨#[]⟩ : ByteArray), .int .i64 0, .bool false, .bool false]) ?_ 1 _ rfl; (with_reducible repeat (first | refine blk_drewN ?_ _ | refine blk_drew ?_ | refine blk_alloc ?_ _)); refine blk_put (cs := #[.int .i64 0, .string (⟨#[]⟩ : ByteArray), .int .i64 0, .bool false, .bool false]) ?_ 0 _ rfl; exact uB <| BK316.out))⟩; have n3_ : Aside0 (Below w.heap.size w w17) := ⟨(by rw [hw]; exact bl)⟩; clear hw; clear HO_6; clear HO_7; clear BK316; clear HB; have HO_6 := n0_; have HO_7 := n1_; have BK316 := n2_; have HB := n3_; clear n0_ n1_ n2_ n3_))
       (try simp only [Act.put, List.setIfInBounds_toArray, List.set_cons_zero, List.set_cons_succ])
       go_cut [6, 7] (fun v6 v7 wc => ∃ (kq : Nat) (x6_13 : List (S45)) (x7_13 : List (S45)), Aside0 (diff_Apply.j3 kq x6_13 x7_13 l1 (l1.length : Int) x22_2 ((rd_T48 l1 x22_2).f0.f0) ((rd_T48 l1 x22_2).f0.f1) ((rd_T48 l1 x22_2).f0.f2.f0) ((rd_T48 l1 x22_2).f0.f2.f1) ((rd_T48 l1 x22_2).f1) = some (r1, r2)) ∧ Aside0 (kq ≤ k2) ∧ Aside0 (Kd.R k45 45 wc w.heap.size (fun k_ => (w.heap.size ≤ k_)) v6 x6_13) ∧ Aside0 (Kd.V k45 45 wc w.heap.size (fun k_ => (P0_ k_ ∨ w.heap.size ≤ k_) ∧ some k_ ≠ (v6 : Value).ownBlock ∧ k_ ≠ gb316) v7 x7_13) ∧ Aside0 (wc.heap[gb316]? = some (.cells #[.int .i64 ((rd_T48 l1 x22_2).f0.f0), .string ((rd_T48 l1 x22_2).f0.f1), .int .i64 ((rd_T48 l1 x22_2).f0.f2.f0), .bool ((rd_T48 l1 x22_2).f0.f2.f1), .bool ((rd_T48 l1 x22_2).f1)] 48 (0, 0))) ∧ Aside0 (Below w.heap.size w wc))
       case first =>
        have H := HC14.out
        clear HC14
        have H' := Aside0.mk H
        clear H
        go_wp2
        go_loopg [6, 7] k2 (fun kq v6 v7 w' => ∃ (x6_3 : List (S45)) (x7_3 : List (S45)), Aside0 (diff_Apply.l1 kq x6_3 x7_3 l1 (l1.length : Int) x22_2 ((rd_T48 l1 x22_2).f0.f0) ((rd_T48 l1 x22_2).f0.f1) ((rd_T48 l1 x22_2).f0.f2.f0) ((rd_T48 l1 x22_2).f0.f2.f1) ((rd_T48 l1 x22_2).f1) = some (r1, r2)) ∧ Aside0 (kq ≤ k2) ∧ Aside0 (Kd.R k45 45 w' w.heap.size (fun k_ => (w.heap.size ≤ k_)) v6 x6_3) ∧ Aside0 (Kd.V k45 45 w' w.heap.size (fun k_ => (P0_ k_ ∨ w.heap.size ≤ k_) ∧ some k_ ≠ (v6 : Value).ownBlock ∧ k_ ≠ gb316) v7 x7_3) ∧ Aside0 (w'.heap[gb316]? = some (.cells #[.int .i64 ((rd_T48 l1 x22_2).f0.f0), .string ((rd_T48 l1 x22_2).f0.f1), .int .i64 ((rd_T48 l1 x22_2).f0.f2.f0), .bool ((rd_T48 l1 x22_2).f0.f2.f1), .bool ((rd_T48 l1 x22_2).f1)] 48 (0, 0))) ∧ Aside0 (Below w.heap.size w w'))
        case atStart => exact ⟨(x6_2), (x7_2), H', ⟨Nat.le_refl _⟩, ⟨uR HO_6.out⟩, ⟨uV HO_7.out⟩, ⟨uB BK316.out⟩, ⟨bl⟩⟩
        case round =>
         clear H'
         try clear c1
         try clear c2
         try clear p2
         try clear p3
         try clear q3
         try clear hx3
         try clear c5
         try clear c10
         try clear c11
         try clear c11b0
         try clear c12
         try clear c12b0
         try clear c13
         try clear c13b0
         try clear c17
         try clear hcz16_0
         try clear hcz16_1
         try clear hcz16_2
         try clear hcz16_3
         try clear hcz16_4
         try clear hfz16_0
         try clear hfz16_1
         try clear hfz16_2
         try clear hfz16_3
         try clear hfz16_4
         try clear hx315_0
         try clear hx315_1
         try clear hx315_2
         try clear hx315_3
         try clear hx315_4
         try clear p2
         try clear p315
         try clear q315
         obtain ⟨x6_3, x7_3, HA, HK3, HO_6, HO_7, BK316, HB⟩ := hrel
         cases gk with
         | zero => exact absurd HA.out (by simp [diff_Apply.l1])
         | succ k3 =>
          have H := HA.out
          clear HA
          simp only [diff_Apply.l1] at H
          by_cases c18 : (x7_3.length : Int) > 0
          ·
           rw [if_pos c18] at H
           have c18b0 : decide (0 < (x7_3.length : Int)) = true := decide_eq_true c18
           have c18b1 : decide (0 < x7_3.length) = true := decide_eq_true (by omega)
           clear c18
           (first | rw [c18b0] | (simp only [i64_w, i32_w]; rw [c18b0]) | skip)
           obtain ⟨c19, H⟩ := gd H
           have c19b0 : decide (0 < (x7_3.length : Int)) = true := decide_eq_true c19
           have c19b1 : decide (0 < x7_3.length) = true := decide_eq_true (by omega)
           clear c19
           obtain ⟨t318, A20, H⟩ := bs H
           try dsimp only at H
           by_cases c21 : t318 = true
           ·
            subst c21
            rw [if_pos rfl] at H
            exact absurd H (by simp)
           ·
            replace c21 := Bool.eq_false_iff.mpr c21
            subst c21
            rw [if_neg (show ¬ (false = true) by decide)] at H
            have H' := Aside0.mk H
            clear H
            try go_wp2
            replace HO_6 := Aside0.mk (Kd.R_drew HO_6.out)
            replace HO_7 := Aside0.mk (Kd.V_drew HO_7.out)
            replace BK316 := Aside0.mk (blk_drew BK316.out)
            replace HB := Aside0.mk (below_drew1 HB.out)
            obtain ⟨Ao23, co23, eo23⟩ := Kd.V_slice HO_7.out
            (first | subst eo23 | (injection eo23 with f1_ f2_ f3_; have f4_ := f1_.symm; have f5_ := f3_.symm; clear f1_ f2_ f3_; subst f4_; subst f5_))
            have p317 : 0 ≤ (0 : Int) := (by omega)
            have q317 : 0 < (x7_3.length : Int) := od
            obtain ⟨ad317, e317, hx317_0, hx317_1, hx317_2, hx317_3⟩ := at_T45 (Kd.V_reads' HO_7.out).2.2 0 p317 q317
            cases e317
            have qi317 : (0 < x7_3.length) = True := eq_true (by omega)
            (try rw [show ((0 : Int)).toNat = 0 from rfl] at hx317_0)
            (try rw [show 0 * 4 = 0 from rfl] at hx317_0)
            (try rw [Addr.add_zero'] at hx317_0)
            (try rw [show ((0 : Int)).toNat = 0 from rfl] at hx317_1)
            (try rw [show 0 * 4 = 0 from rfl] at hx317_1)
            (try rw [Addr.add_zero'] at hx317_1)
            (try rw [show ((0 : Int)).toNat = 0 from rfl] at hx317_2)
            (try rw [show 0 * 4 = 0 from rfl] at hx317_2)
            (try rw [Addr.add_zero'] at hx317_2)
            (try rw [show ((0 : Int)).toNat = 0 from rfl] at hx317_3)
            (try rw [show 0 * 4 = 0 from rfl] at hx317_3)
            (try rw [Addr.add_zero'] at hx317_3)
            replace p317 := eq_true p317
            replace q317 := eq_true q317
            refine start_ (n := 11) (S := fun w' => w'.cell? ⟨gb316, 0, none⟩ = some (.int .i64 ((rd_T48 l1 x22_2).f0.f0)) ∧ w'.cell? ⟨gb316, 1, none⟩ = some (.string ((rd_T48 l1 x22_2).f0.f1)) ∧ w'.cell? ⟨gb316, 2, none⟩ = some (.int .i64 ((rd_T48 l1 x22_2).f0.f2.f0)) ∧ w'.cell? ⟨gb316, 3, none⟩ = some (.bool ((rd_T48 l1 x22_2).f0.f2.f1)) ∧ w'.cell? ⟨gb316, 4, none⟩ = some (.bool ((rd_T48 l1 x22_2).f1)) ∧ w'.cell? ad317 = some (.int .i64 ((rd_T45 x7_3 0).f0)) ∧ w'.cell? ⟨ad317.block, ad317.off + 1, none⟩ = some (.string ((rd_T45 x7_3 0).f1)) ∧ w'.cell? ⟨ad317.block, ad317.off + 2, none⟩ = some (.int .i64 ((rd_T45 x7_3 0).f2.f0)) ∧ w'.cell? ⟨ad317.block, ad317.off + 3, none⟩ = some (.bool ((rd_T45 x7_3 0).f2.f1))) (ds := []) _ (by kernel_rfl) rfl rfl ⟨(blk_cell BK316.out 0).trans rfl, (blk_cell BK316.out 1).trans rfl, (blk_cell BK316.out 2).trans rfl, (blk_cell BK316.out 3).trans rfl, (blk_cell BK316.out 4).trans rfl, hx317_0, hx317_1, hx317_2, hx317_3⟩ (fun hHeld => ?_); refine with_tabW diff_Apply.tab8 diff_Apply.bits8 (fun HT_ HW_ => ?_)
            generalize wr.drew = w22 at HO_6 HO_7 BK316 HB hx317_0 hx317_1 hx317_2 hx317_3 hHeld ⊢
            refine p1 0 (some 26) ?_
            refine p1 1 (some 27) ?_
            refine p1 2 (some 28) ?_
            refine p1 3 (some 29) ?_
            refine p1 4 (some 30) ?_
            refine p1 5 (some 31) ?_
            refine p1 7 (some 33) ?_
            refine t1 6 (some 32) rfl rfl hHeld (Or.inl ⟨by rfl, by rintro w' ⟨s0, s1, s2, s3, s4, s5, s6, s7, s8⟩; go_simp; with_reducible rfl⟩) ?_
            refine t1 8 (some 34) rfl rfl hHeld (Or.inl ⟨by rfl, by rintro w' ⟨s0, s1, s2, s3, s4, s5, s6, s7, s8⟩; go_simp; with_reducible rfl⟩) ?_
            refine o1 9 (some 35) rfl rfl (fun K hK => ?_)
            refine gS Tryz.func25 #[.agg #[.int .i64 ((rd_T45 x7_3 0).f0), .string ((rd_T45 x7_3 0).f1), .int .i64 ((rd_T45 x7_3 0).f2.f0), .bool ((rd_T45 x7_3 0).f2.f1)], .agg #[.int .i64 ((rd_T48 l1 x22_2).f0.f0), .string ((rd_T48 l1 x22_2).f0.f1), .int .i64 ((rd_T48 l1 x22_2).f0.f2.f0), .bool ((rd_T48 l1 x22_2).f0.f2.f1)]] ?_
            with_reducible refine (row_Before.calls k3 ((rd_T45 x7_3 0).f0) ((rd_T45 x7_3 0).f1) ((rd_T45 x7_3 0).f2.f0) ((rd_T45 x7_3 0).f2.f1) ((rd_T48 l1 x22_2).f0.f0) ((rd_T48 l1 x22_2).f0.f1) ((rd_T48 l1 x22_2).f0.f2.f0) ((rd_T48 l1 x22_2).f0.f2.f1) false _ A20.out).mono ?_
            rintro e w24 ⟨rfl, hb⟩
            have HS5_ := (hb.cell (World.block_lt_of_cell? _ _ (hHeld.2.2.2.2.2.1))).trans (hHeld.2.2.2.2.2.1)
            have HS6_ := (hb.cell (World.block_lt_of_cell? _ _ (hHeld.2.2.2.2.2.2.1))).trans (hHeld.2.2.2.2.2.2.1)
            have HS7_ := (hb.cell (World.block_lt_of_cell? _ _ (hHeld.2.2.2.2.2.2.2.1))).trans (hHeld.2.2.2.2.2.2.2.1)
            have HS8_ := (hb.cell (World.block_lt_of_cell? _ _ (hHeld.2.2.2.2.2.2.2.2))).trans (hHeld.2.2.2.2.2.2.2.2)
            refine ⟨_, rfl, ?_⟩
            replace HO_6 := cR HO_6 hb
            replace HO_7 := cV HO_7 hb
            replace BK316 := cB BK316 hb
            replace HB := Aside0.mk (below_step bl hb)
            (try clear hb)
            refine hK.out _ _ ⟨(blk_cell BK316.out 0).trans rfl, (blk_cell BK316.out 1).trans rfl, (blk_cell BK316.out 2).trans rfl, (blk_cell BK316.out 3).trans rfl, (blk_cell BK316.out 4).trans rfl, HS5_, HS6_, HS7_, HS8_⟩ (fun hHeld => ?_)
            clear hK K
            refine norm_ (a' := ?_) ?_ ?_
            rotate_left
            ·
             show Act.put _ (some 35) _ = _
             simp only [Act.put, List.setIfInBounds_toArray, List.set_cons_zero, List.set_cons_succ, i64_w, i32_w]
             rfl
            refine p1 10 (some 36) ?_
            refine done_ (done_of HT_.out (by kernel_rfl)) ?_
            try go_wp2
            go_meet
            case rel => exact ⟨_, (x6_3), (x7_3), H', ⟨by have := HJ2.out; have := HK2.out; have := HK3.out; first | omega | exact Nat.le_refl _⟩, ⟨uR HO_6.out⟩, ⟨uV HO_7.out⟩, ⟨uB BK316.out⟩, ⟨bl⟩⟩
          ·
           rw [if_neg c18] at H
           have c18b0 : decide (0 < (x7_3.length : Int)) = false := decide_eq_false c18
           have c18b1 : decide (0 < x7_3.length) = false := decide_eq_false (by omega)
           clear c18
           (first | rw [c18b0] | (simp only [i64_w, i32_w]; rw [c18b0]) | skip)
           have H' := Aside0.mk H
           clear H
           try go_wp2
           replace HO_6 := Aside0.mk (Kd.R_drew HO_6.out)
           replace HO_7 := Aside0.mk (Kd.V_drew HO_7.out)
           replace BK316 := Aside0.mk (blk_drew BK316.out)
           replace HB := Aside0.mk (below_drew1 HB.out)
           obtain ⟨Ao26, co26, eo26⟩ := Kd.V_slice HO_7.out
           (first | subst eo26 | (injection eo26 with f1_ f2_ f3_; have f4_ := f1_.symm; have f5_ := f3_.symm; clear f1_ f2_ f3_; subst f4_; subst f5_))
           refine start_ (n := 11) (S := fun w' => True) (ds := []) _ (by kernel_rfl) rfl rfl trivial (fun hHeld => ?_); refine with_tabW diff_Apply.tab8 diff_Apply.bits8 (fun HT_ HW_ => ?_)
           generalize wr.drew = w25 at HO_6 HO_7 BK316 HB hHeld ⊢
           refine p1 0 (some 26) ?_
           refine p1 1 (some 27) ?_
           refine p1 2 (some 28) ?_
           refine p1 3 (some 29) ?_
           refine p2 4 (some 30) ?_
           refine p2 5 (some 31) ?_
           refine p2 6 (some 32) ?_
           refine p2 7 (some 33) ?_
           refine p2 8 (some 34) ?_
           refine p2 9 (some 35) ?_
           refine p1 10 (some 36) ?_
           refine done_ (done_of HT_.out (by kernel_rfl)) ?_
           try go_wp2
           go_meet
           case rel => exact ⟨_, (x6_3), (x7_3), H', ⟨by have := HJ2.out; have := HK2.out; have := HK3.out; first | omega | exact Nat.le_refl _⟩, ⟨uR HO_6.out⟩, ⟨uV HO_7.out⟩, ⟨uB BK316.out⟩, ⟨bl⟩⟩
       case rest =>
        clear HC14
        try clear c1
        try clear c2
        try clear p2
        try clear p3
        try clear q3
        try clear hx3
        try clear qi3
        try clear c5
        try clear c10
        try clear c11
        try clear c11b0
        try clear c12
        try clear c12b0
        try clear c13
        try clear c13b0
        try clear c17
        try clear c18
        try clear c18b0
        try clear c18b1
        try clear c19
        try clear c19b0
        try clear c19b1
        try clear c21
        try clear c24
        try clear c25
        try clear hcz16_0
        try clear hcz16_1
        try clear hcz16_2
        try clear hcz16_3
        try clear hcz16_4
        try clear hfz16_0
        try clear hfz16_1
        try clear hfz16_2
        try clear hfz16_3
        try clear hfz16_4
        try clear hx315_0
        try clear hx315_1
        try clear hx315_2
        try clear hx315_3
        try clear hx315_4
        try clear hx317_0
        try clear hx317_1
        try clear hx317_2
        try clear hx317_3
        try clear p2
        try clear p3
        try clear p315
        try clear p317
        try clear q3
        try clear q315
        try clear q317
        obtain ⟨kq, x6_13, x7_13, HA, HJ13, HO_6, HO_7, BK316, HB⟩ := hcut
        cases kq with
        | zero => exact absurd HA.out (by simp [diff_Apply.j3])
        | succ kj13 =>
         have H := HA.out
         clear HA
         simp only [diff_Apply.j3] at H
         have HC27 := Aside0.mk H
         clear H
         go_upto_region 10 with (fail)
         go_cut [10] (fun v10 wc => ∃ (kq : Nat) (x10_26 : Bool), v10 = .bool x10_26 ∧ Aside0 (diff_Apply.j4 kq x6_13 x7_13 x10_26 l1 (l1.length : Int) x22_2 ((rd_T48 l1 x22_2).f0.f0) ((rd_T48 l1 x22_2).f0.f1) ((rd_T48 l1 x22_2).f0.f2.f0) ((rd_T48 l1 x22_2).f0.f2.f1) ((rd_T48 l1 x22_2).f1) = some (r1, r2)) ∧ Aside0 (kq ≤ kj13) ∧ Aside0 (Kd.R k45 45 wc w.heap.size (fun k_ => (w.heap.size ≤ k_)) u6 x6_13) ∧ Aside0 (Kd.V k45 45 wc w.heap.size (fun k_ => (P0_ k_ ∨ w.heap.size ≤ k_) ∧ some k_ ≠ (u6 : Value).ownBlock ∧ k_ ≠ gb316) u7 x7_13) ∧ Aside0 (wc.heap[gb316]? = some (.cells #[.int .i64 ((rd_T48 l1 x22_2).f0.f0), .string ((rd_T48 l1 x22_2).f0.f1), .int .i64 ((rd_T48 l1 x22_2).f0.f2.f0), .bool ((rd_T48 l1 x22_2).f0.f2.f1), .bool ((rd_T48 l1 x22_2).f1)] 48 (0, 0))) ∧ Aside0 (Below w.heap.size w wc))
         case first =>
          have H := HC27.out
          clear HC27
          by_cases c28 : (x7_13.length : Int) > 0
          ·
           rw [if_pos c28] at H
           have c28b0 : decide (0 < (x7_13.length : Int)) = true := decide_eq_true c28
           have c28b1 : decide (0 < x7_13.length) = true := decide_eq_true (by omega)
           clear c28
           (first | rw [c28b0] | (simp only [i64_w, i32_w]; rw [c28b0]) | skip)
           obtain ⟨c29, H⟩ := gd H
           have c29b0 : decide (0 < (x7_13.length : Int)) = true := decide_eq_true c29
           have c29b1 : decide (0 < x7_13.length) = true := decide_eq_true (by omega)
           clear c29
           obtain ⟨t320, A30, H⟩ := bs H
           try dsimp only at H
           have H' := Aside0.mk H
           clear H
           try go_wp2
           replace HO_6 := Aside0.mk (Kd.R_drew HO_6.out)
           replace HO_7 := Aside0.mk (Kd.V_drew HO_7.out)
           replace BK316 := Aside0.mk (blk_drew BK316.out)
           replace HB := Aside0.mk (below_drew1 HB.out)
           obtain ⟨Ao32, co32, eo32⟩ := Kd.V_slice HO_7.out
           (first | subst eo32 | (injection eo32 with f1_ f2_ f3_; have f4_ := f1_.symm; have f5_ := f3_.symm; clear f1_ f2_ f3_; subst f4_; subst f5_))
           have p319 : 0 ≤ (0 : Int) := (by omega)
           have q319 : 0 < (x7_13.length : Int) := od
           obtain ⟨ad319, e319, hx319_0, hx319_1, hx319_2, hx319_3⟩ := at_T45 (Kd.V_reads' HO_7.out).2.2 0 p319 q319
           cases e319
           have qi319 : (0 < x7_13.length) = True := eq_true (by omega)
           (try rw [show ((0 : Int)).toNat = 0 from rfl] at hx319_0)
           (try rw [show 0 * 4 = 0 from rfl] at hx319_0)
           (try rw [Addr.add_zero'] at hx319_0)
           (try rw [show ((0 : Int)).toNat = 0 from rfl] at hx319_1)
           (try rw [show 0 * 4 = 0 from rfl] at hx319_1)
           (try rw [Addr.add_zero'] at hx319_1)
           (try rw [show ((0 : Int)).toNat = 0 from rfl] at hx319_2)
           (try rw [show 0 * 4 = 0 from rfl] at hx319_2)
           (try rw [Addr.add_zero'] at hx319_2)
           (try rw [show ((0 : Int)).toNat = 0 from rfl] at hx319_3)
           (try rw [show 0 * 4 = 0 from rfl] at hx319_3)
           (try rw [Addr.add_zero'] at hx319_3)
           replace p319 := eq_true p319
           replace q319 := eq_true q319
           refine start_ (n := 13) (S := fun w' => w'.cell? ⟨gb316, 0, none⟩ = some (.int .i64 ((rd_T48 l1 x22_2).f0.f0)) ∧ w'.cell? ⟨gb316, 1, none⟩ = some (.string ((rd_T48 l1 x22_2).f0.f1)) ∧ w'.cell? ⟨gb316, 2, none⟩ = some (.int .i64 ((rd_T48 l1 x22_2).f0.f2.f0)) ∧ w'.cell? ⟨gb316, 3, none⟩ = some (.bool ((rd_T48 l1 x22_2).f0.f2.f1)) ∧ w'.cell? ⟨gb316, 4, none⟩ = some (.bool ((rd_T48 l1 x22_2).f1)) ∧ w'.cell? ad319 = some (.int .i64 ((rd_T45 x7_13 0).f0)) ∧ w'.cell? ⟨ad319.block, ad319.off + 1, none⟩ = some (.string ((rd_T45 x7_13 0).f1)) ∧ w'.cell? ⟨ad319.block, ad319.off + 2, none⟩ = some (.int .i64 ((rd_T45 x7_13 0).f2.f0)) ∧ w'.cell? ⟨ad319.block, ad319.off + 3, none⟩ = some (.bool ((rd_T45 x7_13 0).f2.f1))) (ds := []) _ (by kernel_rfl) rfl rfl ⟨(blk_cell BK316.out 0).trans rfl, (blk_cell BK316.out 1).trans rfl, (blk_cell BK316.out 2).trans rfl, (blk_cell BK316.out 3).trans rfl, (blk_cell BK316.out 4).trans rfl, hx319_0, hx319_1, hx319_2, hx319_3⟩ (fun hHeld => ?_); refine with_tabW diff_Apply.tab10 diff_Apply.bits10 (fun HT_ HW_ => ?_)
           generalize wc.drew = w31 at HO_6 HO_7 BK316 HB hx319_0 hx319_1 hx319_2 hx319_3 hHeld ⊢
           refine p1 0 (some 45) ?_
           refine p1 1 (some 46) ?_
           refine p1 2 (some 47) ?_
           refine p1 3 (some 48) ?_
           refine p1 4 (some 49) ?_
           refine p1 6 (some 51) ?_
           refine p1 7 (some 52) ?_
           refine t1 5 (some 50) rfl rfl hHeld (Or.inl ⟨by rfl, by rintro w' ⟨s0, s1, s2, s3, s4, s5, s6, s7, s8⟩; go_simp; with_reducible rfl⟩) ?_
           refine t1 8 (some 53) rfl rfl hHeld (Or.inl ⟨by rfl, by rintro w' ⟨s0, s1, s2, s3, s4, s5, s6, s7, s8⟩; go_simp; with_reducible rfl⟩) ?_
           refine o1 9 (some 54) rfl rfl (fun K hK => ?_)
           refine gS Tryz.func25 #[.agg #[.int .i64 ((rd_T48 l1 x22_2).f0.f0), .string ((rd_T48 l1 x22_2).f0.f1), .int .i64 ((rd_T48 l1 x22_2).f0.f2.f0), .bool ((rd_T48 l1 x22_2).f0.f2.f1)], .agg #[.int .i64 ((rd_T45 x7_13 0).f0), .string ((rd_T45 x7_13 0).f1), .int .i64 ((rd_T45 x7_13 0).f2.f0), .bool ((rd_T45 x7_13 0).f2.f1)]] ?_
           with_reducible refine (row_Before.calls kj13 ((rd_T48 l1 x22_2).f0.f0) ((rd_T48 l1 x22_2).f0.f1) ((rd_T48 l1 x22_2).f0.f2.f0) ((rd_T48 l1 x22_2).f0.f2.f1) ((rd_T45 x7_13 0).f0) ((rd_T45 x7_13 0).f1) ((rd_T45 x7_13 0).f2.f0) ((rd_T45 x7_13 0).f2.f1) t320 _ A30.out).mono ?_
           rintro e w33 ⟨rfl, hb⟩
           have HS5_ := (hb.cell (World.block_lt_of_cell? _ _ (hHeld.2.2.2.2.2.1))).trans (hHeld.2.2.2.2.2.1)
           have HS6_ := (hb.cell (World.block_lt_of_cell? _ _ (hHeld.2.2.2.2.2.2.1))).trans (hHeld.2.2.2.2.2.2.1)
           have HS7_ := (hb.cell (World.block_lt_of_cell? _ _ (hHeld.2.2.2.2.2.2.2.1))).trans (hHeld.2.2.2.2.2.2.2.1)
           have HS8_ := (hb.cell (World.block_lt_of_cell? _ _ (hHeld.2.2.2.2.2.2.2.2))).trans (hHeld.2.2.2.2.2.2.2.2)
           refine ⟨_, rfl, ?_⟩
           replace HO_6 := cR HO_6 hb
           replace HO_7 := cV HO_7 hb
           replace BK316 := cB BK316 hb
           replace HB := Aside0.mk (below_step bl hb)
           (try clear hb)
           refine hK.out _ _ ⟨(blk_cell BK316.out 0).trans rfl, (blk_cell BK316.out 1).trans rfl, (blk_cell BK316.out 2).trans rfl, (blk_cell BK316.out 3).trans rfl, (blk_cell BK316.out 4).trans rfl, HS5_, HS6_, HS7_, HS8_⟩ (fun hHeld => ?_)
           clear hK K
           refine norm_ (a' := ?_) ?_ ?_
           rotate_left
           ·
            show Act.put _ (some 54) _ = _
            simp only [Act.put, List.setIfInBounds_toArray, List.set_cons_zero, List.set_cons_succ, i64_w, i32_w]
            rfl
           refine p1 10 (some 55) ?_
           refine p1 11 (some 56) ?_
           refine p1 12 (some 10) ?_
           refine done_ (done_of HT_.out (by kernel_rfl)) ?_
           try go_wp2
           go_meet
           case rel => exact ⟨_, (!t320), rs_, H', ⟨by have := HJ2.out; have := HK2.out; have := HJ13.out; first | omega | exact Nat.le_refl _⟩, ⟨uR HO_6.out⟩, ⟨uV HO_7.out⟩, ⟨uB BK316.out⟩, ⟨bl⟩⟩
          ·
           rw [if_neg c28] at H
           have c28b0 : decide (0 < (x7_13.length : Int)) = false := decide_eq_false c28
           have c28b1 : decide (0 < x7_13.length) = false := decide_eq_false (by omega)
           clear c28
           (first | rw [c28b0] | (simp only [i64_w, i32_w]; rw [c28b0]) | skip)
           have H' := Aside0.mk H
           clear H
           try go_wp2
           replace HO_6 := Aside0.mk (Kd.R_drew HO_6.out)
           replace HO_7 := Aside0.mk (Kd.V_drew HO_7.out)
           replace BK316 := Aside0.mk (blk_drew BK316.out)
           replace HB := Aside0.mk (below_drew1 HB.out)
           obtain ⟨Ao35, co35, eo35⟩ := Kd.V_slice HO_7.out
           (first | subst eo35 | (injection eo35 with f1_ f2_ f3_; have f4_ := f1_.symm; have f5_ := f3_.symm; clear f1_ f2_ f3_; subst f4_; subst f5_))
           refine start_ (n := 13) (S := fun w' => True) (ds := []) _ (by kernel_rfl) rfl rfl trivial (fun hHeld => ?_); refine with_tabW diff_Apply.tab10 diff_Apply.bits10 (fun HT_ HW_ => ?_)
           generalize wc.drew = w34 at HO_6 HO_7 BK316 HB hHeld ⊢
           refine p1 0 (some 45) ?_
           refine p1 1 (some 46) ?_
           refine p1 2 (some 47) ?_
           refine p1 3 (some 48) ?_
           refine p2 4 (some 49) ?_
           refine p2 5 (some 50) ?_
           refine p2 6 (some 51) ?_
           refine p2 7 (some 52) ?_
           refine p2 8 (some 53) ?_
           refine p2 9 (some 54) ?_
           refine p2 10 (some 55) ?_
           refine p1 11 (some 56) ?_
           refine p1 12 (some 10) ?_
           refine done_ (done_of HT_.out (by kernel_rfl)) ?_
           try go_wp2
           go_meet
           case rel => exact ⟨_, (false), rs_, H', ⟨by have := HJ2.out; have := HK2.out; have := HJ13.out; first | omega | exact Nat.le_refl _⟩, ⟨uR HO_6.out⟩, ⟨uV HO_7.out⟩, ⟨uB BK316.out⟩, ⟨bl⟩⟩
         case rest =>
          clear HC27
          try clear c1
          try clear c2
          try clear p2
          try clear p3
          try clear q3
          try clear hx3
          try clear qi3
          try clear c5
          try clear c10
          try clear c11
          try clear c11b0
          try clear c12
          try clear c12b0
          try clear c13
          try clear c13b0
          try clear c17
          try clear c18
          try clear c18b0
          try clear c18b1
          try clear c19
          try clear c19b0
          try clear c19b1
          try clear c21
          try clear c24
          try clear c25
          try clear c28
          try clear c28b0
          try clear c28b1
          try clear c29
          try clear c29b0
          try clear c29b1
          try clear p31
          try clear q31
          try clear hx31
          try clear qi31
          try clear hcz16_0
          try clear hcz16_1
          try clear hcz16_2
          try clear hcz16_3
          try clear hcz16_4
          try clear hfz16_0
          try clear hfz16_1
          try clear hfz16_2
          try clear hfz16_3
          try clear hfz16_4
          try clear hx315_0
          try clear hx315_1
          try clear hx315_2
          try clear hx315_3
          try clear hx315_4
          try clear hx317_0
          try clear hx317_1
          try clear hx317_2
          try clear hx317_3
          try clear hx319_0
          try clear hx319_1
          try clear hx319_2
          try clear hx319_3
          try clear p2
          try clear p3
          try clear p315
          try clear p317
          try clear p319
          try clear q3
          try clear q315
          try clear q317
          try clear q319
          obtain ⟨kq, x10_26, rfl, HA, HJ26, HO_6, HO_7, BK316, HB⟩ := hcut
          cases kq with
          | zero => exact absurd HA.out (by simp [diff_Apply.j4])
          | succ kj26 =>
           have H := HA.out
           clear HA
           simp only [diff_Apply.j4] at H
           have HC36 := Aside0.mk H
           clear H
           go_upto_if 57 with (fail)
           go_cut [7] (fun v7 wc => ∃ (kq : Nat) (x7_35 : List (S45)), Aside0 (diff_Apply.j5 kq x6_13 x7_35 x10_26 l1 (l1.length : Int) x22_2 ((rd_T48 l1 x22_2).f0.f0) ((rd_T48 l1 x22_2).f0.f1) ((rd_T48 l1 x22_2).f0.f2.f0) ((rd_T48 l1 x22_2).f0.f2.f1) ((rd_T48 l1 x22_2).f1) = some (r1, r2)) ∧ Aside0 (kq ≤ kj26) ∧ Aside0 (Kd.R k45 45 wc w.heap.size (fun k_ => (w.heap.size ≤ k_)) u6 x6_13) ∧ Aside0 (Kd.V k45 45 wc w.heap.size (fun k_ => (P0_ k_ ∨ w.heap.size ≤ k_) ∧ some k_ ≠ (u6 : Value).ownBlock ∧ k_ ≠ gb316) v7 x7_35) ∧ Aside0 (wc.heap[gb316]? = some (.cells #[.int .i64 ((rd_T48 l1 x22_2).f0.f0), .string ((rd_T48 l1 x22_2).f0.f1), .int .i64 ((rd_T48 l1 x22_2).f0.f2.f0), .bool ((rd_T48 l1 x22_2).f0.f2.f1), .bool ((rd_T48 l1 x22_2).f1)] 48 (0, 0))) ∧ Aside0 (Below w.heap.size w wc))
           case first =>
            have H := HC36.out
            clear HC36
            by_cases c37 : x10_26 = true
            ·
             subst c37
             rw [if_pos rfl] at H
             obtain ⟨c38, H⟩ := gd H
             have c38b0 := eq_true c38
             have c38b1 : decide (1 ≤ (x7_13.length : Int)) = true := decide_eq_true c38
             clear c38
             obtain ⟨y321, hy321⟩ : ∃ y_ : List (S45), y_ = (x7_13.drop 1) := ⟨_, rfl⟩
             replace H : (diff_Apply.j5 kj26 x6_13 y321 true l1 (l1.length : Int) x22_2 ((rd_T48 l1 x22_2).f0.f0) ((rd_T48 l1 x22_2).f0.f1) ((rd_T48 l1 x22_2).f0.f2.f0) ((rd_T48 l1 x22_2).f0.f2.f1) ((rd_T48 l1 x22_2).f1)) = some (r1, r2) := by first | (rw [hy321]; with_reducible exact H) | (have H2_ := (Option.bind_some _ _).symm.trans H; rw [hy321]; with_reducible exact H2_) | (have H2_ := (Option.bind_some _ _).symm.trans H; with_reducible exact H2_) | with_reducible exact H | (rw [hy321]; exact H) | exact H
             have Ny321 := Aside0.mk hy321
             clear hy321
             have H' := Aside0.mk H
             clear H
             obtain ⟨Ao40, co40, eo40⟩ := Kd.V_slice HO_7.out
             subst eo40
             have q39 : (1 : Int) ≤ ((x7_13.length : Int) : Int) := od
             obtain ⟨i039, hi039, _, hsz39, _⟩ := info_parts info45
             have hroom39 : x7_13.length ≤ co40 := (Kd.V_reads' HO_7.out).2.1
             have hC39 : Kd.F k45 _ _ Ao40 x7_13.length x7_13 := (Kd.V_at (base := w.heap.size) HO_7.out).2.2
             have hcut39 := cut_from (P := Tryz.prog) 22 45 .i64 Tryz.underlying22 hi039 4 hsz39 Ao40 x7_13.length co40 1 (by omega) q39
             have hr39 := Kd.F_cut (m := (1 : Int).toNat) (c := co40) hC39 (by omega) hroom39
             obtain ⟨A39, hA39⟩ : ∃ A1, A1 = (if co40 = (1 : Int).toNat then Ao40 else (Ao40 : Option Addr).map (·.add ((1 : Int).toNat * 4))) := ⟨_, rfl⟩
             obtain ⟨c39, hc39⟩ : ∃ c1, c1 = co40 - (1 : Int).toNat := ⟨_, rfl⟩
             have hy39 : y321.length = x7_13.length - (1 : Int).toNat := (by rw [Ny321.out, List.length_drop] <;> omega)
             rw [show (x7_13).drop (1 : Int).toNat = y321 from Ny321.out.symm] at hr39
             replace hr39 : Kd.F k45 _ _ A39 y321.length y321 := (by rw [hA39]; exact hr39)
             rw [← hy39, ← hA39, ← hc39] at hcut39
             have HO325 := Aside0.mk (show Kd.V k45 45 _ w.heap.size _ (.slice A39 y321.length c39) y321 from Kd.V_mk (by rw [hy39, hc39]; exact Nat.sub_le_sub_right hroom39 _) hr39)
             have HC325 := Aside0.mk (show y321.length ≤ c39 from by rw [hy39, hc39]; exact Nat.sub_le_sub_right hroom39 _)
             clear hr39 hC39 hroom39 hi039 hsz39 hc39
             have KY39 := Aside0.mk hy39
             have KA39 := Aside0.mk hA39
             clear hy39 hA39
             replace q39 := eq_true q39
             go_wp2
             go_meet
             case rel => exact ⟨_, (y321), H', ⟨by have := HJ2.out; have := HK2.out; have := HJ13.out; have := HJ26.out; first | omega | exact Nat.le_refl _⟩, ⟨uR HO_6.out⟩, ⟨uV HO325.out⟩, ⟨uB BK316.out⟩, ⟨bl⟩⟩
            ·
             replace c37 := Bool.eq_false_iff.mpr c37
             subst c37
             rw [if_neg (show ¬ (false = true) by decide)] at H
             have H' := Aside0.mk H
             clear H
             go_wp2
             go_meet
             case rel => exact ⟨_, (x7_13), H', ⟨by have := HJ2.out; have := HK2.out; have := HJ13.out; have := HJ26.out; first | omega | exact Nat.le_refl _⟩, ⟨uR HO_6.out⟩, ⟨uV HO_7.out⟩, ⟨uB BK316.out⟩, ⟨bl⟩⟩
           case rest =>
            clear HC36
            try clear c1
            try clear c2
            try clear p2
            try clear c3
            try clear p3
            try clear q3
            try clear hx3
            try clear qi3
            try clear c5
            try clear c10
            try clear c11
            try clear c11b0
            try clear c12
            try clear c12b0
            try clear c13
            try clear c13b0
            try clear c17
            try clear c18
            try clear c18b0
            try clear c18b1
            try clear c19
            try clear c19b0
            try clear c19b1
            try clear c21
            try clear c24
            try clear c25
            try clear c28
            try clear c28b0
            try clear c28b1
            try clear c29
            try clear c29b0
            try clear c29b1
            try clear p31
            try clear q31
            try clear hx31
            try clear qi31
            try clear c37
            try clear c38
            try clear c38b0
            try clear c38b1
            try clear c39
            try clear q39
            try clear hcz16_0
            try clear hcz16_1
            try clear hcz16_2
            try clear hcz16_3
            try clear hcz16_4
            try clear hfz16_0
            try clear hfz16_1
            try clear hfz16_2
            try clear hfz16_3
            try clear hfz16_4
            try clear hx315_0
            try clear hx315_1
            try clear hx315_2
            try clear hx315_3
            try clear hx315_4
            try clear hx317_0
            try clear hx317_1
            try clear hx317_2
            try clear hx317_3
            try clear hx319_0
            try clear hx319_1
            try clear hx319_2
            try clear hx319_3
            try clear p2
            try clear p3
            try clear p31
            try clear p315
            try clear p317
            try clear p319
            try clear q3
            try clear q31
            try clear q315
            try clear q317
            try clear q319
            try clear q39
            obtain ⟨kq, x7_35, HA, HJ35, HO_6, HO_7, BK316, HB⟩ := hcut
            cases kq with
            | zero => exact absurd HA.out (by simp [diff_Apply.j5])
            | succ kj35 =>
             have H := HA.out
             clear HA
             simp only [diff_Apply.j5] at H
             by_cases c41 : ((rd_T48 l1 x22_2).f1) = true
             ·
              rw [if_pos c41] at H
              have c41b0 : ((rd_T48 l1 x22_2).f1) = true := c41
              clear c41
              by_cases c42 : x10_26 = true
              ·
               subst c42
               rw [if_pos rfl] at H
               have H' := Aside0.mk H
               clear H
               obtain ⟨hcz43_0, hcz43_1, hcz43_2, hcz43_3, hcz43_4, hfz43_0, hfz43_1, hfz43_2, hfz43_3, hfz43_4⟩ := z5 BK316
               go_wp2
               go_roundg kj35
               case measure => have := HJ2.out; have := HK2.out; have := HJ13.out; have := HJ26.out; have := HJ35.out; omega
               case rel => exact ⟨(x6_13), (x7_35), (wrap64 (x22_2 + 1)), rs_, H', ⟨by have := HJ2.out; have := HK2.out; have := HJ13.out; have := HJ26.out; have := HJ35.out; omega⟩, ⟨uR HO_6.out⟩, ⟨by exact uV <| Kd.V_mono HO_7.out (fun _ hk => ⟨hk.1, hk.2.1⟩)⟩, ⟨bl⟩⟩
              ·
               replace c42 := Bool.eq_false_iff.mpr c42
               subst c42
               rw [if_neg (show ¬ (false = true) by decide)] at H
               simp only [Option.some.injEq, Prod.mk.injEq] at H
               obtain ⟨rfl, rfl⟩ := H
               obtain ⟨hcz44_0, hcz44_1, hcz44_2, hcz44_3, hcz44_4, hfz44_0, hfz44_1, hfz44_2, hfz44_3, hfz44_4⟩ := z5 BK316
               go_wp2
               go_ret2
               exact ⟨_, re_, nl_, bl⟩
             ·
              rw [if_neg c41] at H
              have c41b0 : ((rd_T48 l1 x22_2).f1) = false := by simpa using c41
              clear c41
              obtain ⟨c45, H⟩ := gd H
              have LMc45 := Aside0.mk c45
              clear c45
              obtain ⟨y326, hy326⟩ : ∃ y_ : List (S45), y_ = (x6_13 ++ [(⟨((rd_T48 l1 x22_2).f0.f0), ((rd_T48 l1 x22_2).f0.f1), (⟨((rd_T48 l1 x22_2).f0.f2.f0), ((rd_T48 l1 x22_2).f0.f2.f1)⟩ : S43)⟩ : S45)]) := ⟨_, rfl⟩
              replace H : (diff_Apply.l0 kj35 y326 x7_35 l1 (l1.length : Int) (wrap64 (x22_2 + 1))) = some (r1, r2) := by first | (rw [hy326]; with_reducible exact H) | (have H2_ := (Option.bind_some _ _).symm.trans H; rw [hy326]; with_reducible exact H2_) | (have H2_ := (Option.bind_some _ _).symm.trans H; with_reducible exact H2_) | with_reducible exact H | (rw [hy326]; exact H) | exact H
              have Ny326 := Aside0.mk hy326
              clear hy326
              have H' := Aside0.mk H
              clear H
              obtain ⟨hcz46_0, hcz46_1, hcz46_2, hcz46_3, hcz46_4, hfz46_0, hfz46_1, hfz46_2, hfz46_3, hfz46_4⟩ := z5 BK316
              go_wp2_with (first | ((with_reducible refine gate_builtin (b := .append) (xs := #[.tmp 63, .tmp 66]) rfl ?_); at_builtin; refine Kd.R_append k45 (w0 := w) w.heap.size rfl (.tmp 63) (.tmp 66) 22 45 (.agg #[(.int .i64 0), (.string ⟨#[]⟩), (.int .i64 0), (.bool false)]) 40 rfl Tryz.underlying22 info45 rfl (by decide) (by omega) u6 x6_13 (⟨((rd_T48 l1 x22_2).f0.f0), ((rd_T48 l1 x22_2).f0.f1), (⟨((rd_T48 l1 x22_2).f0.f2.f0), ((rd_T48 l1 x22_2).f0.f2.f1)⟩ : S43)⟩ : S45) [.int .i64 ((rd_T48 l1 x22_2).f0.f0), .string ((rd_T48 l1 x22_2).f0.f1), .int .i64 ((rd_T48 l1 x22_2).f0.f2.f0), .bool ((rd_T48 l1 x22_2).f0.f2.f1)] (fun k_ => (w.heap.size ≤ k_)) (fun _ => False) rfl rfl ?aP (fun _ hk => hk.elim) ?aF ?aO ?aB ?aS ?aL ?_; (case aP => exact k45_mkM _ _ _ (⟨((rd_T48 l1 x22_2).f0.f0), ((rd_T48 l1 x22_2).f0.f1), (⟨((rd_T48 l1 x22_2).f0.f2.f0), ((rd_T48 l1 x22_2).f0.f2.f1)⟩ : S43)⟩ : S45)); (case aB => exact bl); (case aF => exact (fun k_ hk => (Nat.le_trans (below_size bl) hk))); (case aO => exact (uR HO_6.out)); (case aS => exact (below_size bl)); (case aL => have := LMc45.out; omega); intro v327 w47 ho hb hg hat; rw [← Ny326.out] at ho; replace HO_7 := Aside0.mk (Kd.V_afterv (ok := (fun k_ => (P0_ k_ ∨ w.heap.size ≤ k_) ∧ k_ ≠ gb316)) (by exact uV <| Kd.V_mono HO_7.out (fun _ hk => ⟨⟨hk.1, hk.2.2⟩, hk.2.1⟩)) hg hat); replace BK316 := Aside0.mk (blk_grown (g := gb316) (o := .cells #[.int .i64 ((rd_T48 l1 x22_2).f0.f0), .string ((rd_T48 l1 x22_2).f0.f1), .int .i64 ((rd_T48 l1 x22_2).f0.f2.f0), .bool ((rd_T48 l1 x22_2).f0.f2.f1), .bool ((rd_T48 l1 x22_2).f1)] 48 (0, 0)) (uB BK316.out) hg (Kd.R_ne HO_6.out BK316.out (by decide))); replace HB := Aside0.mk (hb); have HO328 := Aside0.mk (ho); clear HO_6; clear ho hb hg hat))
              go_roundg kj35
              case measure => have := HJ2.out; have := HK2.out; have := HJ13.out; have := HJ26.out; have := HJ35.out; omega
              case rel => exact ⟨(y326), (x7_35), (wrap64 (x22_2 + 1)), rs_, H', ⟨by have := HJ2.out; have := HK2.out; have := HJ13.out; have := HJ26.out; have := HJ35.out; omega⟩, ⟨uR HO328.out⟩, ⟨by exact uV <| Kd.V_mono HO_7.out (fun _ hk => ⟨hk.1.1, hk.2⟩)⟩, ⟨bl⟩⟩
      ·
       rw [if_neg c11] at H
       have c11b0 : decide (x22_2 < (l1.length : Int)) = false := decide_eq_false c11
       clear c11
       by_cases c48 : x6_2.length + x7_2.length < 3518437208883
       ·
        rw [if_pos c48] at H
        have LMc48 := Aside0.mk c48
        clear c48
        obtain ⟨y312, hy312⟩ : ∃ y_ : List (S45), y_ = (x6_2 ++ x7_2) := ⟨_, rfl⟩
        replace H : (some (y312, 0)) = some (r1, r2) := by first | (rw [hy312]; with_reducible exact H) | (have H2_ := (Option.bind_some _ _).symm.trans H; rw [hy312]; with_reducible exact H2_) | (have H2_ := (Option.bind_some _ _).symm.trans H; with_reducible exact H2_) | with_reducible exact H | (rw [hy312]; exact H) | exact H
        have Ny312 := Aside0.mk hy312
        clear hy312
        simp only [Option.some.injEq, Prod.mk.injEq] at H
        obtain ⟨rfl, rfl⟩ := H
        obtain ⟨Ao50, co50, eo50⟩ := Kd.V_slice HO_7.out
        subst eo50
        go_wp2_with (first | ((with_reducible refine gate_builtin (b := .append) (xs := #[.tmp 71, .tmp 72]) rfl ?_); at_builtin; refine Kd.R_append_rows k45 (w0 := w) w.heap.size rfl (.tmp 71) (.tmp 72) 22 45 (.agg #[(.int .i64 0), (.string ⟨#[]⟩), (.int .i64 0), (.bool false)]) 40 rfl Tryz.underlying22 info45 rfl (by decide) (by omega) u6 x6_2 x7_2 _ _ _ (fun k_ => (w.heap.size ≤ k_)) (fun _ => False) rfl rfl ?aO ?aR (fun _ _ h => h) (fun _ h => h.elim) ?aF ?aB ?aS ?aL ?_; (case aR => exact uC <| (Kd.V_reads' HO_7.out).2.2); (case aB => exact (uW HB.out)); (case aF => exact (fun k_ hk => (Nat.le_trans (below_size (uW HB.out)) hk))); (case aO => exact (uR HO_6.out)); (case aS => exact (below_size (uW HB.out))); (case aL => have := LMc48.out; omega); intro v313 w49 ho hb hg hat; rw [← Ny312.out] at ho; replace HO_7 := Aside0.mk (Kd.V_afterv (ok := (fun k_ => (P0_ k_ ∨ w.heap.size ≤ k_))) (uV HO_7.out) hg hat); replace HB := Aside0.mk (hb); have HO314 := Aside0.mk (ho); clear HO_6; clear ho hb hg hat))
        go_ret2
        exact ⟨_, re_, uR HO314.out, uW HB.out⟩
       ·
        rw [if_neg c48] at H
        exact absurd H (by simp)
mutual
def r02_Name.j0 : Nat → ByteArray → Bool → Option (Bool)
 | 0, _, _ => none
 | k + 1, x0, x17 => if x17 = true then (some false) else (r02_Name.l0 k x0 0)
def r02_Name.l0 : Nat → ByteArray → Int → Option (Bool)
 | 0, _, _ => none
 | k + 1, x0, x3 => if x3 < (x0.size : Int) then (if 0 ≤ x3 then ((r02_small.f (bt x0 x3)).bind fun t426 => (if t426 = true then (r02_Name.l0 k x0 (wrap64 (x3 + 1))) else ((r02_digit.f (bt x0 x3)).bind fun t427 => (if t427 = true then (r02_Name.l0 k x0 (wrap64 (x3 + 1))) else (if (bt x0 x3) = 95 then (r02_Name.l0 k x0 (wrap64 (x3 + 1))) else (some false)))))) else (none)) else (some true)
end
def r02_Name.f (k : Nat) (a0 : ByteArray) : Option (Bool) := if (a0.size : Int) < 1 then (r02_Name.j0 k a0 true) else (if (a0.size : Int) > 12 then (r02_Name.j0 k a0 true) else (if 0 < (a0.size : Int) then ((r02_small.f (bt a0 0)).bind fun t425 => (r02_Name.j0 k a0 (!t425))) else (none)))
theorem r02_Name.mono_l : ∀ k, (∀ y0 y1, LeC (r02_Name.j0 k y0 y1) (r02_Name.j0 (k + 1) y0 y1)) ∧ (∀ y0 y1, LeC (r02_Name.l0 k y0 y1) (r02_Name.l0 (k + 1) y0 y1))
 | 0 => ⟨fun _ _ => ⟨fun r h => by simp [r02_Name.j0] at h⟩, fun _ _ => ⟨fun r h => by simp [r02_Name.l0] at h⟩⟩
 | k + 1 => by obtain ⟨ih0, ih1⟩ := r02_Name.mono_l k; exact ⟨fun _ _ => by unfold r02_Name.j0; exact lm, fun _ _ => by unfold r02_Name.l0; exact lm⟩
theorem r02_Name.mono : ∀ a0 k, LeO (r02_Name.f k a0) (r02_Name.f (k + 1) a0) := by
 intro a0 k
 obtain ⟨ih0, ih1⟩ := r02_Name.mono_l k
 unfold r02_Name.f
 exact lo
instance r02_Name.mI {a0 k} : LeC (r02_Name.f k a0) (r02_Name.f (k + 1) a0) := ⟨r02_Name.mono _ _⟩
theorem r02_Name.calls (k : Nat) (a0 : ByteArray) (r : Bool) (w : World) (h : r02_Name.f k a0 = some r) :
 Calls Tryz.prog 116 #[.string a0] w fun e w' => e = .returned (.bool r) ∧ Drawn0 w w' := by
 have H : (if (a0.size : Int) < 1 then (r02_Name.j0 k a0 true) else (if (a0.size : Int) > 12 then (r02_Name.j0 k a0 true) else (if 0 < (a0.size : Int) then ((r02_small.f (bt a0 0)).bind fun t425 => (r02_Name.j0 k a0 (!t425))) else (none)))) = some r := h
 clear h
 have HC2 := Aside0.mk H
 clear H
 go_enter Tryz.func116, Tryz.ntmps116
 go_upto_region 1 with (fail)
 go_cut [17] (fun v17 wc => ∃ (kq : Nat) (x17_1 : Bool), v17 = .bool x17_1 ∧ Aside0 (r02_Name.j0 kq a0 x17_1 = some r) ∧ Aside0 (kq ≤ k) ∧ Drawn0 w wc)
 case first =>
  have H := HC2.out
  clear HC2
  by_cases c3 : (a0.size : Int) < 1
  ·
   rw [if_pos c3] at H
   have c3b0 : decide ((a0.size : Int) < 1) = true := decide_eq_true c3
   have c3b1 : decide (a0.size < 1) = true := decide_eq_true (by omega)
   clear c3
   (first | rw [c3b0] | (simp only [i64_w, i32_w]; rw [c3b0]) | skip)
   have H' := Aside0.mk H
   clear H
   go_wp2
   go_meet
   case rel => exact ⟨_, (true), rs_, H', ⟨by first | omega | exact Nat.le_refl _⟩, dr_⟩
  ·
   rw [if_neg c3] at H
   have c3b0 : decide ((a0.size : Int) < 1) = false := decide_eq_false c3
   have c3b1 : decide (a0.size < 1) = false := decide_eq_false (by omega)
   clear c3
   (first | rw [c3b0] | (simp only [i64_w, i32_w]; rw [c3b0]) | skip)
   by_cases c4 : (a0.size : Int) > 12
   ·
    rw [if_pos c4] at H
    have c4b0 : decide (12 < (a0.size : Int)) = true := decide_eq_true c4
    have c4b1 : decide (12 < a0.size) = true := decide_eq_true (by omega)
    clear c4
    have H' := Aside0.mk H
    clear H
    go_wp2
    go_meet
    case rel => exact ⟨_, (true), rs_, H', ⟨by first | omega | exact Nat.le_refl _⟩, dr_⟩
   ·
    rw [if_neg c4] at H
    have c4b0 : decide (12 < (a0.size : Int)) = false := decide_eq_false c4
    have c4b1 : decide (12 < a0.size) = false := decide_eq_false (by omega)
    clear c4
    obtain ⟨c5, H⟩ := gd H
    have c5b0 : decide (0 < (a0.size : Int)) = true := decide_eq_true c5
    have c5b1 : decide (0 < a0.size) = true := decide_eq_true (by omega)
    clear c5
    obtain ⟨t425, A7, H⟩ := bs H
    try dsimp only at H
    have H' := Aside0.mk H
    clear H
    have p6 : 0 ≤ (0 : Int) := (by omega)
    have q6 : 0 < a0.size := (by have : (0 : Int) < (a0.size : Int) := od; omega)
    have hx6 : ∀ h : 0 < a0.size, ((a0[0]'h).toNat : Int) = bt a0 0 := bt_at a0 0
    clear p6
    have qi6 : (0 < (a0.size : Int)) = True := eq_true (od)
    replace q6 := eq_true q6
    go_wp2_with (first | (go_at_call 139; (with_reducible refine (r02_small.calls (bt a0 0) t425 _ A7.out).mono ?_); rintro e w' ⟨rfl, ⟨nd, rfl⟩⟩))
    go_meet
    case rel => exact ⟨_, (!t425), rs_, H', ⟨by first | omega | exact Nat.le_refl _⟩, dr_⟩
 case rest =>
  clear HC2
  try clear c1
  try clear p2
  try clear c3
  try clear c3b0
  try clear c3b1
  try clear c4
  try clear c4b0
  try clear c4b1
  try clear c5
  try clear c5b0
  try clear c5b1
  try clear p6
  try clear q6
  try clear hx6
  try clear qi6
  try clear p6
  try clear q6
  obtain ⟨kq, x17_1, rfl, HA, HJ1, ⟨mc1, rfl⟩⟩ := hcut
  cases kq with
  | zero => exact absurd HA.out (by simp [r02_Name.j0])
  | succ kj1 =>
   have H := HA.out
   clear HA
   simp only [r02_Name.j0] at H
   by_cases c8 : x17_1 = true
   ·
    subst c8
    rw [if_pos rfl] at H
    obtain rfl := Option.some.inj H
    go_wp2
    go_ret
    exact ⟨rs_, dr_⟩
   ·
    replace c8 := Bool.eq_false_iff.mpr c8
    subst c8
    rw [if_neg (show ¬ (false = true) by decide)] at H
    have H' := Aside0.mk H
    clear H
    go_wp2
    go_loopg [3] kj1 (fun kq v3 w' => ∃ (x3_2 : Int), v3 = .int .i64 x3_2 ∧ Aside0 (r02_Name.l0 kq a0 x3_2 = some r) ∧ Aside0 (kq ≤ kj1) ∧ Drawn0 w w')
    case atStart => exact ⟨(0), rs_, H', ⟨Nat.le_refl _⟩, dr_⟩
    case round =>
     clear H'
     try clear c1
     try clear p2
     try clear c3
     try clear c3b0
     try clear c3b1
     try clear c4
     try clear c4b0
     try clear c4b1
     try clear c5
     try clear c5b0
     try clear c5b1
     try clear p6
     try clear q6
     try clear hx6
     try clear qi6
     try clear c8
     try clear p2
     try clear p6
     try clear q6
     obtain ⟨x3_2, rfl, HA, HK2, ⟨m2, rfl⟩⟩ := hrel
     cases gk with
     | zero => exact absurd HA.out (by simp [r02_Name.l0])
     | succ k2 =>
      have H := HA.out
      clear HA
      simp only [r02_Name.l0] at H
      by_cases c9 : x3_2 < (a0.size : Int)
      ·
       rw [if_pos c9] at H
       have c9b0 : decide (x3_2 < (a0.size : Int)) = true := decide_eq_true c9
       clear c9
       obtain ⟨c10b0, H⟩ := gdd H
       obtain ⟨t426, A12, H⟩ := bs H
       try dsimp only at H
       by_cases c13 : t426 = true
       ·
        subst c13
        rw [if_pos rfl] at H
        have H' := Aside0.mk H
        clear H
        have p11 : 0 ≤ (x3_2 : Int) := od
        have q11 : x3_2 < (a0.size : Int) := od
        have hx11 := bt_at a0 x3_2
        replace p11 := eq_true p11
        replace q11 := eq_true q11
        go_wp2_with (first | (refine gL (some 27) rfl Tryz.func139 #[.int .u8 (bt a0 x3_2)] ?_; (with_reducible refine (r02_small.calls (bt a0 x3_2) true _ A12.out).mono ?_); rintro e w' ⟨rfl, ⟨nd, rfl⟩⟩; refine ⟨_, rfl, ?_⟩))
        go_roundg k2
        case measure => have := HJ1.out; have := HK2.out; omega
        case rel => exact ⟨(wrap64 (x3_2 + 1)), rs_, H', ⟨by have := HJ1.out; have := HK2.out; omega⟩, dr_⟩
       ·
        replace c13 := Bool.eq_false_iff.mpr c13
        subst c13
        rw [if_neg (show ¬ (false = true) by decide)] at H
        obtain ⟨t427, A15, H⟩ := bs H
        try dsimp only at H
        by_cases c16 : t427 = true
        ·
         subst c16
         rw [if_pos rfl] at H
         have H' := Aside0.mk H
         clear H
         have p11 : 0 ≤ (x3_2 : Int) := od
         have q11 : x3_2 < (a0.size : Int) := od
         have hx11 := bt_at a0 x3_2
         replace p11 := eq_true p11
         replace q11 := eq_true q11
         go_wp2_with (first | (refine gL (some 27) rfl Tryz.func139 #[.int .u8 (bt a0 x3_2)] ?_; (with_reducible refine (r02_small.calls (bt a0 x3_2) false _ A12.out).mono ?_); rintro e w' ⟨rfl, ⟨nd, rfl⟩⟩; refine ⟨_, rfl, ?_⟩; have p14 : 0 ≤ (x3_2 : Int) := od; have q14 : x3_2 < (a0.size : Int) := od; have hx14 := bt_at a0 x3_2; replace p14 := eq_true p14; replace q14 := eq_true q14) | (go_at_call 140; (with_reducible refine (r02_digit.calls (bt a0 x3_2) true _ A15.out).mono ?_); rintro e w' ⟨rfl, ⟨nd, rfl⟩⟩))
         go_roundg k2
         case measure => have := HJ1.out; have := HK2.out; omega
         case rel => exact ⟨(wrap64 (x3_2 + 1)), rs_, H', ⟨by have := HJ1.out; have := HK2.out; omega⟩, dr_⟩
        ·
         replace c16 := Bool.eq_false_iff.mpr c16
         subst c16
         rw [if_neg (show ¬ (false = true) by decide)] at H
         by_cases c18 : (bt a0 x3_2) = 95
         ·
          rw [if_pos c18] at H
          have c18b0 : ((bt a0 x3_2) == 95) = true := beq_iff_eq.mpr c18
          have c18b1 : ((bt a0 x3_2) != 95) = false := bne_eq_false_iff_eq.mpr c18
          clear c18
          have H' := Aside0.mk H
          clear H
          have p11 : 0 ≤ (x3_2 : Int) := od
          have q11 : x3_2 < (a0.size : Int) := od
          have hx11 := bt_at a0 x3_2
          replace p11 := eq_true p11
          replace q11 := eq_true q11
          go_wp2_with (first | (refine gL (some 27) rfl Tryz.func139 #[.int .u8 (bt a0 x3_2)] ?_; (with_reducible refine (r02_small.calls (bt a0 x3_2) false _ A12.out).mono ?_); rintro e w' ⟨rfl, ⟨nd, rfl⟩⟩; refine ⟨_, rfl, ?_⟩; have p14 : 0 ≤ (x3_2 : Int) := od; have q14 : x3_2 < (a0.size : Int) := od; have hx14 := bt_at a0 x3_2; replace p14 := eq_true p14; replace q14 := eq_true q14) | (go_at_call 140; (with_reducible refine (r02_digit.calls (bt a0 x3_2) false _ A15.out).mono ?_); rintro e w' ⟨rfl, ⟨nd, rfl⟩⟩; have p17 : 0 ≤ (x3_2 : Int) := od; have q17 : x3_2 < (a0.size : Int) := od; have hx17 := bt_at a0 x3_2; replace p17 := eq_true p17; replace q17 := eq_true q17))
          go_roundg k2
          case measure => have := HJ1.out; have := HK2.out; omega
          case rel => exact ⟨(wrap64 (x3_2 + 1)), rs_, H', ⟨by have := HJ1.out; have := HK2.out; omega⟩, dr_⟩
         ·
          rw [if_neg c18] at H
          have c18b0 : ((bt a0 x3_2) == 95) = false := beq_eq_false_iff_ne.mpr c18
          have c18b1 : ((bt a0 x3_2) != 95) = true := bne_iff_ne.mpr c18
          obtain rfl := Option.some.inj H
          have p11 : 0 ≤ (x3_2 : Int) := od
          have q11 : x3_2 < (a0.size : Int) := od
          have hx11 := bt_at a0 x3_2
          replace p11 := eq_true p11
          replace q11 := eq_true q11
          go_wp2_with (first | (refine gL (some 27) rfl Tryz.func139 #[.int .u8 (bt a0 x3_2)] ?_; (with_reducible refine (r02_small.calls (bt a0 x3_2) false _ A12.out).mono ?_); rintro e w' ⟨rfl, ⟨nd, rfl⟩⟩; refine ⟨_, rfl, ?_⟩; have p14 : 0 ≤ (x3_2 : Int) := od; have q14 : x3_2 < (a0.size : Int) := od; have hx14 := bt_at a0 x3_2; replace p14 := eq_true p14; replace q14 := eq_true q14) | (go_at_call 140; (with_reducible refine (r02_digit.calls (bt a0 x3_2) false _ A15.out).mono ?_); rintro e w' ⟨rfl, ⟨nd, rfl⟩⟩; have p17 : 0 ≤ (x3_2 : Int) := od; have q17 : x3_2 < (a0.size : Int) := od; have hx17 := bt_at a0 x3_2; replace p17 := eq_true p17; replace q17 := eq_true q17))
          go_ret
          exact ⟨rs_, dr_⟩
      ·
       rw [if_neg c9] at H
       have c9b0 : decide (x3_2 < (a0.size : Int)) = false := decide_eq_false c9
       clear c9
       obtain rfl := Option.some.inj H
       go_wp2
       go_ret
       exact ⟨rs_, dr_⟩
mutual
def r02_Value.j0 : Nat → ByteArray → Bool → Option (Bool)
 | 0, _, _ => none
 | k + 1, x0, x11 => if x11 = true then (some false) else (r02_Value.l0 k x0 0)
def r02_Value.l0 : Nat → ByteArray → Int → Option (Bool)
 | 0, _, _ => none
 | k + 1, x0, x3 => if x3 < (x0.size : Int) then (if 0 ≤ x3 then ((r02_small.f (bt x0 x3)).bind fun t428 => (if t428 = true then (r02_Value.l0 k x0 (wrap64 (x3 + 1))) else ((r02_digit.f (bt x0 x3)).bind fun t429 => (if t429 = true then (r02_Value.l0 k x0 (wrap64 (x3 + 1))) else (if (bt x0 x3) = 95 then (r02_Value.l0 k x0 (wrap64 (x3 + 1))) else (if (bt x0 x3) = 45 then (r02_Value.l0 k x0 (wrap64 (x3 + 1))) else (if (bt x0 x3) = 46 then (r02_Value.l0 k x0 (wrap64 (x3 + 1))) else (some false)))))))) else (none)) else (some true)
end
def r02_Value.f (k : Nat) (a0 : ByteArray) : Option (Bool) := if (a0.size : Int) < 1 then (r02_Value.j0 k a0 true) else (r02_Value.j0 k a0 (decide ((a0.size : Int) > 12)))
theorem r02_Value.mono_l : ∀ k, (∀ y0 y1, LeC (r02_Value.j0 k y0 y1) (r02_Value.j0 (k + 1) y0 y1)) ∧ (∀ y0 y1, LeC (r02_Value.l0 k y0 y1) (r02_Value.l0 (k + 1) y0 y1))
 | 0 => ⟨fun _ _ => ⟨fun r h => by simp [r02_Value.j0] at h⟩, fun _ _ => ⟨fun r h => by simp [r02_Value.l0] at h⟩⟩
 | k + 1 => by obtain ⟨ih0, ih1⟩ := r02_Value.mono_l k; exact ⟨fun _ _ => by unfold r02_Value.j0; exact lm, fun _ _ => by unfold r02_Value.l0; exact lm⟩
theorem r02_Value.mono : ∀ a0 k, LeO (r02_Value.f k a0) (r02_Value.f (k + 1) a0) := by
 intro a0 k
 obtain ⟨ih0, ih1⟩ := r02_Value.mono_l k
 unfold r02_Value.f
 exact lo
instance r02_Value.mI {a0 k} : LeC (r02_Value.f k a0) (r02_Value.f (k + 1) a0) := ⟨r02_Value.mono _ _⟩
theorem r02_Value.calls (k : Nat) (a0 : ByteArray) (r : Bool) (w : World) (h : r02_Value.f k a0 = some r) :
 Calls Tryz.prog 117 #[.string a0] w fun e w' => e = .returned (.bool r) ∧ Drawn0 w w' := by
 have H : (if (a0.size : Int) < 1 then (r02_Value.j0 k a0 true) else (r02_Value.j0 k a0 (decide ((a0.size : Int) > 12)))) = some r := h
 clear h
 have HC2 := Aside0.mk H
 clear H
 go_enter Tryz.func117, Tryz.ntmps117
 go_upto_region 1 with (fail)
 go_cut [11] (fun v11 wc => ∃ (kq : Nat) (x11_1 : Bool), v11 = .bool x11_1 ∧ Aside0 (r02_Value.j0 kq a0 x11_1 = some r) ∧ Aside0 (kq ≤ k) ∧ Drawn0 w wc)
 case first =>
  have H := HC2.out
  clear HC2
  by_cases c3 : (a0.size : Int) < 1
  ·
   rw [if_pos c3] at H
   have c3b0 : decide ((a0.size : Int) < 1) = true := decide_eq_true c3
   have c3b1 : decide (a0.size < 1) = true := decide_eq_true (by omega)
   clear c3
   (first | rw [c3b0] | (simp only [i64_w, i32_w]; rw [c3b0]) | skip)
   have H' := Aside0.mk H
   clear H
   go_wp2
   go_meet
   case rel => exact ⟨_, (true), rs_, H', ⟨by first | omega | exact Nat.le_refl _⟩, dr_⟩
  ·
   rw [if_neg c3] at H
   have c3b0 : decide ((a0.size : Int) < 1) = false := decide_eq_false c3
   have c3b1 : decide (a0.size < 1) = false := decide_eq_false (by omega)
   clear c3
   (first | rw [c3b0] | (simp only [i64_w, i32_w]; rw [c3b0]) | skip)
   have H' := Aside0.mk H
   clear H
   go_wp2
   go_meet
   case rel => exact ⟨_, (decide ((a0.size : Int) > 12)), rs_, H', ⟨by first | omega | exact Nat.le_refl _⟩, dr_⟩
 case rest =>
  clear HC2
  try clear c1
  try clear p2
  try clear c3
  try clear c3b0
  try clear c3b1
  obtain ⟨kq, x11_1, rfl, HA, HJ1, ⟨mc1, rfl⟩⟩ := hcut
  cases kq with
  | zero => exact absurd HA.out (by simp [r02_Value.j0])
  | succ kj1 =>
   have H := HA.out
   clear HA
   simp only [r02_Value.j0] at H
   by_cases c4 : x11_1 = true
   ·
    subst c4
    rw [if_pos rfl] at H
    obtain rfl := Option.some.inj H
    go_wp2
    go_ret
    exact ⟨rs_, dr_⟩
   ·
    replace c4 := Bool.eq_false_iff.mpr c4
    subst c4
    rw [if_neg (show ¬ (false = true) by decide)] at H
    have H' := Aside0.mk H
    clear H
    go_wp2
    go_loopg [3] kj1 (fun kq v3 w' => ∃ (x3_2 : Int), v3 = .int .i64 x3_2 ∧ Aside0 (r02_Value.l0 kq a0 x3_2 = some r) ∧ Aside0 (kq ≤ kj1) ∧ Drawn0 w w')
    case atStart => exact ⟨(0), rs_, H', ⟨Nat.le_refl _⟩, dr_⟩
    case round =>
     clear H'
     try clear c1
     try clear p2
     try clear c3
     try clear c3b0
     try clear c3b1
     try clear c4
     try clear p2
     obtain ⟨x3_2, rfl, HA, HK2, ⟨m2, rfl⟩⟩ := hrel
     cases gk with
     | zero => exact absurd HA.out (by simp [r02_Value.l0])
     | succ k2 =>
      have H := HA.out
      clear HA
      simp only [r02_Value.l0] at H
      by_cases c5 : x3_2 < (a0.size : Int)
      ·
       rw [if_pos c5] at H
       have c5b0 : decide (x3_2 < (a0.size : Int)) = true := decide_eq_true c5
       clear c5
       obtain ⟨c6b0, H⟩ := gdd H
       obtain ⟨t428, A8, H⟩ := bs H
       try dsimp only at H
       by_cases c9 : t428 = true
       ·
        subst c9
        rw [if_pos rfl] at H
        have H' := Aside0.mk H
        clear H
        have p7 : 0 ≤ (x3_2 : Int) := od
        have q7 : x3_2 < (a0.size : Int) := od
        have hx7 := bt_at a0 x3_2
        replace p7 := eq_true p7
        replace q7 := eq_true q7
        go_wp2_with (first | (refine gL (some 21) rfl Tryz.func139 #[.int .u8 (bt a0 x3_2)] ?_; (with_reducible refine (r02_small.calls (bt a0 x3_2) true _ A8.out).mono ?_); rintro e w' ⟨rfl, ⟨nd, rfl⟩⟩; refine ⟨_, rfl, ?_⟩))
        go_roundg k2
        case measure => have := HJ1.out; have := HK2.out; omega
        case rel => exact ⟨(wrap64 (x3_2 + 1)), rs_, H', ⟨by have := HJ1.out; have := HK2.out; omega⟩, dr_⟩
       ·
        replace c9 := Bool.eq_false_iff.mpr c9
        subst c9
        rw [if_neg (show ¬ (false = true) by decide)] at H
        obtain ⟨t429, A11, H⟩ := bs H
        try dsimp only at H
        by_cases c12 : t429 = true
        ·
         subst c12
         rw [if_pos rfl] at H
         have H' := Aside0.mk H
         clear H
         have p7 : 0 ≤ (x3_2 : Int) := od
         have q7 : x3_2 < (a0.size : Int) := od
         have hx7 := bt_at a0 x3_2
         replace p7 := eq_true p7
         replace q7 := eq_true q7
         go_wp2_with (first | (refine gL (some 21) rfl Tryz.func139 #[.int .u8 (bt a0 x3_2)] ?_; (with_reducible refine (r02_small.calls (bt a0 x3_2) false _ A8.out).mono ?_); rintro e w' ⟨rfl, ⟨nd, rfl⟩⟩; refine ⟨_, rfl, ?_⟩; have p10 : 0 ≤ (x3_2 : Int) := od; have q10 : x3_2 < (a0.size : Int) := od; have hx10 := bt_at a0 x3_2; replace p10 := eq_true p10; replace q10 := eq_true q10) | (go_at_call 140; (with_reducible refine (r02_digit.calls (bt a0 x3_2) true _ A11.out).mono ?_); rintro e w' ⟨rfl, ⟨nd, rfl⟩⟩))
         go_roundg k2
         case measure => have := HJ1.out; have := HK2.out; omega
         case rel => exact ⟨(wrap64 (x3_2 + 1)), rs_, H', ⟨by have := HJ1.out; have := HK2.out; omega⟩, dr_⟩
        ·
         replace c12 := Bool.eq_false_iff.mpr c12
         subst c12
         rw [if_neg (show ¬ (false = true) by decide)] at H
         by_cases c14 : (bt a0 x3_2) = 95
         ·
          rw [if_pos c14] at H
          have c14b0 : ((bt a0 x3_2) == 95) = true := beq_iff_eq.mpr c14
          have c14b1 : ((bt a0 x3_2) != 95) = false := bne_eq_false_iff_eq.mpr c14
          clear c14
          have H' := Aside0.mk H
          clear H
          have p7 : 0 ≤ (x3_2 : Int) := od
          have q7 : x3_2 < (a0.size : Int) := od
          have hx7 := bt_at a0 x3_2
          replace p7 := eq_true p7
          replace q7 := eq_true q7
          go_wp2_with (first | (refine gL (some 21) rfl Tryz.func139 #[.int .u8 (bt a0 x3_2)] ?_; (with_reducible refine (r02_small.calls (bt a0 x3_2) false _ A8.out).mono ?_); rintro e w' ⟨rfl, ⟨nd, rfl⟩⟩; refine ⟨_, rfl, ?_⟩; have p10 : 0 ≤ (x3_2 : Int) := od; have q10 : x3_2 < (a0.size : Int) := od; have hx10 := bt_at a0 x3_2; replace p10 := eq_true p10; replace q10 := eq_true q10) | (go_at_call 140; (with_reducible refine (r02_digit.calls (bt a0 x3_2) false _ A11.out).mono ?_); rintro e w' ⟨rfl, ⟨nd, rfl⟩⟩; have p13 : 0 ≤ (x3_2 : Int) := od; have q13 : x3_2 < (a0.size : Int) := od; have hx13 := bt_at a0 x3_2; replace p13 := eq_true p13; replace q13 := eq_true q13))
          go_roundg k2
          case measure => have := HJ1.out; have := HK2.out; omega
          case rel => exact ⟨(wrap64 (x3_2 + 1)), rs_, H', ⟨by have := HJ1.out; have := HK2.out; omega⟩, dr_⟩
         ·
          rw [if_neg c14] at H
          have c14b0 : ((bt a0 x3_2) == 95) = false := beq_eq_false_iff_ne.mpr c14
          have c14b1 : ((bt a0 x3_2) != 95) = true := bne_iff_ne.mpr c14
          by_cases c16 : (bt a0 x3_2) = 45
          ·
           rw [if_pos c16] at H
           have c16b0 : ((bt a0 x3_2) == 45) = true := beq_iff_eq.mpr c16
           have c16b1 : ((bt a0 x3_2) != 45) = false := bne_eq_false_iff_eq.mpr c16
           clear c16
           have H' := Aside0.mk H
           clear H
           have p7 : 0 ≤ (x3_2 : Int) := od
           have q7 : x3_2 < (a0.size : Int) := od
           have hx7 := bt_at a0 x3_2
           replace p7 := eq_true p7
           replace q7 := eq_true q7
           go_wp2_with (first | (refine gL (some 21) rfl Tryz.func139 #[.int .u8 (bt a0 x3_2)] ?_; (with_reducible refine (r02_small.calls (bt a0 x3_2) false _ A8.out).mono ?_); rintro e w' ⟨rfl, ⟨nd, rfl⟩⟩; refine ⟨_, rfl, ?_⟩; have p10 : 0 ≤ (x3_2 : Int) := od; have q10 : x3_2 < (a0.size : Int) := od; have hx10 := bt_at a0 x3_2; replace p10 := eq_true p10; replace q10 := eq_true q10) | (go_at_call 140; (with_reducible refine (r02_digit.calls (bt a0 x3_2) false _ A11.out).mono ?_); rintro e w' ⟨rfl, ⟨nd, rfl⟩⟩; have p13 : 0 ≤ (x3_2 : Int) := od; have q13 : x3_2 < (a0.size : Int) := od; have hx13 := bt_at a0 x3_2; replace p13 := eq_true p13; replace q13 := eq_true q13; have p15 : 0 ≤ (x3_2 : Int) := od; have q15 : x3_2 < (a0.size : Int) := od; have hx15 := bt_at a0 x3_2; replace p15 := eq_true p15; replace q15 := eq_true q15))
           go_roundg k2
           case measure => have := HJ1.out; have := HK2.out; omega
           case rel => exact ⟨(wrap64 (x3_2 + 1)), rs_, H', ⟨by have := HJ1.out; have := HK2.out; omega⟩, dr_⟩
          ·
           rw [if_neg c16] at H
           have c16b0 : ((bt a0 x3_2) == 45) = false := beq_eq_false_iff_ne.mpr c16
           have c16b1 : ((bt a0 x3_2) != 45) = true := bne_iff_ne.mpr c16
           by_cases c18 : (bt a0 x3_2) = 46
           ·
            rw [if_pos c18] at H
            have c18b0 : ((bt a0 x3_2) == 46) = true := beq_iff_eq.mpr c18
            have c18b1 : ((bt a0 x3_2) != 46) = false := bne_eq_false_iff_eq.mpr c18
            clear c18
            have H' := Aside0.mk H
            clear H
            have p7 : 0 ≤ (x3_2 : Int) := od
            have q7 : x3_2 < (a0.size : Int) := od
            have hx7 := bt_at a0 x3_2
            replace p7 := eq_true p7
            replace q7 := eq_true q7
            go_wp2_with (first | (refine gL (some 21) rfl Tryz.func139 #[.int .u8 (bt a0 x3_2)] ?_; (with_reducible refine (r02_small.calls (bt a0 x3_2) false _ A8.out).mono ?_); rintro e w' ⟨rfl, ⟨nd, rfl⟩⟩; refine ⟨_, rfl, ?_⟩; have p10 : 0 ≤ (x3_2 : Int) := od; have q10 : x3_2 < (a0.size : Int) := od; have hx10 := bt_at a0 x3_2; replace p10 := eq_true p10; replace q10 := eq_true q10) | (go_at_call 140; (with_reducible refine (r02_digit.calls (bt a0 x3_2) false _ A11.out).mono ?_); rintro e w' ⟨rfl, ⟨nd, rfl⟩⟩; have p13 : 0 ≤ (x3_2 : Int) := od; have q13 : x3_2 < (a0.size : Int) := od; have hx13 := bt_at a0 x3_2; replace p13 := eq_true p13; replace q13 := eq_true q13; have p15 : 0 ≤ (x3_2 : Int) := od; have q15 : x3_2 < (a0.size : Int) := od; have hx15 := bt_at a0 x3_2; replace p15 := eq_true p15; replace q15 := eq_true q15; have p17 : 0 ≤ (x3_2 : Int) := od; have q17 : x3_2 < (a0.size : Int) := od; have hx17 := bt_at a0 x3_2; replace p17 := eq_true p17; replace q17 := eq_true q17))
            go_roundg k2
            case measure => have := HJ1.out; have := HK2.out; omega
            case rel => exact ⟨(wrap64 (x3_2 + 1)), rs_, H', ⟨by have := HJ1.out; have := HK2.out; omega⟩, dr_⟩
           ·
            rw [if_neg c18] at H
            have c18b0 : ((bt a0 x3_2) == 46) = false := beq_eq_false_iff_ne.mpr c18
            have c18b1 : ((bt a0 x3_2) != 46) = true := bne_iff_ne.mpr c18
            obtain rfl := Option.some.inj H
            have p7 : 0 ≤ (x3_2 : Int) := od
            have q7 : x3_2 < (a0.size : Int) := od
            have hx7 := bt_at a0 x3_2
            replace p7 := eq_true p7
            replace q7 := eq_true q7
            go_wp2_with (first | (refine gL (some 21) rfl Tryz.func139 #[.int .u8 (bt a0 x3_2)] ?_; (with_reducible refine (r02_small.calls (bt a0 x3_2) false _ A8.out).mono ?_); rintro e w' ⟨rfl, ⟨nd, rfl⟩⟩; refine ⟨_, rfl, ?_⟩; have p10 : 0 ≤ (x3_2 : Int) := od; have q10 : x3_2 < (a0.size : Int) := od; have hx10 := bt_at a0 x3_2; replace p10 := eq_true p10; replace q10 := eq_true q10) | (go_at_call 140; (with_reducible refine (r02_digit.calls (bt a0 x3_2) false _ A11.out).mono ?_); rintro e w' ⟨rfl, ⟨nd, rfl⟩⟩; have p13 : 0 ≤ (x3_2 : Int) := od; have q13 : x3_2 < (a0.size : Int) := od; have hx13 := bt_at a0 x3_2; replace p13 := eq_true p13; replace q13 := eq_true q13; have p15 : 0 ≤ (x3_2 : Int) := od; have q15 : x3_2 < (a0.size : Int) := od; have hx15 := bt_at a0 x3_2; replace p15 := eq_true p15; replace q15 := eq_true q15; have p17 : 0 ≤ (x3_2 : Int) := od; have q17 : x3_2 < (a0.size : Int) := od; have hx17 := bt_at a0 x3_2; replace p17 := eq_true p17; replace q17 := eq_true q17))
            go_ret
            exact ⟨rs_, dr_⟩
      ·
       rw [if_neg c5] at H
       have c5b0 : decide (x3_2 < (a0.size : Int)) = false := decide_eq_false c5
       clear c5
       obtain rfl := Option.some.inj H
       go_wp2
       go_ret
       exact ⟨rs_, dr_⟩
def r03_may.f (k : Nat) (a0_0 : ByteArray) (a0_1 : ByteArray) : Option (Bool) := (r02_Name.f k a0_0).bind fun t431 => (if t431 = true then ((r02_Value.f k a0_1).bind fun t432 => (some t432)) else (some false))
theorem r03_may.mono : ∀ a0 a1 k, LeO (r03_may.f k a0 a1) (r03_may.f (k + 1) a0 a1) := by
 intro a0 a1 k
 unfold r03_may.f
 exact lo
instance r03_may.mI {a0 a1 k} : LeC (r03_may.f k a0 a1) (r03_may.f (k + 1) a0 a1) := ⟨r03_may.mono _ _ _⟩
theorem r03_may.calls (k : Nat) (a0_0 : ByteArray) (a0_1 : ByteArray) (r : Bool) (w : World) (h : r03_may.f k a0_0 a0_1 = some r) :
 Calls Tryz.prog 95 #[.agg #[.string a0_0, .string a0_1]] w fun e w' => e = .returned (.bool r) ∧ Below w.heap.size w w' := by
 have hu98 := Tryz.underlying98
 have HB := Aside0.mk (Below.refl w.heap.size w)
 have H : ((r02_Name.f k a0_0).bind fun t431 => (if t431 = true then ((r02_Value.f k a0_1).bind fun t432 => (some t432)) else (some false))) = some r := h
 clear h
 obtain ⟨t431, A2, H⟩ := bs H
 try dsimp only at H
 by_cases c3 : t431 = true
 ·
  subst c3
  rw [if_pos rfl] at H
  obtain ⟨t432, A4, H⟩ := bs H
  try dsimp only at H
  obtain rfl := Option.some.inj H
  go_enter Tryz.func95, Tryz.ntmps95
  go_wp2_with (first | ((with_reducible refine gate_dst (N := 1) rfl ?_); refine bx (N := 1) #[.string a0_0, .string a0_1] 98 ?_; intro gb430 hg w5 hbox hb; have BK430 := Aside0.mk (hbox); have GW430 := gw hg (uW HB.out); have GE430 := GW430; replace HB := cW HB hb; clear hb hbox hg; obtain ⟨hcz6_0, hcz6_1, hfz6_0, hfz6_1⟩ := z2 BK430) | (refine gL (some 5) rfl Tryz.func116 #[.string a0_0] ?_; (with_reducible refine (r02_Name.calls k a0_0 true _ A2.out).mono ?_); rintro e w' ⟨rfl, ⟨nd, rfl⟩⟩; refine ⟨_, rfl, ?_⟩) | (go_at_call 117; (with_reducible refine (r02_Value.calls k a0_1 t432 _ A4.out).mono ?_); rintro e w' ⟨rfl, ⟨nd, rfl⟩⟩))
  go_ret
  exact ⟨re_, bl⟩
 ·
  replace c3 := Bool.eq_false_iff.mpr c3
  subst c3
  rw [if_neg (show ¬ (false = true) by decide)] at H
  obtain rfl := Option.some.inj H
  go_enter Tryz.func95, Tryz.ntmps95
  go_wp2_with (first | ((with_reducible refine gate_dst (N := 1) rfl ?_); refine bx (N := 1) #[.string a0_0, .string a0_1] 98 ?_; intro gb430 hg w7 hbox hb; have BK430 := Aside0.mk (hbox); have GW430 := gw hg (uW HB.out); have GE430 := GW430; replace HB := cW HB hb; clear hb hbox hg; obtain ⟨hcz8_0, hcz8_1, hfz8_0, hfz8_1⟩ := z2 BK430) | (refine gL (some 5) rfl Tryz.func116 #[.string a0_0] ?_; (with_reducible refine (r02_Name.calls k a0_0 false _ A2.out).mono ?_); rintro e w' ⟨rfl, ⟨nd, rfl⟩⟩; refine ⟨_, rfl, ?_⟩))
  go_ret
  exact ⟨re_, bl⟩
end Go.Proofs.YtgcbejidponoaaaGreatDoor.X
