/- Printed by a program of this session's own: what functions of the program compute, and that the machine computes it. No condition of its own. -/
import Derived.Test.YtofaindjbhmopaaM3
import Derived.Test.YtofaindjbhmopaaM4
import Derived.Test.YtofaindjbhmopaaM7
import Derived.Test.YtofaindjbhmopaaM8
import Derived.Test.YtofaindjbhmopaaM13
import Derived.Test.YtofaindjbhmopaaM9
import Derived.Test.YtofaindjbhmopaaM10
import Derived.Test.YtofaindjbhmopaaM11
namespace Go.Proofs.Ytofaindjbhmopaa.X
open Go.RowKit Go.Proofs.YtofaindjbhmopaaW.PrintWords Go.Proofs.YtofaindjbhmopaaW.PrintLast Go.Proofs.YtofaindjbhmopaaW.PrintMore
attribute [local go_sem] max2_int min2_int max_two min_two max_three min_three max_four min_four
set_option linter.unusedVariables false
set_option linter.unusedSimpArgs false
set_option maxHeartbeats 8000000
set_option maxRecDepth 100000
attribute [local go_sem high] eqA52
mutual
def w11_ShardWrites.j0 : Nat → Int → Bool → List (S59) → Int → Int → ByteArray → Int → Option (Bool)
 | 0, _, _, _, _, _, _, _ => none
 | k + 1, x2, x26, x357000, x358000, x358001, x358002, x358003 => if x26 = true then (some true) else ((shard_Apply.f k x357000 x358000 x358001 x358002 x358003).bind fun bt360 => (if bt360.2 = 0 then ((shard_Read.f k x357000 x2 ([] : List (S39))).bind fun t365 => ((shard_Read.f k bt360.1 x2 ([] : List (S39))).bind fun t368 => (if x2 < x358000 then ((r08_Items.f k t365 t368).bind fun t371 => (if t371 = true then ((shard_Size.f k bt360.1).bind fun t372 => ((shard_Size.f k x357000).bind fun t373 => (some (t372 == (wrap64 (t373 + 1)))))) else (none))) else (w11_ShardWrites.l0 k t365 t368 ([] : List (S54)) 0 x357000 x358000 x358001 x358002 x358003 bt360.1 0 0 false 0 0)))) else (some ((bt360.1.length : Int) == 0))))
def w11_ShardWrites.l0 : Nat → List (S54) → List (S54) → List (S54) → Int → List (S59) → Int → Int → ByteArray → Int → List (S59) → Int → Int → Bool → Int → Int → Option (Bool)
 | 0, _, _, _, _, _, _, _, _, _, _, _, _, _, _, _ => none
 | k + 1, x9, x10, x12, x13, x357000, x358000, x358001, x358002, x358003, x365000, x375000, x375001, x375002, x375003, x375004 => if x13 < (x9.length : Int) then (if 0 ≤ x13 then (if ((rd_T54 x9 x13).f0) = x358001 then (if ((rd_T54 x9 x13).f1).toList = x358002.toList then (w11_ShardWrites.l0 k x9 x10 x12 (wrap64 (x13 + 1)) x357000 x358000 x358001 x358002 x358003 x365000 ((rd_T54 x9 x13).f2.f0) ((rd_T54 x9 x13).f2.f1.f0) ((rd_T54 x9 x13).f2.f1.f1) ((rd_T54 x9 x13).f2.f2) ((rd_T54 x9 x13).f2.f3)) else (if x12.length < 2199023255552 then (w11_ShardWrites.l0 k x9 x10 (x12 ++ [(⟨(rd_T54 x9 x13).f0, (rd_T54 x9 x13).f1, (⟨(rd_T54 x9 x13).f2.f0, (⟨(rd_T54 x9 x13).f2.f1.f0, (rd_T54 x9 x13).f2.f1.f1⟩ : S50), (rd_T54 x9 x13).f2.f2, (rd_T54 x9 x13).f2.f3⟩ : S52)⟩ : S54)]) (wrap64 (x13 + 1)) x357000 x358000 x358001 x358002 x358003 x365000 x375000 x375001 x375002 x375003 x375004) else (none))) else (if x12.length < 2199023255552 then (w11_ShardWrites.l0 k x9 x10 (x12 ++ [(⟨(rd_T54 x9 x13).f0, (rd_T54 x9 x13).f1, (⟨(rd_T54 x9 x13).f2.f0, (⟨(rd_T54 x9 x13).f2.f1.f0, (rd_T54 x9 x13).f2.f1.f1⟩ : S50), (rd_T54 x9 x13).f2.f2, (rd_T54 x9 x13).f2.f3⟩ : S52)⟩ : S54)]) (wrap64 (x13 + 1)) x357000 x358000 x358001 x358002 x358003 x365000 x375000 x375001 x375002 x375003 x375004) else (none))) else (none)) else (w11_ShardWrites.l1 k x10 x12 ([] : List (S54)) false 0 x357000 x358000 x358001 x358002 x358003 x365000 x375000 x375001 x375002 x375003 x375004)
def w11_ShardWrites.l1 : Nat → List (S54) → List (S54) → List (S54) → Bool → Int → List (S59) → Int → Int → ByteArray → Int → List (S59) → Int → Int → Bool → Int → Int → Option (Bool)
 | 0, _, _, _, _, _, _, _, _, _, _, _, _, _, _, _, _ => none
 | k + 1, x10, x12, x14, x15, x16, x357000, x358000, x358001, x358002, x358003, x365000, x375000, x375001, x375002, x375003, x375004 => if x16 < (x10.length : Int) then (if 0 ≤ x16 then (if ((rd_T54 x10 x16).f0) = x358001 then (if ((rd_T54 x10 x16).f1).toList = x358002.toList then ((r06_Fold.f k x375000 x375001 x375002 x375003 x375004 x358003).bind fun bt389 => (w11_ShardWrites.l1 k x10 x12 x14 (((rd_T54 x10 x16).f2.f0) == bt389.1 && ((((rd_T54 x10 x16).f2.f1.f0) == bt389.2.1 && (((rd_T54 x10 x16).f2.f1.f1) == bt389.2.2.1)) && (((rd_T54 x10 x16).f2.f2) == bt389.2.2.2.1 && (((rd_T54 x10 x16).f2.f3) == bt389.2.2.2.2)))) (wrap64 (x16 + 1)) x357000 x358000 x358001 x358002 x358003 x365000 x375000 x375001 x375002 x375003 x375004)) else (if x14.length < 2199023255552 then (w11_ShardWrites.l1 k x10 x12 (x14 ++ [(⟨(rd_T54 x10 x16).f0, (rd_T54 x10 x16).f1, (⟨(rd_T54 x10 x16).f2.f0, (⟨(rd_T54 x10 x16).f2.f1.f0, (rd_T54 x10 x16).f2.f1.f1⟩ : S50), (rd_T54 x10 x16).f2.f2, (rd_T54 x10 x16).f2.f3⟩ : S52)⟩ : S54)]) x15 (wrap64 (x16 + 1)) x357000 x358000 x358001 x358002 x358003 x365000 x375000 x375001 x375002 x375003 x375004) else (none))) else (if x14.length < 2199023255552 then (w11_ShardWrites.l1 k x10 x12 (x14 ++ [(⟨(rd_T54 x10 x16).f0, (rd_T54 x10 x16).f1, (⟨(rd_T54 x10 x16).f2.f0, (⟨(rd_T54 x10 x16).f2.f1.f0, (rd_T54 x10 x16).f2.f1.f1⟩ : S50), (rd_T54 x10 x16).f2.f2, (rd_T54 x10 x16).f2.f3⟩ : S52)⟩ : S54)]) x15 (wrap64 (x16 + 1)) x357000 x358000 x358001 x358002 x358003 x365000 x375000 x375001 x375002 x375003 x375004) else (none))) else (none)) else (if x15 = true then ((r08_Items.f k x12 x14).bind fun t402 => (if t402 = true then ((shard_Size.f k x365000).bind fun t403 => ((shard_Size.f k x357000).bind fun t404 => (if t403 = (wrap64 (t404 + 1)) then ((r11_Right.f k x365000).bind fun t405 => (some t405)) else (none)))) else (none))) else (none))
end
def w11_ShardWrites.f (k : Nat) (l0_0 : List (S59)) (a1_0 : Int) (a1_1 : Int) (a1_2 : ByteArray) (a1_3 : Int) (a2 : Int) : Option (Bool) := (w11_alive.f k).bind fun t358 => (if t358 = true then ((r11_Great.f k l0_0).bind fun t359 => (if t359 = true then (w11_ShardWrites.j0 k a2 true l0_0 a1_0 a1_1 a1_2 a1_3) else (w11_ShardWrites.j0 k a2 (decide ((a1_2.size : Int) > 300)) l0_0 a1_0 a1_1 a1_2 a1_3))) else (none))
theorem w11_ShardWrites.mono_l : ∀ k, (∀ y0 y1 y2 y3 y4 y5 y6, LeC (w11_ShardWrites.j0 k y0 y1 y2 y3 y4 y5 y6) (w11_ShardWrites.j0 (k + 1) y0 y1 y2 y3 y4 y5 y6)) ∧ (∀ y0 y1 y2 y3 y4 y5 y6 y7 y8 y9 y10 y11 y12 y13 y14, LeC (w11_ShardWrites.l0 k y0 y1 y2 y3 y4 y5 y6 y7 y8 y9 y10 y11 y12 y13 y14) (w11_ShardWrites.l0 (k + 1) y0 y1 y2 y3 y4 y5 y6 y7 y8 y9 y10 y11 y12 y13 y14)) ∧ (∀ y0 y1 y2 y3 y4 y5 y6 y7 y8 y9 y10 y11 y12 y13 y14 y15, LeC (w11_ShardWrites.l1 k y0 y1 y2 y3 y4 y5 y6 y7 y8 y9 y10 y11 y12 y13 y14 y15) (w11_ShardWrites.l1 (k + 1) y0 y1 y2 y3 y4 y5 y6 y7 y8 y9 y10 y11 y12 y13 y14 y15))
 | 0 => ⟨fun _ _ _ _ _ _ _ => ⟨fun r h => by simp [w11_ShardWrites.j0] at h⟩, fun _ _ _ _ _ _ _ _ _ _ _ _ _ _ _ => ⟨fun r h => by simp [w11_ShardWrites.l0] at h⟩, fun _ _ _ _ _ _ _ _ _ _ _ _ _ _ _ _ => ⟨fun r h => by simp [w11_ShardWrites.l1] at h⟩⟩
 | k + 1 => by obtain ⟨ih0, ih1, ih2⟩ := w11_ShardWrites.mono_l k; exact ⟨fun _ _ _ _ _ _ _ => by unfold w11_ShardWrites.j0; exact lm, fun _ _ _ _ _ _ _ _ _ _ _ _ _ _ _ => by unfold w11_ShardWrites.l0; exact lm, fun _ _ _ _ _ _ _ _ _ _ _ _ _ _ _ _ => by unfold w11_ShardWrites.l1; exact lm⟩
theorem w11_ShardWrites.mono : ∀ a0 a1 a2 a3 a4 a5 k, LeO (w11_ShardWrites.f k a0 a1 a2 a3 a4 a5) (w11_ShardWrites.f (k + 1) a0 a1 a2 a3 a4 a5) := by
 intro a0 a1 a2 a3 a4 a5 k
 obtain ⟨ih0, ih1, ih2⟩ := w11_ShardWrites.mono_l k
 unfold w11_ShardWrites.f
 exact lo
instance w11_ShardWrites.mI {a0 a1 a2 a3 a4 a5 k} : LeC (w11_ShardWrites.f k a0 a1 a2 a3 a4 a5) (w11_ShardWrites.f (k + 1) a0 a1 a2 a3 a4 a5) := ⟨w11_ShardWrites.mono _ _ _ _ _ _ _⟩
def w11_ShardWrites.T8 : Bool × List (List Nat × List Nat) := (true, [([], []), ([], []), ([0, 1], [0, 1]), ([], []), ([], []), ([3, 4, 2], [3, 4]), ([2, 5, 0, 1, 2], [2]), ([5, 6, 0, 1, 2, 3, 4, 5, 6], [5])])
def w11_ShardWrites.B8 : List Nat := [0, 0, 3, 0, 0, 31, 63, 127]
theorem w11_ShardWrites.tab8 : rtab .any (opsOf Try.f7 8) = w11_ShardWrites.T8 := by kernel_rfl
theorem w11_ShardWrites.bits8 : waitsOk w11_ShardWrites.T8.2 w11_ShardWrites.B8 = true := by kernel_rfl
def w11_ShardWrites.T10 : Bool × List (List Nat × List Nat) := (true, [([], []), ([], []), ([0, 1], [0, 1]), ([2, 2], [2]), ([3], [3]), ([4, 3, 3], [3, 4]), ([3], [3]), ([6, 5, 3], [3, 6]), ([7, 3], [3, 7]), ([5, 8, 3], [3, 5, 8]), ([3, 9], [3, 9]), ([10, 7, 0, 1, 2, 3, 4, 5, 6, 7, 8, 9, 10], [10])])
def w11_ShardWrites.B10 : List Nat := [0, 0, 3, 7, 15, 31, 15, 127, 255, 511, 1023, 2047]
theorem w11_ShardWrites.tab10 : rtab .any (opsOf Try.f7 10) = w11_ShardWrites.T10 := by kernel_rfl
theorem w11_ShardWrites.bits10 : waitsOk w11_ShardWrites.T10.2 w11_ShardWrites.B10 = true := by kernel_rfl
def w11_ShardWrites.T16 : Bool × List (List Nat × List Nat) := (true, [([], []), ([], []), ([0, 1], [0, 1]), ([2], [2]), ([3], [3]), ([], []), ([5], [5]), ([4, 6], [4, 6]), ([7], [7]), ([8], [8]), ([8], [8]), ([9, 10, 8], [8, 9, 10]), ([11, 8], [8, 11]), ([12, 8], [8, 12]), ([8], [8]), ([14, 8], [8, 14]), ([13, 15, 8], [8, 13, 15]), ([8, 16], [8, 16])])
def w11_ShardWrites.B16 : List Nat := [0, 0, 3, 7, 15, 0, 32, 127, 255, 511, 511, 2047, 4095, 8191, 511, 16895, 65535, 131071]
theorem w11_ShardWrites.tab16 : rtab .any (opsOf Try.f7 16) = w11_ShardWrites.T16 := by kernel_rfl
theorem w11_ShardWrites.bits16 : waitsOk w11_ShardWrites.T16.2 w11_ShardWrites.B16 = true := by kernel_rfl
def w11_ShardWrites.T24 : Bool × List (List Nat × List Nat) := (true, [([], []), ([], []), ([0, 1], [0, 1]), ([2], [2]), ([3], [3]), ([], []), ([5], [5]), ([4, 6], [4, 6]), ([7], [7]), ([8], [8]), ([8], [8]), ([9, 10, 8], [8, 9, 10]), ([11, 8], [8, 11]), ([12, 8], [8, 12]), ([8], [8]), ([14, 8], [8, 14]), ([13, 15, 8], [8, 13, 15]), ([8, 16], [8, 16])])
def w11_ShardWrites.B24 : List Nat := [0, 0, 3, 7, 15, 0, 32, 127, 255, 511, 511, 2047, 4095, 8191, 511, 16895, 65535, 131071]
theorem w11_ShardWrites.tab24 : rtab .any (opsOf Try.f7 24) = w11_ShardWrites.T24 := by kernel_rfl
theorem w11_ShardWrites.bits24 : waitsOk w11_ShardWrites.T24.2 w11_ShardWrites.B24 = true := by kernel_rfl
def w11_ShardWrites.T25 : Bool × List (List Nat × List Nat) := (true, [([], []), ([], []), ([0, 1], [0, 1]), ([2], [2]), ([3], [3]), ([], []), ([], []), ([6], [6]), ([5, 7], [5, 7]), ([4, 8], [4, 8]), ([9, 8, 0, 1, 2, 3, 4, 5, 6, 7, 8, 9], [9])])
def w11_ShardWrites.B25 : List Nat := [0, 0, 3, 7, 15, 0, 0, 64, 224, 511, 1023]
theorem w11_ShardWrites.tab25 : rtab .any (opsOf Try.f7 25) = w11_ShardWrites.T25 := by kernel_rfl
theorem w11_ShardWrites.bits25 : waitsOk w11_ShardWrites.T25.2 w11_ShardWrites.B25 = true := by kernel_rfl
def w11_ShardWrites.T27 : Bool × List (List Nat × List Nat) := (true, [([], []), ([0], [0]), ([1], [1]), ([1], [1]), ([2, 3, 1, 1], [1, 2, 3]), ([1, 4], [1, 4]), ([5, 4], [5]), ([6], [6]), ([7, 6, 6], [6, 7]), ([6], [6]), ([9, 8, 6], [6, 9]), ([10, 6], [6, 10]), ([8, 11, 6], [6, 8, 11]), ([6, 12], [6, 12]), ([13, 10], [13]), ([14], [14]), ([15, 14, 14], [14, 15]), ([14, 16], [14, 16]), ([17, 16, 0, 1, 2, 3, 4, 5, 6, 7, 8, 9, 10, 11, 12, 13, 14, 15, 16, 17], [17])])
def w11_ShardWrites.B27 : List Nat := [0, 1, 3, 3, 15, 31, 63, 127, 255, 127, 1023, 2047, 4095, 8191, 16383, 32767, 65535, 131071, 262143]
theorem w11_ShardWrites.tab27 : rtab .any (opsOf Try.f7 27) = w11_ShardWrites.T27 := by kernel_rfl
theorem w11_ShardWrites.bits27 : waitsOk w11_ShardWrites.T27.2 w11_ShardWrites.B27 = true := by kernel_rfl
theorem w11_ShardWrites.calls (k : Nat) (A0_0 : Option Addr) (c0_0 : Nat) (l0_0 : List (S59)) (a1_0 : Int) (a1_1 : Int) (a1_2 : ByteArray) (a1_3 : Int) (a2 : Int) (r : Bool) (w : World) (hr0_0 : Kd.C k59 w A0_0 l0_0.length l0_0) (hc0_0 : l0_0.length ≤ c0_0) (h : w11_ShardWrites.f k l0_0 a1_0 a1_1 a1_2 a1_3 a2 = some r) :
 Calls Try.prog 7 #[.agg #[.slice A0_0 l0_0.length c0_0], .agg #[.int .i64 a1_0, .int .i64 a1_1, .string a1_2, .int .i64 a1_3], .int .i64 a2] w fun e w' => e = .returned (.bool r) ∧ Below w.heap.size w w' := by
 have hu24 := Try.underlying24
 have hu26 := Try.underlying26
 have hu52 := Try.underlying52
 have hu54 := Try.underlying54
 have HR0_0 := Aside0.mk hr0_0
 have HC0_0 := Aside0.mk hc0_0
 clear hr0_0 hc0_0
 have HB := Aside0.mk (Below.refl w.heap.size w)
 have H : ((w11_alive.f k).bind fun t358 => (if t358 = true then ((r11_Great.f k l0_0).bind fun t359 => (if t359 = true then (w11_ShardWrites.j0 k a2 true l0_0 a1_0 a1_1 a1_2 a1_3) else (w11_ShardWrites.j0 k a2 (decide ((a1_2.size : Int) > 300)) l0_0 a1_0 a1_1 a1_2 a1_3))) else (none))) = some r := h
 clear h
 obtain ⟨t358, A4, H⟩ := bs H
 try dsimp only at H
 by_cases c5 : t358 = true
 ·
  subst c5
  rw [if_pos rfl] at H
  have HC6 := Aside0.mk H
  clear H
  go_enter Try.func7, Try.ntmps7
  go_upto_region 3 with (first | ((with_reducible refine gate_dst (N := 3) rfl ?_); (try (refine gate_guard (by rfl) ?_; dsimp only)); refine bx (N := 3) #[.slice A0_0 l0_0.length c0_0] 24 ?_; intro gb356 hg w7 hbox hb; have BK356 := Aside0.mk (hbox); have GW356 := gw hg (uW HB.out); have GE356 := GW356; replace HB := cW HB hb; clear hb hbox hg) | ((with_reducible refine gate_dst (N := 4) rfl ?_); (try (refine gate_guard (by rfl) ?_; dsimp only)); refine bx (N := 4) #[.int .i64 a1_0, .int .i64 a1_1, .string a1_2, .int .i64 a1_3] 26 ?_; intro gb357 hg w8 hbox hb; have BK357 := Aside0.mk (hbox); have GW357 := gw hg bl; have GE357 := GW357; replace HB := Aside0.mk (below_step bl hb); have NB356_357 := Aside0.mk ((by rw [hg]; exact Nat.ne_of_lt (blk_lt (g := gb356) (o := .cells #[.slice A0_0 l0_0.length c0_0] 24 (0, 0)) (uB BK356.out)) : gb356 ≠ gb357)); have NB357_356 := Aside0.mk ((by rw [hg]; exact Nat.ne_of_gt (blk_lt (g := gb356) (o := .cells #[.slice A0_0 l0_0.length c0_0] 24 (0, 0)) (uB BK356.out)) : gb357 ≠ gb356)); replace BK356 := cB BK356 hb; clear hb hbox hg) | (refine gL (some 17) rfl Try.func8 #[] ?_; (with_reducible refine (w11_alive.calls k  true _ A4.out).mono ?_); rintro e w9 ⟨rfl, hb⟩; refine ⟨_, rfl, ?_⟩; replace BK356 := cB BK356 hb; replace BK357 := cB BK357 hb; replace HB := Aside0.mk (below_step bl hb); (try clear hb)))
  (try simp only [Act.put, List.setIfInBounds_toArray, List.set_cons_zero, List.set_cons_succ])
  go_cut [26] (fun v26 wc => ∃ (kq : Nat) (x26_5 : Bool), v26 = .bool x26_5 ∧ Aside0 (w11_ShardWrites.j0 kq a2 x26_5 l0_0 a1_0 a1_1 a1_2 a1_3 = some r) ∧ Aside0 (kq ≤ k) ∧ Aside0 (wc.heap[gb356]? = some (.cells #[(.slice A0_0 l0_0.length c0_0)] 24 (0, 0))) ∧ Aside0 (wc.heap[gb357]? = some (.cells #[.int .i64 a1_0, .int .i64 a1_1, .string a1_2, .int .i64 a1_3] 26 (0, 0))) ∧ Aside0 (Below w.heap.size w wc))
  case first =>
   have H := HC6.out
   clear HC6
   obtain ⟨t359, A10, H⟩ := bs H
   try dsimp only at H
   by_cases c11 : t359 = true
   ·
    subst c11
    rw [if_pos rfl] at H
    have H' := Aside0.mk H
    clear H
    have hnb12 := NB356_357.out
    have hnc12 := NB357_356.out
    obtain ⟨hcz13_0, hfz13_0⟩ := z1 BK356
    go_wp2_with (first | (refine gL (some 20) rfl Try.func9 #[.agg #[.slice A0_0 l0_0.length c0_0]] ?_; (with_reducible refine (r11_Great.calls k _ _ l0_0 true _ ?side1 ?side2 A10.out).mono ?_); (case side1 => exact uC <| (Kd.C_below HR0_0.out HB.out)); (case side2 => exact HC0_0.out); rintro e w14 ⟨rfl, hb⟩; refine ⟨_, rfl, ?_⟩; replace BK356 := cB BK356 hb; replace BK357 := cB BK357 hb; replace HB := Aside0.mk (below_step bl hb); (try clear hb)))
    go_meet
    case rel => exact ⟨_, (true), rs_, H', ⟨by first | omega | exact Nat.le_refl _⟩, ⟨uB BK356.out⟩, ⟨uB BK357.out⟩, ⟨bl⟩⟩
   ·
    replace c11 := Bool.eq_false_iff.mpr c11
    subst c11
    rw [if_neg (show ¬ (false = true) by decide)] at H
    have H' := Aside0.mk H
    clear H
    have hnb15 := NB356_357.out
    have hnc15 := NB357_356.out
    obtain ⟨hcz16_0, hfz16_0⟩ := z1 BK356
    go_wp2_with (first | (refine gL (some 20) rfl Try.func9 #[.agg #[.slice A0_0 l0_0.length c0_0]] ?_; (with_reducible refine (r11_Great.calls k _ _ l0_0 false _ ?side1 ?side2 A10.out).mono ?_); (case side1 => exact uC <| (Kd.C_below HR0_0.out HB.out)); (case side2 => exact HC0_0.out); rintro e w17 ⟨rfl, hb⟩; refine ⟨_, rfl, ?_⟩; replace BK356 := cB BK356 hb; replace BK357 := cB BK357 hb; replace HB := Aside0.mk (below_step bl hb); (try clear hb); obtain ⟨hcz18_0, hcz18_1, hcz18_2, hcz18_3, hfz18_0, hfz18_1, hfz18_2, hfz18_3⟩ := z4 BK357))
    go_meet
    case rel => exact ⟨_, (decide ((a1_2.size : Int) > 300)), rs_, H', ⟨by first | omega | exact Nat.le_refl _⟩, ⟨uB BK356.out⟩, ⟨uB BK357.out⟩, ⟨bl⟩⟩
  case rest =>
   clear HC6
   try clear c1
   try clear p2
   try clear c5
   try clear c7
   try clear c8
   try clear c9
   try clear c11
   try clear c12
   try clear c15
   try clear hcz13_0
   try clear hcz16_0
   try clear hcz18_0
   try clear hcz18_1
   try clear hcz18_2
   try clear hcz18_3
   try clear hfz13_0
   try clear hfz16_0
   try clear hfz18_0
   try clear hfz18_1
   try clear hfz18_2
   try clear hfz18_3
   obtain ⟨kq, x26_5, rfl, HA, HJ5, BK356, BK357, HB⟩ := hcut
   cases kq with
   | zero => exact absurd HA.out (by simp [w11_ShardWrites.j0])
   | succ kj5 =>
    have H := HA.out
    clear HA
    simp only [w11_ShardWrites.j0] at H
    by_cases c19 : x26_5 = true
    ·
     subst c19
     rw [if_pos rfl] at H
     obtain rfl := Option.some.inj H
     go_wp2
     go_ret
     exact ⟨re_, bl⟩
    ·
     replace c19 := Bool.eq_false_iff.mpr c19
     subst c19
     rw [if_neg (show ¬ (false = true) by decide)] at H
     obtain ⟨⟨t360, t363⟩, A20, H⟩ := bs H
     try dsimp only at H
     by_cases c21 : t363 = 0
     ·
      rw [if_pos c21] at H
      have c21b0 : (t363 == 0) = true := beq_iff_eq.mpr c21
      have c21b1 : (t363 != 0) = false := bne_eq_false_iff_eq.mpr c21
      clear c21
      obtain ⟨t365, A22, H⟩ := bs H
      try dsimp only at H
      obtain ⟨t368, A23, H⟩ := bs H
      try dsimp only at H
      by_cases c24 : a2 < a1_0
      ·
       rw [if_pos c24] at H
       have c24b0 : decide (a2 < a1_0) = true := decide_eq_true c24
       clear c24
       obtain ⟨t371, A25, H⟩ := bs H
       try dsimp only at H
       by_cases c26 : t371 = true
       ·
        subst c26
        rw [if_pos rfl] at H
        obtain ⟨t372, A27, H⟩ := bs H
        try dsimp only at H
        obtain ⟨t373, A28, H⟩ := bs H
        try dsimp only at H
        obtain rfl := Option.some.inj H
        have hnb29 := NB356_357.out
        have hnc29 := NB357_356.out
        obtain ⟨hcz30_0, hfz30_0⟩ := z1 BK356
        obtain ⟨hcz31_0, hcz31_1, hcz31_2, hcz31_3, hfz31_0, hfz31_1, hfz31_2, hfz31_3⟩ := z4 BK357
        try go_wp2_with (first | (refine gL (some 30) rfl Try.func11 #[.agg #[.slice A0_0 l0_0.length c0_0], .agg #[.int .i64 a1_0, .int .i64 a1_1, .string a1_2, .int .i64 a1_3]] ?_; (with_reducible refine (shard_Apply.calls kj5 (fun k_ => k_ < w.heap.size) _ _ l0_0 a1_0 a1_1 a1_2 a1_3 t360 t363 _ ?side1 A20.out).mono ?_); (case side1 => exact Kd.V_mk HC0_0.out (Kd.F_below (Kd.C_F k59_heap HR0_0.out) bl)); rintro e w32 ⟨v361, rfl, ho0, hb⟩; refine ⟨_, rfl, ?_⟩; have HO362 := Aside0.mk (Kd.N_lower (Kd.N_mono (ok' := fun k_ => k_ ≠ gb356 ∧ k_ ≠ gb357) ho0 (fun k_ hk_ => ⟨Or.elim hk_ (fun hs_ => fun e_ => Nat.not_le.2 hs_ (by rw [e_]; exact GW356.out)) (fun hn_ => (Kd.freshB (g := gb356) (o := .cells #[.slice A0_0 l0_0.length c0_0] 24 (0, 0)) (uB BK356.out) k_ hn_)), Or.elim hk_ (fun hs_ => fun e_ => Nat.not_le.2 hs_ (by rw [e_]; exact GW357.out)) (fun hn_ => (Kd.freshB (g := gb357) (o := .cells #[.int .i64 a1_0, .int .i64 a1_1, .string a1_2, .int .i64 a1_3] 26 (0, 0)) (uB BK357.out) k_ hn_))⟩)) (below_size bl)); replace BK356 := cB BK356 hb; replace BK357 := cB BK357 hb; replace HB := Aside0.mk (below_step bl hb); (try clear hb); (try clear ho0)) | ((with_reducible refine gate_dst (N := 7) rfl ?_); (try (refine gate_guard (by rfl) ?_; dsimp only)); refine bx (N := 7) #[.slice none 0 0] 24 ?_; intro gb364 hg w33 hbox hb; replace HO362 := Aside0.mk (Kd.N_below (Kd.N_elderB (by (with_reducible repeat (first | apply Kd.N_alloc | apply Kd.N_drewN | apply Kd.N_drew)); exact HO362.out) gb364 (Nat.le_of_eq hg.symm)) hb); have BK364 := Aside0.mk (hbox); have GW364 := gw hg bl; have GE364 := GW364; replace HB := Aside0.mk (below_step bl hb); have NB356_364 := Aside0.mk ((by rw [hg]; exact Nat.ne_of_lt (blk_lt (g := gb356) (o := .cells #[.slice A0_0 l0_0.length c0_0] 24 (0, 0)) (uB BK356.out)) : gb356 ≠ gb364)); have NB364_356 := Aside0.mk ((by rw [hg]; exact Nat.ne_of_gt (blk_lt (g := gb356) (o := .cells #[.slice A0_0 l0_0.length c0_0] 24 (0, 0)) (uB BK356.out)) : gb364 ≠ gb356)); replace BK356 := cB BK356 hb; have NB357_364 := Aside0.mk ((by rw [hg]; exact Nat.ne_of_lt (blk_lt (g := gb357) (o := .cells #[.int .i64 a1_0, .int .i64 a1_1, .string a1_2, .int .i64 a1_3] 26 (0, 0)) (uB BK357.out)) : gb357 ≠ gb364)); have NB364_357 := Aside0.mk ((by rw [hg]; exact Nat.ne_of_gt (blk_lt (g := gb357) (o := .cells #[.int .i64 a1_0, .int .i64 a1_1, .string a1_2, .int .i64 a1_3] 26 (0, 0)) (uB BK357.out)) : gb364 ≠ gb357)); replace BK357 := cB BK357 hb; clear hb hbox hg; obtain ⟨Ao34, co34, eo34⟩ := Kd.N_slice HO362.out; subst eo34; have hnb35 := NB364_356.out; have hnc35 := NB356_364.out; have hnb36 := NB364_357.out; have hnc36 := NB357_364.out; obtain ⟨hcz37_0, hfz37_0⟩ := z1 BK364))
        have n0_ : Aside0 (Kd.N k59 59 (w33.setCell ⟨gb364, 0, none⟩ (.slice Ao34 t360.length co34)) w.heap.size (fun k_ => k_ ≠ gb356 ∧ k_ ≠ gb357 ∧ k_ ≠ gb364) (.slice Ao34 t360.length co34) t360) := ⟨by (with_reducible repeat (first | apply Kd.N_alloc | apply Kd.N_drewN | apply Kd.N_drew)); exact Kd.N_mono (Kd.N_far (p := ⟨gb364, 0, none⟩) (Kd.N_mono HO362.out (fun k_ hk => (⟨hk, hk.2⟩ : _ ∧ k_ ≠ gb364))) (fun _ hk => hk.2) (.slice Ao34 t360.length co34)) (fun _ hk => ⟨hk.1.1.1, ⟨hk.1.1.2, hk.1.2⟩⟩)⟩
        have n1_ : Aside0 ((w33.setCell ⟨gb364, 0, none⟩ (.slice Ao34 t360.length co34)).heap[gb356]? = some (.cells #[.slice A0_0 l0_0.length c0_0] 24 (0, 0))) := ⟨by (with_reducible repeat (first | refine blk_drewN ?_ _ | refine blk_drew ?_ | refine blk_alloc ?_ _)); refine blk_far ?_ NB356_364.out _; exact uB <| BK356.out⟩
        have n2_ : Aside0 ((w33.setCell ⟨gb364, 0, none⟩ (.slice Ao34 t360.length co34)).heap[gb357]? = some (.cells #[.int .i64 a1_0, .int .i64 a1_1, .string a1_2, .int .i64 a1_3] 26 (0, 0))) := ⟨by (with_reducible repeat (first | refine blk_drewN ?_ _ | refine blk_drew ?_ | refine blk_alloc ?_ _)); refine blk_far ?_ NB357_364.out _; exact uB <| BK357.out⟩
        have n3_ : Aside0 ((w33.setCell ⟨gb364, 0, none⟩ (.slice Ao34 t360.length co34)).heap[gb364]? = some (.cells #[.slice Ao34 t360.length co34] 24 (0, 0))) := ⟨by (with_reducible repeat (first | refine blk_drewN ?_ _ | refine blk_drew ?_ | refine blk_alloc ?_ _)); refine blk_put (cs := #[.slice none 0 0]) ?_ 0 _ rfl; exact uB <| BK364.out⟩
        have n4_ : Aside0 (Below w.heap.size w (w33.setCell ⟨gb364, 0, none⟩ (.slice Ao34 t360.length co34))) := ⟨bl⟩
        (try clear HO362)
        (try clear BK356)
        (try clear BK357)
        (try clear BK364)
        (try clear HB)
        generalize (w33.setCell ⟨gb364, 0, none⟩ (.slice Ao34 t360.length co34)) = w38 at n0_ n1_ n2_ n3_ n4_ ⊢
        have HO362 := n0_
        have BK356 := n1_
        have BK357 := n2_
        have BK364 := n3_
        have HB := n4_
        clear n0_ n1_ n2_ n3_ n4_
        replace HO362 := Aside0.mk (Kd.N_drew HO362.out)
        replace BK356 := Aside0.mk (blk_drew BK356.out)
        replace BK357 := Aside0.mk (blk_drew BK357.out)
        replace BK364 := Aside0.mk (blk_drew BK364.out)
        replace HB := Aside0.mk (below_drew1 HB.out)
        refine start_ (n := 8) (S := fun w' => w'.cell? ⟨gb356, 0, none⟩ = some (.slice A0_0 l0_0.length c0_0) ∧ w'.cell? ⟨gb364, 0, none⟩ = some (.slice Ao34 t360.length co34)) (ds := []) _ (by kernel_rfl) rfl rfl ⟨(blk_cell BK356.out 0).trans rfl, (blk_cell BK364.out 0).trans rfl⟩ (fun hHeld => ?_); refine with_tabW w11_ShardWrites.tab8 w11_ShardWrites.bits8 (fun HT_ HW_ => ?_)
        generalize w38.drew = w39 at HO362 BK356 BK357 BK364 HB hHeld ⊢
        refine p1 1 (some 40) ?_
        refine p1 4 (some 43) ?_
        refine t1 0 (some 39) rfl rfl hHeld (Or.inl ⟨by rfl, by rintro w' ⟨s0, s1⟩; go_simp; with_reducible rfl⟩) ?_
        refine t1 3 (some 42) rfl rfl hHeld (Or.inl ⟨by rfl, by rintro w' ⟨s0, s1⟩; go_simp; with_reducible rfl⟩) ?_
        refine o1 2 (some 41) rfl rfl (fun K hK => ?_)
        refine gS Try.func16 #[.agg #[.slice A0_0 l0_0.length c0_0], .int .i64 a2, .slice none 0 0] ?_
        refine (shard_Read.calls kj5 _ _ l0_0 a2 _ _ ([] : List (S39)) t365 _ ?side1 ?side2 ?side3 ?side4 A22.out).mono ?_
        (case side1 => exact uC <| (Kd.C_below HR0_0.out HB.out))
        (case side2 => exact HC0_0.out)
        (case side3 => exact Kd.C_nil _ _)
        (case side4 => exact Nat.le_refl _)
        rintro e w40 ⟨v366, rfl, ho0, hb⟩
        refine ⟨_, rfl, ?_⟩
        replace HO362 := Aside0.mk (Kd.N_elder' (by (with_reducible repeat (first | apply Kd.N_alloc | apply Kd.N_drewN | apply Kd.N_drew)); exact HO362.out) (Kd.R_base ho0) hb)
        have HO367 := Aside0.mk (Kd.R_lower ho0 (below_size bl))
        replace BK356 := cB BK356 hb
        replace BK357 := cB BK357 hb
        replace BK364 := cB BK364 hb
        replace HB := Aside0.mk (below_step bl hb)
        (try clear hb)
        (try clear ho0)
        refine hK.out _ _ ⟨(blk_cell BK356.out 0).trans rfl, (blk_cell BK364.out 0).trans rfl⟩ (fun hHeld => ?_)
        clear hK K
        refine norm_ (a' := ?_) ?_ ?_
        rotate_left
        ·
         show Act.put _ (some 41) _ = _
         simp only [Act.put, List.setIfInBounds_toArray, List.set_cons_zero, List.set_cons_succ, i64_w, i32_w]
         rfl
        refine o1 5 (some 44) rfl rfl (fun K hK => ?_)
        refine gS Try.func16 #[.agg #[.slice Ao34 t360.length co34], .int .i64 a2, .slice none 0 0] ?_
        refine (shard_Read.calls kj5 _ _ t360 a2 _ _ ([] : List (S39)) t368 _ ?side1 ?side2 ?side3 ?side4 A23.out).mono ?_
        (case side1 => exact uC <| (Kd.N_reads' HO362.out).2.2)
        (case side2 => exact (Kd.N_reads' HO362.out).2.1)
        (case side3 => exact Kd.C_nil _ _)
        (case side4 => exact Nat.le_refl _)
        rintro e w41 ⟨v369, rfl, ho0, hb⟩
        refine ⟨_, rfl, ?_⟩
        replace HO362 := Aside0.mk (Kd.N_elder' (by (with_reducible repeat (first | apply Kd.N_alloc | apply Kd.N_drewN | apply Kd.N_drew)); exact HO362.out) (Kd.R_base ho0) hb)
        have HO370 := Aside0.mk (Kd.R_lower (Kd.R_new' ho0 (Kd.R_lt (uR HO367.out))) (below_size bl))
        replace HO367 := Aside0.mk (Kd.R_elder' (uR HO367.out) (Kd.R_base ho0) hb)
        replace BK356 := cB BK356 hb
        replace BK357 := cB BK357 hb
        replace BK364 := cB BK364 hb
        replace HB := Aside0.mk (below_step bl hb)
        (try clear hb)
        (try clear ho0)
        refine hK.out _ _ ⟨(blk_cell BK356.out 0).trans rfl, (blk_cell BK364.out 0).trans rfl⟩ (fun hHeld => ?_)
        clear hK K
        refine norm_ (a' := ?_) ?_ ?_
        rotate_left
        ·
         show Act.put _ (some 44) _ = _
         simp only [Act.put, List.setIfInBounds_toArray, List.set_cons_zero, List.set_cons_succ, i64_w, i32_w]
         rfl
        refine p1 6 (some 9) ?_
        refine p1 7 (some 10) ?_
        refine done_ (done_of HT_.out (by kernel_rfl)) ?_
        obtain ⟨hcz42_0, hcz42_1, hcz42_2, hcz42_3, hfz42_0, hfz42_1, hfz42_2, hfz42_3⟩ := z4 BK357
        try go_wp2
        replace HO362 := Aside0.mk (Kd.N_drew HO362.out)
        replace HO367 := Aside0.mk (Kd.R_drew HO367.out)
        replace HO370 := Aside0.mk (Kd.R_drew HO370.out)
        replace BK356 := Aside0.mk (blk_drew BK356.out)
        replace BK357 := Aside0.mk (blk_drew BK357.out)
        replace BK364 := Aside0.mk (blk_drew BK364.out)
        replace HB := Aside0.mk (below_drew1 HB.out)
        obtain ⟨Ao44, co44, eo44⟩ := Kd.R_slice HO367.out
        (first | subst eo44 | (injection eo44 with f1_ f2_ f3_; have f4_ := f1_.symm; have f5_ := f3_.symm; clear f1_ f2_ f3_; subst f4_; subst f5_))
        obtain ⟨Ao45, co45, eo45⟩ := Kd.R_slice HO370.out
        (first | subst eo45 | (injection eo45 with f1_ f2_ f3_; have f4_ := f1_.symm; have f5_ := f3_.symm; clear f1_ f2_ f3_; subst f4_; subst f5_))
        refine start_ (n := 12) (S := fun w' => w'.cell? ⟨gb364, 0, none⟩ = some (.slice Ao34 t360.length co34) ∧ w'.cell? ⟨gb356, 0, none⟩ = some (.slice A0_0 l0_0.length c0_0)) (ds := []) _ (by kernel_rfl) rfl rfl ⟨(blk_cell BK364.out 0).trans rfl, (blk_cell BK356.out 0).trans rfl⟩ (fun hHeld => ?_); refine with_tabW w11_ShardWrites.tab10 w11_ShardWrites.bits10 (fun HT_ HW_ => ?_)
        generalize w41.drew = w43 at HO362 HO367 HO370 BK356 BK357 BK364 HB hHeld ⊢
        refine p1 0 (some 49) ?_
        refine p1 1 (some 50) ?_
        refine o1 2 (some 51) rfl rfl (fun K hK => ?_)
        refine gS Try.func17 #[.slice Ao44 t365.length co44, .slice Ao45 t368.length co45] ?_
        with_reducible refine (r08_Items.calls kj5 _ _ t365 _ _ t368 true _ ?side1 ?side2 ?side3 ?side4 A25.out).mono ?_
        (case side1 => exact uC <| (Kd.R_reads' HO367.out).2.2)
        (case side2 => exact (Kd.R_reads' HO367.out).2.1)
        (case side3 => exact uC <| (Kd.R_reads' HO370.out).2.2)
        (case side4 => exact (Kd.R_reads' HO370.out).2.1)
        rintro e w' ⟨rfl, ⟨nd, rfl⟩⟩
        refine ⟨_, rfl, ?_⟩
        refine hK.out _ _ ⟨(blk_cell BK364.out 0).trans rfl, (blk_cell BK356.out 0).trans rfl⟩ (fun hHeld => ?_)
        clear hK K
        refine norm_ (a' := ?_) ?_ ?_
        rotate_left
        ·
         show Act.put _ (some 51) _ = _
         simp only [Act.put, List.setIfInBounds_toArray, List.set_cons_zero, List.set_cons_succ, i64_w, i32_w]
         rfl
        refine p1 3 (some 52) ?_
        refine t1 4 (some 53) rfl rfl hHeld (Or.inl ⟨by rfl, by rintro w' ⟨s0, s1⟩; go_simp; with_reducible rfl⟩) ?_
        refine t1 6 (some 55) rfl rfl hHeld (Or.inl ⟨by rfl, by rintro w' ⟨s0, s1⟩; go_simp; with_reducible rfl⟩) ?_
        refine o1 5 (some 54) rfl rfl (fun K hK => ?_)
        refine gS Try.func19 #[.agg #[.slice Ao34 t360.length co34]] ?_
        with_reducible refine (shard_Size.calls kj5 _ _ t360 t372 _ ?side1 ?side2 A27.out).mono ?_
        (case side1 => exact uC <| (Kd.N_reads' HO362.out).2.2)
        (case side2 => exact (Kd.N_reads' HO362.out).2.1)
        rintro e w46 ⟨rfl, hb⟩
        refine ⟨_, rfl, ?_⟩
        replace HO362 := Aside0.mk (Kd.N_below (by (with_reducible repeat (first | apply Kd.N_alloc | apply Kd.N_drewN | apply Kd.N_drew)); exact HO362.out) hb)
        replace HO367 := cR HO367 hb
        replace HO370 := cR HO370 hb
        replace BK356 := cB BK356 hb
        replace BK357 := cB BK357 hb
        replace BK364 := cB BK364 hb
        replace HB := Aside0.mk (below_step bl hb)
        (try clear hb)
        refine hK.out _ _ ⟨(blk_cell BK364.out 0).trans rfl, (blk_cell BK356.out 0).trans rfl⟩ (fun hHeld => ?_)
        clear hK K
        refine norm_ (a' := ?_) ?_ ?_
        rotate_left
        ·
         show Act.put _ (some 54) _ = _
         simp only [Act.put, List.setIfInBounds_toArray, List.set_cons_zero, List.set_cons_succ, i64_w, i32_w]
         rfl
        refine o1 7 (some 56) rfl rfl (fun K hK => ?_)
        refine gS Try.func19 #[.agg #[.slice A0_0 l0_0.length c0_0]] ?_
        with_reducible refine (shard_Size.calls kj5 _ _ l0_0 t373 _ ?side1 ?side2 A28.out).mono ?_
        (case side1 => exact uC <| (Kd.C_below HR0_0.out HB.out))
        (case side2 => exact HC0_0.out)
        rintro e w47 ⟨rfl, hb⟩
        refine ⟨_, rfl, ?_⟩
        replace HO362 := Aside0.mk (Kd.N_below (by (with_reducible repeat (first | apply Kd.N_alloc | apply Kd.N_drewN | apply Kd.N_drew)); exact HO362.out) hb)
        replace HO367 := cR HO367 hb
        replace HO370 := cR HO370 hb
        replace BK356 := cB BK356 hb
        replace BK357 := cB BK357 hb
        replace BK364 := cB BK364 hb
        replace HB := Aside0.mk (below_step bl hb)
        (try clear hb)
        refine hK.out _ _ ⟨(blk_cell BK364.out 0).trans rfl, (blk_cell BK356.out 0).trans rfl⟩ (fun hHeld => ?_)
        clear hK K
        refine norm_ (a' := ?_) ?_ ?_
        rotate_left
        ·
         show Act.put _ (some 56) _ = _
         simp only [Act.put, List.setIfInBounds_toArray, List.set_cons_zero, List.set_cons_succ, i64_w, i32_w]
         rfl
        refine p1 8 (some 57) ?_
        refine p1 9 (some 58) ?_
        refine p1 10 (some 59) ?_
        refine p1 11 (some 6) ?_
        refine done_ (done_of HT_.out (by kernel_rfl)) ?_
        try go_wp2
        go_ret
        exact ⟨re_, bl⟩
       ·
        replace c26 := Bool.eq_false_iff.mpr c26
        subst c26
        rw [if_neg (show ¬ (false = true) by decide)] at H
        exact absurd H (by simp)
      ·
       rw [if_neg c24] at H
       have c24b0 : decide (a2 < a1_0) = false := decide_eq_false c24
       clear c24
       have H' := Aside0.mk H
       clear H
       have hnb48 := NB356_357.out
       have hnc48 := NB357_356.out
       obtain ⟨hcz49_0, hfz49_0⟩ := z1 BK356
       obtain ⟨hcz50_0, hcz50_1, hcz50_2, hcz50_3, hfz50_0, hfz50_1, hfz50_2, hfz50_3⟩ := z4 BK357
       try go_wp2_with (first | (refine gL (some 30) rfl Try.func11 #[.agg #[.slice A0_0 l0_0.length c0_0], .agg #[.int .i64 a1_0, .int .i64 a1_1, .string a1_2, .int .i64 a1_3]] ?_; (with_reducible refine (shard_Apply.calls kj5 (fun k_ => k_ < w.heap.size) _ _ l0_0 a1_0 a1_1 a1_2 a1_3 t360 t363 _ ?side1 A20.out).mono ?_); (case side1 => exact Kd.V_mk HC0_0.out (Kd.F_below (Kd.C_F k59_heap HR0_0.out) bl)); rintro e w51 ⟨v361, rfl, ho0, hb⟩; refine ⟨_, rfl, ?_⟩; have HO362 := Aside0.mk (Kd.N_lower (Kd.N_mono (ok' := fun k_ => k_ ≠ gb356 ∧ k_ ≠ gb357) ho0 (fun k_ hk_ => ⟨Or.elim hk_ (fun hs_ => fun e_ => Nat.not_le.2 hs_ (by rw [e_]; exact GW356.out)) (fun hn_ => (Kd.freshB (g := gb356) (o := .cells #[.slice A0_0 l0_0.length c0_0] 24 (0, 0)) (uB BK356.out) k_ hn_)), Or.elim hk_ (fun hs_ => fun e_ => Nat.not_le.2 hs_ (by rw [e_]; exact GW357.out)) (fun hn_ => (Kd.freshB (g := gb357) (o := .cells #[.int .i64 a1_0, .int .i64 a1_1, .string a1_2, .int .i64 a1_3] 26 (0, 0)) (uB BK357.out) k_ hn_))⟩)) (below_size bl)); replace BK356 := cB BK356 hb; replace BK357 := cB BK357 hb; replace HB := Aside0.mk (below_step bl hb); (try clear hb); (try clear ho0)) | ((with_reducible refine gate_dst (N := 7) rfl ?_); (try (refine gate_guard (by rfl) ?_; dsimp only)); refine bx (N := 7) #[.slice none 0 0] 24 ?_; intro gb364 hg w52 hbox hb; replace HO362 := Aside0.mk (Kd.N_below (Kd.N_elderB (by (with_reducible repeat (first | apply Kd.N_alloc | apply Kd.N_drewN | apply Kd.N_drew)); exact HO362.out) gb364 (Nat.le_of_eq hg.symm)) hb); have BK364 := Aside0.mk (hbox); have GW364 := gw hg bl; have GE364 := GW364; replace HB := Aside0.mk (below_step bl hb); have NB356_364 := Aside0.mk ((by rw [hg]; exact Nat.ne_of_lt (blk_lt (g := gb356) (o := .cells #[.slice A0_0 l0_0.length c0_0] 24 (0, 0)) (uB BK356.out)) : gb356 ≠ gb364)); have NB364_356 := Aside0.mk ((by rw [hg]; exact Nat.ne_of_gt (blk_lt (g := gb356) (o := .cells #[.slice A0_0 l0_0.length c0_0] 24 (0, 0)) (uB BK356.out)) : gb364 ≠ gb356)); replace BK356 := cB BK356 hb; have NB357_364 := Aside0.mk ((by rw [hg]; exact Nat.ne_of_lt (blk_lt (g := gb357) (o := .cells #[.int .i64 a1_0, .int .i64 a1_1, .string a1_2, .int .i64 a1_3] 26 (0, 0)) (uB BK357.out)) : gb357 ≠ gb364)); have NB364_357 := Aside0.mk ((by rw [hg]; exact Nat.ne_of_gt (blk_lt (g := gb357) (o := .cells #[.int .i64 a1_0, .int .i64 a1_1, .string a1_2, .int .i64 a1_3] 26 (0, 0)) (uB BK357.out)) : gb364 ≠ gb357)); replace BK357 := cB BK357 hb; clear hb hbox hg; obtain ⟨Ao53, co53, eo53⟩ := Kd.N_slice HO362.out; subst eo53; have hnb54 := NB364_356.out; have hnc54 := NB356_364.out; have hnb55 := NB364_357.out; have hnc55 := NB357_364.out; obtain ⟨hcz56_0, hfz56_0⟩ := z1 BK364))
       have n0_ : Aside0 (Kd.N k59 59 (w52.setCell ⟨gb364, 0, none⟩ (.slice Ao53 t360.length co53)) w.heap.size (fun k_ => k_ ≠ gb356 ∧ k_ ≠ gb357 ∧ k_ ≠ gb364) (.slice Ao53 t360.length co53) t360) := ⟨by (with_reducible repeat (first | apply Kd.N_alloc | apply Kd.N_drewN | apply Kd.N_drew)); exact Kd.N_mono (Kd.N_far (p := ⟨gb364, 0, none⟩) (Kd.N_mono HO362.out (fun k_ hk => (⟨hk, hk.2⟩ : _ ∧ k_ ≠ gb364))) (fun _ hk => hk.2) (.slice Ao53 t360.length co53)) (fun _ hk => ⟨hk.1.1.1, ⟨hk.1.1.2, hk.1.2⟩⟩)⟩
       have n1_ : Aside0 ((w52.setCell ⟨gb364, 0, none⟩ (.slice Ao53 t360.length co53)).heap[gb356]? = some (.cells #[.slice A0_0 l0_0.length c0_0] 24 (0, 0))) := ⟨by (with_reducible repeat (first | refine blk_drewN ?_ _ | refine blk_drew ?_ | refine blk_alloc ?_ _)); refine blk_far ?_ NB356_364.out _; exact uB <| BK356.out⟩
       have n2_ : Aside0 ((w52.setCell ⟨gb364, 0, none⟩ (.slice Ao53 t360.length co53)).heap[gb357]? = some (.cells #[.int .i64 a1_0, .int .i64 a1_1, .string a1_2, .int .i64 a1_3] 26 (0, 0))) := ⟨by (with_reducible repeat (first | refine blk_drewN ?_ _ | refine blk_drew ?_ | refine blk_alloc ?_ _)); refine blk_far ?_ NB357_364.out _; exact uB <| BK357.out⟩
       have n3_ : Aside0 ((w52.setCell ⟨gb364, 0, none⟩ (.slice Ao53 t360.length co53)).heap[gb364]? = some (.cells #[.slice Ao53 t360.length co53] 24 (0, 0))) := ⟨by (with_reducible repeat (first | refine blk_drewN ?_ _ | refine blk_drew ?_ | refine blk_alloc ?_ _)); refine blk_put (cs := #[.slice none 0 0]) ?_ 0 _ rfl; exact uB <| BK364.out⟩
       have n4_ : Aside0 (Below w.heap.size w (w52.setCell ⟨gb364, 0, none⟩ (.slice Ao53 t360.length co53))) := ⟨bl⟩
       (try clear HO362)
       (try clear BK356)
       (try clear BK357)
       (try clear BK364)
       (try clear HB)
       generalize (w52.setCell ⟨gb364, 0, none⟩ (.slice Ao53 t360.length co53)) = w57 at n0_ n1_ n2_ n3_ n4_ ⊢
       have HO362 := n0_
       have BK356 := n1_
       have BK357 := n2_
       have BK364 := n3_
       have HB := n4_
       clear n0_ n1_ n2_ n3_ n4_
       replace HO362 := Aside0.mk (Kd.N_drew HO362.out)
       replace BK356 := Aside0.mk (blk_drew BK356.out)
       replace BK357 := Aside0.mk (blk_drew BK357.out)
       replace BK364 := Aside0.mk (blk_drew BK364.out)
       replace HB := Aside0.mk (below_drew1 HB.out)
       refine start_ (n := 8) (S := fun w' => w'.cell? ⟨gb356, 0, none⟩ = some (.slice A0_0 l0_0.length c0_0) ∧ w'.cell? ⟨gb364, 0, none⟩ = some (.slice Ao53 t360.length co53)) (ds := []) _ (by kernel_rfl) rfl rfl ⟨(blk_cell BK356.out 0).trans rfl, (blk_cell BK364.out 0).trans rfl⟩ (fun hHeld => ?_); refine with_tabW w11_ShardWrites.tab8 w11_ShardWrites.bits8 (fun HT_ HW_ => ?_)
       generalize w57.drew = w58 at HO362 BK356 BK357 BK364 HB hHeld ⊢
       refine p1 1 (some 40) ?_
       refine p1 4 (some 43) ?_
       refine t1 0 (some 39) rfl rfl hHeld (Or.inl ⟨by rfl, by rintro w' ⟨s0, s1⟩; go_simp; with_reducible rfl⟩) ?_
       refine t1 3 (some 42) rfl rfl hHeld (Or.inl ⟨by rfl, by rintro w' ⟨s0, s1⟩; go_simp; with_reducible rfl⟩) ?_
       refine o1 2 (some 41) rfl rfl (fun K hK => ?_)
       refine gS Try.func16 #[.agg #[.slice A0_0 l0_0.length c0_0], .int .i64 a2, .slice none 0 0] ?_
       refine (shard_Read.calls kj5 _ _ l0_0 a2 _ _ ([] : List (S39)) t365 _ ?side1 ?side2 ?side3 ?side4 A22.out).mono ?_
       (case side1 => exact uC <| (Kd.C_below HR0_0.out HB.out))
       (case side2 => exact HC0_0.out)
       (case side3 => exact Kd.C_nil _ _)
       (case side4 => exact Nat.le_refl _)
       rintro e w59 ⟨v366, rfl, ho0, hb⟩
       refine ⟨_, rfl, ?_⟩
       replace HO362 := Aside0.mk (Kd.N_elder' (by (with_reducible repeat (first | apply Kd.N_alloc | apply Kd.N_drewN | apply Kd.N_drew)); exact HO362.out) (Kd.R_base ho0) hb)
       have HO367 := Aside0.mk (Kd.R_lower ho0 (below_size bl))
       replace BK356 := cB BK356 hb
       replace BK357 := cB BK357 hb
       replace BK364 := cB BK364 hb
       replace HB := Aside0.mk (below_step bl hb)
       (try clear hb)
       (try clear ho0)
       refine hK.out _ _ ⟨(blk_cell BK356.out 0).trans rfl, (blk_cell BK364.out 0).trans rfl⟩ (fun hHeld => ?_)
       clear hK K
       refine norm_ (a' := ?_) ?_ ?_
       rotate_left
       ·
        show Act.put _ (some 41) _ = _
        simp only [Act.put, List.setIfInBounds_toArray, List.set_cons_zero, List.set_cons_succ, i64_w, i32_w]
        rfl
       refine o1 5 (some 44) rfl rfl (fun K hK => ?_)
       refine gS Try.func16 #[.agg #[.slice Ao53 t360.length co53], .int .i64 a2, .slice none 0 0] ?_
       refine (shard_Read.calls kj5 _ _ t360 a2 _ _ ([] : List (S39)) t368 _ ?side1 ?side2 ?side3 ?side4 A23.out).mono ?_
       (case side1 => exact uC <| (Kd.N_reads' HO362.out).2.2)
       (case side2 => exact (Kd.N_reads' HO362.out).2.1)
       (case side3 => exact Kd.C_nil _ _)
       (case side4 => exact Nat.le_refl _)
       rintro e w60 ⟨v369, rfl, ho0, hb⟩
       refine ⟨_, rfl, ?_⟩
       replace HO362 := Aside0.mk (Kd.N_elder' (by (with_reducible repeat (first | apply Kd.N_alloc | apply Kd.N_drewN | apply Kd.N_drew)); exact HO362.out) (Kd.R_base ho0) hb)
       have HO370 := Aside0.mk (Kd.R_lower (Kd.R_new' ho0 (Kd.R_lt (uR HO367.out))) (below_size bl))
       replace HO367 := Aside0.mk (Kd.R_elder' (uR HO367.out) (Kd.R_base ho0) hb)
       replace BK356 := cB BK356 hb
       replace BK357 := cB BK357 hb
       replace BK364 := cB BK364 hb
       replace HB := Aside0.mk (below_step bl hb)
       (try clear hb)
       (try clear ho0)
       refine hK.out _ _ ⟨(blk_cell BK356.out 0).trans rfl, (blk_cell BK364.out 0).trans rfl⟩ (fun hHeld => ?_)
       clear hK K
       refine norm_ (a' := ?_) ?_ ?_
       rotate_left
       ·
        show Act.put _ (some 44) _ = _
        simp only [Act.put, List.setIfInBounds_toArray, List.set_cons_zero, List.set_cons_succ, i64_w, i32_w]
        rfl
       refine p1 6 (some 9) ?_
       refine p1 7 (some 10) ?_
       refine done_ (done_of HT_.out (by kernel_rfl)) ?_
       obtain ⟨hcz61_0, hcz61_1, hcz61_2, hcz61_3, hfz61_0, hfz61_1, hfz61_2, hfz61_3⟩ := z4 BK357
       try go_wp2_with (first | ((with_reducible refine gate_dst (N := 11) rfl ?_); (try (refine gate_guard (by rfl) ?_; dsimp only)); refine bx (N := 11) #[.int .i64 0, .int .i64 0, .bool false, .int .i64 0, .int .i64 0] 52 ?_; intro gb374 hg w62 hbox hb; replace HO362 := Aside0.mk (Kd.N_below (Kd.N_elderB (by (with_reducible repeat (first | apply Kd.N_alloc | apply Kd.N_drewN | apply Kd.N_drew)); exact HO362.out) gb374 (Nat.le_of_eq hg.symm)) hb); replace HO367 := cR HO367 hb; replace HO370 := cR HO370 hb; have BK374 := Aside0.mk (hbox); have GW374 := gw hg bl; have GE374 := GW374; replace HB := Aside0.mk (below_step bl hb); have NB356_374 := Aside0.mk ((by rw [hg]; exact Nat.ne_of_lt (blk_lt (g := gb356) (o := .cells #[.slice A0_0 l0_0.length c0_0] 24 (0, 0)) (uB BK356.out)) : gb356 ≠ gb374)); have NB374_356 := Aside0.mk ((by rw [hg]; exact Nat.ne_of_gt (blk_lt (g := gb356) (o := .cells #[.slice A0_0 l0_0.length c0_0] 24 (0, 0)) (uB BK356.out)) : gb374 ≠ gb356)); replace BK356 := cB BK356 hb; have NB357_374 := Aside0.mk ((by rw [hg]; exact Nat.ne_of_lt (blk_lt (g := gb357) (o := .cells #[.int .i64 a1_0, .int .i64 a1_1, .string a1_2, .int .i64 a1_3] 26 (0, 0)) (uB BK357.out)) : gb357 ≠ gb374)); have NB374_357 := Aside0.mk ((by rw [hg]; exact Nat.ne_of_gt (blk_lt (g := gb357) (o := .cells #[.int .i64 a1_0, .int .i64 a1_1, .string a1_2, .int .i64 a1_3] 26 (0, 0)) (uB BK357.out)) : gb374 ≠ gb357)); replace BK357 := cB BK357 hb; have NB364_374 := Aside0.mk ((by rw [hg]; exact Nat.ne_of_lt (blk_lt (g := gb364) (o := .cells #[.slice Ao53 t360.length co53] 24 (0, 0)) (uB BK364.out)) : gb364 ≠ gb374)); have NB374_364 := Aside0.mk ((by rw [hg]; exact Nat.ne_of_gt (blk_lt (g := gb364) (o := .cells #[.slice Ao53 t360.length co53] 24 (0, 0)) (uB BK364.out)) : gb374 ≠ gb364)); replace BK364 := cB BK364 hb; clear hb hbox hg; have hnb63 := NB374_356.out; have hnc63 := NB356_374.out; have hnb64 := NB374_357.out; have hnc64 := NB357_374.out; have hnb65 := NB374_364.out; have hnc65 := NB364_374.out; obtain ⟨hcz66_0, hcz66_1, hcz66_2, hcz66_3, hcz66_4, hfz66_0, hfz66_1, hfz66_2, hfz66_3, hfz66_4⟩ := z5 BK374) | ((with_reducible refine gate_store (t := 52) (p := 11) rfl ?_); refine store_event (t := 52) (p := 11) (v := ?vo_w67) (w1 := (((((w62.setCell ⟨gb374, 0, none⟩ (.int .i64 0)).setCell ⟨gb374, 1, none⟩ (.int .i64 0)).setCell ⟨gb374, 2, none⟩ (.bool false)).setCell ⟨gb374, 3, none⟩ (.int .i64 0)).setCell ⟨gb374, 4, none⟩ (.int .i64 0))) ?hg ?ho ?hn ?hr ?_; (case ho => rfl); (case hg => rfl); (case hn => rfl); (case hr => first | (go_simp; done) | (go_simp; rfl)); intro w67 hw; have n0_ : Aside0 (Kd.N k59 59 w67 w.heap.size (fun k_ => some k_ ≠ (v366 : Value).ownBlock ∧ some k_ ≠ (v369 : Value).ownBlock ∧ k_ ≠ gb356 ∧ k_ ≠ gb357 ∧ k_ ≠ gb364 ∧ k_ ≠ gb374) (.slice Ao53 t360.length co53) t360) := ⟨(by rw [hw]; exact (by (with_reducible repeat (first | apply Kd.N_alloc | apply Kd.N_drewN | apply Kd.N_drew)); exact Kd.N_mono (Kd.N_far (p := ⟨gb374, 4, none⟩) (Kd.N_far (p := ⟨gb374, 3, none⟩) (Kd.N_far (p := ⟨gb374, 2, none⟩) (Kd.N_far (p := ⟨gb374, 1, none⟩) (Kd.N_far (p := ⟨gb374, 0, none⟩) (Kd.N_mono HO362.out (fun k_ hk => (⟨hk, hk.2⟩ : _ ∧ k_ ≠ gb374))) (fun _ hk => hk.2) (.int .i64 0)) (fun _ hk => hk.2) (.int .i64 0)) (fun _ hk => hk.2) (.bool false)) (fun _ hk => hk.2) (.int .i64 0)) (fun _ hk => hk.2) (.int .i64 0)) (fun _ hk => ⟨hk.1.1.1.2, ⟨hk.1.1.2, ⟨hk.1.1.1.1.1, ⟨hk.1.1.1.1.2.1, ⟨hk.1.1.1.1.2.2, hk.1.2⟩⟩⟩⟩⟩)))⟩; have n1_ : Aside0 (Kd.R k54 54 w67 w.heap.size (fun k_ => some k_ ≠ (v369 : Value).ownBlock) v366 t365) := ⟨(by rw [hw]; exact (by exact uR <| Kd.R_mono (Kd.R_far (p := ⟨gb374, 4, none⟩) (Kd.R_far (p := ⟨gb374, 3, none⟩) (Kd.R_far (p := ⟨gb374, 2, none⟩) (Kd.R_far (p := ⟨gb374, 1, none⟩) (Kd.R_far (p := ⟨gb374, 0, none⟩) (Kd.R_types HO367.out BK374.out (by decide)) (fun _ hk => hk.2) (.int .i64 0)) (fun _ hk => hk.2) (.int .i64 0)) (fun _ hk => hk.2) (.bool false)) (fun _ hk => hk.2) (.int .i64 0)) (fun _ hk => hk.2) (.int .i64 0)) (fun _ hk => hk.1.2)))⟩; have n2_ : Aside0 (Kd.R k54 54 w67 w.heap.size (fun k_ => some k_ ≠ (v366 : Value).ownBlock) v369 t368) := ⟨(by rw [hw]; exact (by exact uR <| Kd.R_mono (Kd.R_far (p := ⟨gb374, 4, none⟩) (Kd.R_far (p := ⟨gb374, 3, none⟩) (Kd.R_far (p := ⟨gb374, 2, none⟩) (Kd.R_far (p := ⟨gb374, 1, none⟩) (Kd.R_far (p := ⟨gb374, 0, none⟩) (Kd.R_types HO370.out BK374.out (by decide)) (fun _ hk => hk.2) (.int .i64 0)) (fun _ hk => hk.2) (.int .i64 0)) (fun _ hk => hk.2) (.bool false)) (fun _ hk => hk.2) (.int .i64 0)) (fun _ hk => hk.2) (.int .i64 0)) (fun _ hk => hk.1.2)))⟩; have n3_ : Aside0 (w67.heap[gb356]? = some (.cells #[.slice A0_0 l0_0.length c0_0] 24 (0, 0))) := ⟨(by rw [hw]; exact (by (with_reducible repeat (first | refine blk_drewN ?_ _ | refine blk_drew ?_ | refine blk_alloc ?_ _)); refine blk_far ?_ NB356_374.out _; (with_reducible repeat (first | refine blk_drewN ?_ _ | refine blk_drew ?_ | refine blk_alloc ?_ _)); refine blk_far ?_ NB356_374.out _; (with_reducible repeat (first | refine blk_drewN ?_ _ | refine blk_drew ?_ | refine blk_alloc ?_ _)); refine blk_far ?_ NB356_374.out _; (with_reducible repeat (first | refine blk_drewN ?_ _ | refine blk_drew ?_ | refine blk_alloc ?_ _)); refine blk_far ?_ NB356_374.out _; (with_reducible repeat (first | refine blk_drewN ?_ _ | refine blk_drew ?_ | refine blk_alloc ?_ _)); refine blk_far ?_ NB356_374.out _; exact uB <| BK356.out))⟩; have n4_ : Aside0 (w67.heap[gb357]? = some (.cells #[.int .i64 a1_0, .int .i64 a1_1, .string a1_2, .int .i64 a1_3] 26 (0, 0))) := ⟨(by rw [hw]; exact (by (with_reducible repeat (first | refine blk_drewN ?_ _ | refine blk_drew ?_ | refine blk_alloc ?_ _)); refine blk_far ?_ NB357_374.out _; (with_reducible repeat (first | refine blk_drewN ?_ _ | refine blk_drew ?_ | refine blk_alloc ?_ _)); refine blk_far ?_ NB357_374.out _; (with_reducible repeat (first | refine blk_drewN ?_ _ | refine blk_drew ?_ | refine blk_alloc ?_ _)); refine blk_far ?_ NB357_374.out _; (with_reducible repeat (first | refine blk_drewN ?_ _ | refine blk_drew ?_ | refine blk_alloc ?_ _)); refine blk_far ?_ NB357_374.out _; (with_reducible repeat (first | refine blk_drewN ?_ _ | refine blk_drew ?_ | refine blk_alloc ?_ _)); refine blk_far ?_ NB357_374.out _; exact uB <| BK357.out))⟩; have n5_ : Aside0 (w67.heap[gb364]? = some (.cells #[.slice Ao53 t360.length co53] 24 (0, 0))) := ⟨(by rw [hw]; exact (by (with_reducible repeat (first | refine blk_drewN ?_ _ | refine blk_drew ?_ | refine blk_alloc ?_ _)); refine blk_far ?_ NB364_374.out _; (with_reducible repeat (first | refine blk_drewN ?_ _ | refine blk_drew ?_ | refine blk_alloc ?_ _)); refine blk_far ?_ NB364_374.out _; (with_reducible repeat (first | refine blk_drewN ?_ _ | refine blk_drew ?_ | refine blk_alloc ?_ _)); refine blk_far ?_ NB364_374.out _; (with_reducible repeat (first | refine blk_drewN ?_ _ | refine blk_drew ?_ | refine blk_alloc ?_ _)); refine blk_far ?_ NB364_374.out _; (with_reducible repeat (first | refine blk_drewN ?_ _ | refine blk_drew ?_ | refine blk_alloc ?_ _)); refine blk_far ?_ NB364_374.out _; exact uB <| BK364.out))⟩; have n6_ : Aside0 (w67.heap[gb374]? = some (.cells #[.int .i64 0, .int .i64 0, .bool false, .int .i64 0, .int .i64 0] 52 (0, 0))) := ⟨(by rw [hw]; exact (by (with_reducible repeat (first | refine blk_drewN ?_ _ | refine blk_drew ?_ | refine blk_alloc ?_ _)); refine blk_put (cs := #[.int .i64 0, .int .i64 0, .bool false, .int .i64 0, .int .i64 0]) ?_ 4 _ rfl; (with_reducible repeat (first | refine blk_drewN ?_ _ | refine blk_drew ?_ | refine blk_alloc ?_ _)); refine blk_put (cs := #[.int .i64 0, .int .i64 0, .bool false, .int .i64 0, .int .i64 0]) ?_ 3 _ rfl; (with_reducible repeat (first | refine blk_drewN ?_ _ | refine blk_drew ?_ | refine blk_alloc ?_ _)); refine blk_put (cs := #[.int .i64 0, .int .i64 0, .bool false, .int .i64 0, .int .i64 0]) ?_ 2 _ rfl; (with_reducible repeat (first | refine blk_drewN ?_ _ | refine blk_drew ?_ | refine blk_alloc ?_ _)); refine blk_put (cs := #[.int .i64 0, .int .i64 0, .bool false, .int .i64 0, .int .i64 0]) ?_ 1 _ rfl; (with_reducible repeat (first | refine blk_drewN ?_ _ | refine blk_drew ?_ | refine blk_alloc ?_ _)); refine blk_put (cs := #[.int .i64 0, .int .i64 0, .bool false, .int .i64 0, .int .i64 0]) ?_ 0 _ rfl; exact uB <| BK374.out))⟩; have n7_ : Aside0 (Below w.heap.size w w67) := ⟨(by rw [hw]; exact bl)⟩; clear hw; clear HO362; clear HO367; clear HO370; clear BK356; clear BK357; clear BK364; clear BK374; clear HB; have HO362 := n0_; have HO367 := n1_; have HO370 := n2_; have BK356 := n3_; have BK357 := n4_; have BK364 := n5_; have BK374 := n6_; have HB := n7_; clear n0_ n1_ n2_ n3_ n4_ n5_ n6_ n7_))
       go_loopg [12, 13] kj5 (fun kq v12 v13 w' => ∃ (x12_2 : List (S54)) (x13_2 : Int) (x375000_2 : Int) (x375001_2 : Int) (x375002_2 : Bool) (x375003_2 : Int) (x375004_2 : Int), v13 = .int .i64 x13_2 ∧ Aside0 (w11_ShardWrites.l0 kq t365 t368 x12_2 x13_2 l0_0 a1_0 a1_1 a1_2 a1_3 t360 x375000_2 x375001_2 x375002_2 x375003_2 x375004_2 = some r) ∧ Aside0 (kq ≤ kj5) ∧ Aside0 (Kd.R k54 54 w' w.heap.size (fun k_ => some k_ ≠ (v369 : Value).ownBlock ∧ some k_ ≠ (v12 : Value).ownBlock) v366 t365) ∧ Aside0 (Kd.R k54 54 w' w.heap.size (fun k_ => some k_ ≠ (v366 : Value).ownBlock ∧ some k_ ≠ (v12 : Value).ownBlock) v369 t368) ∧ Aside0 (Kd.R k54 54 w' w.heap.size (fun k_ => some k_ ≠ (v366 : Value).ownBlock ∧ some k_ ≠ (v369 : Value).ownBlock) v12 x12_2) ∧ Aside0 (Kd.N k59 59 w' w.heap.size (fun k_ => some k_ ≠ (v366 : Value).ownBlock ∧ some k_ ≠ (v369 : Value).ownBlock ∧ some k_ ≠ (v12 : Value).ownBlock ∧ k_ ≠ gb356 ∧ k_ ≠ gb357 ∧ k_ ≠ gb364 ∧ k_ ≠ gb374) (.slice Ao53 t360.length co53) t360) ∧ Aside0 (w'.heap[gb356]? = some (.cells #[(.slice A0_0 l0_0.length c0_0)] 24 (0, 0))) ∧ Aside0 (w'.heap[gb357]? = some (.cells #[.int .i64 a1_0, .int .i64 a1_1, .string a1_2, .int .i64 a1_3] 26 (0, 0))) ∧ Aside0 (w'.heap[gb364]? = some (.cells #[(.slice Ao53 t360.length co53)] 24 (0, 0))) ∧ Aside0 (w'.heap[gb374]? = some (.cells #[.int .i64 x375000_2, .int .i64 x375001_2, .bool x375002_2, .int .i64 x375003_2, .int .i64 x375004_2] 52 (0, 0))) ∧ Aside0 (Below w.heap.size w w'))
       case atStart => exact ⟨(([] : List (S54))), (0), (0), (0), (false), (0), (0), rs_, H', ⟨Nat.le_refl _⟩, ⟨by exact uR <| Kd.R_mono HO367.out (fun _ hk => ⟨hk, (by simp [Value.ownBlock])⟩)⟩, ⟨by exact uR <| Kd.R_mono HO370.out (fun _ hk => ⟨hk, (by simp [Value.ownBlock])⟩)⟩, ⟨nl_⟩, ⟨by (with_reducible repeat (first | apply Kd.N_alloc | apply Kd.N_drewN | apply Kd.N_drew)); exact Kd.N_mono HO362.out (fun _ hk => ⟨hk.1, ⟨hk.2.1, ⟨(by simp [Value.ownBlock]), ⟨hk.2.2.1, ⟨hk.2.2.2.1, ⟨hk.2.2.2.2.1, hk.2.2.2.2.2⟩⟩⟩⟩⟩⟩)⟩, ⟨uB BK356.out⟩, ⟨uB BK357.out⟩, ⟨uB BK364.out⟩, ⟨uB BK374.out⟩, ⟨bl⟩⟩
       case round =>
        clear H'
        try clear c1
        try clear c2
        try clear p2
        try clear c3
        try clear c4
        try clear c5
        try clear c6
        try clear p6
        try clear c11
        try clear c16
        try clear c17
        try clear c19
        try clear c24
        try clear c24b0
        try clear c26
        try clear c29
        try clear c35
        try clear c36
        try clear c48
        try clear c54
        try clear c55
        try clear c63
        try clear c64
        try clear p64
        try clear c65
        try clear hcz30_0
        try clear hcz31_0
        try clear hcz31_1
        try clear hcz31_2
        try clear hcz31_3
        try clear hcz37_0
        try clear hcz42_0
        try clear hcz42_1
        try clear hcz42_2
        try clear hcz42_3
        try clear hcz49_0
        try clear hcz50_0
        try clear hcz50_1
        try clear hcz50_2
        try clear hcz50_3
        try clear hcz56_0
        try clear hcz61_0
        try clear hcz61_1
        try clear hcz61_2
        try clear hcz61_3
        try clear hcz66_0
        try clear hcz66_1
        try clear hcz66_2
        try clear hcz66_3
        try clear hcz66_4
        try clear hfz30_0
        try clear hfz31_0
        try clear hfz31_1
        try clear hfz31_2
        try clear hfz31_3
        try clear hfz37_0
        try clear hfz42_0
        try clear hfz42_1
        try clear hfz42_2
        try clear hfz42_3
        try clear hfz49_0
        try clear hfz50_0
        try clear hfz50_1
        try clear hfz50_2
        try clear hfz50_3
        try clear hfz56_0
        try clear hfz61_0
        try clear hfz61_1
        try clear hfz61_2
        try clear hfz61_3
        try clear hfz66_0
        try clear hfz66_1
        try clear hfz66_2
        try clear hfz66_3
        try clear hfz66_4
        obtain ⟨x12_2, x13_2, x375000_2, x375001_2, x375002_2, x375003_2, x375004_2, rfl, HA, HK2, HO_9, HO_10, HO_12, HO_365000, BK356, BK357, BK364, BK374, HB⟩ := hrel
        cases gk with
        | zero => exact absurd HA.out (by simp [w11_ShardWrites.l0])
        | succ k2 =>
         have H := HA.out
         clear HA
         simp only [w11_ShardWrites.l0] at H
         by_cases c68 : x13_2 < (t365.length : Int)
         ·
          rw [if_pos c68] at H
          have c68b0 : decide (x13_2 < (t365.length : Int)) = true := decide_eq_true c68
          clear c68
          by_cases c69 : 0 ≤ x13_2
          ·
           rw [if_pos c69] at H
           have c69b0 : decide (0 ≤ x13_2) = true := decide_eq_true c69
           clear c69
           by_cases c70 : ((rd_T54 t365 x13_2).f0) = a1_1
           ·
            rw [if_pos c70] at H
            have c70b0 : (((rd_T54 t365 x13_2).f0) == a1_1) = true := beq_iff_eq.mpr c70
            have c70b1 : (((rd_T54 t365 x13_2).f0) != a1_1) = false := bne_eq_false_iff_eq.mpr c70
            clear c70
            by_cases c71 : ((rd_T54 t365 x13_2).f1).toList = a1_2.toList
            ·
             rw [if_pos c71] at H
             have c71b0 : (((rd_T54 t365 x13_2).f1).toList == a1_2.toList) = true := beq_iff_eq.mpr c71
             have c71b1 : (((rd_T54 t365 x13_2).f1).toList != a1_2.toList) = false := bne_eq_false_iff_eq.mpr c71
             clear c71
             have H' := Aside0.mk H
             clear H
             obtain ⟨Ao72, co72, eo72⟩ := Kd.R_slice HO_9.out
             subst eo72
             try go_wp2
             replace HO_9 := Aside0.mk (Kd.R_drew HO_9.out)
             replace HO_10 := Aside0.mk (Kd.R_drew HO_10.out)
             replace HO_12 := Aside0.mk (Kd.R_drew HO_12.out)
             replace HO_365000 := Aside0.mk (Kd.N_drew HO_365000.out)
             replace BK356 := Aside0.mk (blk_drew BK356.out)
             replace BK357 := Aside0.mk (blk_drew BK357.out)
             replace BK364 := Aside0.mk (blk_drew BK364.out)
             replace BK374 := Aside0.mk (blk_drew BK374.out)
             replace HB := Aside0.mk (below_drew1 HB.out)
             have p375 : 0 ≤ (x13_2 : Int) := od
             have q375 : x13_2 < (t365.length : Int) := od
             obtain ⟨ad375, e375, hx375_0, hx375_1, hx375_2, hx375_3, hx375_4, hx375_5, hx375_6⟩ := at_T54 (Kd.R_reads' HO_9.out).2.2 x13_2 p375 q375
             cases e375
             replace p375 := eq_true p375
             replace q375 := eq_true q375
             have p376 : 0 ≤ (x13_2 : Int) := od
             have q376 : x13_2 < (t365.length : Int) := od
             obtain ⟨ad376, e376, hx376_0, hx376_1, hx376_2, hx376_3, hx376_4, hx376_5, hx376_6⟩ := at_T54 (Kd.R_reads' HO_9.out).2.2 x13_2 p376 q376
             obtain rfl : ad375 = ad376 := (by injection e376)
             replace p376 := eq_true p376
             replace q376 := eq_true q376
             refine start_ (n := 18) (S := fun w' => w'.cell? ⟨gb357, 0, none⟩ = some (.int .i64 a1_0) ∧ w'.cell? ⟨gb357, 1, none⟩ = some (.int .i64 a1_1) ∧ w'.cell? ⟨gb357, 2, none⟩ = some (.string a1_2) ∧ w'.cell? ⟨gb357, 3, none⟩ = some (.int .i64 a1_3) ∧ w'.cell? (ad375.add ((x13_2).toNat * 7)) = some (.int .i64 ((rd_T54 t365 x13_2).f0)) ∧ w'.cell? ⟨(ad375.add ((x13_2).toNat * 7)).block, (ad375.add ((x13_2).toNat * 7)).off + 1, none⟩ = some (.string ((rd_T54 t365 x13_2).f1)) ∧ w'.cell? ⟨(ad375.add ((x13_2).toNat * 7)).block, (ad375.add ((x13_2).toNat * 7)).off + 2, none⟩ = some (.int .i64 ((rd_T54 t365 x13_2).f2.f0)) ∧ w'.cell? ⟨(ad375.add ((x13_2).toNat * 7)).block, (ad375.add ((x13_2).toNat * 7)).off + 3, none⟩ = some (.int .i64 ((rd_T54 t365 x13_2).f2.f1.f0)) ∧ w'.cell? ⟨(ad375.add ((x13_2).toNat * 7)).block, (ad375.add ((x13_2).toNat * 7)).off + 4, none⟩ = some (.bool ((rd_T54 t365 x13_2).f2.f1.f1)) ∧ w'.cell? ⟨(ad375.add ((x13_2).toNat * 7)).block, (ad375.add ((x13_2).toNat * 7)).off + 5, none⟩ = some (.int .i64 ((rd_T54 t365 x13_2).f2.f2)) ∧ w'.cell? ⟨(ad375.add ((x13_2).toNat * 7)).block, (ad375.add ((x13_2).toNat * 7)).off + 6, none⟩ = some (.int .i64 ((rd_T54 t365 x13_2).f2.f3)) ∧ w'.cell? (ad375.add ((x13_2).toNat * 7)) = some (.int .i64 ((rd_T54 t365 x13_2).f0)) ∧ w'.cell? ⟨(ad375.add ((x13_2).toNat * 7)).block, (ad375.add ((x13_2).toNat * 7)).off + 1, none⟩ = some (.string ((rd_T54 t365 x13_2).f1)) ∧ w'.cell? ⟨(ad375.add ((x13_2).toNat * 7)).block, (ad375.add ((x13_2).toNat * 7)).off + 2, none⟩ = some (.int .i64 ((rd_T54 t365 x13_2).f2.f0)) ∧ w'.cell? ⟨(ad375.add ((x13_2).toNat * 7)).block, (ad375.add ((x13_2).toNat * 7)).off + 3, none⟩ = some (.int .i64 ((rd_T54 t365 x13_2).f2.f1.f0)) ∧ w'.cell? ⟨(ad375.add ((x13_2).toNat * 7)).block, (ad375.add ((x13_2).toNat * 7)).off + 4, none⟩ = some (.bool ((rd_T54 t365 x13_2).f2.f1.f1)) ∧ w'.cell? ⟨(ad375.add ((x13_2).toNat * 7)).block, (ad375.add ((x13_2).toNat * 7)).off + 5, none⟩ = some (.int .i64 ((rd_T54 t365 x13_2).f2.f2)) ∧ w'.cell? ⟨(ad375.add ((x13_2).toNat * 7)).block, (ad375.add ((x13_2).toNat * 7)).off + 6, none⟩ = some (.int .i64 ((rd_T54 t365 x13_2).f2.f3))) (ds := []) _ (by kernel_rfl) rfl rfl ⟨(blk_cell BK357.out 0).trans rfl, (blk_cell BK357.out 1).trans rfl, (blk_cell BK357.out 2).trans rfl, (blk_cell BK357.out 3).trans rfl, hx375_0, hx375_1, hx375_2, hx375_3, hx375_4, hx375_5, hx375_6, hx376_0, hx376_1, hx376_2, hx376_3, hx376_4, hx376_5, hx376_6⟩ (fun hHeld => ?_); refine with_tabW w11_ShardWrites.tab16 w11_ShardWrites.bits16 (fun HT_ HW_ => ?_)
             generalize wr.drew = w73 at HO_9 HO_10 HO_12 HO_365000 BK356 BK357 BK364 BK374 HB hx375_0 hx375_1 hx375_2 hx375_3 hx375_4 hx375_5 hx375_6 hx376_0 hx376_1 hx376_2 hx376_3 hx376_4 hx376_5 hx376_6 hHeld ⊢
             refine p1 0 (some 67) ?_
             refine p1 1 (some 68) ?_
             refine p1 2 (some 69) ?_
             refine p1 3 (some 70) ?_
             refine p1 5 (some 72) ?_
             refine t1 4 (some 71) rfl rfl hHeld (Or.inl ⟨by rfl, by rintro w' ⟨s0, s1, s2, s3, s4, s5, s6, s7, s8, s9, s10, s11, s12, s13, s14, s15, s16, s17⟩; go_simp; with_reducible rfl⟩) ?_
             refine t1 6 (some 73) rfl rfl hHeld (Or.inl ⟨by rfl, by rintro w' ⟨s0, s1, s2, s3, s4, s5, s6, s7, s8, s9, s10, s11, s12, s13, s14, s15, s16, s17⟩; go_simp; with_reducible rfl⟩) ?_
             refine p1 7 (some 74) ?_
             refine p1 8 (some 75) ?_
             refine p1 9 (some 76) ?_
             refine p1 10 (some 77) ?_
             refine p1 11 (some 78) ?_
             refine p1 12 (some 79) ?_
             refine p1 14 (some 81) ?_
             refine t1 13 (some 80) rfl rfl hHeld (Or.inl ⟨by rfl, by rintro w' ⟨s0, s1, s2, s3, s4, s5, s6, s7, s8, s9, s10, s11, s12, s13, s14, s15, s16, s17⟩; go_simp; with_reducible rfl⟩) ?_
             refine t1 15 (some 82) rfl rfl hHeld (Or.inl ⟨by rfl, by rintro w' ⟨s0, s1, s2, s3, s4, s5, s6, s7, s8, s9, s10, s11, s12, s13, s14, s15, s16, s17⟩; go_simp; with_reducible rfl⟩) ?_
             refine p1 16 (some 83) ?_
             refine p1 17 (some 84) ?_
             refine done_ (done_of HT_.out (by kernel_rfl)) ?_
             have p377 : 0 ≤ (x13_2 : Int) := od
             have q377 : x13_2 < (t365.length : Int) := od
             obtain ⟨ad377, e377, hx377_0, hx377_1, hx377_2, hx377_3, hx377_4, hx377_5, hx377_6⟩ := at_T54 (Kd.R_reads' HO_9.out).2.2 x13_2 p377 q377
             obtain rfl : ad375 = ad377 := (by injection e377)
             replace p377 := eq_true p377
             replace q377 := eq_true q377
             have hnb74 := NB374_356.out
             have hnc74 := NB356_374.out
             have hnb75 := NB374_357.out
             have hnc75 := NB357_374.out
             have hnb76 := NB374_364.out
             have hnc76 := NB364_374.out
             obtain ⟨hcz77_0, hcz77_1, hcz77_2, hcz77_3, hcz77_4, hfz77_0, hfz77_1, hfz77_2, hfz77_3, hfz77_4⟩ := z5 BK374
             try go_wp2_with (first | ((with_reducible refine gate_store (t := 52) (p := 11) rfl ?_); refine store_event (t := 52) (p := 11) (v := ?vo_w78) (w1 := (((((w73.setCell ⟨gb374, 0, none⟩ (.int .i64 ((rd_T54 t365 x13_2).f2.f0))).setCell ⟨gb374, 1, none⟩ (.int .i64 ((rd_T54 t365 x13_2).f2.f1.f0))).setCell ⟨gb374, 2, none⟩ (.bool ((rd_T54 t365 x13_2).f2.f1.f1))).setCell ⟨gb374, 3, none⟩ (.int .i64 ((rd_T54 t365 x13_2).f2.f2))).setCell ⟨gb374, 4, none⟩ (.int .i64 ((rd_T54 t365 x13_2).f2.f3)))) ?hg ?ho ?hn ?hr ?_; (case ho => rfl); (case hg => rfl); (case hn => rfl); (case hr => first | (go_simp; done) | (go_simp; rfl)); intro w78 hw; have n0_ : Aside0 (Kd.R k54 54 w78 w.heap.size (fun k_ => some k_ ≠ (v369 : Value).ownBlock ∧ some k_ ≠ (u12 : Value).ownBlock) (.slice (some ad375) t365.length co72) t365) := ⟨(by rw [hw]; exact (by exact uR <| Kd.R_mono (Kd.R_far (p := ⟨gb374, 4, none⟩) (Kd.R_far (p := ⟨gb374, 3, none⟩) (Kd.R_far (p := ⟨gb374, 2, none⟩) (Kd.R_far (p := ⟨gb374, 1, none⟩) (Kd.R_far (p := ⟨gb374, 0, none⟩) (Kd.R_types HO_9.out BK374.out (by decide)) (fun _ hk => hk.2) (.int .i64 ((rd_T54 t365 x13_2).f2.f0))) (fun _ hk => hk.2) (.int .i64 ((rd_T54 t365 x13_2).f2.f1.f0))) (fun _ hk => hk.2) (.bool ((rd_T54 t365 x13_2).f2.f1.f1))) (fun _ hk => hk.2) (.int .i64 ((rd_T54 t365 x13_2).f2.f2))) (fun _ hk => hk.2) (.int .i64 ((rd_T54 t365 x13_2).f2.f3))) (fun _ hk => ⟨hk.1.1, hk.1.2⟩)))⟩; have n1_ : Aside0 (Kd.R k54 54 w78 w.heap.size (fun k_ => some k_ ≠ (.slice (some ad375) t365.length co72 : Value).ownBlock ∧ some k_ ≠ (u12 : Value).ownBlock) v369 t368) := ⟨(by rw [hw]; exact (by exact uR <| Kd.R_mono (Kd.R_far (p := ⟨gb374, 4, none⟩) (Kd.R_far (p := ⟨gb374, 3, none⟩) (Kd.R_far (p := ⟨gb374, 2, none⟩) (Kd.R_far (p := ⟨gb374, 1, none⟩) (Kd.R_far (p := ⟨gb374, 0, none⟩) (Kd.R_types HO_10.out BK374.out (by decide)) (fun _ hk => hk.2) (.int .i64 ((rd_T54 t365 x13_2).f2.f0))) (fun _ hk => hk.2) (.int .i64 ((rd_T54 t365 x13_2).f2.f1.f0))) (fun _ hk => hk.2) (.bool ((rd_T54 t365 x13_2).f2.f1.f1))) (fun _ hk => hk.2) (.int .i64 ((rd_T54 t365 x13_2).f2.f2))) (fun _ hk => hk.2) (.int .i64 ((rd_T54 t365 x13_2).f2.f3))) (fun _ hk => ⟨hk.1.1, hk.1.2⟩)))⟩; have n2_ : Aside0 (Kd.R k54 54 w78 w.heap.size (fun k_ => some k_ ≠ (.slice (some ad375) t365.length co72 : Value).ownBlock ∧ some k_ ≠ (v369 : Value).ownBlock) u12 x12_2) := ⟨(by rw [hw]; exact (by exact uR <| Kd.R_mono (Kd.R_far (p := ⟨gb374, 4, none⟩) (Kd.R_far (p := ⟨gb374, 3, none⟩) (Kd.R_far (p := ⟨gb374, 2, none⟩) (Kd.R_far (p := ⟨gb374, 1, none⟩) (Kd.R_far (p := ⟨gb374, 0, none⟩) (Kd.R_types HO_12.out BK374.out (by decide)) (fun _ hk => hk.2) (.int .i64 ((rd_T54 t365 x13_2).f2.f0))) (fun _ hk => hk.2) (.int .i64 ((rd_T54 t365 x13_2).f2.f1.f0))) (fun _ hk => hk.2) (.bool ((rd_T54 t365 x13_2).f2.f1.f1))) (fun _ hk => hk.2) (.int .i64 ((rd_T54 t365 x13_2).f2.f2))) (fun _ hk => hk.2) (.int .i64 ((rd_T54 t365 x13_2).f2.f3))) (fun _ hk => ⟨hk.1.1, hk.1.2⟩)))⟩; have n3_ : Aside0 (Kd.N k59 59 w78 w.heap.size (fun k_ => some k_ ≠ (.slice (some ad375) t365.length co72 : Value).ownBlock ∧ some k_ ≠ (v369 : Value).ownBlock ∧ some k_ ≠ (u12 : Value).ownBlock ∧ k_ ≠ gb356 ∧ k_ ≠ gb357 ∧ k_ ≠ gb364 ∧ k_ ≠ gb374) (.slice Ao53 t360.length co53) t360) := ⟨(by rw [hw]; exact (by (with_reducible repeat (first | apply Kd.N_alloc | apply Kd.N_drewN | apply Kd.N_drew)); exact Kd.N_mono (Kd.N_far (p := ⟨gb374, 4, none⟩) (Kd.N_far (p := ⟨gb374, 3, none⟩) (Kd.N_far (p := ⟨gb374, 2, none⟩) (Kd.N_far (p := ⟨gb374, 1, none⟩) (Kd.N_far (p := ⟨gb374, 0, none⟩) (Kd.N_mono HO_365000.out (fun k_ hk => (⟨hk, hk.2.2.2.2.2.2⟩ : _ ∧ k_ ≠ gb374))) (fun _ hk => hk.2) (.int .i64 ((rd_T54 t365 x13_2).f2.f0))) (fun _ hk => hk.2) (.int .i64 ((rd_T54 t365 x13_2).f2.f1.f0))) (fun _ hk => hk.2) (.bool ((rd_T54 t365 x13_2).f2.f1.f1))) (fun _ hk => hk.2) (.int .i64 ((rd_T54 t365 x13_2).f2.f2))) (fun _ hk => hk.2) (.int .i64 ((rd_T54 t365 x13_2).f2.f3))) (fun _ hk => ⟨hk.1.1, ⟨hk.1.2.1, ⟨hk.1.2.2.1, ⟨hk.1.2.2.2.1, ⟨hk.1.2.2.2.2.1, ⟨hk.1.2.2.2.2.2.1, hk.1.2.2.2.2.2.2⟩⟩⟩⟩⟩⟩)))⟩; have n4_ : Aside0 (w78.heap[gb356]? = some (.cells #[.slice A0_0 l0_0.length c0_0] 24 (0, 0))) := ⟨(by rw [hw]; exact (by (with_reducible repeat (first | refine blk_drewN ?_ _ | refine blk_drew ?_ | refine blk_alloc ?_ _)); refine blk_far ?_ NB356_374.out _; (with_reducible repeat (first | refine blk_drewN ?_ _ | refine blk_drew ?_ | refine blk_alloc ?_ _)); refine blk_far ?_ NB356_374.out _; (with_reducible repeat (first | refine blk_drewN ?_ _ | refine blk_drew ?_ | refine blk_alloc ?_ _)); refine blk_far ?_ NB356_374.out _; (with_reducible repeat (first | refine blk_drewN ?_ _ | refine blk_drew ?_ | refine blk_alloc ?_ _)); refine blk_far ?_ NB356_374.out _; (with_reducible repeat (first | refine blk_drewN ?_ _ | refine blk_drew ?_ | refine blk_alloc ?_ _)); refine blk_far ?_ NB356_374.out _; exact uB <| BK356.out))⟩; have n5_ : Aside0 (w78.heap[gb357]? = some (.cells #[.int .i64 a1_0, .int .i64 a1_1, .string a1_2, .int .i64 a1_3] 26 (0, 0))) := ⟨(by rw [hw]; exact (by (with_reducible repeat (first | refine blk_drewN ?_ _ | refine blk_drew ?_ | refine blk_alloc ?_ _)); refine blk_far ?_ NB357_374.out _; (with_reducible repeat (first | refine blk_drewN ?_ _ | refine blk_drew ?_ | refine blk_alloc ?_ _)); refine blk_far ?_ NB357_374.out _; (with_reducible repeat (first | refine blk_drewN ?_ _ | refine blk_drew ?_ | refine blk_alloc ?_ _)); refine blk_far ?_ NB357_374.out _; (with_reducible repeat (first | refine blk_drewN ?_ _ | refine blk_drew ?_ | refine blk_alloc ?_ _)); refine blk_far ?_ NB357_374.out _; (with_reducible repeat (first | refine blk_drewN ?_ _ | refine blk_drew ?_ | refine blk_alloc ?_ _)); refine blk_far ?_ NB357_374.out _; exact uB <| BK357.out))⟩; have n6_ : Aside0 (w78.heap[gb364]? = some (.cells #[.slice Ao53 t360.length co53] 24 (0, 0))) := ⟨(by rw [hw]; exact (by (with_reducible repeat (first | refine blk_drewN ?_ _ | refine blk_drew ?_ | refine blk_alloc ?_ _)); refine blk_far ?_ NB364_374.out _; (with_reducible repeat (first | refine blk_drewN ?_ _ | refine blk_drew ?_ | refine blk_alloc ?_ _)); refine blk_far ?_ NB364_374.out _; (with_reducible repeat (first | refine blk_drewN ?_ _ | refine blk_drew ?_ | refine blk_alloc ?_ _)); refine blk_far ?_ NB364_374.out _; (with_reducible repeat (first | refine blk_drewN ?_ _ | refine blk_drew ?_ | refine blk_alloc ?_ _)); refine blk_far ?_ NB364_374.out _; (with_reducible repeat (first | refine blk_drewN ?_ _ | refine blk_drew ?_ | refine blk_alloc ?_ _)); refine blk_far ?_ NB364_374.out _; exact uB <| BK364.out))⟩; have n7_ : Aside0 (w78.heap[gb374]? = some (.cells #[.int .i64 ((rd_T54 t365 x13_2).f2.f0), .int .i64 ((rd_T54 t365 x13_2).f2.f1.f0), .bool ((rd_T54 t365 x13_2).f2.f1.f1), .int .i64 ((rd_T54 t365 x13_2).f2.f2), .int .i64 ((rd_T54 t365 x13_2).f2.f3)] 52 (0, 0))) := ⟨(by rw [hw]; exact (by (with_reducible repeat (first | refine blk_drewN ?_ _ | refine blk_drew ?_ | refine blk_alloc ?_ _)); refine blk_put (cs := #[.int .i64 ((rd_T54 t365 x13_2).f2.f0), .int .i64 ((rd_T54 t365 x13_2).f2.f1.f0), .bool ((rd_T54 t365 x13_2).f2.f1.f1), .int .i64 ((rd_T54 t365 x13_2).f2.f2), .int .i64 x375004_2]) ?_ 4 _ rfl; (with_reducible repeat (first | refine blk_drewN ?_ _ | refine blk_drew ?_ | refine blk_alloc ?_ _)); refine blk_put (cs := #[.int .i64 ((rd_T54 t365 x13_2).f2.f0), .int .i64 ((rd_T54 t365 x13_2).f2.f1.f0), .bool ((rd_T54 t365 x13_2).f2.f1.f1), .int .i64 x375003_2, .int .i64 x375004_2]) ?_ 3 _ rfl; (with_reducible repeat (first | refine blk_drewN ?_ _ | refine blk_drew ?_ | refine blk_alloc ?_ _)); refine blk_put (cs := #[.int .i64 ((rd_T54 t365 x13_2).f2.f0), .int .i64 ((rd_T54 t365 x13_2).f2.f1.f0), .bool x375002_2, .int .i64 x375003_2, .int .i64 x375004_2]) ?_ 2 _ rfl; (with_reducible repeat (first | refine blk_drewN ?_ _ | refine blk_drew ?_ | refine blk_alloc ?_ _)); refine blk_put (cs := #[.int .i64 ((rd_T54 t365 x13_2).f2.f0), .int .i64 x375001_2, .bool x375002_2, .int .i64 x375003_2, .int .i64 x375004_2]) ?_ 1 _ rfl; (with_reducible repeat (first | refine blk_drewN ?_ _ | refine blk_drew ?_ | refine blk_alloc ?_ _)); refine blk_put (cs := #[.int .i64 x375000_2, .int .i64 x375001_2, .bool x375002_2, .int .i64 x375003_2, .int .i64 x375004_2]) ?_ 0 _ rfl; exact uB <| BK374.out))⟩; have n8_ : Aside0 (Below w.heap.size w w78) := ⟨(by rw [hw]; exact bl)⟩; clear hw; clear HO_9; clear HO_10; clear HO_12; clear HO_365000; clear BK356; clear BK357; clear BK364; clear BK374; clear HB; have HO_9 := n0_; have HO_10 := n1_; have HO_12 := n2_; have HO_365000 := n3_; have BK356 := n4_; have BK357 := n5_; have BK364 := n6_; have BK374 := n7_; have HB := n8_; clear n0_ n1_ n2_ n3_ n4_ n5_ n6_ n7_ n8_))
             go_roundg k2
             case measure => have := HJ5.out; have := HK2.out; omega
             case rel => exact ⟨(x12_2), (wrap64 (x13_2 + 1)), ((rd_T54 t365 x13_2).f2.f0), ((rd_T54 t365 x13_2).f2.f1.f0), ((rd_T54 t365 x13_2).f2.f1.f1), ((rd_T54 t365 x13_2).f2.f2), ((rd_T54 t365 x13_2).f2.f3), rs_, H', ⟨by have := HJ5.out; have := HK2.out; omega⟩, ⟨uR HO_9.out⟩, ⟨uR HO_10.out⟩, ⟨uR HO_12.out⟩, ⟨by (with_reducible repeat (first | apply Kd.N_alloc | apply Kd.N_drewN | apply Kd.N_drew)); exact HO_365000.out⟩, ⟨uB BK356.out⟩, ⟨uB BK357.out⟩, ⟨uB BK364.out⟩, ⟨uB BK374.out⟩, ⟨bl⟩⟩
            ·
             rw [if_neg c71] at H
             have c71b0 : (((rd_T54 t365 x13_2).f1).toList == a1_2.toList) = false := beq_eq_false_iff_ne.mpr c71
             have c71b1 : (((rd_T54 t365 x13_2).f1).toList != a1_2.toList) = true := bne_iff_ne.mpr c71
             by_cases c79 : x12_2.length < 2199023255552
             ·
              rw [if_pos c79] at H
              have LMc79 := Aside0.mk c79
              clear c79
              obtain ⟨y379, hy379⟩ : ∃ y_ : List (S54), y_ = (x12_2 ++ [(⟨(rd_T54 t365 x13_2).f0, (rd_T54 t365 x13_2).f1, (⟨(rd_T54 t365 x13_2).f2.f0, (⟨(rd_T54 t365 x13_2).f2.f1.f0, (rd_T54 t365 x13_2).f2.f1.f1⟩ : S50), (rd_T54 t365 x13_2).f2.f2, (rd_T54 t365 x13_2).f2.f3⟩ : S52)⟩ : S54)]) := ⟨_, rfl⟩
              replace H : (w11_ShardWrites.l0 k2 t365 t368 y379 (wrap64 (x13_2 + 1)) l0_0 a1_0 a1_1 a1_2 a1_3 t360 x375000_2 x375001_2 x375002_2 x375003_2 x375004_2) = some r := by first | (rw [hy379]; with_reducible exact H) | (have H2_ := (Option.bind_some _ _).symm.trans H; rw [hy379]; with_reducible exact H2_) | (have H2_ := (Option.bind_some _ _).symm.trans H; with_reducible exact H2_) | with_reducible exact H | (rw [hy379]; exact H) | exact H
              have Ny379 := Aside0.mk hy379
              clear hy379
              have H' := Aside0.mk H
              clear H
              obtain ⟨Ao80, co80, eo80⟩ := Kd.R_slice HO_9.out
              subst eo80
              try go_wp2
              replace HO_9 := Aside0.mk (Kd.R_drew HO_9.out)
              replace HO_10 := Aside0.mk (Kd.R_drew HO_10.out)
              replace HO_12 := Aside0.mk (Kd.R_drew HO_12.out)
              replace HO_365000 := Aside0.mk (Kd.N_drew HO_365000.out)
              replace BK356 := Aside0.mk (blk_drew BK356.out)
              replace BK357 := Aside0.mk (blk_drew BK357.out)
              replace BK364 := Aside0.mk (blk_drew BK364.out)
              replace BK374 := Aside0.mk (blk_drew BK374.out)
              replace HB := Aside0.mk (below_drew1 HB.out)
              have p375 : 0 ≤ (x13_2 : Int) := od
              have q375 : x13_2 < (t365.length : Int) := od
              obtain ⟨ad375, e375, hx375_0, hx375_1, hx375_2, hx375_3, hx375_4, hx375_5, hx375_6⟩ := at_T54 (Kd.R_reads' HO_9.out).2.2 x13_2 p375 q375
              cases e375
              replace p375 := eq_true p375
              replace q375 := eq_true q375
              have p376 : 0 ≤ (x13_2 : Int) := od
              have q376 : x13_2 < (t365.length : Int) := od
              obtain ⟨ad376, e376, hx376_0, hx376_1, hx376_2, hx376_3, hx376_4, hx376_5, hx376_6⟩ := at_T54 (Kd.R_reads' HO_9.out).2.2 x13_2 p376 q376
              obtain rfl : ad375 = ad376 := (by injection e376)
              replace p376 := eq_true p376
              replace q376 := eq_true q376
              refine start_ (n := 18) (S := fun w' => w'.cell? ⟨gb357, 0, none⟩ = some (.int .i64 a1_0) ∧ w'.cell? ⟨gb357, 1, none⟩ = some (.int .i64 a1_1) ∧ w'.cell? ⟨gb357, 2, none⟩ = some (.string a1_2) ∧ w'.cell? ⟨gb357, 3, none⟩ = some (.int .i64 a1_3) ∧ w'.cell? (ad375.add ((x13_2).toNat * 7)) = some (.int .i64 ((rd_T54 t365 x13_2).f0)) ∧ w'.cell? ⟨(ad375.add ((x13_2).toNat * 7)).block, (ad375.add ((x13_2).toNat * 7)).off + 1, none⟩ = some (.string ((rd_T54 t365 x13_2).f1)) ∧ w'.cell? ⟨(ad375.add ((x13_2).toNat * 7)).block, (ad375.add ((x13_2).toNat * 7)).off + 2, none⟩ = some (.int .i64 ((rd_T54 t365 x13_2).f2.f0)) ∧ w'.cell? ⟨(ad375.add ((x13_2).toNat * 7)).block, (ad375.add ((x13_2).toNat * 7)).off + 3, none⟩ = some (.int .i64 ((rd_T54 t365 x13_2).f2.f1.f0)) ∧ w'.cell? ⟨(ad375.add ((x13_2).toNat * 7)).block, (ad375.add ((x13_2).toNat * 7)).off + 4, none⟩ = some (.bool ((rd_T54 t365 x13_2).f2.f1.f1)) ∧ w'.cell? ⟨(ad375.add ((x13_2).toNat * 7)).block, (ad375.add ((x13_2).toNat * 7)).off + 5, none⟩ = some (.int .i64 ((rd_T54 t365 x13_2).f2.f2)) ∧ w'.cell? ⟨(ad375.add ((x13_2).toNat * 7)).block, (ad375.add ((x13_2).toNat * 7)).off + 6, none⟩ = some (.int .i64 ((rd_T54 t365 x13_2).f2.f3)) ∧ w'.cell? (ad375.add ((x13_2).toNat * 7)) = some (.int .i64 ((rd_T54 t365 x13_2).f0)) ∧ w'.cell? ⟨(ad375.add ((x13_2).toNat * 7)).block, (ad375.add ((x13_2).toNat * 7)).off + 1, none⟩ = some (.string ((rd_T54 t365 x13_2).f1)) ∧ w'.cell? ⟨(ad375.add ((x13_2).toNat * 7)).block, (ad375.add ((x13_2).toNat * 7)).off + 2, none⟩ = some (.int .i64 ((rd_T54 t365 x13_2).f2.f0)) ∧ w'.cell? ⟨(ad375.add ((x13_2).toNat * 7)).block, (ad375.add ((x13_2).toNat * 7)).off + 3, none⟩ = some (.int .i64 ((rd_T54 t365 x13_2).f2.f1.f0)) ∧ w'.cell? ⟨(ad375.add ((x13_2).toNat * 7)).block, (ad375.add ((x13_2).toNat * 7)).off + 4, none⟩ = some (.bool ((rd_T54 t365 x13_2).f2.f1.f1)) ∧ w'.cell? ⟨(ad375.add ((x13_2).toNat * 7)).block, (ad375.add ((x13_2).toNat * 7)).off + 5, none⟩ = some (.int .i64 ((rd_T54 t365 x13_2).f2.f2)) ∧ w'.cell? ⟨(ad375.add ((x13_2).toNat * 7)).block, (ad375.add ((x13_2).toNat * 7)).off + 6, none⟩ = some (.int .i64 ((rd_T54 t365 x13_2).f2.f3))) (ds := []) _ (by kernel_rfl) rfl rfl ⟨(blk_cell BK357.out 0).trans rfl, (blk_cell BK357.out 1).trans rfl, (blk_cell BK357.out 2).trans rfl, (blk_cell BK357.out 3).trans rfl, hx375_0, hx375_1, hx375_2, hx375_3, hx375_4, hx375_5, hx375_6, hx376_0, hx376_1, hx376_2, hx376_3, hx376_4, hx376_5, hx376_6⟩ (fun hHeld => ?_); refine with_tabW w11_ShardWrites.tab16 w11_ShardWrites.bits16 (fun HT_ HW_ => ?_)
              generalize wr.drew = w81 at HO_9 HO_10 HO_12 HO_365000 BK356 BK357 BK364 BK374 HB hx375_0 hx375_1 hx375_2 hx375_3 hx375_4 hx375_5 hx375_6 hx376_0 hx376_1 hx376_2 hx376_3 hx376_4 hx376_5 hx376_6 hHeld ⊢
              refine p1 0 (some 67) ?_
              refine p1 1 (some 68) ?_
              refine p1 2 (some 69) ?_
              refine p1 3 (some 70) ?_
              refine p1 5 (some 72) ?_
              refine t1 4 (some 71) rfl rfl hHeld (Or.inl ⟨by rfl, by rintro w' ⟨s0, s1, s2, s3, s4, s5, s6, s7, s8, s9, s10, s11, s12, s13, s14, s15, s16, s17⟩; go_simp; with_reducible rfl⟩) ?_
              refine t1 6 (some 73) rfl rfl hHeld (Or.inl ⟨by rfl, by rintro w' ⟨s0, s1, s2, s3, s4, s5, s6, s7, s8, s9, s10, s11, s12, s13, s14, s15, s16, s17⟩; go_simp; with_reducible rfl⟩) ?_
              refine p1 7 (some 74) ?_
              refine p1 8 (some 75) ?_
              refine p1 9 (some 76) ?_
              refine p1 10 (some 77) ?_
              refine p1 11 (some 78) ?_
              refine p1 12 (some 79) ?_
              refine p1 14 (some 81) ?_
              refine t1 13 (some 80) rfl rfl hHeld (Or.inl ⟨by rfl, by rintro w' ⟨s0, s1, s2, s3, s4, s5, s6, s7, s8, s9, s10, s11, s12, s13, s14, s15, s16, s17⟩; go_simp; with_reducible rfl⟩) ?_
              refine t1 15 (some 82) rfl rfl hHeld (Or.inl ⟨by rfl, by rintro w' ⟨s0, s1, s2, s3, s4, s5, s6, s7, s8, s9, s10, s11, s12, s13, s14, s15, s16, s17⟩; go_simp; with_reducible rfl⟩) ?_
              refine p1 16 (some 83) ?_
              refine p1 17 (some 84) ?_
              refine done_ (done_of HT_.out (by kernel_rfl)) ?_
              have p378 : 0 ≤ (x13_2 : Int) := od
              have q378 : x13_2 < (t365.length : Int) := od
              obtain ⟨ad378, e378, hx378_0, hx378_1, hx378_2, hx378_3, hx378_4, hx378_5, hx378_6⟩ := at_T54 (Kd.R_reads' HO_9.out).2.2 x13_2 p378 q378
              obtain rfl : ad375 = ad378 := (by injection e378)
              replace p378 := eq_true p378
              replace q378 := eq_true q378
              try go_wp2_with (first | ((with_reducible refine gate_builtin (b := .append) (xs := #[.tmp 90, .tmp 95]) rfl ?_); (try (refine gate_guard (by rfl) ?_; dsimp only)); at_builtin; refine Kd.R_append k54 (w0 := w) w.heap.size rfl (.tmp 90) (.tmp 95) 36 54 (.agg #[(.int .i64 0), (.string ⟨#[]⟩), (.int .i64 0), (.int .i64 0), (.bool false), (.int .i64 0), (.int .i64 0)]) 64 rfl Try.underlying36 info54 rfl (by decide) (by omega) u12 x12_2 (⟨(rd_T54 t365 x13_2).f0, (rd_T54 t365 x13_2).f1, (⟨(rd_T54 t365 x13_2).f2.f0, (⟨(rd_T54 t365 x13_2).f2.f1.f0, (rd_T54 t365 x13_2).f2.f1.f1⟩ : S50), (rd_T54 t365 x13_2).f2.f2, (rd_T54 t365 x13_2).f2.f3⟩ : S52)⟩ : S54) [.int .i64 ((rd_T54 t365 x13_2).f0), .string ((rd_T54 t365 x13_2).f1), .int .i64 ((rd_T54 t365 x13_2).f2.f0), .int .i64 ((rd_T54 t365 x13_2).f2.f1.f0), .bool ((rd_T54 t365 x13_2).f2.f1.f1), .int .i64 ((rd_T54 t365 x13_2).f2.f2), .int .i64 ((rd_T54 t365 x13_2).f2.f3)] (fun k_ => some k_ ≠ (.slice (some ad375) t365.length co80 : Value).ownBlock ∧ some k_ ≠ (v369 : Value).ownBlock) (fun _ => False) rfl rfl ?aP (fun _ hk => hk.elim) ?aF ?aO ?aB ?aS ?aL ?_; (case aP => exact k54_mkM _ _ _ (⟨(rd_T54 t365 x13_2).f0, (rd_T54 t365 x13_2).f1, (⟨(rd_T54 t365 x13_2).f2.f0, (⟨(rd_T54 t365 x13_2).f2.f1.f0, (rd_T54 t365 x13_2).f2.f1.f1⟩ : S50), (rd_T54 t365 x13_2).f2.f2, (rd_T54 t365 x13_2).f2.f3⟩ : S52)⟩ : S54)); (case aB => exact bl); (case aF => exact (fun k_ hk => ⟨Kd.fresh' (Kd.R_lt (uR HO_9.out)) k_ hk, Kd.fresh' (Kd.R_lt (uR HO_10.out)) k_ hk⟩)); (case aO => exact (uR HO_12.out)); (case aS => exact (below_size bl)); (case aL => have := LMc79.out; omega); intro v380 w82 ho hb hg hat; rw [← Ny379.out] at ho; replace HO_9 := Aside0.mk (Kd.R_after (ok := (fun k_ => some k_ ≠ (v369 : Value).ownBlock)) (uR HO_9.out) hg hat); replace HO_10 := Aside0.mk (Kd.R_after (ok := (fun k_ => some k_ ≠ (.slice (some ad375) t365.length co80 : Value).ownBlock)) (uR HO_10.out) hg hat); replace HO_365000 := Aside0.mk (Kd.N_afterv (ok := (fun k_ => some k_ ≠ (.slice (some ad375) t365.length co80 : Value).ownBlock ∧ some k_ ≠ (v369 : Value).ownBlock ∧ k_ ≠ gb356 ∧ k_ ≠ gb357 ∧ k_ ≠ gb364 ∧ k_ ≠ gb374)) (by (with_reducible repeat (first | apply Kd.N_alloc | apply Kd.N_drewN | apply Kd.N_drew)); exact Kd.N_mono HO_365000.out (fun _ hk => ⟨⟨hk.1, ⟨hk.2.1, ⟨hk.2.2.2.1, ⟨hk.2.2.2.2.1, ⟨hk.2.2.2.2.2.1, hk.2.2.2.2.2.2⟩⟩⟩⟩⟩, hk.2.2.1⟩)) hg hat); replace BK356 := Aside0.mk (blk_grown (g := gb356) (o := .cells #[.slice A0_0 l0_0.length c0_0] 24 (0, 0)) (uB BK356.out) hg (Kd.R_ne HO_12.out BK356.out (by decide))); replace BK357 := Aside0.mk (blk_grown (g := gb357) (o := .cells #[.int .i64 a1_0, .int .i64 a1_1, .string a1_2, .int .i64 a1_3] 26 (0, 0)) (uB BK357.out) hg (Kd.R_ne HO_12.out BK357.out (by decide))); replace BK364 := Aside0.mk (blk_grown (g := gb364) (o := .cells #[.slice Ao53 t360.length co53] 24 (0, 0)) (uB BK364.out) hg (Kd.R_ne HO_12.out BK364.out (by decide))); replace BK374 := Aside0.mk (blk_grown (g := gb374) (o := .cells #[.int .i64 x375000_2, .int .i64 x375001_2, .bool x375002_2, .int .i64 x375003_2, .int .i64 x375004_2] 52 (0, 0)) (uB BK374.out) hg (Kd.R_ne HO_12.out BK374.out (by decide))); replace HB := Aside0.mk (hb); have HO381 := Aside0.mk (ho); clear HO_12; clear ho hb hg hat))
              go_roundg k2
              case measure => have := HJ5.out; have := HK2.out; omega
              case rel => exact ⟨(y379), (wrap64 (x13_2 + 1)), (x375000_2), (x375001_2), (x375002_2), (x375003_2), (x375004_2), rs_, H', ⟨by have := HJ5.out; have := HK2.out; omega⟩, ⟨uR HO_9.out⟩, ⟨uR HO_10.out⟩, ⟨uR HO381.out⟩, ⟨by (with_reducible repeat (first | apply Kd.N_alloc | apply Kd.N_drewN | apply Kd.N_drew)); exact Kd.N_mono HO_365000.out (fun _ hk => ⟨hk.1.1, ⟨hk.1.2.1, ⟨hk.2, ⟨hk.1.2.2.1, ⟨hk.1.2.2.2.1, ⟨hk.1.2.2.2.2.1, hk.1.2.2.2.2.2⟩⟩⟩⟩⟩⟩)⟩, ⟨uB BK356.out⟩, ⟨uB BK357.out⟩, ⟨uB BK364.out⟩, ⟨uB BK374.out⟩, ⟨bl⟩⟩
             ·
              rw [if_neg c79] at H
              exact absurd H (by simp)
           ·
            rw [if_neg c70] at H
            have c70b0 : (((rd_T54 t365 x13_2).f0) == a1_1) = false := beq_eq_false_iff_ne.mpr c70
            have c70b1 : (((rd_T54 t365 x13_2).f0) != a1_1) = true := bne_iff_ne.mpr c70
            by_cases c83 : x12_2.length < 2199023255552
            ·
             rw [if_pos c83] at H
             have LMc83 := Aside0.mk c83
             clear c83
             obtain ⟨y383, hy383⟩ : ∃ y_ : List (S54), y_ = (x12_2 ++ [(⟨(rd_T54 t365 x13_2).f0, (rd_T54 t365 x13_2).f1, (⟨(rd_T54 t365 x13_2).f2.f0, (⟨(rd_T54 t365 x13_2).f2.f1.f0, (rd_T54 t365 x13_2).f2.f1.f1⟩ : S50), (rd_T54 t365 x13_2).f2.f2, (rd_T54 t365 x13_2).f2.f3⟩ : S52)⟩ : S54)]) := ⟨_, rfl⟩
             replace H : (w11_ShardWrites.l0 k2 t365 t368 y383 (wrap64 (x13_2 + 1)) l0_0 a1_0 a1_1 a1_2 a1_3 t360 x375000_2 x375001_2 x375002_2 x375003_2 x375004_2) = some r := by first | (rw [hy383]; with_reducible exact H) | (have H2_ := (Option.bind_some _ _).symm.trans H; rw [hy383]; with_reducible exact H2_) | (have H2_ := (Option.bind_some _ _).symm.trans H; with_reducible exact H2_) | with_reducible exact H | (rw [hy383]; exact H) | exact H
             have Ny383 := Aside0.mk hy383
             clear hy383
             have H' := Aside0.mk H
             clear H
             obtain ⟨Ao84, co84, eo84⟩ := Kd.R_slice HO_9.out
             subst eo84
             try go_wp2
             replace HO_9 := Aside0.mk (Kd.R_drew HO_9.out)
             replace HO_10 := Aside0.mk (Kd.R_drew HO_10.out)
             replace HO_12 := Aside0.mk (Kd.R_drew HO_12.out)
             replace HO_365000 := Aside0.mk (Kd.N_drew HO_365000.out)
             replace BK356 := Aside0.mk (blk_drew BK356.out)
             replace BK357 := Aside0.mk (blk_drew BK357.out)
             replace BK364 := Aside0.mk (blk_drew BK364.out)
             replace BK374 := Aside0.mk (blk_drew BK374.out)
             replace HB := Aside0.mk (below_drew1 HB.out)
             have p375 : 0 ≤ (x13_2 : Int) := od
             have q375 : x13_2 < (t365.length : Int) := od
             obtain ⟨ad375, e375, hx375_0, hx375_1, hx375_2, hx375_3, hx375_4, hx375_5, hx375_6⟩ := at_T54 (Kd.R_reads' HO_9.out).2.2 x13_2 p375 q375
             cases e375
             replace p375 := eq_true p375
             replace q375 := eq_true q375
             refine start_ (n := 18) (S := fun w' => w'.cell? ⟨gb357, 0, none⟩ = some (.int .i64 a1_0) ∧ w'.cell? ⟨gb357, 1, none⟩ = some (.int .i64 a1_1) ∧ w'.cell? ⟨gb357, 2, none⟩ = some (.string a1_2) ∧ w'.cell? ⟨gb357, 3, none⟩ = some (.int .i64 a1_3) ∧ w'.cell? (ad375.add ((x13_2).toNat * 7)) = some (.int .i64 ((rd_T54 t365 x13_2).f0)) ∧ w'.cell? ⟨(ad375.add ((x13_2).toNat * 7)).block, (ad375.add ((x13_2).toNat * 7)).off + 1, none⟩ = some (.string ((rd_T54 t365 x13_2).f1)) ∧ w'.cell? ⟨(ad375.add ((x13_2).toNat * 7)).block, (ad375.add ((x13_2).toNat * 7)).off + 2, none⟩ = some (.int .i64 ((rd_T54 t365 x13_2).f2.f0)) ∧ w'.cell? ⟨(ad375.add ((x13_2).toNat * 7)).block, (ad375.add ((x13_2).toNat * 7)).off + 3, none⟩ = some (.int .i64 ((rd_T54 t365 x13_2).f2.f1.f0)) ∧ w'.cell? ⟨(ad375.add ((x13_2).toNat * 7)).block, (ad375.add ((x13_2).toNat * 7)).off + 4, none⟩ = some (.bool ((rd_T54 t365 x13_2).f2.f1.f1)) ∧ w'.cell? ⟨(ad375.add ((x13_2).toNat * 7)).block, (ad375.add ((x13_2).toNat * 7)).off + 5, none⟩ = some (.int .i64 ((rd_T54 t365 x13_2).f2.f2)) ∧ w'.cell? ⟨(ad375.add ((x13_2).toNat * 7)).block, (ad375.add ((x13_2).toNat * 7)).off + 6, none⟩ = some (.int .i64 ((rd_T54 t365 x13_2).f2.f3))) (ds := []) _ (by kernel_rfl) rfl rfl ⟨(blk_cell BK357.out 0).trans rfl, (blk_cell BK357.out 1).trans rfl, (blk_cell BK357.out 2).trans rfl, (blk_cell BK357.out 3).trans rfl, hx375_0, hx375_1, hx375_2, hx375_3, hx375_4, hx375_5, hx375_6⟩ (fun hHeld => ?_); refine with_tabW w11_ShardWrites.tab16 w11_ShardWrites.bits16 (fun HT_ HW_ => ?_)
             generalize wr.drew = w85 at HO_9 HO_10 HO_12 HO_365000 BK356 BK357 BK364 BK374 HB hx375_0 hx375_1 hx375_2 hx375_3 hx375_4 hx375_5 hx375_6 hHeld ⊢
             refine p1 0 (some 67) ?_
             refine p1 1 (some 68) ?_
             refine p1 2 (some 69) ?_
             refine p1 3 (some 70) ?_
             refine p1 5 (some 72) ?_
             refine t1 4 (some 71) rfl rfl hHeld (Or.inl ⟨by rfl, by rintro w' ⟨s0, s1, s2, s3, s4, s5, s6, s7, s8, s9, s10⟩; go_simp; with_reducible rfl⟩) ?_
             refine t1 6 (some 73) rfl rfl hHeld (Or.inl ⟨by rfl, by rintro w' ⟨s0, s1, s2, s3, s4, s5, s6, s7, s8, s9, s10⟩; go_simp; with_reducible rfl⟩) ?_
             refine p1 7 (some 74) ?_
             refine p1 8 (some 75) ?_
             refine p2 9 (some 76) ?_
             refine p2 10 (some 77) ?_
             refine p2 11 (some 78) ?_
             refine p2 12 (some 79) ?_
             refine p2 13 (some 80) ?_
             refine p2 14 (some 81) ?_
             refine p2 15 (some 82) ?_
             refine p2 16 (some 83) ?_
             refine p1 17 (some 84) ?_
             refine done_ (done_of HT_.out (by kernel_rfl)) ?_
             have p382 : 0 ≤ (x13_2 : Int) := od
             have q382 : x13_2 < (t365.length : Int) := od
             obtain ⟨ad382, e382, hx382_0, hx382_1, hx382_2, hx382_3, hx382_4, hx382_5, hx382_6⟩ := at_T54 (Kd.R_reads' HO_9.out).2.2 x13_2 p382 q382
             obtain rfl : ad375 = ad382 := (by injection e382)
             replace p382 := eq_true p382
             replace q382 := eq_true q382
             try go_wp2_with (first | ((with_reducible refine gate_builtin (b := .append) (xs := #[.tmp 90, .tmp 95]) rfl ?_); (try (refine gate_guard (by rfl) ?_; dsimp only)); at_builtin; refine Kd.R_append k54 (w0 := w) w.heap.size rfl (.tmp 90) (.tmp 95) 36 54 (.agg #[(.int .i64 0), (.string ⟨#[]⟩), (.int .i64 0), (.int .i64 0), (.bool false), (.int .i64 0), (.int .i64 0)]) 64 rfl Try.underlying36 info54 rfl (by decide) (by omega) u12 x12_2 (⟨(rd_T54 t365 x13_2).f0, (rd_T54 t365 x13_2).f1, (⟨(rd_T54 t365 x13_2).f2.f0, (⟨(rd_T54 t365 x13_2).f2.f1.f0, (rd_T54 t365 x13_2).f2.f1.f1⟩ : S50), (rd_T54 t365 x13_2).f2.f2, (rd_T54 t365 x13_2).f2.f3⟩ : S52)⟩ : S54) [.int .i64 ((rd_T54 t365 x13_2).f0), .string ((rd_T54 t365 x13_2).f1), .int .i64 ((rd_T54 t365 x13_2).f2.f0), .int .i64 ((rd_T54 t365 x13_2).f2.f1.f0), .bool ((rd_T54 t365 x13_2).f2.f1.f1), .int .i64 ((rd_T54 t365 x13_2).f2.f2), .int .i64 ((rd_T54 t365 x13_2).f2.f3)] (fun k_ => some k_ ≠ (.slice (some ad375) t365.length co84 : Value).ownBlock ∧ some k_ ≠ (v369 : Value).ownBlock) (fun _ => False) rfl rfl ?aP (fun _ hk => hk.elim) ?aF ?aO ?aB ?aS ?aL ?_; (case aP => exact k54_mkM _ _ _ (⟨(rd_T54 t365 x13_2).f0, (rd_T54 t365 x13_2).f1, (⟨(rd_T54 t365 x13_2).f2.f0, (⟨(rd_T54 t365 x13_2).f2.f1.f0, (rd_T54 t365 x13_2).f2.f1.f1⟩ : S50), (rd_T54 t365 x13_2).f2.f2, (rd_T54 t365 x13_2).f2.f3⟩ : S52)⟩ : S54)); (case aB => exact bl); (case aF => exact (fun k_ hk => ⟨Kd.fresh' (Kd.R_lt (uR HO_9.out)) k_ hk, Kd.fresh' (Kd.R_lt (uR HO_10.out)) k_ hk⟩)); (case aO => exact (uR HO_12.out)); (case aS => exact (below_size bl)); (case aL => have := LMc83.out; omega); intro v384 w86 ho hb hg hat; rw [← Ny383.out] at ho; replace HO_9 := Aside0.mk (Kd.R_after (ok := (fun k_ => some k_ ≠ (v369 : Value).ownBlock)) (uR HO_9.out) hg hat); replace HO_10 := Aside0.mk (Kd.R_after (ok := (fun k_ => some k_ ≠ (.slice (some ad375) t365.length co84 : Value).ownBlock)) (uR HO_10.out) hg hat); replace HO_365000 := Aside0.mk (Kd.N_afterv (ok := (fun k_ => some k_ ≠ (.slice (some ad375) t365.length co84 : Value).ownBlock ∧ some k_ ≠ (v369 : Value).ownBlock ∧ k_ ≠ gb356 ∧ k_ ≠ gb357 ∧ k_ ≠ gb364 ∧ k_ ≠ gb374)) (by (with_reducible repeat (first | apply Kd.N_alloc | apply Kd.N_drewN | apply Kd.N_drew)); exact Kd.N_mono HO_365000.out (fun _ hk => ⟨⟨hk.1, ⟨hk.2.1, ⟨hk.2.2.2.1, ⟨hk.2.2.2.2.1, ⟨hk.2.2.2.2.2.1, hk.2.2.2.2.2.2⟩⟩⟩⟩⟩, hk.2.2.1⟩)) hg hat); replace BK356 := Aside0.mk (blk_grown (g := gb356) (o := .cells #[.slice A0_0 l0_0.length c0_0] 24 (0, 0)) (uB BK356.out) hg (Kd.R_ne HO_12.out BK356.out (by decide))); replace BK357 := Aside0.mk (blk_grown (g := gb357) (o := .cells #[.int .i64 a1_0, .int .i64 a1_1, .string a1_2, .int .i64 a1_3] 26 (0, 0)) (uB BK357.out) hg (Kd.R_ne HO_12.out BK357.out (by decide))); replace BK364 := Aside0.mk (blk_grown (g := gb364) (o := .cells #[.slice Ao53 t360.length co53] 24 (0, 0)) (uB BK364.out) hg (Kd.R_ne HO_12.out BK364.out (by decide))); replace BK374 := Aside0.mk (blk_grown (g := gb374) (o := .cells #[.int .i64 x375000_2, .int .i64 x375001_2, .bool x375002_2, .int .i64 x375003_2, .int .i64 x375004_2] 52 (0, 0)) (uB BK374.out) hg (Kd.R_ne HO_12.out BK374.out (by decide))); replace HB := Aside0.mk (hb); have HO385 := Aside0.mk (ho); clear HO_12; clear ho hb hg hat))
             go_roundg k2
             case measure => have := HJ5.out; have := HK2.out; omega
             case rel => exact ⟨(y383), (wrap64 (x13_2 + 1)), (x375000_2), (x375001_2), (x375002_2), (x375003_2), (x375004_2), rs_, H', ⟨by have := HJ5.out; have := HK2.out; omega⟩, ⟨uR HO_9.out⟩, ⟨uR HO_10.out⟩, ⟨uR HO385.out⟩, ⟨by (with_reducible repeat (first | apply Kd.N_alloc | apply Kd.N_drewN | apply Kd.N_drew)); exact Kd.N_mono HO_365000.out (fun _ hk => ⟨hk.1.1, ⟨hk.1.2.1, ⟨hk.2, ⟨hk.1.2.2.1, ⟨hk.1.2.2.2.1, ⟨hk.1.2.2.2.2.1, hk.1.2.2.2.2.2⟩⟩⟩⟩⟩⟩)⟩, ⟨uB BK356.out⟩, ⟨uB BK357.out⟩, ⟨uB BK364.out⟩, ⟨uB BK374.out⟩, ⟨bl⟩⟩
            ·
             rw [if_neg c83] at H
             exact absurd H (by simp)
          ·
           rw [if_neg c69] at H
           exact absurd H (by simp)
         ·
          rw [if_neg c68] at H
          have c68b0 : decide (x13_2 < (t365.length : Int)) = false := decide_eq_false c68
          clear c68
          have H' := Aside0.mk H
          clear H
          obtain ⟨Ao87, co87, eo87⟩ := Kd.R_slice HO_9.out
          subst eo87
          go_wp2
          go_loopg [14, 15, 16] k2 (fun kq v14 v15 v16 w' => ∃ (x14_3 : List (S54)) (x15_3 : Bool) (x16_3 : Int), v15 = .bool x15_3 ∧ v16 = .int .i64 x16_3 ∧ Aside0 (w11_ShardWrites.l1 kq t368 x12_2 x14_3 x15_3 x16_3 l0_0 a1_0 a1_1 a1_2 a1_3 t360 x375000_2 x375001_2 x375002_2 x375003_2 x375004_2 = some r) ∧ Aside0 (kq ≤ k2) ∧ Aside0 (Kd.R k54 54 w' w.heap.size (fun k_ => some k_ ≠ (u12 : Value).ownBlock ∧ some k_ ≠ (v14 : Value).ownBlock) v369 t368) ∧ Aside0 (Kd.R k54 54 w' w.heap.size (fun k_ => some k_ ≠ (v369 : Value).ownBlock ∧ some k_ ≠ (v14 : Value).ownBlock) u12 x12_2) ∧ Aside0 (Kd.R k54 54 w' w.heap.size (fun k_ => some k_ ≠ (v369 : Value).ownBlock ∧ some k_ ≠ (u12 : Value).ownBlock) v14 x14_3) ∧ Aside0 (Kd.N k59 59 w' w.heap.size (fun k_ => some k_ ≠ (v369 : Value).ownBlock ∧ some k_ ≠ (u12 : Value).ownBlock ∧ some k_ ≠ (v14 : Value).ownBlock ∧ k_ ≠ gb356 ∧ k_ ≠ gb357 ∧ k_ ≠ gb364 ∧ k_ ≠ gb374) (.slice Ao53 t360.length co53) t360) ∧ Aside0 (w'.heap[gb356]? = some (.cells #[(.slice A0_0 l0_0.length c0_0)] 24 (0, 0))) ∧ Aside0 (w'.heap[gb357]? = some (.cells #[.int .i64 a1_0, .int .i64 a1_1, .string a1_2, .int .i64 a1_3] 26 (0, 0))) ∧ Aside0 (w'.heap[gb364]? = some (.cells #[(.slice Ao53 t360.length co53)] 24 (0, 0))) ∧ Aside0 (w'.heap[gb374]? = some (.cells #[.int .i64 x375000_2, .int .i64 x375001_2, .bool x375002_2, .int .i64 x375003_2, .int .i64 x375004_2] 52 (0, 0))) ∧ Aside0 (Below w.heap.size w w'))
          case atStart => exact ⟨(([] : List (S54))), (false), (0), rs_, rs_, H', ⟨Nat.le_refl _⟩, ⟨by exact uR <| Kd.R_mono HO_10.out (fun _ hk => ⟨hk.2, (by simp [Value.ownBlock])⟩)⟩, ⟨by exact uR <| Kd.R_mono HO_12.out (fun _ hk => ⟨hk.2, (by simp [Value.ownBlock])⟩)⟩, ⟨nl_⟩, ⟨by (with_reducible repeat (first | apply Kd.N_alloc | apply Kd.N_drewN | apply Kd.N_drew)); exact Kd.N_mono HO_365000.out (fun _ hk => ⟨hk.2.1, ⟨hk.2.2.1, ⟨(by simp [Value.ownBlock]), ⟨hk.2.2.2.1, ⟨hk.2.2.2.2.1, ⟨hk.2.2.2.2.2.1, hk.2.2.2.2.2.2⟩⟩⟩⟩⟩⟩)⟩, ⟨uB BK356.out⟩, ⟨uB BK357.out⟩, ⟨uB BK364.out⟩, ⟨uB BK374.out⟩, ⟨bl⟩⟩
          case round =>
           clear H'
           try clear p2
           try clear p3
           try clear q3
           try clear hx3
           try clear c6
           try clear p6
           try clear c7
           try clear c8
           try clear p37
           try clear q37
           try clear hx37
           try clear p38
           try clear q38
           try clear hx38
           try clear p64
           try clear c68
           try clear c68b0
           try clear c69
           try clear c70
           try clear c70b0
           try clear c70b1
           try clear c71
           try clear c71b0
           try clear c71b1
           try clear c74
           try clear c75
           try clear c76
           try clear c79
           try clear c83
           try clear hcz77_0
           try clear hcz77_1
           try clear hcz77_2
           try clear hcz77_3
           try clear hcz77_4
           try clear hfz77_0
           try clear hfz77_1
           try clear hfz77_2
           try clear hfz77_3
           try clear hfz77_4
           try clear hx375_0
           try clear hx375_1
           try clear hx375_2
           try clear hx375_3
           try clear hx375_4
           try clear hx375_5
           try clear hx375_6
           try clear hx376_0
           try clear hx376_1
           try clear hx376_2
           try clear hx376_3
           try clear hx376_4
           try clear hx376_5
           try clear hx376_6
           try clear hx377_0
           try clear hx377_1
           try clear hx377_2
           try clear hx377_3
           try clear hx377_4
           try clear hx377_5
           try clear hx377_6
           try clear hx378_0
           try clear hx378_1
           try clear hx378_2
           try clear hx378_3
           try clear hx378_4
           try clear hx378_5
           try clear hx378_6
           try clear hx382_0
           try clear hx382_1
           try clear hx382_2
           try clear hx382_3
           try clear hx382_4
           try clear hx382_5
           try clear hx382_6
           try clear p375
           try clear p376
           try clear p377
           try clear p378
           try clear p382
           try clear q375
           try clear q376
           try clear q377
           try clear q378
           try clear q382
           obtain ⟨x14_3, x15_3, x16_3, rfl, rfl, HA, HK3, HO_10, HO_12, HO_14, HO_365000, BK356, BK357, BK364, BK374, HB⟩ := hrel
           cases gk with
           | zero => exact absurd HA.out (by simp [w11_ShardWrites.l1])
           | succ k3 =>
            have H := HA.out
            clear HA
            simp only [w11_ShardWrites.l1] at H
            by_cases c88 : x16_3 < (t368.length : Int)
            ·
             rw [if_pos c88] at H
             have c88b0 : decide (x16_3 < (t368.length : Int)) = true := decide_eq_true c88
             clear c88
             by_cases c89 : 0 ≤ x16_3
             ·
              rw [if_pos c89] at H
              have c89b0 : decide (0 ≤ x16_3) = true := decide_eq_true c89
              clear c89
              by_cases c90 : ((rd_T54 t368 x16_3).f0) = a1_1
              ·
               rw [if_pos c90] at H
               have c90b0 : (((rd_T54 t368 x16_3).f0) == a1_1) = true := beq_iff_eq.mpr c90
               have c90b1 : (((rd_T54 t368 x16_3).f0) != a1_1) = false := bne_eq_false_iff_eq.mpr c90
               clear c90
               by_cases c91 : ((rd_T54 t368 x16_3).f1).toList = a1_2.toList
               ·
                rw [if_pos c91] at H
                have c91b0 : (((rd_T54 t368 x16_3).f1).toList == a1_2.toList) = true := beq_iff_eq.mpr c91
                have c91b1 : (((rd_T54 t368 x16_3).f1).toList != a1_2.toList) = false := bne_eq_false_iff_eq.mpr c91
                clear c91
                obtain ⟨⟨t389, t390, t391, t392, t393⟩, A92, H⟩ := bs H
                try dsimp only at H
                have H' := Aside0.mk H
                clear H
                obtain ⟨Ao93, co93, eo93⟩ := Kd.R_slice HO_10.out
                subst eo93
                try go_wp2
                replace HO_10 := Aside0.mk (Kd.R_drew HO_10.out)
                replace HO_12 := Aside0.mk (Kd.R_drew HO_12.out)
                replace HO_14 := Aside0.mk (Kd.R_drew HO_14.out)
                replace HO_365000 := Aside0.mk (Kd.N_drew HO_365000.out)
                replace BK356 := Aside0.mk (blk_drew BK356.out)
                replace BK357 := Aside0.mk (blk_drew BK357.out)
                replace BK364 := Aside0.mk (blk_drew BK364.out)
                replace BK374 := Aside0.mk (blk_drew BK374.out)
                replace HB := Aside0.mk (below_drew1 HB.out)
                have p386 : 0 ≤ (x16_3 : Int) := od
                have q386 : x16_3 < (t368.length : Int) := od
                obtain ⟨ad386, e386, hx386_0, hx386_1, hx386_2, hx386_3, hx386_4, hx386_5, hx386_6⟩ := at_T54 (Kd.R_reads' HO_10.out).2.2 x16_3 p386 q386
                cases e386
                replace p386 := eq_true p386
                replace q386 := eq_true q386
                have p387 : 0 ≤ (x16_3 : Int) := od
                have q387 : x16_3 < (t368.length : Int) := od
                obtain ⟨ad387, e387, hx387_0, hx387_1, hx387_2, hx387_3, hx387_4, hx387_5, hx387_6⟩ := at_T54 (Kd.R_reads' HO_10.out).2.2 x16_3 p387 q387
                obtain rfl : ad386 = ad387 := (by injection e387)
                replace p387 := eq_true p387
                replace q387 := eq_true q387
                refine start_ (n := 18) (S := fun w' => w'.cell? ⟨gb357, 0, none⟩ = some (.int .i64 a1_0) ∧ w'.cell? ⟨gb357, 1, none⟩ = some (.int .i64 a1_1) ∧ w'.cell? ⟨gb357, 2, none⟩ = some (.string a1_2) ∧ w'.cell? ⟨gb357, 3, none⟩ = some (.int .i64 a1_3) ∧ w'.cell? (ad386.add ((x16_3).toNat * 7)) = some (.int .i64 ((rd_T54 t368 x16_3).f0)) ∧ w'.cell? ⟨(ad386.add ((x16_3).toNat * 7)).block, (ad386.add ((x16_3).toNat * 7)).off + 1, none⟩ = some (.string ((rd_T54 t368 x16_3).f1)) ∧ w'.cell? ⟨(ad386.add ((x16_3).toNat * 7)).block, (ad386.add ((x16_3).toNat * 7)).off + 2, none⟩ = some (.int .i64 ((rd_T54 t368 x16_3).f2.f0)) ∧ w'.cell? ⟨(ad386.add ((x16_3).toNat * 7)).block, (ad386.add ((x16_3).toNat * 7)).off + 3, none⟩ = some (.int .i64 ((rd_T54 t368 x16_3).f2.f1.f0)) ∧ w'.cell? ⟨(ad386.add ((x16_3).toNat * 7)).block, (ad386.add ((x16_3).toNat * 7)).off + 4, none⟩ = some (.bool ((rd_T54 t368 x16_3).f2.f1.f1)) ∧ w'.cell? ⟨(ad386.add ((x16_3).toNat * 7)).block, (ad386.add ((x16_3).toNat * 7)).off + 5, none⟩ = some (.int .i64 ((rd_T54 t368 x16_3).f2.f2)) ∧ w'.cell? ⟨(ad386.add ((x16_3).toNat * 7)).block, (ad386.add ((x16_3).toNat * 7)).off + 6, none⟩ = some (.int .i64 ((rd_T54 t368 x16_3).f2.f3)) ∧ w'.cell? (ad386.add ((x16_3).toNat * 7)) = some (.int .i64 ((rd_T54 t368 x16_3).f0)) ∧ w'.cell? ⟨(ad386.add ((x16_3).toNat * 7)).block, (ad386.add ((x16_3).toNat * 7)).off + 1, none⟩ = some (.string ((rd_T54 t368 x16_3).f1)) ∧ w'.cell? ⟨(ad386.add ((x16_3).toNat * 7)).block, (ad386.add ((x16_3).toNat * 7)).off + 2, none⟩ = some (.int .i64 ((rd_T54 t368 x16_3).f2.f0)) ∧ w'.cell? ⟨(ad386.add ((x16_3).toNat * 7)).block, (ad386.add ((x16_3).toNat * 7)).off + 3, none⟩ = some (.int .i64 ((rd_T54 t368 x16_3).f2.f1.f0)) ∧ w'.cell? ⟨(ad386.add ((x16_3).toNat * 7)).block, (ad386.add ((x16_3).toNat * 7)).off + 4, none⟩ = some (.bool ((rd_T54 t368 x16_3).f2.f1.f1)) ∧ w'.cell? ⟨(ad386.add ((x16_3).toNat * 7)).block, (ad386.add ((x16_3).toNat * 7)).off + 5, none⟩ = some (.int .i64 ((rd_T54 t368 x16_3).f2.f2)) ∧ w'.cell? ⟨(ad386.add ((x16_3).toNat * 7)).block, (ad386.add ((x16_3).toNat * 7)).off + 6, none⟩ = some (.int .i64 ((rd_T54 t368 x16_3).f2.f3))) (ds := []) _ (by kernel_rfl) rfl rfl ⟨(blk_cell BK357.out 0).trans rfl, (blk_cell BK357.out 1).trans rfl, (blk_cell BK357.out 2).trans rfl, (blk_cell BK357.out 3).trans rfl, hx386_0, hx386_1, hx386_2, hx386_3, hx386_4, hx386_5, hx386_6, hx387_0, hx387_1, hx387_2, hx387_3, hx387_4, hx387_5, hx387_6⟩ (fun hHeld => ?_); refine with_tabW w11_ShardWrites.tab24 w11_ShardWrites.bits24 (fun HT_ HW_ => ?_)
                generalize wr.drew = w94 at HO_10 HO_12 HO_14 HO_365000 BK356 BK357 BK364 BK374 HB hx386_0 hx386_1 hx386_2 hx386_3 hx386_4 hx386_5 hx386_6 hx387_0 hx387_1 hx387_2 hx387_3 hx387_4 hx387_5 hx387_6 hHeld ⊢
                refine p1 0 (some 103) ?_
                refine p1 1 (some 104) ?_
                refine p1 2 (some 105) ?_
                refine p1 3 (some 106) ?_
                refine p1 5 (some 108) ?_
                refine t1 4 (some 107) rfl rfl hHeld (Or.inl ⟨by rfl, by rintro w' ⟨s0, s1, s2, s3, s4, s5, s6, s7, s8, s9, s10, s11, s12, s13, s14, s15, s16, s17⟩; go_simp; with_reducible rfl⟩) ?_
                refine t1 6 (some 109) rfl rfl hHeld (Or.inl ⟨by rfl, by rintro w' ⟨s0, s1, s2, s3, s4, s5, s6, s7, s8, s9, s10, s11, s12, s13, s14, s15, s16, s17⟩; go_simp; with_reducible rfl⟩) ?_
                refine p1 7 (some 110) ?_
                refine p1 8 (some 111) ?_
                refine p1 9 (some 112) ?_
                refine p1 10 (some 113) ?_
                refine p1 11 (some 114) ?_
                refine p1 12 (some 115) ?_
                refine p1 14 (some 117) ?_
                refine t1 13 (some 116) rfl rfl hHeld (Or.inl ⟨by rfl, by rintro w' ⟨s0, s1, s2, s3, s4, s5, s6, s7, s8, s9, s10, s11, s12, s13, s14, s15, s16, s17⟩; go_simp; with_reducible rfl⟩) ?_
                refine t1 15 (some 118) rfl rfl hHeld (Or.inl ⟨by rfl, by rintro w' ⟨s0, s1, s2, s3, s4, s5, s6, s7, s8, s9, s10, s11, s12, s13, s14, s15, s16, s17⟩; go_simp; with_reducible rfl⟩) ?_
                refine p1 16 (some 119) ?_
                refine p1 17 (some 120) ?_
                refine done_ (done_of HT_.out (by kernel_rfl)) ?_
                try go_wp2
                replace HO_10 := Aside0.mk (Kd.R_drew HO_10.out)
                replace HO_12 := Aside0.mk (Kd.R_drew HO_12.out)
                replace HO_14 := Aside0.mk (Kd.R_drew HO_14.out)
                replace HO_365000 := Aside0.mk (Kd.N_drew HO_365000.out)
                replace BK356 := Aside0.mk (blk_drew BK356.out)
                replace BK357 := Aside0.mk (blk_drew BK357.out)
                replace BK364 := Aside0.mk (blk_drew BK364.out)
                replace BK374 := Aside0.mk (blk_drew BK374.out)
                replace HB := Aside0.mk (below_drew1 HB.out)
                have p388 : 0 ≤ (x16_3 : Int) := od
                have q388 : x16_3 < (t368.length : Int) := od
                obtain ⟨ad388, e388, hx388_0, hx388_1, hx388_2, hx388_3, hx388_4, hx388_5, hx388_6⟩ := at_T54 (Kd.R_reads' HO_10.out).2.2 x16_3 p388 q388
                obtain rfl : ad386 = ad388 := (by injection e388)
                replace p388 := eq_true p388
                replace q388 := eq_true q388
                refine start_ (n := 11) (S := fun w' => w'.cell? ⟨gb374, 0, none⟩ = some (.int .i64 x375000_2) ∧ w'.cell? ⟨gb374, 1, none⟩ = some (.int .i64 x375001_2) ∧ w'.cell? ⟨gb374, 2, none⟩ = some (.bool x375002_2) ∧ w'.cell? ⟨gb374, 3, none⟩ = some (.int .i64 x375003_2) ∧ w'.cell? ⟨gb374, 4, none⟩ = some (.int .i64 x375004_2) ∧ w'.cell? ⟨gb357, 0, none⟩ = some (.int .i64 a1_0) ∧ w'.cell? ⟨gb357, 1, none⟩ = some (.int .i64 a1_1) ∧ w'.cell? ⟨gb357, 2, none⟩ = some (.string a1_2) ∧ w'.cell? ⟨gb357, 3, none⟩ = some (.int .i64 a1_3) ∧ w'.cell? (ad386.add ((x16_3).toNat * 7)) = some (.int .i64 ((rd_T54 t368 x16_3).f0)) ∧ w'.cell? ⟨(ad386.add ((x16_3).toNat * 7)).block, (ad386.add ((x16_3).toNat * 7)).off + 1, none⟩ = some (.string ((rd_T54 t368 x16_3).f1)) ∧ w'.cell? ⟨(ad386.add ((x16_3).toNat * 7)).block, (ad386.add ((x16_3).toNat * 7)).off + 2, none⟩ = some (.int .i64 ((rd_T54 t368 x16_3).f2.f0)) ∧ w'.cell? ⟨(ad386.add ((x16_3).toNat * 7)).block, (ad386.add ((x16_3).toNat * 7)).off + 3, none⟩ = some (.int .i64 ((rd_T54 t368 x16_3).f2.f1.f0)) ∧ w'.cell? ⟨(ad386.add ((x16_3).toNat * 7)).block, (ad386.add ((x16_3).toNat * 7)).off + 4, none⟩ = some (.bool ((rd_T54 t368 x16_3).f2.f1.f1)) ∧ w'.cell? ⟨(ad386.add ((x16_3).toNat * 7)).block, (ad386.add ((x16_3).toNat * 7)).off + 5, none⟩ = some (.int .i64 ((rd_T54 t368 x16_3).f2.f2)) ∧ w'.cell? ⟨(ad386.add ((x16_3).toNat * 7)).block, (ad386.add ((x16_3).toNat * 7)).off + 6, none⟩ = some (.int .i64 ((rd_T54 t368 x16_3).f2.f3))) (ds := []) _ (by kernel_rfl) rfl rfl ⟨(blk_cell BK374.out 0).trans rfl, (blk_cell BK374.out 1).trans rfl, (blk_cell BK374.out 2).trans rfl, (blk_cell BK374.out 3).trans rfl, (blk_cell BK374.out 4).trans rfl, (blk_cell BK357.out 0).trans rfl, (blk_cell BK357.out 1).trans rfl, (blk_cell BK357.out 2).trans rfl, (blk_cell BK357.out 3).trans rfl, hx388_0, hx388_1, hx388_2, hx388_3, hx388_4, hx388_5, hx388_6⟩ (fun hHeld => ?_); refine with_tabW w11_ShardWrites.tab25 w11_ShardWrites.bits25 (fun HT_ HW_ => ?_)
                generalize w94.drew = w95 at HO_10 HO_12 HO_14 HO_365000 BK356 BK357 BK364 BK374 HB hx388_0 hx388_1 hx388_2 hx388_3 hx388_4 hx388_5 hx388_6 hHeld ⊢
                refine p1 0 (some 121) ?_
                refine p1 1 (some 122) ?_
                refine p1 2 (some 123) ?_
                refine p1 3 (some 124) ?_
                refine p1 6 (some 127) ?_
                refine t1 4 (some 125) rfl rfl hHeld (Or.inl ⟨by rfl, by rintro w' ⟨s0, s1, s2, s3, s4, s5, s6, s7, s8, s9, s10, s11, s12, s13, s14, s15⟩; go_simp; with_reducible rfl⟩) ?_
                refine t1 5 (some 126) rfl rfl hHeld (Or.inl ⟨by rfl, by rintro w' ⟨s0, s1, s2, s3, s4, s5, s6, s7, s8, s9, s10, s11, s12, s13, s14, s15⟩; go_simp; with_reducible rfl⟩) ?_
                refine t1 7 (some 128) rfl rfl hHeld (Or.inl ⟨by rfl, by rintro w' ⟨s0, s1, s2, s3, s4, s5, s6, s7, s8, s9, s10, s11, s12, s13, s14, s15⟩; go_simp; with_reducible rfl⟩) ?_
                refine o1 8 (some 129) rfl rfl (fun K hK => ?_)
                refine gS Try.func24 #[.agg #[.int .i64 x375000_2, .int .i64 x375001_2, .bool x375002_2, .int .i64 x375003_2, .int .i64 x375004_2], .int .i64 a1_3] ?_
                with_reducible refine (r06_Fold.calls k3 x375000_2 x375001_2 x375002_2 x375003_2 x375004_2 a1_3 t389 t390 t391 t392 t393 _ A92.out).mono ?_
                rintro e w96 ⟨rfl, hb⟩
                have HS9_ := (hb.cell (World.block_lt_of_cell? _ _ (hHeld.2.2.2.2.2.2.2.2.2.1))).trans (hHeld.2.2.2.2.2.2.2.2.2.1)
                have HS10_ := (hb.cell (World.block_lt_of_cell? _ _ (hHeld.2.2.2.2.2.2.2.2.2.2.1))).trans (hHeld.2.2.2.2.2.2.2.2.2.2.1)
                have HS11_ := (hb.cell (World.block_lt_of_cell? _ _ (hHeld.2.2.2.2.2.2.2.2.2.2.2.1))).trans (hHeld.2.2.2.2.2.2.2.2.2.2.2.1)
                have HS12_ := (hb.cell (World.block_lt_of_cell? _ _ (hHeld.2.2.2.2.2.2.2.2.2.2.2.2.1))).trans (hHeld.2.2.2.2.2.2.2.2.2.2.2.2.1)
                have HS13_ := (hb.cell (World.block_lt_of_cell? _ _ (hHeld.2.2.2.2.2.2.2.2.2.2.2.2.2.1))).trans (hHeld.2.2.2.2.2.2.2.2.2.2.2.2.2.1)
                have HS14_ := (hb.cell (World.block_lt_of_cell? _ _ (hHeld.2.2.2.2.2.2.2.2.2.2.2.2.2.2.1))).trans (hHeld.2.2.2.2.2.2.2.2.2.2.2.2.2.2.1)
                have HS15_ := (hb.cell (World.block_lt_of_cell? _ _ (hHeld.2.2.2.2.2.2.2.2.2.2.2.2.2.2.2))).trans (hHeld.2.2.2.2.2.2.2.2.2.2.2.2.2.2.2)
                refine ⟨_, rfl, ?_⟩
                replace HO_10 := cR HO_10 hb
                replace HO_12 := cR HO_12 hb
                replace HO_14 := cR HO_14 hb
                replace HO_365000 := Aside0.mk (Kd.N_below (by (with_reducible repeat (first | apply Kd.N_alloc | apply Kd.N_drewN | apply Kd.N_drew)); exact HO_365000.out) hb)
                replace BK356 := cB BK356 hb
                replace BK357 := cB BK357 hb
                replace BK364 := cB BK364 hb
                replace BK374 := cB BK374 hb
                replace HB := Aside0.mk (below_step bl hb)
                (try clear hb)
                refine hK.out _ _ ⟨(blk_cell BK374.out 0).trans rfl, (blk_cell BK374.out 1).trans rfl, (blk_cell BK374.out 2).trans rfl, (blk_cell BK374.out 3).trans rfl, (blk_cell BK374.out 4).trans rfl, (blk_cell BK357.out 0).trans rfl, (blk_cell BK357.out 1).trans rfl, (blk_cell BK357.out 2).trans rfl, (blk_cell BK357.out 3).trans rfl, HS9_, HS10_, HS11_, HS12_, HS13_, HS14_, HS15_⟩ (fun hHeld => ?_)
                clear hK K
                refine norm_ (a' := ?_) ?_ ?_
                rotate_left
                ·
                 show Act.put _ (some 129) _ = _
                 simp only [Act.put, List.setIfInBounds_toArray, List.set_cons_zero, List.set_cons_succ, i64_w, i32_w]
                 rfl
                refine p1 9 (some 130) ?_
                refine p1 10 (some 15) ?_
                refine done_ (done_of HT_.out (by kernel_rfl)) ?_
                try go_wp2
                go_roundg k3
                case measure => have := HJ5.out; have := HK2.out; have := HK3.out; omega
                case rel => exact ⟨(x14_3), ((((rd_T54 t368 x16_3).f2.f0) == t389 && ((((rd_T54 t368 x16_3).f2.f1.f0) == t390 && (((rd_T54 t368 x16_3).f2.f1.f1) == t391)) && (((rd_T54 t368 x16_3).f2.f2) == t392 && (((rd_T54 t368 x16_3).f2.f3) == t393))))), (wrap64 (x16_3 + 1)), rs_, rs_, H', ⟨by have := HJ5.out; have := HK2.out; have := HK3.out; omega⟩, ⟨uR HO_10.out⟩, ⟨uR HO_12.out⟩, ⟨uR HO_14.out⟩, ⟨by (with_reducible repeat (first | apply Kd.N_alloc | apply Kd.N_drewN | apply Kd.N_drew)); exact HO_365000.out⟩, ⟨uB BK356.out⟩, ⟨uB BK357.out⟩, ⟨uB BK364.out⟩, ⟨uB BK374.out⟩, ⟨bl⟩⟩
               ·
                rw [if_neg c91] at H
                have c91b0 : (((rd_T54 t368 x16_3).f1).toList == a1_2.toList) = false := beq_eq_false_iff_ne.mpr c91
                have c91b1 : (((rd_T54 t368 x16_3).f1).toList != a1_2.toList) = true := bne_iff_ne.mpr c91
                by_cases c97 : x14_3.length < 2199023255552
                ·
                 rw [if_pos c97] at H
                 have LMc97 := Aside0.mk c97
                 clear c97
                 obtain ⟨y395, hy395⟩ : ∃ y_ : List (S54), y_ = (x14_3 ++ [(⟨(rd_T54 t368 x16_3).f0, (rd_T54 t368 x16_3).f1, (⟨(rd_T54 t368 x16_3).f2.f0, (⟨(rd_T54 t368 x16_3).f2.f1.f0, (rd_T54 t368 x16_3).f2.f1.f1⟩ : S50), (rd_T54 t368 x16_3).f2.f2, (rd_T54 t368 x16_3).f2.f3⟩ : S52)⟩ : S54)]) := ⟨_, rfl⟩
                 replace H : (w11_ShardWrites.l1 k3 t368 x12_2 y395 x15_3 (wrap64 (x16_3 + 1)) l0_0 a1_0 a1_1 a1_2 a1_3 t360 x375000_2 x375001_2 x375002_2 x375003_2 x375004_2) = some r := by first | (rw [hy395]; with_reducible exact H) | (have H2_ := (Option.bind_some _ _).symm.trans H; rw [hy395]; with_reducible exact H2_) | (have H2_ := (Option.bind_some _ _).symm.trans H; with_reducible exact H2_) | with_reducible exact H | (rw [hy395]; exact H) | exact H
                 have Ny395 := Aside0.mk hy395
                 clear hy395
                 have H' := Aside0.mk H
                 clear H
                 obtain ⟨Ao98, co98, eo98⟩ := Kd.R_slice HO_10.out
                 subst eo98
                 try go_wp2
                 replace HO_10 := Aside0.mk (Kd.R_drew HO_10.out)
                 replace HO_12 := Aside0.mk (Kd.R_drew HO_12.out)
                 replace HO_14 := Aside0.mk (Kd.R_drew HO_14.out)
                 replace HO_365000 := Aside0.mk (Kd.N_drew HO_365000.out)
                 replace BK356 := Aside0.mk (blk_drew BK356.out)
                 replace BK357 := Aside0.mk (blk_drew BK357.out)
                 replace BK364 := Aside0.mk (blk_drew BK364.out)
                 replace BK374 := Aside0.mk (blk_drew BK374.out)
                 replace HB := Aside0.mk (below_drew1 HB.out)
                 have p386 : 0 ≤ (x16_3 : Int) := od
                 have q386 : x16_3 < (t368.length : Int) := od
                 obtain ⟨ad386, e386, hx386_0, hx386_1, hx386_2, hx386_3, hx386_4, hx386_5, hx386_6⟩ := at_T54 (Kd.R_reads' HO_10.out).2.2 x16_3 p386 q386
                 cases e386
                 replace p386 := eq_true p386
                 replace q386 := eq_true q386
                 have p387 : 0 ≤ (x16_3 : Int) := od
                 have q387 : x16_3 < (t368.length : Int) := od
                 obtain ⟨ad387, e387, hx387_0, hx387_1, hx387_2, hx387_3, hx387_4, hx387_5, hx387_6⟩ := at_T54 (Kd.R_reads' HO_10.out).2.2 x16_3 p387 q387
                 obtain rfl : ad386 = ad387 := (by injection e387)
                 replace p387 := eq_true p387
                 replace q387 := eq_true q387
                 refine start_ (n := 18) (S := fun w' => w'.cell? ⟨gb357, 0, none⟩ = some (.int .i64 a1_0) ∧ w'.cell? ⟨gb357, 1, none⟩ = some (.int .i64 a1_1) ∧ w'.cell? ⟨gb357, 2, none⟩ = some (.string a1_2) ∧ w'.cell? ⟨gb357, 3, none⟩ = some (.int .i64 a1_3) ∧ w'.cell? (ad386.add ((x16_3).toNat * 7)) = some (.int .i64 ((rd_T54 t368 x16_3).f0)) ∧ w'.cell? ⟨(ad386.add ((x16_3).toNat * 7)).block, (ad386.add ((x16_3).toNat * 7)).off + 1, none⟩ = some (.string ((rd_T54 t368 x16_3).f1)) ∧ w'.cell? ⟨(ad386.add ((x16_3).toNat * 7)).block, (ad386.add ((x16_3).toNat * 7)).off + 2, none⟩ = some (.int .i64 ((rd_T54 t368 x16_3).f2.f0)) ∧ w'.cell? ⟨(ad386.add ((x16_3).toNat * 7)).block, (ad386.add ((x16_3).toNat * 7)).off + 3, none⟩ = some (.int .i64 ((rd_T54 t368 x16_3).f2.f1.f0)) ∧ w'.cell? ⟨(ad386.add ((x16_3).toNat * 7)).block, (ad386.add ((x16_3).toNat * 7)).off + 4, none⟩ = some (.bool ((rd_T54 t368 x16_3).f2.f1.f1)) ∧ w'.cell? ⟨(ad386.add ((x16_3).toNat * 7)).block, (ad386.add ((x16_3).toNat * 7)).off + 5, none⟩ = some (.int .i64 ((rd_T54 t368 x16_3).f2.f2)) ∧ w'.cell? ⟨(ad386.add ((x16_3).toNat * 7)).block, (ad386.add ((x16_3).toNat * 7)).off + 6, none⟩ = some (.int .i64 ((rd_T54 t368 x16_3).f2.f3)) ∧ w'.cell? (ad386.add ((x16_3).toNat * 7)) = some (.int .i64 ((rd_T54 t368 x16_3).f0)) ∧ w'.cell? ⟨(ad386.add ((x16_3).toNat * 7)).block, (ad386.add ((x16_3).toNat * 7)).off + 1, none⟩ = some (.string ((rd_T54 t368 x16_3).f1)) ∧ w'.cell? ⟨(ad386.add ((x16_3).toNat * 7)).block, (ad386.add ((x16_3).toNat * 7)).off + 2, none⟩ = some (.int .i64 ((rd_T54 t368 x16_3).f2.f0)) ∧ w'.cell? ⟨(ad386.add ((x16_3).toNat * 7)).block, (ad386.add ((x16_3).toNat * 7)).off + 3, none⟩ = some (.int .i64 ((rd_T54 t368 x16_3).f2.f1.f0)) ∧ w'.cell? ⟨(ad386.add ((x16_3).toNat * 7)).block, (ad386.add ((x16_3).toNat * 7)).off + 4, none⟩ = some (.bool ((rd_T54 t368 x16_3).f2.f1.f1)) ∧ w'.cell? ⟨(ad386.add ((x16_3).toNat * 7)).block, (ad386.add ((x16_3).toNat * 7)).off + 5, none⟩ = some (.int .i64 ((rd_T54 t368 x16_3).f2.f2)) ∧ w'.cell? ⟨(ad386.add ((x16_3).toNat * 7)).block, (ad386.add ((x16_3).toNat * 7)).off + 6, none⟩ = some (.int .i64 ((rd_T54 t368 x16_3).f2.f3))) (ds := []) _ (by kernel_rfl) rfl rfl ⟨(blk_cell BK357.out 0).trans rfl, (blk_cell BK357.out 1).trans rfl, (blk_cell BK357.out 2).trans rfl, (blk_cell BK357.out 3).trans rfl, hx386_0, hx386_1, hx386_2, hx386_3, hx386_4, hx386_5, hx386_6, hx387_0, hx387_1, hx387_2, hx387_3, hx387_4, hx387_5, hx387_6⟩ (fun hHeld => ?_); refine with_tabW w11_ShardWrites.tab24 w11_ShardWrites.bits24 (fun HT_ HW_ => ?_)
                 generalize wr.drew = w99 at HO_10 HO_12 HO_14 HO_365000 BK356 BK357 BK364 BK374 HB hx386_0 hx386_1 hx386_2 hx386_3 hx386_4 hx386_5 hx386_6 hx387_0 hx387_1 hx387_2 hx387_3 hx387_4 hx387_5 hx387_6 hHeld ⊢
                 refine p1 0 (some 103) ?_
                 refine p1 1 (some 104) ?_
                 refine p1 2 (some 105) ?_
                 refine p1 3 (some 106) ?_
                 refine p1 5 (some 108) ?_
                 refine t1 4 (some 107) rfl rfl hHeld (Or.inl ⟨by rfl, by rintro w' ⟨s0, s1, s2, s3, s4, s5, s6, s7, s8, s9, s10, s11, s12, s13, s14, s15, s16, s17⟩; go_simp; with_reducible rfl⟩) ?_
                 refine t1 6 (some 109) rfl rfl hHeld (Or.inl ⟨by rfl, by rintro w' ⟨s0, s1, s2, s3, s4, s5, s6, s7, s8, s9, s10, s11, s12, s13, s14, s15, s16, s17⟩; go_simp; with_reducible rfl⟩) ?_
                 refine p1 7 (some 110) ?_
                 refine p1 8 (some 111) ?_
                 refine p1 9 (some 112) ?_
                 refine p1 10 (some 113) ?_
                 refine p1 11 (some 114) ?_
                 refine p1 12 (some 115) ?_
                 refine p1 14 (some 117) ?_
                 refine t1 13 (some 116) rfl rfl hHeld (Or.inl ⟨by rfl, by rintro w' ⟨s0, s1, s2, s3, s4, s5, s6, s7, s8, s9, s10, s11, s12, s13, s14, s15, s16, s17⟩; go_simp; with_reducible rfl⟩) ?_
                 refine t1 15 (some 118) rfl rfl hHeld (Or.inl ⟨by rfl, by rintro w' ⟨s0, s1, s2, s3, s4, s5, s6, s7, s8, s9, s10, s11, s12, s13, s14, s15, s16, s17⟩; go_simp; with_reducible rfl⟩) ?_
                 refine p1 16 (some 119) ?_
                 refine p1 17 (some 120) ?_
                 refine done_ (done_of HT_.out (by kernel_rfl)) ?_
                 have p394 : 0 ≤ (x16_3 : Int) := od
                 have q394 : x16_3 < (t368.length : Int) := od
                 obtain ⟨ad394, e394, hx394_0, hx394_1, hx394_2, hx394_3, hx394_4, hx394_5, hx394_6⟩ := at_T54 (Kd.R_reads' HO_10.out).2.2 x16_3 p394 q394
                 obtain rfl : ad386 = ad394 := (by injection e394)
                 replace p394 := eq_true p394
                 replace q394 := eq_true q394
                 try go_wp2_with (first | ((with_reducible refine gate_builtin (b := .append) (xs := #[.tmp 131, .tmp 136]) rfl ?_); (try (refine gate_guard (by rfl) ?_; dsimp only)); at_builtin; refine Kd.R_append k54 (w0 := w) w.heap.size rfl (.tmp 131) (.tmp 136) 36 54 (.agg #[(.int .i64 0), (.string ⟨#[]⟩), (.int .i64 0), (.int .i64 0), (.bool false), (.int .i64 0), (.int .i64 0)]) 64 rfl Try.underlying36 info54 rfl (by decide) (by omega) u14 x14_3 (⟨(rd_T54 t368 x16_3).f0, (rd_T54 t368 x16_3).f1, (⟨(rd_T54 t368 x16_3).f2.f0, (⟨(rd_T54 t368 x16_3).f2.f1.f0, (rd_T54 t368 x16_3).f2.f1.f1⟩ : S50), (rd_T54 t368 x16_3).f2.f2, (rd_T54 t368 x16_3).f2.f3⟩ : S52)⟩ : S54) [.int .i64 ((rd_T54 t368 x16_3).f0), .string ((rd_T54 t368 x16_3).f1), .int .i64 ((rd_T54 t368 x16_3).f2.f0), .int .i64 ((rd_T54 t368 x16_3).f2.f1.f0), .bool ((rd_T54 t368 x16_3).f2.f1.f1), .int .i64 ((rd_T54 t368 x16_3).f2.f2), .int .i64 ((rd_T54 t368 x16_3).f2.f3)] (fun k_ => some k_ ≠ (.slice (some ad386) t368.length co98 : Value).ownBlock ∧ some k_ ≠ (u12 : Value).ownBlock) (fun _ => False) rfl rfl ?aP (fun _ hk => hk.elim) ?aF ?aO ?aB ?aS ?aL ?_; (case aP => exact k54_mkM _ _ _ (⟨(rd_T54 t368 x16_3).f0, (rd_T54 t368 x16_3).f1, (⟨(rd_T54 t368 x16_3).f2.f0, (⟨(rd_T54 t368 x16_3).f2.f1.f0, (rd_T54 t368 x16_3).f2.f1.f1⟩ : S50), (rd_T54 t368 x16_3).f2.f2, (rd_T54 t368 x16_3).f2.f3⟩ : S52)⟩ : S54)); (case aB => exact bl); (case aF => exact (fun k_ hk => ⟨Kd.fresh' (Kd.R_lt (uR HO_10.out)) k_ hk, Kd.fresh' (Kd.R_lt (uR HO_12.out)) k_ hk⟩)); (case aO => exact (uR HO_14.out)); (case aS => exact (below_size bl)); (case aL => have := LMc97.out; omega); intro v396 w100 ho hb hg hat; rw [← Ny395.out] at ho; replace HO_10 := Aside0.mk (Kd.R_after (ok := (fun k_ => some k_ ≠ (u12 : Value).ownBlock)) (uR HO_10.out) hg hat); replace HO_12 := Aside0.mk (Kd.R_after (ok := (fun k_ => some k_ ≠ (.slice (some ad386) t368.length co98 : Value).ownBlock)) (uR HO_12.out) hg hat); replace HO_365000 := Aside0.mk (Kd.N_afterv (ok := (fun k_ => some k_ ≠ (.slice (some ad386) t368.length co98 : Value).ownBlock ∧ some k_ ≠ (u12 : Value).ownBlock ∧ k_ ≠ gb356 ∧ k_ ≠ gb357 ∧ k_ ≠ gb364 ∧ k_ ≠ gb374)) (by (with_reducible repeat (first | apply Kd.N_alloc | apply Kd.N_drewN | apply Kd.N_drew)); exact Kd.N_mono HO_365000.out (fun _ hk => ⟨⟨hk.1, ⟨hk.2.1, ⟨hk.2.2.2.1, ⟨hk.2.2.2.2.1, ⟨hk.2.2.2.2.2.1, hk.2.2.2.2.2.2⟩⟩⟩⟩⟩, hk.2.2.1⟩)) hg hat); replace BK356 := Aside0.mk (blk_grown (g := gb356) (o := .cells #[.slice A0_0 l0_0.length c0_0] 24 (0, 0)) (uB BK356.out) hg (Kd.R_ne HO_14.out BK356.out (by decide))); replace BK357 := Aside0.mk (blk_grown (g := gb357) (o := .cells #[.int .i64 a1_0, .int .i64 a1_1, .string a1_2, .int .i64 a1_3] 26 (0, 0)) (uB BK357.out) hg (Kd.R_ne HO_14.out BK357.out (by decide))); replace BK364 := Aside0.mk (blk_grown (g := gb364) (o := .cells #[.slice Ao53 t360.length co53] 24 (0, 0)) (uB BK364.out) hg (Kd.R_ne HO_14.out BK364.out (by decide))); replace BK374 := Aside0.mk (blk_grown (g := gb374) (o := .cells #[.int .i64 x375000_2, .int .i64 x375001_2, .bool x375002_2, .int .i64 x375003_2, .int .i64 x375004_2] 52 (0, 0)) (uB BK374.out) hg (Kd.R_ne HO_14.out BK374.out (by decide))); replace HB := Aside0.mk (hb); have HO397 := Aside0.mk (ho); clear HO_14; clear ho hb hg hat))
                 go_roundg k3
                 case measure => have := HJ5.out; have := HK2.out; have := HK3.out; omega
                 case rel => exact ⟨(y395), (x15_3), (wrap64 (x16_3 + 1)), rs_, rs_, H', ⟨by have := HJ5.out; have := HK2.out; have := HK3.out; omega⟩, ⟨uR HO_10.out⟩, ⟨uR HO_12.out⟩, ⟨uR HO397.out⟩, ⟨by (with_reducible repeat (first | apply Kd.N_alloc | apply Kd.N_drewN | apply Kd.N_drew)); exact Kd.N_mono HO_365000.out (fun _ hk => ⟨hk.1.1, ⟨hk.1.2.1, ⟨hk.2, ⟨hk.1.2.2.1, ⟨hk.1.2.2.2.1, ⟨hk.1.2.2.2.2.1, hk.1.2.2.2.2.2⟩⟩⟩⟩⟩⟩)⟩, ⟨uB BK356.out⟩, ⟨uB BK357.out⟩, ⟨uB BK364.out⟩, ⟨uB BK374.out⟩, ⟨bl⟩⟩
                ·
                 rw [if_neg c97] at H
                 exact absurd H (by simp)
              ·
               rw [if_neg c90] at H
               have c90b0 : (((rd_T54 t368 x16_3).f0) == a1_1) = false := beq_eq_false_iff_ne.mpr c90
               have c90b1 : (((rd_T54 t368 x16_3).f0) != a1_1) = true := bne_iff_ne.mpr c90
               by_cases c101 : x14_3.length < 2199023255552
               ·
                rw [if_pos c101] at H
                have LMc101 := Aside0.mk c101
                clear c101
                obtain ⟨y399, hy399⟩ : ∃ y_ : List (S54), y_ = (x14_3 ++ [(⟨(rd_T54 t368 x16_3).f0, (rd_T54 t368 x16_3).f1, (⟨(rd_T54 t368 x16_3).f2.f0, (⟨(rd_T54 t368 x16_3).f2.f1.f0, (rd_T54 t368 x16_3).f2.f1.f1⟩ : S50), (rd_T54 t368 x16_3).f2.f2, (rd_T54 t368 x16_3).f2.f3⟩ : S52)⟩ : S54)]) := ⟨_, rfl⟩
                replace H : (w11_ShardWrites.l1 k3 t368 x12_2 y399 x15_3 (wrap64 (x16_3 + 1)) l0_0 a1_0 a1_1 a1_2 a1_3 t360 x375000_2 x375001_2 x375002_2 x375003_2 x375004_2) = some r := by first | (rw [hy399]; with_reducible exact H) | (have H2_ := (Option.bind_some _ _).symm.trans H; rw [hy399]; with_reducible exact H2_) | (have H2_ := (Option.bind_some _ _).symm.trans H; with_reducible exact H2_) | with_reducible exact H | (rw [hy399]; exact H) | exact H
                have Ny399 := Aside0.mk hy399
                clear hy399
                have H' := Aside0.mk H
                clear H
                obtain ⟨Ao102, co102, eo102⟩ := Kd.R_slice HO_10.out
                subst eo102
                try go_wp2
                replace HO_10 := Aside0.mk (Kd.R_drew HO_10.out)
                replace HO_12 := Aside0.mk (Kd.R_drew HO_12.out)
                replace HO_14 := Aside0.mk (Kd.R_drew HO_14.out)
                replace HO_365000 := Aside0.mk (Kd.N_drew HO_365000.out)
                replace BK356 := Aside0.mk (blk_drew BK356.out)
                replace BK357 := Aside0.mk (blk_drew BK357.out)
                replace BK364 := Aside0.mk (blk_drew BK364.out)
                replace BK374 := Aside0.mk (blk_drew BK374.out)
                replace HB := Aside0.mk (below_drew1 HB.out)
                have p386 : 0 ≤ (x16_3 : Int) := od
                have q386 : x16_3 < (t368.length : Int) := od
                obtain ⟨ad386, e386, hx386_0, hx386_1, hx386_2, hx386_3, hx386_4, hx386_5, hx386_6⟩ := at_T54 (Kd.R_reads' HO_10.out).2.2 x16_3 p386 q386
                cases e386
                replace p386 := eq_true p386
                replace q386 := eq_true q386
                refine start_ (n := 18) (S := fun w' => w'.cell? ⟨gb357, 0, none⟩ = some (.int .i64 a1_0) ∧ w'.cell? ⟨gb357, 1, none⟩ = some (.int .i64 a1_1) ∧ w'.cell? ⟨gb357, 2, none⟩ = some (.string a1_2) ∧ w'.cell? ⟨gb357, 3, none⟩ = some (.int .i64 a1_3) ∧ w'.cell? (ad386.add ((x16_3).toNat * 7)) = some (.int .i64 ((rd_T54 t368 x16_3).f0)) ∧ w'.cell? ⟨(ad386.add ((x16_3).toNat * 7)).block, (ad386.add ((x16_3).toNat * 7)).off + 1, none⟩ = some (.string ((rd_T54 t368 x16_3).f1)) ∧ w'.cell? ⟨(ad386.add ((x16_3).toNat * 7)).block, (ad386.add ((x16_3).toNat * 7)).off + 2, none⟩ = some (.int .i64 ((rd_T54 t368 x16_3).f2.f0)) ∧ w'.cell? ⟨(ad386.add ((x16_3).toNat * 7)).block, (ad386.add ((x16_3).toNat * 7)).off + 3, none⟩ = some (.int .i64 ((rd_T54 t368 x16_3).f2.f1.f0)) ∧ w'.cell? ⟨(ad386.add ((x16_3).toNat * 7)).block, (ad386.add ((x16_3).toNat * 7)).off + 4, none⟩ = some (.bool ((rd_T54 t368 x16_3).f2.f1.f1)) ∧ w'.cell? ⟨(ad386.add ((x16_3).toNat * 7)).block, (ad386.add ((x16_3).toNat * 7)).off + 5, none⟩ = some (.int .i64 ((rd_T54 t368 x16_3).f2.f2)) ∧ w'.cell? ⟨(ad386.add ((x16_3).toNat * 7)).block, (ad386.add ((x16_3).toNat * 7)).off + 6, none⟩ = some (.int .i64 ((rd_T54 t368 x16_3).f2.f3))) (ds := []) _ (by kernel_rfl) rfl rfl ⟨(blk_cell BK357.out 0).trans rfl, (blk_cell BK357.out 1).trans rfl, (blk_cell BK357.out 2).trans rfl, (blk_cell BK357.out 3).trans rfl, hx386_0, hx386_1, hx386_2, hx386_3, hx386_4, hx386_5, hx386_6⟩ (fun hHeld => ?_); refine with_tabW w11_ShardWrites.tab24 w11_ShardWrites.bits24 (fun HT_ HW_ => ?_)
                generalize wr.drew = w103 at HO_10 HO_12 HO_14 HO_365000 BK356 BK357 BK364 BK374 HB hx386_0 hx386_1 hx386_2 hx386_3 hx386_4 hx386_5 hx386_6 hHeld ⊢
                refine p1 0 (some 103) ?_
                refine p1 1 (some 104) ?_
                refine p1 2 (some 105) ?_
                refine p1 3 (some 106) ?_
                refine p1 5 (some 108) ?_
                refine t1 4 (some 107) rfl rfl hHeld (Or.inl ⟨by rfl, by rintro w' ⟨s0, s1, s2, s3, s4, s5, s6, s7, s8, s9, s10⟩; go_simp; with_reducible rfl⟩) ?_
                refine t1 6 (some 109) rfl rfl hHeld (Or.inl ⟨by rfl, by rintro w' ⟨s0, s1, s2, s3, s4, s5, s6, s7, s8, s9, s10⟩; go_simp; with_reducible rfl⟩) ?_
                refine p1 7 (some 110) ?_
                refine p1 8 (some 111) ?_
                refine p2 9 (some 112) ?_
                refine p2 10 (some 113) ?_
                refine p2 11 (some 114) ?_
                refine p2 12 (some 115) ?_
                refine p2 13 (some 116) ?_
                refine p2 14 (some 117) ?_
                refine p2 15 (some 118) ?_
                refine p2 16 (some 119) ?_
                refine p1 17 (some 120) ?_
                refine done_ (done_of HT_.out (by kernel_rfl)) ?_
                have p398 : 0 ≤ (x16_3 : Int) := od
                have q398 : x16_3 < (t368.length : Int) := od
                obtain ⟨ad398, e398, hx398_0, hx398_1, hx398_2, hx398_3, hx398_4, hx398_5, hx398_6⟩ := at_T54 (Kd.R_reads' HO_10.out).2.2 x16_3 p398 q398
                obtain rfl : ad386 = ad398 := (by injection e398)
                replace p398 := eq_true p398
                replace q398 := eq_true q398
                try go_wp2_with (first | ((with_reducible refine gate_builtin (b := .append) (xs := #[.tmp 131, .tmp 136]) rfl ?_); (try (refine gate_guard (by rfl) ?_; dsimp only)); at_builtin; refine Kd.R_append k54 (w0 := w) w.heap.size rfl (.tmp 131) (.tmp 136) 36 54 (.agg #[(.int .i64 0), (.string ⟨#[]⟩), (.int .i64 0), (.int .i64 0), (.bool false), (.int .i64 0), (.int .i64 0)]) 64 rfl Try.underlying36 info54 rfl (by decide) (by omega) u14 x14_3 (⟨(rd_T54 t368 x16_3).f0, (rd_T54 t368 x16_3).f1, (⟨(rd_T54 t368 x16_3).f2.f0, (⟨(rd_T54 t368 x16_3).f2.f1.f0, (rd_T54 t368 x16_3).f2.f1.f1⟩ : S50), (rd_T54 t368 x16_3).f2.f2, (rd_T54 t368 x16_3).f2.f3⟩ : S52)⟩ : S54) [.int .i64 ((rd_T54 t368 x16_3).f0), .string ((rd_T54 t368 x16_3).f1), .int .i64 ((rd_T54 t368 x16_3).f2.f0), .int .i64 ((rd_T54 t368 x16_3).f2.f1.f0), .bool ((rd_T54 t368 x16_3).f2.f1.f1), .int .i64 ((rd_T54 t368 x16_3).f2.f2), .int .i64 ((rd_T54 t368 x16_3).f2.f3)] (fun k_ => some k_ ≠ (.slice (some ad386) t368.length co102 : Value).ownBlock ∧ some k_ ≠ (u12 : Value).ownBlock) (fun _ => False) rfl rfl ?aP (fun _ hk => hk.elim) ?aF ?aO ?aB ?aS ?aL ?_; (case aP => exact k54_mkM _ _ _ (⟨(rd_T54 t368 x16_3).f0, (rd_T54 t368 x16_3).f1, (⟨(rd_T54 t368 x16_3).f2.f0, (⟨(rd_T54 t368 x16_3).f2.f1.f0, (rd_T54 t368 x16_3).f2.f1.f1⟩ : S50), (rd_T54 t368 x16_3).f2.f2, (rd_T54 t368 x16_3).f2.f3⟩ : S52)⟩ : S54)); (case aB => exact bl); (case aF => exact (fun k_ hk => ⟨Kd.fresh' (Kd.R_lt (uR HO_10.out)) k_ hk, Kd.fresh' (Kd.R_lt (uR HO_12.out)) k_ hk⟩)); (case aO => exact (uR HO_14.out)); (case aS => exact (below_size bl)); (case aL => have := LMc101.out; omega); intro v400 w104 ho hb hg hat; rw [← Ny399.out] at ho; replace HO_10 := Aside0.mk (Kd.R_after (ok := (fun k_ => some k_ ≠ (u12 : Value).ownBlock)) (uR HO_10.out) hg hat); replace HO_12 := Aside0.mk (Kd.R_after (ok := (fun k_ => some k_ ≠ (.slice (some ad386) t368.length co102 : Value).ownBlock)) (uR HO_12.out) hg hat); replace HO_365000 := Aside0.mk (Kd.N_afterv (ok := (fun k_ => some k_ ≠ (.slice (some ad386) t368.length co102 : Value).ownBlock ∧ some k_ ≠ (u12 : Value).ownBlock ∧ k_ ≠ gb356 ∧ k_ ≠ gb357 ∧ k_ ≠ gb364 ∧ k_ ≠ gb374)) (by (with_reducible repeat (first | apply Kd.N_alloc | apply Kd.N_drewN | apply Kd.N_drew)); exact Kd.N_mono HO_365000.out (fun _ hk => ⟨⟨hk.1, ⟨hk.2.1, ⟨hk.2.2.2.1, ⟨hk.2.2.2.2.1, ⟨hk.2.2.2.2.2.1, hk.2.2.2.2.2.2⟩⟩⟩⟩⟩, hk.2.2.1⟩)) hg hat); replace BK356 := Aside0.mk (blk_grown (g := gb356) (o := .cells #[.slice A0_0 l0_0.length c0_0] 24 (0, 0)) (uB BK356.out) hg (Kd.R_ne HO_14.out BK356.out (by decide))); replace BK357 := Aside0.mk (blk_grown (g := gb357) (o := .cells #[.int .i64 a1_0, .int .i64 a1_1, .string a1_2, .int .i64 a1_3] 26 (0, 0)) (uB BK357.out) hg (Kd.R_ne HO_14.out BK357.out (by decide))); replace BK364 := Aside0.mk (blk_grown (g := gb364) (o := .cells #[.slice Ao53 t360.length co53] 24 (0, 0)) (uB BK364.out) hg (Kd.R_ne HO_14.out BK364.out (by decide))); replace BK374 := Aside0.mk (blk_grown (g := gb374) (o := .cells #[.int .i64 x375000_2, .int .i64 x375001_2, .bool x375002_2, .int .i64 x375003_2, .int .i64 x375004_2] 52 (0, 0)) (uB BK374.out) hg (Kd.R_ne HO_14.out BK374.out (by decide))); replace HB := Aside0.mk (hb); have HO401 := Aside0.mk (ho); clear HO_14; clear ho hb hg hat))
                go_roundg k3
                case measure => have := HJ5.out; have := HK2.out; have := HK3.out; omega
                case rel => exact ⟨(y399), (x15_3), (wrap64 (x16_3 + 1)), rs_, rs_, H', ⟨by have := HJ5.out; have := HK2.out; have := HK3.out; omega⟩, ⟨uR HO_10.out⟩, ⟨uR HO_12.out⟩, ⟨uR HO401.out⟩, ⟨by (with_reducible repeat (first | apply Kd.N_alloc | apply Kd.N_drewN | apply Kd.N_drew)); exact Kd.N_mono HO_365000.out (fun _ hk => ⟨hk.1.1, ⟨hk.1.2.1, ⟨hk.2, ⟨hk.1.2.2.1, ⟨hk.1.2.2.2.1, ⟨hk.1.2.2.2.2.1, hk.1.2.2.2.2.2⟩⟩⟩⟩⟩⟩)⟩, ⟨uB BK356.out⟩, ⟨uB BK357.out⟩, ⟨uB BK364.out⟩, ⟨uB BK374.out⟩, ⟨bl⟩⟩
               ·
                rw [if_neg c101] at H
                exact absurd H (by simp)
             ·
              rw [if_neg c89] at H
              exact absurd H (by simp)
            ·
             rw [if_neg c88] at H
             have c88b0 : decide (x16_3 < (t368.length : Int)) = false := decide_eq_false c88
             clear c88
             by_cases c105 : x15_3 = true
             ·
              subst c105
              rw [if_pos rfl] at H
              obtain ⟨t402, A106, H⟩ := bs H
              try dsimp only at H
              by_cases c107 : t402 = true
              ·
               subst c107
               rw [if_pos rfl] at H
               obtain ⟨t403, A108, H⟩ := bs H
               try dsimp only at H
               obtain ⟨t404, A109, H⟩ := bs H
               try dsimp only at H
               by_cases c110 : t403 = (wrap64 (t404 + 1))
               ·
                rw [if_pos c110] at H
                have c110b0 : (t403 == (wrap64 (t404 + 1))) = true := beq_iff_eq.mpr c110
                have c110b1 : (t403 != (wrap64 (t404 + 1))) = false := bne_eq_false_iff_eq.mpr c110
                clear c110
                obtain ⟨t405, A111, H⟩ := bs H
                try dsimp only at H
                obtain rfl := Option.some.inj H
                obtain ⟨Ao112, co112, eo112⟩ := Kd.R_slice HO_10.out
                subst eo112
                try go_wp2
                replace HO_10 := Aside0.mk (Kd.R_drew HO_10.out)
                replace HO_12 := Aside0.mk (Kd.R_drew HO_12.out)
                replace HO_14 := Aside0.mk (Kd.R_drew HO_14.out)
                replace HO_365000 := Aside0.mk (Kd.N_drew HO_365000.out)
                replace BK356 := Aside0.mk (blk_drew BK356.out)
                replace BK357 := Aside0.mk (blk_drew BK357.out)
                replace BK364 := Aside0.mk (blk_drew BK364.out)
                replace BK374 := Aside0.mk (blk_drew BK374.out)
                replace HB := Aside0.mk (below_drew1 HB.out)
                obtain ⟨Ao114, co114, eo114⟩ := Kd.R_slice HO_12.out
                (first | subst eo114 | (injection eo114 with f1_ f2_ f3_; have f4_ := f1_.symm; have f5_ := f3_.symm; clear f1_ f2_ f3_; subst f4_; subst f5_))
                obtain ⟨Ao115, co115, eo115⟩ := Kd.R_slice HO_14.out
                (first | subst eo115 | (injection eo115 with f1_ f2_ f3_; have f4_ := f1_.symm; have f5_ := f3_.symm; clear f1_ f2_ f3_; subst f4_; subst f5_))
                refine start_ (n := 19) (S := fun w' => w'.cell? ⟨gb364, 0, none⟩ = some (.slice Ao53 t360.length co53) ∧ w'.cell? ⟨gb356, 0, none⟩ = some (.slice A0_0 l0_0.length c0_0)) (ds := []) _ (by kernel_rfl) rfl rfl ⟨(blk_cell BK364.out 0).trans rfl, (blk_cell BK356.out 0).trans rfl⟩ (fun hHeld => ?_); refine with_tabW w11_ShardWrites.tab27 w11_ShardWrites.bits27 (fun HT_ HW_ => ?_)
                generalize wr.drew = w113 at HO_10 HO_12 HO_14 HO_365000 BK356 BK357 BK364 BK374 HB hHeld ⊢
                refine p1 0 (some 138) ?_
                refine p1 1 (some 139) ?_
                refine p1 2 (some 140) ?_
                refine p1 3 (some 141) ?_
                refine o1 4 (some 142) rfl rfl (fun K hK => ?_)
                refine gS Try.func17 #[.slice Ao114 x12_2.length co114, .slice Ao115 x14_3.length co115] ?_
                with_reducible refine (r08_Items.calls k3 _ _ x12_2 _ _ x14_3 true _ ?side1 ?side2 ?side3 ?side4 A106.out).mono ?_
                (case side1 => exact uC <| (Kd.R_reads' HO_12.out).2.2)
                (case side2 => exact (Kd.R_reads' HO_12.out).2.1)
                (case side3 => exact uC <| (Kd.R_reads' HO_14.out).2.2)
                (case side4 => exact (Kd.R_reads' HO_14.out).2.1)
                rintro e w' ⟨rfl, ⟨nd, rfl⟩⟩
                refine ⟨_, rfl, ?_⟩
                refine hK.out _ _ ⟨(blk_cell BK364.out 0).trans rfl, (blk_cell BK356.out 0).trans rfl⟩ (fun hHeld => ?_)
                clear hK K
                refine norm_ (a' := ?_) ?_ ?_
                rotate_left
                ·
                 show Act.put _ (some 142) _ = _
                 simp only [Act.put, List.setIfInBounds_toArray, List.set_cons_zero, List.set_cons_succ, i64_w, i32_w]
                 rfl
                refine p1 5 (some 143) ?_
                refine p1 6 (some 144) ?_
                refine t1 7 (some 145) rfl rfl hHeld (Or.inl ⟨by rfl, by rintro w' ⟨s0, s1⟩; go_simp; with_reducible rfl⟩) ?_
                refine t1 9 (some 147) rfl rfl hHeld (Or.inl ⟨by rfl, by rintro w' ⟨s0, s1⟩; go_simp; with_reducible rfl⟩) ?_
                refine o1 8 (some 146) rfl rfl (fun K hK => ?_)
                refine gS Try.func19 #[.agg #[.slice Ao53 t360.length co53]] ?_
                with_reducible refine (shard_Size.calls k3 _ _ t360 t403 _ ?side1 ?side2 A108.out).mono ?_
                (case side1 => exact uC <| (Kd.N_reads' HO_365000.out).2.2)
                (case side2 => exact (Kd.N_reads' HO_365000.out).2.1)
                rintro e w116 ⟨rfl, hb⟩
                refine ⟨_, rfl, ?_⟩
                replace HO_10 := cR HO_10 hb
                replace HO_12 := cR HO_12 hb
                replace HO_14 := cR HO_14 hb
                replace HO_365000 := Aside0.mk (Kd.N_below (by (with_reducible repeat (first | apply Kd.N_alloc | apply Kd.N_drewN | apply Kd.N_drew)); exact HO_365000.out) hb)
                replace BK356 := cB BK356 hb
                replace BK357 := cB BK357 hb
                replace BK364 := cB BK364 hb
                replace BK374 := cB BK374 hb
                replace HB := Aside0.mk (below_step bl hb)
                (try clear hb)
                refine hK.out _ _ ⟨(blk_cell BK364.out 0).trans rfl, (blk_cell BK356.out 0).trans rfl⟩ (fun hHeld => ?_)
                clear hK K
                refine norm_ (a' := ?_) ?_ ?_
                rotate_left
                ·
                 show Act.put _ (some 146) _ = _
                 simp only [Act.put, List.setIfInBounds_toArray, List.set_cons_zero, List.set_cons_succ, i64_w, i32_w]
                 rfl
                refine o1 10 (some 148) rfl rfl (fun K hK => ?_)
                refine gS Try.func19 #[.agg #[.slice A0_0 l0_0.length c0_0]] ?_
                with_reducible refine (shard_Size.calls k3 _ _ l0_0 t404 _ ?side1 ?side2 A109.out).mono ?_
                (case side1 => exact uC <| (Kd.C_below HR0_0.out HB.out))
                (case side2 => exact HC0_0.out)
                rintro e w117 ⟨rfl, hb⟩
                refine ⟨_, rfl, ?_⟩
                replace HO_10 := cR HO_10 hb
                replace HO_12 := cR HO_12 hb
                replace HO_14 := cR HO_14 hb
                replace HO_365000 := Aside0.mk (Kd.N_below (by (with_reducible repeat (first | apply Kd.N_alloc | apply Kd.N_drewN | apply Kd.N_drew)); exact HO_365000.out) hb)
                replace BK356 := cB BK356 hb
                replace BK357 := cB BK357 hb
                replace BK364 := cB BK364 hb
                replace BK374 := cB BK374 hb
                replace HB := Aside0.mk (below_step bl hb)
                (try clear hb)
                refine hK.out _ _ ⟨(blk_cell BK364.out 0).trans rfl, (blk_cell BK356.out 0).trans rfl⟩ (fun hHeld => ?_)
                clear hK K
                refine norm_ (a' := ?_) ?_ ?_
                rotate_left
                ·
                 show Act.put _ (some 148) _ = _
                 simp only [Act.put, List.setIfInBounds_toArray, List.set_cons_zero, List.set_cons_succ, i64_w, i32_w]
                 rfl
                refine p1 11 (some 149) ?_
                refine p1 12 (some 150) ?_
                refine p1 13 (some 151) ?_
                refine p1 14 (some 152) ?_
                refine t1 15 (some 153) rfl rfl hHeld (Or.inl ⟨by rfl, by rintro w' ⟨s0, s1⟩; go_simp; with_reducible rfl⟩) ?_
                refine o1 16 (some 154) rfl rfl (fun K hK => ?_)
                refine gS Try.func15 #[.agg #[.slice Ao53 t360.length co53]] ?_
                with_reducible refine (r11_Right.calls k3 _ _ t360 t405 _ ?side1 ?side2 A111.out).mono ?_
                (case side1 => exact uC <| (Kd.N_reads' HO_365000.out).2.2)
                (case side2 => exact (Kd.N_reads' HO_365000.out).2.1)
                rintro e w118 ⟨rfl, hb⟩
                refine ⟨_, rfl, ?_⟩
                replace HO_10 := cR HO_10 hb
                replace HO_12 := cR HO_12 hb
                replace HO_14 := cR HO_14 hb
                replace HO_365000 := Aside0.mk (Kd.N_below (by (with_reducible repeat (first | apply Kd.N_alloc | apply Kd.N_drewN | apply Kd.N_drew)); exact HO_365000.out) hb)
                replace BK356 := cB BK356 hb
                replace BK357 := cB BK357 hb
                replace BK364 := cB BK364 hb
                replace BK374 := cB BK374 hb
                replace HB := Aside0.mk (below_step bl hb)
                (try clear hb)
                refine hK.out _ _ ⟨(blk_cell BK364.out 0).trans rfl, (blk_cell BK356.out 0).trans rfl⟩ (fun hHeld => ?_)
                clear hK K
                refine norm_ (a' := ?_) ?_ ?_
                rotate_left
                ·
                 show Act.put _ (some 154) _ = _
                 simp only [Act.put, List.setIfInBounds_toArray, List.set_cons_zero, List.set_cons_succ, i64_w, i32_w]
                 rfl
                refine p1 17 (some 155) ?_
                refine p1 18 (some 6) ?_
                refine done_ (done_of HT_.out (by kernel_rfl)) ?_
                try go_wp2
                go_ret
                exact ⟨re_, bl⟩
               ·
                rw [if_neg c110] at H
                have c110b0 : (t403 == (wrap64 (t404 + 1))) = false := beq_eq_false_iff_ne.mpr c110
                have c110b1 : (t403 != (wrap64 (t404 + 1))) = true := bne_iff_ne.mpr c110
                exact absurd H (by simp)
              ·
               replace c107 := Bool.eq_false_iff.mpr c107
               subst c107
               rw [if_neg (show ¬ (false = true) by decide)] at H
               exact absurd H (by simp)
             ·
              replace c105 := Bool.eq_false_iff.mpr c105
              subst c105
              rw [if_neg (show ¬ (false = true) by decide)] at H
              exact absurd H (by simp)
     ·
      rw [if_neg c21] at H
      have c21b0 : (t363 == 0) = false := beq_eq_false_iff_ne.mpr c21
      have c21b1 : (t363 != 0) = true := bne_iff_ne.mpr c21
      obtain rfl := Option.some.inj H
      have hnb119 := NB356_357.out
      have hnc119 := NB357_356.out
      obtain ⟨hcz120_0, hfz120_0⟩ := z1 BK356
      obtain ⟨hcz121_0, hcz121_1, hcz121_2, hcz121_3, hfz121_0, hfz121_1, hfz121_2, hfz121_3⟩ := z4 BK357
      go_wp2_with (first | (refine gL (some 30) rfl Try.func11 #[.agg #[.slice A0_0 l0_0.length c0_0], .agg #[.int .i64 a1_0, .int .i64 a1_1, .string a1_2, .int .i64 a1_3]] ?_; (with_reducible refine (shard_Apply.calls kj5 (fun k_ => k_ < w.heap.size) _ _ l0_0 a1_0 a1_1 a1_2 a1_3 t360 t363 _ ?side1 A20.out).mono ?_); (case side1 => exact Kd.V_mk HC0_0.out (Kd.F_below (Kd.C_F k59_heap HR0_0.out) bl)); rintro e w122 ⟨v361, rfl, ho0, hb⟩; refine ⟨_, rfl, ?_⟩; have HO362 := Aside0.mk (Kd.N_lower (Kd.N_mono (ok' := fun k_ => k_ ≠ gb356 ∧ k_ ≠ gb357) ho0 (fun k_ hk_ => ⟨Or.elim hk_ (fun hs_ => fun e_ => Nat.not_le.2 hs_ (by rw [e_]; exact GW356.out)) (fun hn_ => (Kd.freshB (g := gb356) (o := .cells #[.slice A0_0 l0_0.length c0_0] 24 (0, 0)) (uB BK356.out) k_ hn_)), Or.elim hk_ (fun hs_ => fun e_ => Nat.not_le.2 hs_ (by rw [e_]; exact GW357.out)) (fun hn_ => (Kd.freshB (g := gb357) (o := .cells #[.int .i64 a1_0, .int .i64 a1_1, .string a1_2, .int .i64 a1_3] 26 (0, 0)) (uB BK357.out) k_ hn_))⟩)) (below_size bl)); replace BK356 := cB BK356 hb; replace BK357 := cB BK357 hb; replace HB := Aside0.mk (below_step bl hb); (try clear hb); (try clear ho0)) | ((with_reducible refine gate_dst (N := 7) rfl ?_); (try (refine gate_guard (by rfl) ?_; dsimp only)); refine bx (N := 7) #[.slice none 0 0] 24 ?_; intro gb364 hg w123 hbox hb; replace HO362 := Aside0.mk (Kd.N_below (Kd.N_elderB (by (with_reducible repeat (first | apply Kd.N_alloc | apply Kd.N_drewN | apply Kd.N_drew)); exact HO362.out) gb364 (Nat.le_of_eq hg.symm)) hb); have BK364 := Aside0.mk (hbox); have GW364 := gw hg bl; have GE364 := GW364; replace HB := Aside0.mk (below_step bl hb); have NB356_364 := Aside0.mk ((by rw [hg]; exact Nat.ne_of_lt (blk_lt (g := gb356) (o := .cells #[.slice A0_0 l0_0.length c0_0] 24 (0, 0)) (uB BK356.out)) : gb356 ≠ gb364)); have NB364_356 := Aside0.mk ((by rw [hg]; exact Nat.ne_of_gt (blk_lt (g := gb356) (o := .cells #[.slice A0_0 l0_0.length c0_0] 24 (0, 0)) (uB BK356.out)) : gb364 ≠ gb356)); replace BK356 := cB BK356 hb; have NB357_364 := Aside0.mk ((by rw [hg]; exact Nat.ne_of_lt (blk_lt (g := gb357) (o := .cells #[.int .i64 a1_0, .int .i64 a1_1, .string a1_2, .int .i64 a1_3] 26 (0, 0)) (uB BK357.out)) : gb357 ≠ gb364)); have NB364_357 := Aside0.mk ((by rw [hg]; exact Nat.ne_of_gt (blk_lt (g := gb357) (o := .cells #[.int .i64 a1_0, .int .i64 a1_1, .string a1_2, .int .i64 a1_3] 26 (0, 0)) (uB BK357.out)) : gb364 ≠ gb357)); replace BK357 := cB BK357 hb; clear hb hbox hg; obtain ⟨Ao124, co124, eo124⟩ := Kd.N_slice HO362.out; subst eo124; have hnb125 := NB364_356.out; have hnc125 := NB356_364.out; have hnb126 := NB364_357.out; have hnc126 := NB357_364.out; obtain ⟨hcz127_0, hfz127_0⟩ := z1 BK364))
      go_ret
      exact ⟨re_, bl⟩
 ·
  replace c5 := Bool.eq_false_iff.mpr c5
  subst c5
  rw [if_neg (show ¬ (false = true) by decide)] at H
  exact absurd H (by simp)
def w11_ShardWrites.Pure : Prop := ∀ (x0 : S24) (x1 : S26) (a2 : Int), Q24 x0 → Q26 x1 → ((Lit.int .i64 a2).wf = true) → ∃ k, w11_ShardWrites.f k x0.f0 x1.f0 x1.f1 x1.f2 x1.f3 a2 = some true
theorem w11_ShardWrites.walk (P : w11_ShardWrites.Pure) (x0 : S24) (x1 : S26) (a2 : Int) (w : World) (A0_0 : Option Addr) (c0_0 : Nat) (hr0_0 : Kd.C k59 w A0_0 x0.f0.length x0.f0) (hc0_0 : x0.f0.length ≤ c0_0) (q0 : Q24 x0) (q1 : Q26 x1) (q2 : (Lit.int .i64 a2).wf = true) :
 Calls Try.prog 7 #[.agg #[.slice A0_0 x0.f0.length c0_0], .agg #[.int .i64 x1.f0, .int .i64 x1.f1, .string x1.f2, .int .i64 x1.f3], .int .i64 a2] w fun e w' => e = .returned (.bool true) ∧ Below w.heap.size w w' := by
 obtain ⟨k, h⟩ := P x0 x1 a2 q0 q1 q2
 refine (w11_ShardWrites.calls k A0_0 c0_0 x0.f0 x1.f0 x1.f1 x1.f2 x1.f3 a2 true w hr0_0 hc0_0 h).mono ?_
 rintro e w' ⟨rfl, hd⟩
 exact ⟨rfl, hd⟩
end Go.Proofs.Ytofaindjbhmopaa.X
