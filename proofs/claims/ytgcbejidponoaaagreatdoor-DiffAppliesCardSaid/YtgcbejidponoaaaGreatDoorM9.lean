/- Printed by a program of this session's own: what functions of the program compute, and that the machine computes it. No condition of its own. -/
import Derived.Test.YtgcbejidponoaaaGreatDoorM3
import Derived.Test.YtgcbejidponoaaaGreatDoorM4
import Derived.Test.YtgcbejidponoaaaGreatDoorM5
import Derived.Test.YtgcbejidponoaaaGreatDoorM6
import Derived.Test.YtgcbejidponoaaaGreatDoorM7
namespace Go.Proofs.YtgcbejidponoaaaGreatDoor.X
open Go.RowKit Go.Proofs.YtgcbejidponoaaaGreatDoorW.PrintWords Go.Proofs.YtgcbejidponoaaaGreatDoorW.PrintLast Go.Proofs.YtgcbejidponoaaaGreatDoorW.PrintMore
attribute [local go_sem] max2_int min2_int max_two min_two max_three min_three max_four min_four
set_option linter.unusedVariables false
set_option linter.unusedSimpArgs false
set_option maxHeartbeats 8000000
set_option maxRecDepth 100000
def diff_leaves.f (k : Nat) (a0 : ByteArray) : Option (Int × ByteArray × Int × Bool × Bool × Int) := (word_Split.f k a0 124).bind fun t349 => (if (t349.length : Int) = 2 then (if 1 < (t349.length : Int) then (if 0 < (t349.length : Int) then ((sat_Read.f (rdOf ByteArray.empty t349 0)).bind fun bt354 => (if bt354.2 = 0 then ((tag_Parse.f k (rdOf ByteArray.empty t349 1)).bind fun bt357 => (if bt357.2 = 0 then ((tag_Text.f k bt357.1).bind fun t361 => (if t361.toList = (rdOf ByteArray.empty t349 1).toList then (some (bt354.1, rdOf ByteArray.empty t349 1, 0, false, true, bt357.2)) else (none))) else (some (bt354.1, rdOf ByteArray.empty t349 1, 0, false, true, bt357.2)))) else (none))) else (none)) else (none)) else (none))
theorem diff_leaves.mono : ∀ a0 k, LeO (diff_leaves.f k a0) (diff_leaves.f (k + 1) a0) := by
 intro a0 k
 unfold diff_leaves.f
 exact lo
instance diff_leaves.mI {a0 k} : LeC (diff_leaves.f k a0) (diff_leaves.f (k + 1) a0) := ⟨diff_leaves.mono _ _⟩
def diff_leaves.T4 : Bool × List (List Nat × List Nat) := (true, [([], []), ([0], [0]), ([1], [1]), ([], []), ([3], [3]), ([0, 1, 2, 3, 4], []), ([5, 0, 1, 2, 3, 4], [5]), ([6, 2, 4, 0, 1, 2, 3, 4], [2, 6])])
def diff_leaves.B4 : List Nat := [0, 1, 3, 0, 8, 31, 63, 127]
theorem diff_leaves.tab4 : rtab .any (opsOf Tryz.f58 4) = diff_leaves.T4 := by kernel_rfl
theorem diff_leaves.bits4 : waitsOk diff_leaves.T4.2 diff_leaves.B4 = true := by kernel_rfl
def diff_leaves.T9 : Bool × List (List Nat × List Nat) := (true, [([], []), ([0], [0]), ([1], [1]), ([2], [2]), ([3, 2, 2], [2, 3]), ([2], [2]), ([5, 2], [2, 5]), ([6, 2], [2, 6]), ([4, 7, 2], [2, 4, 7]), ([2, 8], [2, 8])])
def diff_leaves.B9 : List Nat := [0, 1, 3, 7, 15, 7, 39, 103, 255, 511]
theorem diff_leaves.tab9 : rtab .any (opsOf Tryz.f58 9) = diff_leaves.T9 := by kernel_rfl
theorem diff_leaves.bits9 : waitsOk diff_leaves.T9.2 diff_leaves.B9 = true := by kernel_rfl
theorem diff_leaves.calls (k : Nat) (a0 : ByteArray) (r1 : Int) (r2 : ByteArray) (r3 : Int) (r4 : Bool) (r5 : Bool) (r6 : Int) (w : World) (hL : LD w) (h : diff_leaves.f k a0 = some (r1, r2, r3, r4, r5, r6)) :
 Calls Tryz.prog 58 #[.string a0] w fun e w' => e = .returned (.tuple #[.agg #[.int .i64 r1, .string r2, .int .i64 r3, .bool r4, .bool r5], .int .i64 r6]) ∧ Below w.heap.size w w' := by
 have HL0 := Aside0.mk hL
 clear hL
 have hu48 := Tryz.underlying48
 have HB := Aside0.mk (Below.refl w.heap.size w)
 have H : ((word_Split.f k a0 124).bind fun t349 => (if (t349.length : Int) = 2 then (if 1 < (t349.length : Int) then (if 0 < (t349.length : Int) then ((sat_Read.f (rdOf ByteArray.empty t349 0)).bind fun bt354 => (if bt354.2 = 0 then ((tag_Parse.f k (rdOf ByteArray.empty t349 1)).bind fun bt357 => (if bt357.2 = 0 then ((tag_Text.f k bt357.1).bind fun t361 => (if t361.toList = (rdOf ByteArray.empty t349 1).toList then (some (bt354.1, rdOf ByteArray.empty t349 1, 0, false, true, bt357.2)) else (none))) else (some (bt354.1, rdOf ByteArray.empty t349 1, 0, false, true, bt357.2)))) else (none))) else (none)) else (none)) else (none))) = some (r1, r2, r3, r4, r5, r6) := h
 clear h
 obtain ⟨t349, A2, H⟩ := bs H
 try dsimp only at H
 by_cases c3 : (t349.length : Int) = 2
 ·
  rw [if_pos c3] at H
  have c3b0 : ((t349.length : Int) == 2) = true := beq_iff_eq.mpr c3
  have c3b1 : ((t349.length : Int) != 2) = false := bne_eq_false_iff_eq.mpr c3
  clear c3
  obtain ⟨c4, H⟩ := gd H
  have c4b0 : decide (1 < (t349.length : Int)) = true := decide_eq_true c4
  have c4b1 : decide (1 < t349.length) = true := decide_eq_true (by omega)
  clear c4
  obtain ⟨c5, H⟩ := gd H
  have c5b0 : decide (0 < (t349.length : Int)) = true := decide_eq_true c5
  have c5b1 : decide (0 < t349.length) = true := decide_eq_true (by omega)
  clear c5
  obtain ⟨⟨t354, t355⟩, A6, H⟩ := bs H
  try dsimp only at H
  obtain ⟨c7, H⟩ := gd H
  have c7b0 : (t355 == 0) = true := beq_iff_eq.mpr c7
  have c7b1 : (t355 != 0) = false := bne_eq_false_iff_eq.mpr c7
  clear c7
  obtain ⟨⟨t357, t358⟩, A8, H⟩ := bs H
  try dsimp only at H
  by_cases c9 : t358 = 0
  ·
   rw [if_pos c9] at H
   have c9b0 : (t358 == 0) = true := beq_iff_eq.mpr c9
   have c9b1 : (t358 != 0) = false := bne_eq_false_iff_eq.mpr c9
   clear c9
   obtain ⟨t361, A10, H⟩ := bs H
   try dsimp only at H
   obtain ⟨c11, H⟩ := gd H
   have c11b0 : (t361.toList == (rdOf ByteArray.empty t349 1).toList) = true := beq_iff_eq.mpr c11
   have c11b1 : (t361.toList != (rdOf ByteArray.empty t349 1).toList) = false := bne_eq_false_iff_eq.mpr c11
   clear c11
   simp only [Option.some.injEq, Prod.mk.injEq] at H
   obtain ⟨rfl, rfl, rfl, rfl, rfl, rfl⟩ := H
   go_enter Tryz.func58, Tryz.ntmps58
   try go_wp2_with (first | ((with_reducible refine gate_dst (N := 2) rfl ?_); refine bx (N := 2) #[.int .i64 0, .string (⟨#[]⟩ : ByteArray), .int .i64 0, .bool false, .bool false] 48 ?_; intro gb348 hg w12 hbox hb; have BK348 := Aside0.mk (hbox); have GW348 := gw hg (uW HB.out); have GE348 := GW348; replace HB := cW HB hb; clear hb hbox hg) | (refine gL (some 7) rfl Tryz.func39 #[.string a0, .int .u8 124] ?_; (with_reducible refine (word_Split.calls k a0 124 t349 _ A2.out).mono ?_); rintro e w13 ⟨v350, rfl, ho0, hb⟩; refine ⟨_, rfl, ?_⟩; have HO351 := Aside0.mk (Kd.R_lower ho0 (below_size bl)); replace BK348 := cB BK348 hb; replace HB := Aside0.mk (below_step bl hb); (try clear hb); (try clear ho0); obtain ⟨Ao14, co14, eo14⟩ := Kd.R_slice HO351.out; subst eo14))
   replace HO351 := Aside0.mk (Kd.R_drew HO351.out)
   replace BK348 := Aside0.mk (blk_drew BK348.out)
   replace HB := Aside0.mk (below_drew1 HB.out)
   have p352 : 0 ≤ (1 : Int) := (by omega)
   have q352 : 1 < (t349.length : Int) := od
   obtain ⟨ad352, e352, hx352_0⟩ := Kd.at_string (Kd.R_reads' HO351.out).2.2 1 p352 q352
   cases e352
   (try simp only [show (1 : Int).toNat = 1 from rfl, Nat.reduceMul, Nat.reduceEqDiff, Go.Addr.add, ↓reduceIte] at hx352_0)
   have qi352 : (1 < t349.length) = True := eq_true (by omega)
   (try rw [show ((1 : Int)).toNat = 1 from rfl] at hx352_0)
   replace p352 := eq_true p352
   replace q352 := eq_true q352
   refine start_ (n := 8) (S := fun w' => w'.cell? ⟨ad352.block, ad352.off + 1, none⟩ = some (.string (rdOf ByteArray.empty t349 1))) (ds := []) _ (by kernel_rfl) rfl rfl (hx352_0) (fun hHeld => ?_); refine with_tabW diff_leaves.tab4 diff_leaves.bits4 (fun HT_ HW_ => ?_)
   generalize w13.drew = w15 at HO351 BK348 HB hx352_0 hHeld ⊢
   refine p1 0 (some 12) ?_
   refine p1 1 (some 13) ?_
   refine p1 3 (some 15) ?_
   refine t1 2 (some 14) rfl rfl hHeld (Or.inl ⟨by rfl, by intro w' s0; go_simp; with_reducible rfl⟩) ?_
   refine o1 4 none rfl rfl (fun K hK => ?_)
   have hs16 : w15.cell? ⟨gb348, 4, none⟩ = some (.bool false) := (blk_cell BK348.out 4).trans rfl
   have hfs16 := blk_frozen BK348.out 4
   refine skip_ (w1 := ?_) (by rfl) rfl ?_ ?_
   rotate_left
   ·
    go_simp
    rfl
   refine hK.out _ _ (((cell_far (p := ⟨gb348, _, none⟩) (by first | exact Kd.own_blk (Kd.R_ne HO351.out BK348.out (by decide)) | (rw [add_block]; exact Kd.own_blk (Kd.R_ne HO351.out BK348.out (by decide))) | (show (Addr.add _ _).block ≠ _; rw [add_block]; exact Kd.own_blk (Kd.R_ne HO351.out BK348.out (by decide))) | (dsimp only; exact Kd.own_blk (Kd.R_ne HO351.out BK348.out (by decide)))) _).trans (hHeld))) (fun hHeld => ?_)
   clear hK K
   refine p1 5 (some 16) ?_
   refine p1 6 (some 17) ?_
   refine o1 7 none rfl rfl (fun K hK => ?_)
   have hs17 : w15.cell? ⟨gb348, 1, none⟩ = some (.string (⟨#[]⟩ : ByteArray)) := (blk_cell BK348.out 1).trans rfl
   have hfs17 := blk_frozen BK348.out 1
   refine skip_ (w1 := ?_) (by rfl) rfl ?_ ?_
   rotate_left
   ·
    go_simp
    rfl
   refine hK.out _ _ (((cell_far (p := ⟨gb348, _, none⟩) (by first | exact Kd.own_blk (Kd.R_ne HO351.out BK348.out (by decide)) | (rw [add_block]; exact Kd.own_blk (Kd.R_ne HO351.out BK348.out (by decide))) | (show (Addr.add _ _).block ≠ _; rw [add_block]; exact Kd.own_blk (Kd.R_ne HO351.out BK348.out (by decide))) | (dsimp only; exact Kd.own_blk (Kd.R_ne HO351.out BK348.out (by decide)))) _).trans (hHeld))) (fun hHeld => ?_)
   clear hK K
   refine done_ (done_of HT_.out (by kernel_rfl)) ?_
   have p353 : 0 ≤ (0 : Int) := (by omega)
   have q353 : 0 < (t349.length : Int) := od
   obtain ⟨ad353, e353, hx353_0⟩ := Kd.at_string (Kd.R_reads' HO351.out).2.2 0 p353 q353
   obtain rfl : ad352 = ad353 := (by injection e353)
   have qi353 : (0 < t349.length) = True := eq_true (by omega)
   (try rw [show ((0 : Int)).toNat = 0 from rfl] at hx353_0)
   (try rw [Addr.add_zero'] at hx353_0)
   have hn353_0 : ad352.block ≠ gb348 := Kd.own_blk (Kd.R_ne HO351.out BK348.out (by decide))
   have hn353_1 : ad352.block ≠ gb348 := Kd.own_blk (Kd.R_ne HO351.out BK348.out (by decide))
   replace hx353_0 := (cell_far (p := ⟨gb348, 4, none⟩) (by first | (rw [add_block]; exact hn353_0) | (show (Addr.add _ _).block ≠ _; rw [add_block]; exact hn353_0) | exact hn353_0) (.bool true)).trans hx353_0
   replace hx353_0 := (cell_far (p := ⟨gb348, 1, none⟩) (by first | (rw [add_block]; exact hn353_1) | (show (Addr.add _ _).block ≠ _; rw [add_block]; exact hn353_1) | exact hn353_1) (.string (rdOf ByteArray.empty t349 1))).trans hx353_0
   clear hn353_0
   clear hn353_1
   replace p353 := eq_true p353
   replace q353 := eq_true q353
   try go_wp2_with (first | (refine gL (some 22) rfl Tryz.func76 #[.string (rdOf ByteArray.empty t349 0)] ?_; (with_reducible refine (sat_Read.calls (hL := ld) (rdOf ByteArray.empty t349 0) t354 t355 _ A6.out).mono ?_); rintro e w18 ⟨rfl, hb⟩; refine ⟨_, rfl, ?_⟩; replace HO351 := Aside0.mk (Kd.R_below (by exact uR <| (Kd.R_mono (Kd.R_far (p := ⟨gb348, 1, none⟩) (Kd.R_far (p := ⟨gb348, 4, none⟩) (Kd.R_types HO351.out BK348.out (by decide)) (fun _ hk => hk.2) (.bool true)) (fun _ hk => hk.2) (.string (rdOf ByteArray.empty t349 1))) (fun _ h_ => h_.1))) hb); replace BK348 := Aside0.mk (blk_below (g := gb348) (o := .cells #[.int .i64 0, .string (rdOf ByteArray.empty t349 1), .int .i64 0, .bool false, .bool true] 48 (0, 0)) (by (with_reducible repeat (first | refine blk_drewN ?_ _ | refine blk_drew ?_ | refine blk_alloc ?_ _)); refine blk_put (cs := #[.int .i64 0, .string (⟨#[]⟩ : ByteArray), .int .i64 0, .bool false, .bool true]) ?_ 1 _ rfl; (with_reducible repeat (first | refine blk_drewN ?_ _ | refine blk_drew ?_ | refine blk_alloc ?_ _)); refine blk_put (cs := #[.int .i64 0, .string (⟨#[]⟩ : ByteArray), .int .i64 0, .bool false, .bool false]) ?_ 4 _ rfl; exact uB <| BK348.out) hb); replace HB := Aside0.mk (below_step bl hb); (try clear hb); obtain ⟨hcz19_0, hcz19_1, hcz19_2, hcz19_3, hcz19_4, hfz19_0, hfz19_1, hfz19_2, hfz19_3, hfz19_4⟩ := z5 BK348; have p356 : 0 ≤ (1 : Int) := (by omega); have q356 : 1 < (t349.length : Int) := od; obtain ⟨ad356, e356, hx356_0⟩ := Kd.at_string (Kd.R_reads' HO351.out).2.2 1 p356 q356; obtain rfl : ad352 = ad356 := (by injection e356); (try simp only [show (1 : Int).toNat = 1 from rfl, Nat.reduceMul, Nat.reduceEqDiff, Go.Addr.add, ↓reduceIte] at hx356_0); have qi356 : (1 < t349.length) = True := eq_true (by omega); (try rw [show ((1 : Int)).toNat = 1 from rfl] at hx356_0); have hn356_0 : ad352.block ≠ gb348 := Kd.own_blk (Kd.R_ne HO351.out BK348.out (by decide)); replace hx356_0 := (cell_far (p := ⟨gb348, 0, none⟩) (by first | (rw [add_block]; exact hn356_0) | (show (Addr.add _ _).block ≠ _; rw [add_block]; exact hn356_0) | exact hn356_0) (.int .i64 t354)).trans hx356_0; clear hn356_0; replace p356 := eq_true p356; replace q356 := eq_true q356) | (refine gL (some 35) rfl Tryz.func65 #[.string (rdOf ByteArray.empty t349 1)] ?_; (with_reducible refine (tag_Parse.calls (hL := ld) k (rdOf ByteArray.empty t349 1) t357 t358 _ A8.out).mono ?_); rintro e w20 ⟨v359, rfl, ho0, hb⟩; refine ⟨_, rfl, ?_⟩; replace HO351 := Aside0.mk (Kd.R_below (by exact uR <| (Kd.R_mono (Kd.R_far (p := ⟨gb348, 0, none⟩) (Kd.R_types HO351.out BK348.out (by decide)) (fun _ hk => hk.2) (.int .i64 t354)) (fun _ h_ => h_.1))) hb); have HO360 := Aside0.mk (Kd.R_lower ho0 (below_size bl)); replace BK348 := Aside0.mk (blk_below (g := gb348) (o := .cells #[.int .i64 t354, .string (rdOf ByteArray.empty t349 1), .int .i64 0, .bool false, .bool true] 48 (0, 0)) (by (with_reducible repeat (first | refine blk_drewN ?_ _ | refine blk_drew ?_ | refine blk_alloc ?_ _)); refine blk_put (cs := #[.int .i64 0, .string (rdOf ByteArray.empty t349 1), .int .i64 0, .bool false, .bool true]) ?_ 0 _ rfl; exact uB <| BK348.out) hb); replace HB := Aside0.mk (below_step bl hb); (try clear hb); (try clear ho0)))
   replace HO351 := Aside0.mk (Kd.R_drew HO351.out)
   replace HO360 := Aside0.mk (Kd.R_drew HO360.out)
   replace BK348 := Aside0.mk (blk_drew BK348.out)
   replace HB := Aside0.mk (below_drew1 HB.out)
   have p362 : 0 ≤ (1 : Int) := (by omega)
   have q362 : 1 < (t349.length : Int) := od
   obtain ⟨ad362, e362, hx362_0⟩ := Kd.at_string (Kd.R_reads' HO351.out).2.2 1 p362 q362
   obtain rfl : ad352 = ad362 := (by injection e362)
   (try simp only [show (1 : Int).toNat = 1 from rfl, Nat.reduceMul, Nat.reduceEqDiff, Go.Addr.add, ↓reduceIte] at hx362_0)
   have qi362 : (1 < t349.length) = True := eq_true (by omega)
   (try rw [show ((1 : Int)).toNat = 1 from rfl] at hx362_0)
   replace p362 := eq_true p362
   replace q362 := eq_true q362
   obtain ⟨Ao22, co22, eo22⟩ := Kd.R_slice HO360.out
   (first | subst eo22 | (injection eo22 with f1_ f2_ f3_; have f4_ := f1_.symm; have f5_ := f3_.symm; clear f1_ f2_ f3_; subst f4_; subst f5_))
   refine start_ (n := 10) (S := fun w' => w'.cell? ⟨ad352.block, ad352.off + 1, none⟩ = some (.string (rdOf ByteArray.empty t349 1))) (ds := []) _ (by kernel_rfl) rfl rfl (hx362_0) (fun hHeld => ?_); refine with_tabW diff_leaves.tab9 diff_leaves.bits9 (fun HT_ HW_ => ?_)
   generalize w20.drew = w21 at HO351 HO360 BK348 HB hx362_0 hHeld ⊢
   refine p1 0 (some 38) ?_
   refine p1 1 (some 39) ?_
   refine p1 2 (some 40) ?_
   refine p1 3 (some 41) ?_
   refine p1 5 (some 43) ?_
   refine p1 6 (some 44) ?_
   refine t1 7 (some 45) rfl rfl hHeld (Or.inl ⟨by rfl, by intro w' s0; go_simp; with_reducible rfl⟩) ?_
   refine o1 4 (some 42) rfl rfl (fun K hK => ?_)
   refine gS Tryz.func66 #[.slice Ao22 t357.length co22] ?_
   with_reducible refine (tag_Text.calls k _ _ t357 t361 _ ?side1 ?side2 A10.out).mono ?_
   (case side1 => exact uC <| (Kd.R_reads' HO360.out).2.2)
   (case side2 => exact (Kd.R_reads' HO360.out).2.1)
   rintro e w23 ⟨rfl, hb⟩
   have HS0_ := (hb.cell (World.block_lt_of_cell? _ _ (hHeld))).trans (hHeld)
   refine ⟨_, rfl, ?_⟩
   replace HO351 := cR HO351 hb
   replace HO360 := cR HO360 hb
   replace BK348 := cB BK348 hb
   replace HB := Aside0.mk (below_step bl hb)
   (try clear hb)
   refine hK.out _ _ (HS0_) (fun hHeld => ?_)
   clear hK K
   refine norm_ (a' := ?_) ?_ ?_
   rotate_left
   ·
    show Act.put _ (some 42) _ = _
    simp only [Act.put, List.setIfInBounds_toArray, List.set_cons_zero, List.set_cons_succ, i64_w, i32_w]
    rfl
   refine p1 8 (some 46) ?_
   refine p1 9 (some 47) ?_
   refine done_ (done_of HT_.out (by kernel_rfl)) ?_
   obtain ⟨hcz24_0, hcz24_1, hcz24_2, hcz24_3, hcz24_4, hfz24_0, hfz24_1, hfz24_2, hfz24_3, hfz24_4⟩ := z5 BK348
   try go_wp2_with (first | ((with_reducible refine gate_store (t := 48) (p := 2) rfl ?_); refine store_event (t := 48) (p := 2) (v := ?vo_w25) (w1 := (((((w23.setCell ⟨gb348, 0, none⟩ (.int .i64 t354)).setCell ⟨gb348, 1, none⟩ (.string (rdOf ByteArray.empty t349 1))).setCell ⟨gb348, 2, none⟩ (.int .i64 0)).setCell ⟨gb348, 3, none⟩ (.bool false)).setCell ⟨gb348, 4, none⟩ (.bool true))) ?hg ?ho ?hn ?hr ?_; (case ho => rfl); (case hg => rfl); (case hn => rfl); (case hr => first | (go_simp; done) | (go_simp; rfl)); intro w25 hw; have n0_ : Aside0 (Kd.R Kd.string 9 w25 w.heap.size (fun _ => True) (.slice (some ad352) t349.length co14) t349) := ⟨(by rw [hw]; exact (by exact uR <| Kd.R_mono (Kd.R_far (p := ⟨gb348, 4, none⟩) (Kd.R_far (p := ⟨gb348, 3, none⟩) (Kd.R_far (p := ⟨gb348, 2, none⟩) (Kd.R_far (p := ⟨gb348, 1, none⟩) (Kd.R_far (p := ⟨gb348, 0, none⟩) (Kd.R_types HO351.out BK348.out (by decide)) (fun _ hk => hk.2) (.int .i64 t354)) (fun _ hk => hk.2) (.string (rdOf ByteArray.empty t349 1))) (fun _ hk => hk.2) (.int .i64 0)) (fun _ hk => hk.2) (.bool false)) (fun _ hk => hk.2) (.bool true)) (fun _ hk => trivial)))⟩; have n1_ : Aside0 (Kd.R k98 98 w25 w.heap.size (fun _ => True) (.slice Ao22 t357.length co22) t357) := ⟨(by rw [hw]; exact (by exact uR <| Kd.R_mono (Kd.R_far (p := ⟨gb348, 4, none⟩) (Kd.R_far (p := ⟨gb348, 3, none⟩) (Kd.R_far (p := ⟨gb348, 2, none⟩) (Kd.R_far (p := ⟨gb348, 1, none⟩) (Kd.R_far (p := ⟨gb348, 0, none⟩) (Kd.R_types HO360.out BK348.out (by decide)) (fun _ hk => hk.2) (.int .i64 t354)) (fun _ hk => hk.2) (.string (rdOf ByteArray.empty t349 1))) (fun _ hk => hk.2) (.int .i64 0)) (fun _ hk => hk.2) (.bool false)) (fun _ hk => hk.2) (.bool true)) (fun _ hk => trivial)))⟩; have n2_ : Aside0 (w25.heap[gb348]? = some (.cells #[.int .i64 t354, .string (rdOf ByteArray.empty t349 1), .int .i64 0, .bool false, .bool true] 48 (0, 0))) := ⟨(by rw [hw]; exact (by (with_reducible repeat (first | refine blk_drewN ?_ _ | refine blk_drew ?_ | refine blk_alloc ?_ _)); refine blk_put (cs := #[.int .i64 t354, .string (rdOf ByteArray.empty t349 1), .int .i64 0, .bool false, .bool true]) ?_ 4 _ rfl; (with_reducible repeat (first | refine blk_drewN ?_ _ | refine blk_drew ?_ | refine blk_alloc ?_ _)); refine blk_put (cs := #[.int .i64 t354, .string (rdOf ByteArray.empty t349 1), .int .i64 0, .bool false, .bool true]) ?_ 3 _ rfl; (with_reducible repeat (first | refine blk_drewN ?_ _ | refine blk_drew ?_ | refine blk_alloc ?_ _)); refine blk_put (cs := #[.int .i64 t354, .string (rdOf ByteArray.empty t349 1), .int .i64 0, .bool false, .bool true]) ?_ 2 _ rfl; (with_reducible repeat (first | refine blk_drewN ?_ _ | refine blk_drew ?_ | refine blk_alloc ?_ _)); refine blk_put (cs := #[.int .i64 t354, .string (rdOf ByteArray.empty t349 1), .int .i64 0, .bool false, .bool true]) ?_ 1 _ rfl; (with_reducible repeat (first | refine blk_drewN ?_ _ | refine blk_drew ?_ | refine blk_alloc ?_ _)); refine blk_put (cs := #[.int .i64 t354, .string (rdOf ByteArray.empty t349 1), .int .i64 0, .bool false, .bool true]) ?_ 0 _ rfl; exact uB <| BK348.out))⟩; have n3_ : Aside0 (Below w.heap.size w w25) := ⟨(by rw [hw]; exact bl)⟩; clear hw; clear HO351; clear HO360; clear BK348; clear HB; have HO351 := n0_; have HO360 := n1_; have BK348 := n2_; have HB := n3_; clear n0_ n1_ n2_ n3_))
   refine bodyPost_ret (results_ct rfl _ _ gb348 48 #[.int .i64 t354, .string (rdOf ByteArray.empty t349 1), .int .i64 0, .bool false, .bool true] (0, 0) _ rfl (uB BK348.out) Tryz.underlying48 rfl (by kernel_rfl)) rfl ?_
   exact ⟨re_, bl⟩
  ·
   rw [if_neg c9] at H
   have c9b0 : (t358 == 0) = false := beq_eq_false_iff_ne.mpr c9
   have c9b1 : (t358 != 0) = true := bne_iff_ne.mpr c9
   simp only [Option.some.injEq, Prod.mk.injEq] at H
   obtain ⟨rfl, rfl, rfl, rfl, rfl, rfl⟩ := H
   go_enter Tryz.func58, Tryz.ntmps58
   try go_wp2_with (first | ((with_reducible refine gate_dst (N := 2) rfl ?_); refine bx (N := 2) #[.int .i64 0, .string (⟨#[]⟩ : ByteArray), .int .i64 0, .bool false, .bool false] 48 ?_; intro gb348 hg w26 hbox hb; have BK348 := Aside0.mk (hbox); have GW348 := gw hg (uW HB.out); have GE348 := GW348; replace HB := cW HB hb; clear hb hbox hg) | (refine gL (some 7) rfl Tryz.func39 #[.string a0, .int .u8 124] ?_; (with_reducible refine (word_Split.calls k a0 124 t349 _ A2.out).mono ?_); rintro e w27 ⟨v350, rfl, ho0, hb⟩; refine ⟨_, rfl, ?_⟩; have HO351 := Aside0.mk (Kd.R_lower ho0 (below_size bl)); replace BK348 := cB BK348 hb; replace HB := Aside0.mk (below_step bl hb); (try clear hb); (try clear ho0); obtain ⟨Ao28, co28, eo28⟩ := Kd.R_slice HO351.out; subst eo28))
   replace HO351 := Aside0.mk (Kd.R_drew HO351.out)
   replace BK348 := Aside0.mk (blk_drew BK348.out)
   replace HB := Aside0.mk (below_drew1 HB.out)
   have p352 : 0 ≤ (1 : Int) := (by omega)
   have q352 : 1 < (t349.length : Int) := od
   obtain ⟨ad352, e352, hx352_0⟩ := Kd.at_string (Kd.R_reads' HO351.out).2.2 1 p352 q352
   cases e352
   (try simp only [show (1 : Int).toNat = 1 from rfl, Nat.reduceMul, Nat.reduceEqDiff, Go.Addr.add, ↓reduceIte] at hx352_0)
   have qi352 : (1 < t349.length) = True := eq_true (by omega)
   (try rw [show ((1 : Int)).toNat = 1 from rfl] at hx352_0)
   replace p352 := eq_true p352
   replace q352 := eq_true q352
   refine start_ (n := 8) (S := fun w' => w'.cell? ⟨ad352.block, ad352.off + 1, none⟩ = some (.string (rdOf ByteArray.empty t349 1))) (ds := []) _ (by kernel_rfl) rfl rfl (hx352_0) (fun hHeld => ?_); refine with_tabW diff_leaves.tab4 diff_leaves.bits4 (fun HT_ HW_ => ?_)
   generalize w27.drew = w29 at HO351 BK348 HB hx352_0 hHeld ⊢
   refine p1 0 (some 12) ?_
   refine p1 1 (some 13) ?_
   refine p1 3 (some 15) ?_
   refine t1 2 (some 14) rfl rfl hHeld (Or.inl ⟨by rfl, by intro w' s0; go_simp; with_reducible rfl⟩) ?_
   refine o1 4 none rfl rfl (fun K hK => ?_)
   have hs30 : w29.cell? ⟨gb348, 4, none⟩ = some (.bool false) := (blk_cell BK348.out 4).trans rfl
   have hfs30 := blk_frozen BK348.out 4
   refine skip_ (w1 := ?_) (by rfl) rfl ?_ ?_
   rotate_left
   ·
    go_simp
    rfl
   refine hK.out _ _ (((cell_far (p := ⟨gb348, _, none⟩) (by first | exact Kd.own_blk (Kd.R_ne HO351.out BK348.out (by decide)) | (rw [add_block]; exact Kd.own_blk (Kd.R_ne HO351.out BK348.out (by decide))) | (show (Addr.add _ _).block ≠ _; rw [add_block]; exact Kd.own_blk (Kd.R_ne HO351.out BK348.out (by decide))) | (dsimp only; exact Kd.own_blk (Kd.R_ne HO351.out BK348.out (by decide)))) _).trans (hHeld))) (fun hHeld => ?_)
   clear hK K
   refine p1 5 (some 16) ?_
   refine p1 6 (some 17) ?_
   refine o1 7 none rfl rfl (fun K hK => ?_)
   have hs31 : w29.cell? ⟨gb348, 1, none⟩ = some (.string (⟨#[]⟩ : ByteArray)) := (blk_cell BK348.out 1).trans rfl
   have hfs31 := blk_frozen BK348.out 1
   refine skip_ (w1 := ?_) (by rfl) rfl ?_ ?_
   rotate_left
   ·
    go_simp
    rfl
   refine hK.out _ _ (((cell_far (p := ⟨gb348, _, none⟩) (by first | exact Kd.own_blk (Kd.R_ne HO351.out BK348.out (by decide)) | (rw [add_block]; exact Kd.own_blk (Kd.R_ne HO351.out BK348.out (by decide))) | (show (Addr.add _ _).block ≠ _; rw [add_block]; exact Kd.own_blk (Kd.R_ne HO351.out BK348.out (by decide))) | (dsimp only; exact Kd.own_blk (Kd.R_ne HO351.out BK348.out (by decide)))) _).trans (hHeld))) (fun hHeld => ?_)
   clear hK K
   refine done_ (done_of HT_.out (by kernel_rfl)) ?_
   have p353 : 0 ≤ (0 : Int) := (by omega)
   have q353 : 0 < (t349.length : Int) := od
   obtain ⟨ad353, e353, hx353_0⟩ := Kd.at_string (Kd.R_reads' HO351.out).2.2 0 p353 q353
   obtain rfl : ad352 = ad353 := (by injection e353)
   have qi353 : (0 < t349.length) = True := eq_true (by omega)
   (try rw [show ((0 : Int)).toNat = 0 from rfl] at hx353_0)
   (try rw [Addr.add_zero'] at hx353_0)
   have hn353_0 : ad352.block ≠ gb348 := Kd.own_blk (Kd.R_ne HO351.out BK348.out (by decide))
   have hn353_1 : ad352.block ≠ gb348 := Kd.own_blk (Kd.R_ne HO351.out BK348.out (by decide))
   replace hx353_0 := (cell_far (p := ⟨gb348, 4, none⟩) (by first | (rw [add_block]; exact hn353_0) | (show (Addr.add _ _).block ≠ _; rw [add_block]; exact hn353_0) | exact hn353_0) (.bool true)).trans hx353_0
   replace hx353_0 := (cell_far (p := ⟨gb348, 1, none⟩) (by first | (rw [add_block]; exact hn353_1) | (show (Addr.add _ _).block ≠ _; rw [add_block]; exact hn353_1) | exact hn353_1) (.string (rdOf ByteArray.empty t349 1))).trans hx353_0
   clear hn353_0
   clear hn353_1
   replace p353 := eq_true p353
   replace q353 := eq_true q353
   try go_wp2_with (first | (refine gL (some 22) rfl Tryz.func76 #[.string (rdOf ByteArray.empty t349 0)] ?_; (with_reducible refine (sat_Read.calls (hL := ld) (rdOf ByteArray.empty t349 0) t354 t355 _ A6.out).mono ?_); rintro e w32 ⟨rfl, hb⟩; refine ⟨_, rfl, ?_⟩; replace HO351 := Aside0.mk (Kd.R_below (by exact uR <| (Kd.R_mono (Kd.R_far (p := ⟨gb348, 1, none⟩) (Kd.R_far (p := ⟨gb348, 4, none⟩) (Kd.R_types HO351.out BK348.out (by decide)) (fun _ hk => hk.2) (.bool true)) (fun _ hk => hk.2) (.string (rdOf ByteArray.empty t349 1))) (fun _ h_ => h_.1))) hb); replace BK348 := Aside0.mk (blk_below (g := gb348) (o := .cells #[.int .i64 0, .string (rdOf ByteArray.empty t349 1), .int .i64 0, .bool false, .bool true] 48 (0, 0)) (by (with_reducible repeat (first | refine blk_drewN ?_ _ | refine blk_drew ?_ | refine blk_alloc ?_ _)); refine blk_put (cs := #[.int .i64 0, .string (⟨#[]⟩ : ByteArray), .int .i64 0, .bool false, .bool true]) ?_ 1 _ rfl; (with_reducible repeat (first | refine blk_drewN ?_ _ | refine blk_drew ?_ | refine blk_alloc ?_ _)); refine blk_put (cs := #[.int .i64 0, .string (⟨#[]⟩ : ByteArray), .int .i64 0, .bool false, .bool false]) ?_ 4 _ rfl; exact uB <| BK348.out) hb); replace HB := Aside0.mk (below_step bl hb); (try clear hb); obtain ⟨hcz33_0, hcz33_1, hcz33_2, hcz33_3, hcz33_4, hfz33_0, hfz33_1, hfz33_2, hfz33_3, hfz33_4⟩ := z5 BK348; have p356 : 0 ≤ (1 : Int) := (by omega); have q356 : 1 < (t349.length : Int) := od; obtain ⟨ad356, e356, hx356_0⟩ := Kd.at_string (Kd.R_reads' HO351.out).2.2 1 p356 q356; obtain rfl : ad352 = ad356 := (by injection e356); (try simp only [show (1 : Int).toNat = 1 from rfl, Nat.reduceMul, Nat.reduceEqDiff, Go.Addr.add, ↓reduceIte] at hx356_0); have qi356 : (1 < t349.length) = True := eq_true (by omega); (try rw [show ((1 : Int)).toNat = 1 from rfl] at hx356_0); have hn356_0 : ad352.block ≠ gb348 := Kd.own_blk (Kd.R_ne HO351.out BK348.out (by decide)); replace hx356_0 := (cell_far (p := ⟨gb348, 0, none⟩) (by first | (rw [add_block]; exact hn356_0) | (show (Addr.add _ _).block ≠ _; rw [add_block]; exact hn356_0) | exact hn356_0) (.int .i64 t354)).trans hx356_0; clear hn356_0; replace p356 := eq_true p356; replace q356 := eq_true q356) | (refine gL (some 35) rfl Tryz.func65 #[.string (rdOf ByteArray.empty t349 1)] ?_; (with_reducible refine (tag_Parse.calls (hL := ld) k (rdOf ByteArray.empty t349 1) t357 t358 _ A8.out).mono ?_); rintro e w34 ⟨v359, rfl, ho0, hb⟩; refine ⟨_, rfl, ?_⟩; replace HO351 := Aside0.mk (Kd.R_below (by exact uR <| (Kd.R_mono (Kd.R_far (p := ⟨gb348, 0, none⟩) (Kd.R_types HO351.out BK348.out (by decide)) (fun _ hk => hk.2) (.int .i64 t354)) (fun _ h_ => h_.1))) hb); have HO360 := Aside0.mk (Kd.R_lower ho0 (below_size bl)); replace BK348 := Aside0.mk (blk_below (g := gb348) (o := .cells #[.int .i64 t354, .string (rdOf ByteArray.empty t349 1), .int .i64 0, .bool false, .bool true] 48 (0, 0)) (by (with_reducible repeat (first | refine blk_drewN ?_ _ | refine blk_drew ?_ | refine blk_alloc ?_ _)); refine blk_put (cs := #[.int .i64 0, .string (rdOf ByteArray.empty t349 1), .int .i64 0, .bool false, .bool true]) ?_ 0 _ rfl; exact uB <| BK348.out) hb); replace HB := Aside0.mk (below_step bl hb); (try clear hb); (try clear ho0)))
   replace HO351 := Aside0.mk (Kd.R_drew HO351.out)
   replace HO360 := Aside0.mk (Kd.R_drew HO360.out)
   replace BK348 := Aside0.mk (blk_drew BK348.out)
   replace HB := Aside0.mk (below_drew1 HB.out)
   refine start_ (n := 10) (S := fun w' => True) (ds := []) _ (by kernel_rfl) rfl rfl trivial (fun hHeld => ?_); refine with_tabW diff_leaves.tab9 diff_leaves.bits9 (fun HT_ HW_ => ?_)
   generalize w34.drew = w35 at HO351 HO360 BK348 HB hHeld ⊢
   refine p1 0 (some 38) ?_
   refine p1 1 (some 39) ?_
   refine p1 2 (some 40) ?_
   refine p2 3 (some 41) ?_
   refine p2 4 (some 42) ?_
   refine p2 5 (some 43) ?_
   refine p2 6 (some 44) ?_
   refine p2 7 (some 45) ?_
   refine p2 8 (some 46) ?_
   refine p1 9 (some 47) ?_
   refine done_ (done_of HT_.out (by kernel_rfl)) ?_
   obtain ⟨hcz36_0, hcz36_1, hcz36_2, hcz36_3, hcz36_4, hfz36_0, hfz36_1, hfz36_2, hfz36_3, hfz36_4⟩ := z5 BK348
   try go_wp2_with (first | ((with_reducible refine gate_store (t := 48) (p := 2) rfl ?_); refine store_event (t := 48) (p := 2) (v := ?vo_w37) (w1 := (((((w35.setCell ⟨gb348, 0, none⟩ (.int .i64 t354)).setCell ⟨gb348, 1, none⟩ (.string (rdOf ByteArray.empty t349 1))).setCell ⟨gb348, 2, none⟩ (.int .i64 0)).setCell ⟨gb348, 3, none⟩ (.bool false)).setCell ⟨gb348, 4, none⟩ (.bool true))) ?hg ?ho ?hn ?hr ?_; (case ho => rfl); (case hg => rfl); (case hn => rfl); (case hr => first | (go_simp; done) | (go_simp; rfl)); intro w37 hw; have n0_ : Aside0 (Kd.R Kd.string 9 w37 w.heap.size (fun _ => True) (.slice (some ad352) t349.length co28) t349) := ⟨(by rw [hw]; exact (by exact uR <| Kd.R_mono (Kd.R_far (p := ⟨gb348, 4, none⟩) (Kd.R_far (p := ⟨gb348, 3, none⟩) (Kd.R_far (p := ⟨gb348, 2, none⟩) (Kd.R_far (p := ⟨gb348, 1, none⟩) (Kd.R_far (p := ⟨gb348, 0, none⟩) (Kd.R_types HO351.out BK348.out (by decide)) (fun _ hk => hk.2) (.int .i64 t354)) (fun _ hk => hk.2) (.string (rdOf ByteArray.empty t349 1))) (fun _ hk => hk.2) (.int .i64 0)) (fun _ hk => hk.2) (.bool false)) (fun _ hk => hk.2) (.bool true)) (fun _ hk => trivial)))⟩; have n1_ : Aside0 (Kd.R k98 98 w37 w.heap.size (fun _ => True) v359 t357) := ⟨(by rw [hw]; exact (by exact uR <| Kd.R_mono (Kd.R_far (p := ⟨gb348, 4, none⟩) (Kd.R_far (p := ⟨gb348, 3, none⟩) (Kd.R_far (p := ⟨gb348, 2, none⟩) (Kd.R_far (p := ⟨gb348, 1, none⟩) (Kd.R_far (p := ⟨gb348, 0, none⟩) (Kd.R_types HO360.out BK348.out (by decide)) (fun _ hk => hk.2) (.int .i64 t354)) (fun _ hk => hk.2) (.string (rdOf ByteArray.empty t349 1))) (fun _ hk => hk.2) (.int .i64 0)) (fun _ hk => hk.2) (.bool false)) (fun _ hk => hk.2) (.bool true)) (fun _ hk => trivial)))⟩; have n2_ : Aside0 (w37.heap[gb348]? = some (.cells #[.int .i64 t354, .string (rdOf ByteArray.empty t349 1), .int .i64 0, .bool false, .bool true] 48 (0, 0))) := ⟨(by rw [hw]; exact (by (with_reducible repeat (first | refine blk_drewN ?_ _ | refine blk_drew ?_ | refine blk_alloc ?_ _)); refine blk_put (cs := #[.int .i64 t354, .string (rdOf ByteArray.empty t349 1), .int .i64 0, .bool false, .bool true]) ?_ 4 _ rfl; (with_reducible repeat (first | refine blk_drewN ?_ _ | refine blk_drew ?_ | refine blk_alloc ?_ _)); refine blk_put (cs := #[.int .i64 t354, .string (rdOf ByteArray.empty t349 1), .int .i64 0, .bool false, .bool true]) ?_ 3 _ rfl; (with_reducible repeat (first | refine blk_drewN ?_ _ | refine blk_drew ?_ | refine blk_alloc ?_ _)); refine blk_put (cs := #[.int .i64 t354, .string (rdOf ByteArray.empty t349 1), .int .i64 0, .bool false, .bool true]) ?_ 2 _ rfl; (with_reducible repeat (first | refine blk_drewN ?_ _ | refine blk_drew ?_ | refine blk_alloc ?_ _)); refine blk_put (cs := #[.int .i64 t354, .string (rdOf ByteArray.empty t349 1), .int .i64 0, .bool false, .bool true]) ?_ 1 _ rfl; (with_reducible repeat (first | refine blk_drewN ?_ _ | refine blk_drew ?_ | refine blk_alloc ?_ _)); refine blk_put (cs := #[.int .i64 t354, .string (rdOf ByteArray.empty t349 1), .int .i64 0, .bool false, .bool true]) ?_ 0 _ rfl; exact uB <| BK348.out))⟩; have n3_ : Aside0 (Below w.heap.size w w37) := ⟨(by rw [hw]; exact bl)⟩; clear hw; clear HO351; clear HO360; clear BK348; clear HB; have HO351 := n0_; have HO360 := n1_; have BK348 := n2_; have HB := n3_; clear n0_ n1_ n2_ n3_))
   refine bodyPost_ret (results_ct rfl _ _ gb348 48 #[.int .i64 t354, .string (rdOf ByteArray.empty t349 1), .int .i64 0, .bool false, .bool true] (0, 0) _ rfl (uB BK348.out) Tryz.underlying48 rfl (by kernel_rfl)) rfl ?_
   exact ⟨re_, bl⟩
 ·
  rw [if_neg c3] at H
  exact absurd H (by simp)
def stringslite_HasSuffix.f (a0 : ByteArray) (a1 : ByteArray) : Option (Bool) := if (a0.size : Int) ≥ (a1.size : Int) then (if 0 ≤ (wrap64 ((a0.size : Int) - (a1.size : Int))) then (if (wrap64 ((a0.size : Int) - (a1.size : Int))) ≤ (a0.size : Int) then (some ((a0.extract ((wrap64 ((a0.size : Int) - (a1.size : Int))) : Int).toNat a0.size).toList == a1.toList)) else (none)) else (none)) else (some false)
theorem stringslite_HasSuffix.calls (a0 : ByteArray) (a1 : ByteArray) (r : Bool) (w : World) (h : stringslite_HasSuffix.f a0 a1 = some r) :
 Calls Tryz.prog 163 #[.string a0, .string a1] w fun e w' => e = .returned (.bool r) ∧ Drawn0 w w' := by
 have H : (if (a0.size : Int) ≥ (a1.size : Int) then (if 0 ≤ (wrap64 ((a0.size : Int) - (a1.size : Int))) then (if (wrap64 ((a0.size : Int) - (a1.size : Int))) ≤ (a0.size : Int) then (some ((a0.extract ((wrap64 ((a0.size : Int) - (a1.size : Int))) : Int).toNat a0.size).toList == a1.toList)) else (none)) else (none)) else (some false)) = some r := h
 clear h
 by_cases c3 : (a0.size : Int) ≥ (a1.size : Int)
 ·
  rw [if_pos c3] at H
  have c3b0 : decide ((a1.size : Int) ≤ (a0.size : Int)) = true := decide_eq_true c3
  have c3b1 : decide (a1.size ≤ a0.size) = true := decide_eq_true (Int.ofNat_le.mp c3)
  clear c3
  obtain ⟨ji4, hji4⟩ : ∃ j_ : Int, (wrap64 ((a0.size : Int) - (a1.size : Int))) = j_ := ⟨_, rfl⟩
  (first | rw [hji4] at H | simp only [hji4] at H)
  have hji4w : (IntKind.i64.wrap ((a0.size : Int) - (a1.size : Int))) = ji4 := (i64_w _).trans hji4
  obtain ⟨c5, H⟩ := gd H
  have c5b0 := eq_true c5
  have c5b1 : decide (0 ≤ (ji4)) = true := decide_eq_true c5
  clear c5
  obtain ⟨c6, H⟩ := gd H
  have c6b0 := eq_true c6
  have c6b1 : decide ((ji4) ≤ (a0.size : Int)) = true := decide_eq_true c6
  clear c6
  obtain rfl := Option.some.inj H
  go_enter Tryz.func163, Tryz.ntmps163
  go_wp2
  go_ret
  exact ⟨by first | rfl | (simp; done) | (simp only [← hji4] <;> (first | rfl | simp)) | (simp [*]; done), dr_⟩
 ·
  rw [if_neg c3] at H
  have c3b0 : decide ((a1.size : Int) ≤ (a0.size : Int)) = false := decide_eq_false c3
  have c3b1 : decide (a1.size ≤ a0.size) = false := decide_eq_false (fun h => c3 (Int.ofNat_le.mpr h))
  clear c3
  obtain rfl := Option.some.inj H
  go_enter Tryz.func163, Tryz.ntmps163
  go_wp2
  go_ret
  exact ⟨rs_, dr_⟩
def stringslite_TrimSuffix.f (a0 : ByteArray) (a1 : ByteArray) : Option (ByteArray) := (stringslite_HasSuffix.f a0 a1).bind fun t363 => (if t363 = true then (if 0 ≤ (wrap64 ((a0.size : Int) - (a1.size : Int))) then (if (wrap64 ((a0.size : Int) - (a1.size : Int))) ≤ (a0.size : Int) then (some (a0.extract 0 ((wrap64 ((a0.size : Int) - (a1.size : Int))) : Int).toNat)) else (none)) else (none)) else (some a0))
theorem stringslite_TrimSuffix.calls (a0 : ByteArray) (a1 : ByteArray) (r : ByteArray) (w : World) (h : stringslite_TrimSuffix.f a0 a1 = some r) :
 Calls Tryz.prog 138 #[.string a0, .string a1] w fun e w' => e = .returned (.string r) ∧ Drawn0 w w' := by
 have H : ((stringslite_HasSuffix.f a0 a1).bind fun t363 => (if t363 = true then (if 0 ≤ (wrap64 ((a0.size : Int) - (a1.size : Int))) then (if (wrap64 ((a0.size : Int) - (a1.size : Int))) ≤ (a0.size : Int) then (some (a0.extract 0 ((wrap64 ((a0.size : Int) - (a1.size : Int))) : Int).toNat)) else (none)) else (none)) else (some a0))) = some r := h
 clear h
 obtain ⟨t363, A3, H⟩ := bs H
 try dsimp only at H
 by_cases c4 : t363 = true
 ·
  subst c4
  rw [if_pos rfl] at H
  obtain ⟨ji5, hji5⟩ : ∃ j_ : Int, (wrap64 ((a0.size : Int) - (a1.size : Int))) = j_ := ⟨_, rfl⟩
  (first | rw [hji5] at H | simp only [hji5] at H)
  (try rw [hji5] at A3)
  have hji5w : (IntKind.i64.wrap ((a0.size : Int) - (a1.size : Int))) = ji5 := (i64_w _).trans hji5
  obtain ⟨c6, H⟩ := gd H
  have c6b0 := eq_true c6
  have c6b1 : decide (0 ≤ (ji5)) = true := decide_eq_true c6
  clear c6
  obtain ⟨c7, H⟩ := gd H
  have c7b0 := eq_true c7
  have c7b1 : decide ((ji5) ≤ (a0.size : Int)) = true := decide_eq_true c7
  clear c7
  obtain rfl := Option.some.inj H
  go_enter Tryz.func138, Tryz.ntmps138
  go_wp2_with (first | (refine gL (some 7) rfl Tryz.func163 #[.string a0, .string a1] ?_; (with_reducible refine (stringslite_HasSuffix.calls a0 a1 true _ A3.out).mono ?_); rintro e w' ⟨rfl, ⟨nd, rfl⟩⟩; refine ⟨_, rfl, ?_⟩))
  go_ret
  exact ⟨by first | rfl | (simp; done) | (simp only [← hji5] <;> (first | rfl | simp)) | (simp [*]; done), dr_⟩
 ·
  replace c4 := Bool.eq_false_iff.mpr c4
  subst c4
  rw [if_neg (show ¬ (false = true) by decide)] at H
  obtain rfl := Option.some.inj H
  go_enter Tryz.func138, Tryz.ntmps138
  go_wp2_with (first | (refine gL (some 7) rfl Tryz.func163 #[.string a0, .string a1] ?_; (with_reducible refine (stringslite_HasSuffix.calls a0 a1 false _ A3.out).mono ?_); rintro e w' ⟨rfl, ⟨nd, rfl⟩⟩; refine ⟨_, rfl, ?_⟩))
  go_ret
  exact ⟨rs_, dr_⟩
def strings_TrimSuffix.f (a0 : ByteArray) (a1 : ByteArray) : Option (ByteArray) := (stringslite_TrimSuffix.f a0 a1).bind fun t364 => (some t364)
theorem strings_TrimSuffix.calls (a0 : ByteArray) (a1 : ByteArray) (r : ByteArray) (w : World) (h : strings_TrimSuffix.f a0 a1 = some r) :
 Calls Tryz.prog 115 #[.string a0, .string a1] w fun e w' => e = .returned (.string r) ∧ Drawn0 w w' := by
 have H : ((stringslite_TrimSuffix.f a0 a1).bind fun t364 => (some t364)) = some r := h
 clear h
 obtain ⟨t364, A3, H⟩ := bs H
 try dsimp only at H
 obtain rfl := Option.some.inj H
 go_enter Tryz.func115, Tryz.ntmps115
 go_wp2_with (first | (refine gL (some 7) rfl Tryz.func138 #[.string a0, .string a1] ?_; (with_reducible refine (stringslite_TrimSuffix.calls a0 a1 t364 _ A3.out).mono ?_); rintro e w' ⟨rfl, ⟨nd, rfl⟩⟩; refine ⟨_, rfl, ?_⟩))
 go_ret
 exact ⟨rs_, dr_⟩
def sat_Parse.f (a0 : ByteArray) : Option (Int × Bool × Int) := (strings_TrimSuffix.f a0 (⟨#[33]⟩ : ByteArray)).bind fun t366 => ((sat_Read.f t366).bind fun bt367 => (if bt367.2 = 0 then (some (bt367.1, (t366.toList != a0.toList), 0)) else (none)))
theorem sat_Parse.calls (a0 : ByteArray) (r1 : Int) (r2 : Bool) (r3 : Int) (w : World) (hL : LD w) (h : sat_Parse.f a0 = some (r1, r2, r3)) :
 Calls Tryz.prog 94 #[.string a0] w fun e w' => e = .returned (.tuple #[.agg #[.int .i64 r1, .bool r2], .int .i64 r3]) ∧ Below w.heap.size w w' := by
 have HL0 := Aside0.mk hL
 clear hL
 have hu43 := Tryz.underlying43
 have HB := Aside0.mk (Below.refl w.heap.size w)
 have H : ((strings_TrimSuffix.f a0 (⟨#[33]⟩ : ByteArray)).bind fun t366 => ((sat_Read.f t366).bind fun bt367 => (if bt367.2 = 0 then (some (bt367.1, (t366.toList != a0.toList), 0)) else (none)))) = some (r1, r2, r3) := h
 clear h
 obtain ⟨t366, A2, H⟩ := bs H
 try dsimp only at H
 obtain ⟨⟨t367, t368⟩, A3, H⟩ := bs H
 try dsimp only at H
 by_cases c4 : t368 = 0
 ·
  rw [if_pos c4] at H
  have c4b0 : (t368 == 0) = true := beq_iff_eq.mpr c4
  have c4b1 : (t368 != 0) = false := bne_eq_false_iff_eq.mpr c4
  clear c4
  simp only [Option.some.injEq, Prod.mk.injEq] at H
  obtain ⟨rfl, rfl, rfl⟩ := H
  go_enter Tryz.func94, Tryz.ntmps94
  go_wp2_with (first | ((with_reducible refine gate_dst (N := 2) rfl ?_); refine bx (N := 2) #[.int .i64 0, .bool false] 43 ?_; intro gb365 hg w5 hbox hb; have BK365 := Aside0.mk (hbox); have GW365 := gw hg (uW HB.out); have GE365 := GW365; replace HB := cW HB hb; clear hb hbox hg) | (refine gL (some 8) rfl Tryz.func115 #[.string a0, .string (⟨#[33]⟩ : ByteArray)] ?_; (with_reducible refine (strings_TrimSuffix.calls a0 (⟨#[33]⟩ : ByteArray) t366 _ A2.out).mono ?_); rintro e w' ⟨rfl, ⟨nd, rfl⟩⟩; refine ⟨_, rfl, ?_⟩; (try (rw [drewN_self w5]; generalize hq_ : World.drewN w5 _ = w5; have n0_ : Aside0 (w5.heap[gb365]? = some (.cells #[.int .i64 0, .bool false] 43 (0, 0))) := ⟨by rw [← hq_]; exact (uB BK365.out)⟩; have n1_ : Aside0 (Below w.heap.size w w5) := ⟨by rw [← hq_]; exact bl⟩; clear BK365 HB hq_; have BK365 := n0_; have HB := n1_; clear n0_ n1_))) | (refine gL (some 11) rfl Tryz.func76 #[.string t366] ?_; (with_reducible refine (sat_Read.calls (hL := ld) t366 t367 t368 _ A3.out).mono ?_); rintro e w6 ⟨rfl, hb⟩; refine ⟨_, rfl, ?_⟩; replace BK365 := cB BK365 hb; replace HB := Aside0.mk (below_step bl hb); (try clear hb); obtain ⟨hcz7_0, hcz7_1, hfz7_0, hfz7_1⟩ := z2 BK365))
  refine bodyPost_ret (results_ct rfl _ _ gb365 43 #[.int .i64 t367, .bool (t366.toList != a0.toList)] (0, 0) _ rfl (by (with_reducible repeat (first | refine blk_drewN ?_ _ | refine blk_drew ?_ | refine blk_alloc ?_ _)); refine blk_put (cs := #[.int .i64 t367, .bool false]) ?_ 1 _ rfl; (with_reducible repeat (first | refine blk_drewN ?_ _ | refine blk_drew ?_ | refine blk_alloc ?_ _)); refine blk_put (cs := #[.int .i64 0, .bool false]) ?_ 0 _ rfl; exact uB <| BK365.out) Tryz.underlying43 rfl (by kernel_rfl)) rfl ?_
  exact ⟨re_, bl⟩
 ·
  rw [if_neg c4] at H
  exact absurd H (by simp)
def row_one.f (k : Nat) (a0 : ByteArray) : Option (Int × ByteArray × Int × Bool × Int) := (word_Split.f k a0 124).bind fun t370 => (if (t370.length : Int) = 3 then (if 0 < (t370.length : Int) then ((sat_Read.f (rdOf ByteArray.empty t370 0)).bind fun bt374 => (if bt374.2 = 0 then (if 1 < (t370.length : Int) then ((row_group.f k (rdOf ByteArray.empty t370 1)).bind fun t377 => (if t377 = 0 then (if 2 < (t370.length : Int) then ((sat_Parse.f (rdOf ByteArray.empty t370 2)).bind fun bt380 => (some (bt374.1, rdOf ByteArray.empty t370 1, bt380.1, bt380.2.1, bt380.2.2))) else (none)) else (none))) else (none)) else (none))) else (none)) else (none))
theorem row_one.mono : ∀ a0 k, LeO (row_one.f k a0) (row_one.f (k + 1) a0) := by
 intro a0 k
 unfold row_one.f
 exact lo
instance row_one.mI {a0 k} : LeC (row_one.f k a0) (row_one.f (k + 1) a0) := ⟨row_one.mono _ _⟩
theorem row_one.calls (k : Nat) (a0 : ByteArray) (r1 : Int) (r2 : ByteArray) (r3 : Int) (r4 : Bool) (r5 : Int) (w : World) (hL : LD w) (h : row_one.f k a0 = some (r1, r2, r3, r4, r5)) :
 Calls Tryz.prog 77 #[.string a0] w fun e w' => e = .returned (.tuple #[.agg #[.int .i64 r1, .string r2, .int .i64 r3, .bool r4], .int .i64 r5]) ∧ Below w.heap.size w w' := by
 have HL0 := Aside0.mk hL
 clear hL
 have hu45 := Tryz.underlying45
 have hu43 := Tryz.underlying43
 have HB := Aside0.mk (Below.refl w.heap.size w)
 have H : ((word_Split.f k a0 124).bind fun t370 => (if (t370.length : Int) = 3 then (if 0 < (t370.length : Int) then ((sat_Read.f (rdOf ByteArray.empty t370 0)).bind fun bt374 => (if bt374.2 = 0 then (if 1 < (t370.length : Int) then ((row_group.f k (rdOf ByteArray.empty t370 1)).bind fun t377 => (if t377 = 0 then (if 2 < (t370.length : Int) then ((sat_Parse.f (rdOf ByteArray.empty t370 2)).bind fun bt380 => (some (bt374.1, rdOf ByteArray.empty t370 1, bt380.1, bt380.2.1, bt380.2.2))) else (none)) else (none))) else (none)) else (none))) else (none)) else (none))) = some (r1, r2, r3, r4, r5) := h
 clear h
 obtain ⟨t370, A2, H⟩ := bs H
 try dsimp only at H
 by_cases c3 : (t370.length : Int) = 3
 ·
  rw [if_pos c3] at H
  have c3b0 : ((t370.length : Int) == 3) = true := beq_iff_eq.mpr c3
  have c3b1 : ((t370.length : Int) != 3) = false := bne_eq_false_iff_eq.mpr c3
  clear c3
  obtain ⟨c4, H⟩ := gd H
  have c4b0 : decide (0 < (t370.length : Int)) = true := decide_eq_true c4
  have c4b1 : decide (0 < t370.length) = true := decide_eq_true (by omega)
  clear c4
  obtain ⟨⟨t374, t375⟩, A5, H⟩ := bs H
  try dsimp only at H
  obtain ⟨c6, H⟩ := gd H
  have c6b0 : (t375 == 0) = true := beq_iff_eq.mpr c6
  have c6b1 : (t375 != 0) = false := bne_eq_false_iff_eq.mpr c6
  clear c6
  obtain ⟨c7, H⟩ := gd H
  have c7b0 : decide (1 < (t370.length : Int)) = true := decide_eq_true c7
  have c7b1 : decide (1 < t370.length) = true := decide_eq_true (by omega)
  clear c7
  obtain ⟨t377, A8, H⟩ := bs H
  try dsimp only at H
  obtain ⟨c9, H⟩ := gd H
  have c9b0 : (t377 == 0) = true := beq_iff_eq.mpr c9
  have c9b1 : (t377 != 0) = false := bne_eq_false_iff_eq.mpr c9
  clear c9
  obtain ⟨c10, H⟩ := gd H
  have c10b0 : decide (2 < (t370.length : Int)) = true := decide_eq_true c10
  have c10b1 : decide (2 < t370.length) = true := decide_eq_true (by omega)
  clear c10
  obtain ⟨⟨t380, t381, t382⟩, A11, H⟩ := bs H
  try dsimp only at H
  simp only [Option.some.injEq, Prod.mk.injEq] at H
  obtain ⟨rfl, rfl, rfl, rfl, rfl⟩ := H
  go_enter Tryz.func77, Tryz.ntmps77
  go_wp2_with (first | ((with_reducible refine gate_dst (N := 2) rfl ?_); refine bx (N := 2) #[.int .i64 0, .string (⟨#[]⟩ : ByteArray), .int .i64 0, .bool false] 45 ?_; intro gb369 hg w12 hbox hb; have BK369 := Aside0.mk (hbox); have GW369 := gw hg (uW HB.out); have GE369 := GW369; replace HB := cW HB hb; clear hb hbox hg) | (refine gL (some 6) rfl Tryz.func39 #[.string a0, .int .u8 124] ?_; (with_reducible refine (word_Split.calls k a0 124 t370 _ A2.out).mono ?_); rintro e w13 ⟨v371, rfl, ho0, hb⟩; refine ⟨_, rfl, ?_⟩; have HO372 := Aside0.mk (Kd.R_lower ho0 (below_size bl)); replace BK369 := cB BK369 hb; replace HB := Aside0.mk (below_step bl hb); (try clear hb); (try clear ho0); obtain ⟨Ao14, co14, eo14⟩ := Kd.R_slice HO372.out; subst eo14; have p373 : 0 ≤ (0 : Int) := (by omega); have q373 : 0 < (t370.length : Int) := od; obtain ⟨ad373, e373, hx373_0⟩ := Kd.at_string (Kd.R_reads' HO372.out).2.2 0 p373 q373; cases e373; have qi373 : (0 < t370.length) = True := eq_true (by omega); (try rw [show ((0 : Int)).toNat = 0 from rfl] at hx373_0); (try rw [Addr.add_zero'] at hx373_0); replace p373 := eq_true p373; replace q373 := eq_true q373) | (refine gL (some 15) rfl Tryz.func76 #[.string (rdOf ByteArray.empty t370 0)] ?_; (with_reducible refine (sat_Read.calls (hL := ld) (rdOf ByteArray.empty t370 0) t374 t375 _ A5.out).mono ?_); rintro e w15 ⟨rfl, hb⟩; refine ⟨_, rfl, ?_⟩; replace HO372 := cR HO372 hb; replace BK369 := cB BK369 hb; replace HB := Aside0.mk (below_step bl hb); (try clear hb); obtain ⟨hcz16_0, hcz16_1, hcz16_2, hcz16_3, hfz16_0, hfz16_1, hfz16_2, hfz16_3⟩ := z4 BK369; have p376 : 0 ≤ (1 : Int) := (by omega); have q376 : 1 < (t370.length : Int) := od; obtain ⟨ad376, e376, hx376_0⟩ := Kd.at_string (Kd.R_reads' HO372.out).2.2 1 p376 q376; obtain rfl : ad373 = ad376 := (by injection e376); (try simp only [show (1 : Int).toNat = 1 from rfl, Nat.reduceMul, Nat.reduceEqDiff, Go.Addr.add, ↓reduceIte] at hx376_0); have qi376 : (1 < t370.length) = True := eq_true (by omega); (try rw [show ((1 : Int)).toNat = 1 from rfl] at hx376_0); have hn376_0 : ad373.block ≠ gb369 := Kd.own_blk (Kd.R_ne HO372.out BK369.out (by decide)); replace hx376_0 := (cell_far (p := ⟨gb369, 0, none⟩) (by first | (rw [add_block]; exact hn376_0) | (show (Addr.add _ _).block ≠ _; rw [add_block]; exact hn376_0) | exact hn376_0) (.int .i64 t374)).trans hx376_0; clear hn376_0; replace p376 := eq_true p376; replace q376 := eq_true q376) | (refine gL (some 26) rfl Tryz.func48 #[.string (rdOf ByteArray.empty t370 1)] ?_; (with_reducible refine (row_group.calls (hL := ld) k (rdOf ByteArray.empty t370 1) t377 _ A8.out).mono ?_); rintro e w17 ⟨rfl, hb⟩; refine ⟨_, rfl, ?_⟩; replace HO372 := Aside0.mk (Kd.R_below (by exact uR <| (Kd.R_mono (Kd.R_far (p := ⟨gb369, 0, none⟩) (Kd.R_types HO372.out BK369.out (by decide)) (fun _ hk => hk.2) (.int .i64 t374)) (fun _ h_ => h_.1))) hb); replace BK369 := Aside0.mk (blk_below (g := gb369) (o := .cells #[.int .i64 t374, .string (⟨#[]⟩ : ByteArray), .int .i64 0, .bool false] 45 (0, 0)) (by (with_reducible repeat (first | refine blk_drewN ?_ _ | refine blk_drew ?_ | refine blk_alloc ?_ _)); refine blk_put (cs := #[.int .i64 0, .string (⟨#[]⟩ : ByteArray), .int .i64 0, .bool false]) ?_ 0 _ rfl; exact uB <| BK369.out) hb); replace HB := Aside0.mk (below_step bl hb); (try clear hb); have p378 : 0 ≤ (1 : Int) := (by omega); have q378 : 1 < (t370.length : Int) := od; obtain ⟨ad378, e378, hx378_0⟩ := Kd.at_string (Kd.R_reads' HO372.out).2.2 1 p378 q378; obtain rfl : ad373 = ad378 := (by injection e378); (try simp only [show (1 : Int).toNat = 1 from rfl, Nat.reduceMul, Nat.reduceEqDiff, Go.Addr.add, ↓reduceIte] at hx378_0); have qi378 : (1 < t370.length) = True := eq_true (by omega); (try rw [show ((1 : Int)).toNat = 1 from rfl] at hx378_0); replace p378 := eq_true p378; replace q378 := eq_true q378; obtain ⟨hcz18_0, hcz18_1, hcz18_2, hcz18_3, hfz18_0, hfz18_1, hfz18_2, hfz18_3⟩ := z4 BK369; have p379 : 0 ≤ (2 : Int) := (by omega); have q379 : 2 < (t370.length : Int) := od; obtain ⟨ad379, e379, hx379_0⟩ := Kd.at_string (Kd.R_reads' HO372.out).2.2 2 p379 q379; obtain rfl : ad373 = ad379 := (by injection e379); (try simp only [show (2 : Int).toNat = 2 from rfl, Nat.reduceMul, Nat.reduceEqDiff, Go.Addr.add, ↓reduceIte] at hx379_0); have qi379 : (2 < t370.length) = True := eq_true (by omega); (try rw [show ((2 : Int)).toNat = 2 from rfl] at hx379_0); have hn379_0 : ad373.block ≠ gb369 := Kd.own_blk (Kd.R_ne HO372.out BK369.out (by decide)); replace hx379_0 := (cell_far (p := ⟨gb369, 1, none⟩) (by first | (rw [add_block]; exact hn379_0) | (show (Addr.add _ _).block ≠ _; rw [add_block]; exact hn379_0) | exact hn379_0) (.string (rdOf ByteArray.empty t370 1))).trans hx379_0; clear hn379_0; replace p379 := eq_true p379; replace q379 := eq_true q379) | (refine gL (some 39) rfl Tryz.func94 #[.string (rdOf ByteArray.empty t370 2)] ?_; (with_reducible refine (sat_Parse.calls (hL := ld) (rdOf ByteArray.empty t370 2) t380 t381 t382 _ A11.out).mono ?_); rintro e w19 ⟨rfl, hb⟩; refine ⟨_, rfl, ?_⟩; replace HO372 := Aside0.mk (Kd.R_below (by exact uR <| (Kd.R_mono (Kd.R_far (p := ⟨gb369, 1, none⟩) (Kd.R_types HO372.out BK369.out (by decide)) (fun _ hk => hk.2) (.string (rdOf ByteArray.empty t370 1))) (fun _ h_ => h_.1))) hb); replace BK369 := Aside0.mk (blk_below (g := gb369) (o := .cells #[.int .i64 t374, .string (rdOf ByteArray.empty t370 1), .int .i64 0, .bool false] 45 (0, 0)) (by (with_reducible repeat (first | refine blk_drewN ?_ _ | refine blk_drew ?_ | refine blk_alloc ?_ _)); refine blk_put (cs := #[.int .i64 t374, .string (⟨#[]⟩ : ByteArray), .int .i64 0, .bool false]) ?_ 1 _ rfl; exact uB <| BK369.out) hb); replace HB := Aside0.mk (below_step bl hb); (try clear hb); obtain ⟨hcz20_0, hcz20_1, hcz20_2, hcz20_3, hfz20_0, hfz20_1, hfz20_2, hfz20_3⟩ := z4 BK369) | ((with_reducible refine gate_store (t := 45) (p := 2) rfl ?_); refine store_event (t := 45) (p := 2) (v := ?vo_w21) (w1 := ((((((w19.setCell ⟨gb369, 2, none⟩ (.int .i64 t380)).setCell ⟨gb369, 3, none⟩ (.bool t381)).setCell ⟨gb369, 0, none⟩ (.int .i64 t374)).setCell ⟨gb369, 1, none⟩ (.string (rdOf ByteArray.empty t370 1))).setCell ⟨gb369, 2, none⟩ (.int .i64 t380)).setCell ⟨gb369, 3, none⟩ (.bool t381))) ?hg ?ho ?hn ?hr ?_; (case ho => rfl); (case hg => rfl); (case hn => rfl); (case hr => first | (go_simp; done) | (go_simp; rfl)); intro w21 hw; have n0_ : Aside0 (Kd.R Kd.string 9 w21 w.heap.size (fun _ => True) (.slice (some ad373) t370.length co14) t370) := ⟨(by rw [hw]; exact (by exact uR <| Kd.R_mono (Kd.R_far (p := ⟨gb369, 3, none⟩) (Kd.R_far (p := ⟨gb369, 2, none⟩) (Kd.R_far (p := ⟨gb369, 1, none⟩) (Kd.R_far (p := ⟨gb369, 0, none⟩) (Kd.R_far (p := ⟨gb369, 3, none⟩) (Kd.R_far (p := ⟨gb369, 2, none⟩) (Kd.R_types HO372.out BK369.out (by decide)) (fun _ hk => hk.2) (.int .i64 t380)) (fun _ hk => hk.2) (.bool t381)) (fun _ hk => hk.2) (.int .i64 t374)) (fun _ hk => hk.2) (.string (rdOf ByteArray.empty t370 1))) (fun _ hk => hk.2) (.int .i64 t380)) (fun _ hk => hk.2) (.bool t381)) (fun _ hk => trivial)))⟩; have n1_ : Aside0 (w21.heap[gb369]? = some (.cells #[.int .i64 t374, .string (rdOf ByteArray.empty t370 1), .int .i64 t380, .bool t381] 45 (0, 0))) := ⟨(by rw [hw]; exact (by (with_reducible repeat (first | refine blk_drewN ?_ _ | refine blk_drew ?_ | refine blk_alloc ?_ _)); refine blk_put (cs := #[.int .i64 t374, .string (rdOf ByteArray.empty t370 1), .int .i64 t380, .bool t381]) ?_ 3 _ rfl; (with_reducible repeat (first | refine blk_drewN ?_ _ | refine blk_drew ?_ | refine blk_alloc ?_ _)); refine blk_put (cs := #[.int .i64 t374, .string (rdOf ByteArray.empty t370 1), .int .i64 t380, .bool t381]) ?_ 2 _ rfl; (with_reducible repeat (first | refine blk_drewN ?_ _ | refine blk_drew ?_ | refine blk_alloc ?_ _)); refine blk_put (cs := #[.int .i64 t374, .string (rdOf ByteArray.empty t370 1), .int .i64 t380, .bool t381]) ?_ 1 _ rfl; (with_reducible repeat (first | refine blk_drewN ?_ _ | refine blk_drew ?_ | refine blk_alloc ?_ _)); refine blk_put (cs := #[.int .i64 t374, .string (rdOf ByteArray.empty t370 1), .int .i64 t380, .bool t381]) ?_ 0 _ rfl; (with_reducible repeat (first | refine blk_drewN ?_ _ | refine blk_drew ?_ | refine blk_alloc ?_ _)); refine blk_put (cs := #[.int .i64 t374, .string (rdOf ByteArray.empty t370 1), .int .i64 t380, .bool false]) ?_ 3 _ rfl; (with_reducible repeat (first | refine blk_drewN ?_ _ | refine blk_drew ?_ | refine blk_alloc ?_ _)); refine blk_put (cs := #[.int .i64 t374, .string (rdOf ByteArray.empty t370 1), .int .i64 0, .bool false]) ?_ 2 _ rfl; exact uB <| BK369.out))⟩; have n2_ : Aside0 (Below w.heap.size w w21) := ⟨(by rw [hw]; exact bl)⟩; clear hw; clear HO372; clear BK369; clear HB; have HO372 := n0_; have BK369 := n1_; have HB := n2_; clear n0_ n1_ n2_))
  refine bodyPost_ret (results_ct rfl _ _ gb369 45 #[.int .i64 t374, .string (rdOf ByteArray.empty t370 1), .int .i64 t380, .bool t381] (0, 0) _ rfl (uB BK369.out) Tryz.underlying45 rfl (by kernel_rfl)) rfl ?_
  exact ⟨re_, bl⟩
 ·
  rw [if_neg c3] at H
  exact absurd H (by simp)
def row_Parse.l0 : Nat → List (S45) → List ByteArray → Int → Int → Option ((List (S45)) × Int)
 | 0, _, _, _, _ => none
 | k + 1, x2, x11, x12, x13 => if x13 < x12 then (if 0 ≤ x13 then (if x13 < (x11.length : Int) then ((row_one.f k (rdOf ByteArray.empty x11 x13)).bind fun bt387 => (if bt387.2.2.2.2 = 0 then (if x2.length < 3518437208883 then (row_Parse.l0 k (x2 ++ [(⟨bt387.1, bt387.2.1, (⟨bt387.2.2.1, bt387.2.2.2.1⟩ : S43)⟩ : S45)]) x11 x12 (wrap64 (x13 + 1))) else (none)) else (none))) else (none)) else (none)) else ((row_rise.f k x2).bind fun t396 => (if t396 = true then (some (x2, 0)) else (none)))
def row_Parse.f (k : Nat) (a0 : ByteArray) : Option ((List (S45)) × Int) := if a0.toList = ([45] : List UInt8) then (none) else ((word_Split.f k a0 59).bind fun t383 => (row_Parse.l0 k ([] : List (S45)) t383 (t383.length : Int) 0))
theorem row_Parse.mono_l : ∀ k, (∀ y0 y1 y2 y3, LeC (row_Parse.l0 k y0 y1 y2 y3) (row_Parse.l0 (k + 1) y0 y1 y2 y3))
 | 0 => fun _ _ _ _ => ⟨fun r h => by simp [row_Parse.l0] at h⟩
 | k + 1 => by have ih0 := row_Parse.mono_l k; exact fun _ _ _ _ => by unfold row_Parse.l0; exact lm
theorem row_Parse.mono : ∀ a0 k, LeO (row_Parse.f k a0) (row_Parse.f (k + 1) a0) := by
 intro a0 k
 have ih0 := row_Parse.mono_l k
 unfold row_Parse.f
 exact lo
instance row_Parse.mI {a0 k} : LeC (row_Parse.f k a0) (row_Parse.f (k + 1) a0) := ⟨row_Parse.mono _ _⟩
theorem row_Parse.calls (k : Nat) (a0 : ByteArray) (r1 : List (S45)) (r2 : Int) (w : World) (hL : LD w) (h : row_Parse.f k a0 = some (r1, r2)) :
 Calls Tryz.prog 59 #[.string a0] w fun e w' => ∃ v0_ : Value, e = .returned (.tuple #[v0_, .int .i64 r2]) ∧ Kd.R k45 45 w' w.heap.size (fun _ => True) v0_ r1 ∧ Below w.heap.size w w' := by
 have HL0 := Aside0.mk hL
 clear hL
 have hu45 := Tryz.underlying45
 have HB := Aside0.mk (Below.refl w.heap.size w)
 have H : (if a0.toList = ([45] : List UInt8) then (none) else ((word_Split.f k a0 59).bind fun t383 => (row_Parse.l0 k ([] : List (S45)) t383 (t383.length : Int) 0))) = some (r1, r2) := h
 clear h
 obtain ⟨c2, H⟩ := gn H
 have c2b0 : (a0.toList == ([45] : List UInt8)) = false := beq_eq_false_iff_ne.mpr c2
 have c2b1 : (a0.toList != ([45] : List UInt8)) = true := bne_iff_ne.mpr c2
 obtain ⟨t383, A3, H⟩ := bs H
 try dsimp only at H
 have H' := Aside0.mk H
 clear H
 go_enter Tryz.func59, Tryz.ntmps59
 go_wp2_with (first | (refine gL (some 11) rfl Tryz.func39 #[.string a0, .int .u8 59] ?_; (with_reducible refine (word_Split.calls k a0 59 t383 _ A3.out).mono ?_); rintro e w4 ⟨v384, rfl, ho0, hb⟩; refine ⟨_, rfl, ?_⟩; have HO385 := Aside0.mk (Kd.R_lower ho0 (below_size (uW HB.out))); replace HB := cW HB hb; (try clear hb); (try clear ho0); obtain ⟨Ao5, co5, eo5⟩ := Kd.R_slice HO385.out; subst eo5))
 (try simp only [Act.put, List.setIfInBounds_toArray, List.set_cons_zero, List.set_cons_succ])
 go_loopg [2, 13] k (fun kq v2 v13 w' => ∃ (x2_1 : List (S45)) (x13_1 : Int), v13 = .int .i64 x13_1 ∧ Aside0 (row_Parse.l0 kq x2_1 t383 (t383.length : Int) x13_1 = some (r1, r2)) ∧ Aside0 (kq ≤ k) ∧ Aside0 (Kd.R k45 45 w' w.heap.size (fun _ => True) v2 x2_1) ∧ Aside0 (Kd.R Kd.string 9 w' w.heap.size (fun _ => True) (.slice Ao5 t383.length co5) t383) ∧ Aside0 (Below w.heap.size w w'))
 case atStart => exact ⟨(([] : List (S45))), (0), rs_, H', ⟨Nat.le_refl _⟩, ⟨nl_⟩, ⟨uR HO385.out⟩, ⟨uW HB.out⟩⟩
 case round =>
  clear H'
  try clear c2
  try clear c2b0
  try clear c2b1
  try clear p2
  try clear c3
  try clear c5
  obtain ⟨x2_1, x13_1, rfl, HA, HK1, HO_2, HO_11, HB⟩ := hrel
  cases gk with
  | zero => exact absurd HA.out (by simp [row_Parse.l0])
  | succ k1 =>
   have H := HA.out
   clear HA
   simp only [row_Parse.l0] at H
   by_cases c6 : x13_1 < (t383.length : Int)
   ·
    rw [if_pos c6] at H
    have c6b0 : decide (x13_1 < (t383.length : Int)) = true := decide_eq_true c6
    clear c6
    obtain ⟨c7b0, H⟩ := gdd H
    obtain ⟨c8b0, H⟩ := gdd H
    obtain ⟨⟨t387, t388, t389, t390, t391⟩, A9, H⟩ := bs H
    try dsimp only at H
    obtain ⟨c10, H⟩ := gd H
    have c10b0 : (t391 == 0) = true := beq_iff_eq.mpr c10
    have c10b1 : (t391 != 0) = false := bne_eq_false_iff_eq.mpr c10
    clear c10
    obtain ⟨c11, H⟩ := gd H
    have LMc11 := Aside0.mk c11
    clear c11
    obtain ⟨y393, hy393⟩ : ∃ y_ : List (S45), y_ = (x2_1 ++ [(⟨t387, t388, (⟨t389, t390⟩ : S43)⟩ : S45)]) := ⟨_, rfl⟩
    replace H : (row_Parse.l0 k1 y393 t383 (t383.length : Int) (wrap64 (x13_1 + 1))) = some (r1, r2) := by first | (rw [hy393]; with_reducible exact H) | (have H2_ := (Option.bind_some _ _).symm.trans H; rw [hy393]; with_reducible exact H2_) | (have H2_ := (Option.bind_some _ _).symm.trans H; with_reducible exact H2_) | with_reducible exact H | (rw [hy393]; exact H) | exact H
    have Ny393 := Aside0.mk hy393
    clear hy393
    have H' := Aside0.mk H
    clear H
    have p386 : 0 ≤ (x13_1 : Int) := od
    have q386 : x13_1 < (t383.length : Int) := od
    obtain ⟨ad386, e386, hx386_0⟩ := Kd.at_string (Kd.R_reads' HO_11.out).2.2 x13_1 p386 q386
    cases e386
    replace p386 := eq_true p386
    replace q386 := eq_true q386
    go_wp2_with (first | (refine gL (some 19) rfl Tryz.func77 #[.string (rdOf ByteArray.empty t383 x13_1)] ?_; (with_reducible refine (row_one.calls (hL := ld) k1 (rdOf ByteArray.empty t383 x13_1) t387 t388 t389 t390 t391 _ A9.out).mono ?_); rintro e w12 ⟨rfl, hb⟩; refine ⟨_, rfl, ?_⟩; replace HO_2 := cR HO_2 hb; replace HO_11 := cR HO_11 hb; replace HB := cW HB hb; (try clear hb)) | ((with_reducible refine gate_dst (N := 6) rfl ?_); refine bx (N := 6) #[.int .i64 0, .string (⟨#[]⟩ : ByteArray), .int .i64 0, .bool false] 45 ?_; intro gb392 hg w13 hbox hb; replace HO_2 := Aside0.mk (Kd.R_below (Kd.R_elderB (uR HO_2.out) gb392 (Nat.le_of_eq hg.symm)) hb); replace HO_11 := cR HO_11 hb; have BK392 := Aside0.mk (hbox); have GW392 := gw hg (uW HB.out); have GE392 := GW392; replace HB := cW HB hb; clear hb hbox hg; obtain ⟨hcz14_0, hcz14_1, hcz14_2, hcz14_3, hfz14_0, hfz14_1, hfz14_2, hfz14_3⟩ := z4 BK392) | ((with_reducible refine gate_builtin (b := .append) (xs := #[.tmp 25, .tmp 27]) rfl ?_); at_builtin; refine Kd.R_append k45 (w0 := w) w.heap.size rfl (.tmp 25) (.tmp 27) 22 45 (.agg #[(.int .i64 0), (.string ⟨#[]⟩), (.int .i64 0), (.bool false)]) 40 rfl Tryz.underlying22 info45 rfl (by decide) (by omega) u2 x2_1 (⟨t387, t388, (⟨t389, t390⟩ : S43)⟩ : S45) [.int .i64 t387, .string t388, .int .i64 t389, .bool t390] (fun k_ => k_ ≠ gb392) (fun _ => False) rfl (by first | (go_simp; done) | (go_simp; rfl)) ?aP (fun _ hk => hk.elim) ?aF ?aO ?aB ?aS ?aL ?_; (case aP => exact k45_mkM _ _ _ (⟨t387, t388, (⟨t389, t390⟩ : S43)⟩ : S45)); (case aB => exact bl); (case aF => exact (fun k_ hk => Kd.freshB (g := gb392) (o := .cells #[.int .i64 t387, .string t388, .int .i64 t389, .bool t390] 45 (0, 0)) (by (with_reducible repeat (first | refine blk_drewN ?_ _ | refine blk_drew ?_ | refine blk_alloc ?_ _)); refine blk_put (cs := #[.int .i64 t387, .string t388, .int .i64 t389, .bool false]) ?_ 3 _ rfl; (with_reducible repeat (first | refine blk_drewN ?_ _ | refine blk_drew ?_ | refine blk_alloc ?_ _)); refine blk_put (cs := #[.int .i64 t387, .string t388, .int .i64 0, .bool false]) ?_ 2 _ rfl; (with_reducible repeat (first | refine blk_drewN ?_ _ | refine blk_drew ?_ | refine blk_alloc ?_ _)); refine blk_put (cs := #[.int .i64 t387, .string (⟨#[]⟩ : ByteArray), .int .i64 0, .bool false]) ?_ 1 _ rfl; (with_reducible repeat (first | refine blk_drewN ?_ _ | refine blk_drew ?_ | refine blk_alloc ?_ _)); refine blk_put (cs := #[.int .i64 0, .string (⟨#[]⟩ : ByteArray), .int .i64 0, .bool false]) ?_ 0 _ rfl; exact uB <| BK392.out) k_ hk)); (case aO => exact (by exact uR <| Kd.R_mono (Kd.R_far (p := ⟨gb392, 3, none⟩) (Kd.R_far (p := ⟨gb392, 2, none⟩) (Kd.R_far (p := ⟨gb392, 1, none⟩) (Kd.R_far (p := ⟨gb392, 0, none⟩) (Kd.R_mono HO_2.out (fun k_ hk => (⟨hk, hk.2⟩ : _ ∧ k_ ≠ gb392))) (fun _ hk => hk.2) (.int .i64 t387)) (fun _ hk => hk.2) (.string t388)) (fun _ hk => hk.2) (.int .i64 t389)) (fun _ hk => hk.2) (.bool t390)) (fun _ hk => hk.1.2))); (case aS => exact (below_size bl)); (case aL => have := LMc11.out; omega); intro v394 w15 ho hb hg hat; rw [← Ny393.out] at ho; replace HO_11 := Aside0.mk (Kd.R_over' (by exact uR <| (Kd.R_mono (Kd.R_far (p := ⟨gb392, 3, none⟩) (Kd.R_far (p := ⟨gb392, 2, none⟩) (Kd.R_far (p := ⟨gb392, 1, none⟩) (Kd.R_far (p := ⟨gb392, 0, none⟩) (Kd.R_types HO_11.out BK392.out (by decide)) (fun _ hk => hk.2) (.int .i64 t387)) (fun _ hk => hk.2) (.string t388)) (fun _ hk => hk.2) (.int .i64 t389)) (fun _ hk => hk.2) (.bool t390)) (fun _ h_ => h_.1))) (Kd.R_typed (by exact uR <| (Kd.R_mono (Kd.R_far (p := ⟨gb392, 3, none⟩) (Kd.R_far (p := ⟨gb392, 2, none⟩) (Kd.R_far (p := ⟨gb392, 1, none⟩) (Kd.R_far (p := ⟨gb392, 0, none⟩) (Kd.R_mono HO_2.out (fun k_ hk => (⟨hk, hk.2⟩ : _ ∧ k_ ≠ gb392))) (fun _ hk => hk.2) (.int .i64 t387)) (fun _ hk => hk.2) (.string t388)) (fun _ hk => hk.2) (.int .i64 t389)) (fun _ hk => hk.2) (.bool t390)) (fun _ h_ => h_.1)))) (by decide) hg); replace BK392 := Aside0.mk (blk_grown (g := gb392) (o := .cells #[.int .i64 t387, .string t388, .int .i64 t389, .bool t390] 45 (0, 0)) (by (with_reducible repeat (first | refine blk_drewN ?_ _ | refine blk_drew ?_ | refine blk_alloc ?_ _)); refine blk_put (cs := #[.int .i64 t387, .string t388, .int .i64 t389, .bool false]) ?_ 3 _ rfl; (with_reducible repeat (first | refine blk_drewN ?_ _ | refine blk_drew ?_ | refine blk_alloc ?_ _)); refine blk_put (cs := #[.int .i64 t387, .string t388, .int .i64 0, .bool false]) ?_ 2 _ rfl; (with_reducible repeat (first | refine blk_drewN ?_ _ | refine blk_drew ?_ | refine blk_alloc ?_ _)); refine blk_put (cs := #[.int .i64 t387, .string (⟨#[]⟩ : ByteArray), .int .i64 0, .bool false]) ?_ 1 _ rfl; (with_reducible repeat (first | refine blk_drewN ?_ _ | refine blk_drew ?_ | refine blk_alloc ?_ _)); refine blk_put (cs := #[.int .i64 0, .string (⟨#[]⟩ : ByteArray), .int .i64 0, .bool false]) ?_ 0 _ rfl; exact uB <| BK392.out) hg (Kd.R_away HO_2.out (fun _ hk => hk.2))); replace HB := Aside0.mk (hb); have HO395 := Aside0.mk (ho); clear HO_2; clear ho hb hg hat))
    go_roundg k1
    case measure => have := HK1.out; omega
    case rel => exact ⟨(y393), (wrap64 (x13_1 + 1)), rs_, H', ⟨by have := HK1.out; omega⟩, ⟨by exact uR <| Kd.R_mono HO395.out (fun _ hk => trivial)⟩, ⟨uR HO_11.out⟩, ⟨bl⟩⟩
   ·
    rw [if_neg c6] at H
    have c6b0 : decide (x13_1 < (t383.length : Int)) = false := decide_eq_false c6
    clear c6
    obtain ⟨t396, A16, H⟩ := bs H
    try dsimp only at H
    by_cases c17 : t396 = true
    ·
     subst c17
     rw [if_pos rfl] at H
     simp only [Option.some.injEq, Prod.mk.injEq] at H
     obtain ⟨rfl, rfl⟩ := H
     obtain ⟨Ao18, co18, eo18⟩ := Kd.R_slice HO_2.out
     subst eo18
     go_wp2_with (first | (refine gL (some 31) rfl Tryz.func45 #[.slice Ao18 x2_1.length co18] ?_; (with_reducible refine (row_rise.calls k1 _ _ x2_1 true _ ?side1 ?side2 A16.out).mono ?_); (case side1 => exact uC <| (Kd.R_reads' HO_2.out).2.2); (case side2 => exact (Kd.R_reads' HO_2.out).2.1); rintro e w19 ⟨rfl, hb⟩; refine ⟨_, rfl, ?_⟩; replace HO_2 := cR HO_2 hb; replace HO_11 := cR HO_11 hb; replace HB := cW HB hb; (try clear hb)))
     go_ret2
     exact ⟨_, re_, uR HO_2.out, uW HB.out⟩
    ·
     replace c17 := Bool.eq_false_iff.mpr c17
     subst c17
     rw [if_neg (show ¬ (false = true) by decide)] at H
     exact absurd H (by simp)
def diff_one.f (k : Nat) (a0 : ByteArray) : Option (Int × ByteArray × Int × Bool × Bool × Int) := (strings_CutPrefix.f a0 (⟨#[33]⟩ : ByteArray)).bind fun bt398 => (if bt398.2 = true then ((diff_leaves.f k bt398.1).bind fun bt400 => (some (bt400.1, bt400.2.1, bt400.2.2.1, bt400.2.2.2.1, bt400.2.2.2.2.1, bt400.2.2.2.2.2))) else ((row_Parse.f k a0).bind fun bt406 => (if bt406.2 = 0 then (if (bt406.1.length : Int) = 0 then (none) else (if 0 < (bt406.1.length : Int) then (some ((rd_T45 bt406.1 0).f0, (rd_T45 bt406.1 0).f1, (rd_T45 bt406.1 0).f2.f0, (rd_T45 bt406.1 0).f2.f1, false, 0)) else (none))) else (none))))
theorem diff_one.mono : ∀ a0 k, LeO (diff_one.f k a0) (diff_one.f (k + 1) a0) := by
 intro a0 k
 unfold diff_one.f
 exact lo
instance diff_one.mI {a0 k} : LeC (diff_one.f k a0) (diff_one.f (k + 1) a0) := ⟨diff_one.mono _ _⟩
theorem diff_one.calls (k : Nat) (a0 : ByteArray) (r1 : Int) (r2 : ByteArray) (r3 : Int) (r4 : Bool) (r5 : Bool) (r6 : Int) (w : World) (hL : LD w) (h : diff_one.f k a0 = some (r1, r2, r3, r4, r5, r6)) :
 Calls Tryz.prog 40 #[.string a0] w fun e w' => e = .returned (.tuple #[.agg #[.int .i64 r1, .string r2, .int .i64 r3, .bool r4, .bool r5], .int .i64 r6]) ∧ Below w.heap.size w w' := by
 have HL0 := Aside0.mk hL
 clear hL
 have hu48 := Tryz.underlying48
 have hu45 := Tryz.underlying45
 have HB := Aside0.mk (Below.refl w.heap.size w)
 have H : ((strings_CutPrefix.f a0 (⟨#[33]⟩ : ByteArray)).bind fun bt398 => (if bt398.2 = true then ((diff_leaves.f k bt398.1).bind fun bt400 => (some (bt400.1, bt400.2.1, bt400.2.2.1, bt400.2.2.2.1, bt400.2.2.2.2.1, bt400.2.2.2.2.2))) else ((row_Parse.f k a0).bind fun bt406 => (if bt406.2 = 0 then (if (bt406.1.length : Int) = 0 then (none) else (if 0 < (bt406.1.length : Int) then (some ((rd_T45 bt406.1 0).f0, (rd_T45 bt406.1 0).f1, (rd_T45 bt406.1 0).f2.f0, (rd_T45 bt406.1 0).f2.f1, false, 0)) else (none))) else (none))))) = some (r1, r2, r3, r4, r5, r6) := h
 clear h
 obtain ⟨⟨t398, t399⟩, A2, H⟩ := bs H
 try dsimp only at H
 by_cases c3 : t399 = true
 ·
  subst c3
  rw [if_pos rfl] at H
  obtain ⟨⟨t400, t401, t402, t403, t404, t405⟩, A4, H⟩ := bs H
  try dsimp only at H
  simp only [Option.some.injEq, Prod.mk.injEq] at H
  obtain ⟨rfl, rfl, rfl, rfl, rfl, rfl⟩ := H
  go_enter Tryz.func40, Tryz.ntmps40
  go_wp2_with (first | ((with_reducible refine gate_dst (N := 2) rfl ?_); refine bx (N := 2) #[.int .i64 0, .string (⟨#[]⟩ : ByteArray), .int .i64 0, .bool false, .bool false] 48 ?_; intro gb397 hg w5 hbox hb; have BK397 := Aside0.mk (hbox); have GW397 := gw hg (uW HB.out); have GE397 := GW397; replace HB := cW HB hb; clear hb hbox hg) | (refine gL (some 10) rfl Tryz.func57 #[.string a0, .string (⟨#[33]⟩ : ByteArray)] ?_; (with_reducible refine (strings_CutPrefix.calls a0 (⟨#[33]⟩ : ByteArray) t398 true _ A2.out).mono ?_); rintro e w' ⟨rfl, ⟨nd, rfl⟩⟩; refine ⟨_, rfl, ?_⟩; (try (rw [drewN_self w5]; generalize hq_ : World.drewN w5 _ = w5; have n0_ : Aside0 (w5.heap[gb397]? = some (.cells #[.int .i64 0, .string (⟨#[]⟩ : ByteArray), .int .i64 0, .bool false, .bool false] 48 (0, 0))) := ⟨by rw [← hq_]; exact (uB BK397.out)⟩; have n1_ : Aside0 (Below w.heap.size w w5) := ⟨by rw [← hq_]; exact bl⟩; clear BK397 HB hq_; have BK397 := n0_; have HB := n1_; clear n0_ n1_))) | (refine gL (some 15) rfl Tryz.func58 #[.string t398] ?_; (with_reducible refine (diff_leaves.calls (hL := ld) k t398 t400 t401 t402 t403 t404 t405 _ A4.out).mono ?_); rintro e w6 ⟨rfl, hb⟩; refine ⟨_, rfl, ?_⟩; replace BK397 := cB BK397 hb; replace HB := Aside0.mk (below_step bl hb); (try clear hb); obtain ⟨hcz7_0, hcz7_1, hcz7_2, hcz7_3, hcz7_4, hfz7_0, hfz7_1, hfz7_2, hfz7_3, hfz7_4⟩ := z5 BK397) | ((with_reducible refine gate_store (t := 48) (p := 2) rfl ?_); refine store_event (t := 48) (p := 2) (v := ?vo_w8) (w1 := (((((w6.setCell ⟨gb397, 0, none⟩ (.int .i64 t400)).setCell ⟨gb397, 1, none⟩ (.string t401)).setCell ⟨gb397, 2, none⟩ (.int .i64 t402)).setCell ⟨gb397, 3, none⟩ (.bool t403)).setCell ⟨gb397, 4, none⟩ (.bool t404))) ?hg ?ho ?hn ?hr ?_; (case ho => rfl); (case hg => rfl); (case hn => rfl); (case hr => first | (go_simp; done) | (go_simp; rfl)); intro w8 hw; have n0_ : Aside0 (w8.heap[gb397]? = some (.cells #[.int .i64 t400, .string t401, .int .i64 t402, .bool t403, .bool t404] 48 (0, 0))) := ⟨(by rw [hw]; exact (by (with_reducible repeat (first | refine blk_drewN ?_ _ | refine blk_drew ?_ | refine blk_alloc ?_ _)); refine blk_put (cs := #[.int .i64 t400, .string t401, .int .i64 t402, .bool t403, .bool false]) ?_ 4 _ rfl; (with_reducible repeat (first | refine blk_drewN ?_ _ | refine blk_drew ?_ | refine blk_alloc ?_ _)); refine blk_put (cs := #[.int .i64 t400, .string t401, .int .i64 t402, .bool false, .bool false]) ?_ 3 _ rfl; (with_reducible repeat (first | refine blk_drewN ?_ _ | refine blk_drew ?_ | refine blk_alloc ?_ _)); refine blk_put (cs := #[.int .i64 t400, .string t401, .int .i64 0, .bool false, .bool false]) ?_ 2 _ rfl; (with_reducible repeat (first | refine blk_drewN ?_ _ | refine blk_drew ?_ | refine blk_alloc ?_ _)); refine blk_put (cs := #[.int .i64 t400, .string (⟨#[]⟩ : ByteArray), .int .i64 0, .bool false, .bool false]) ?_ 1 _ rfl; (with_reducible repeat (first | refine blk_drewN ?_ _ | refine blk_drew ?_ | refine blk_alloc ?_ _)); refine blk_put (cs := #[.int .i64 0, .string (⟨#[]⟩ : ByteArray), .int .i64 0, .bool false, .bool false]) ?_ 0 _ rfl; exact uB <| BK397.out))⟩; have n1_ : Aside0 (Below w.heap.size w w8) := ⟨(by rw [hw]; exact bl)⟩; clear hw; clear BK397; clear HB; have BK397 := n0_; have HB := n1_; clear n0_ n1_))
  refine bodyPost_ret (results_ct rfl _ _ gb397 48 #[.int .i64 t400, .string t401, .int .i64 t402, .bool t403, .bool t404] (0, 0) _ rfl (uB BK397.out) Tryz.underlying48 rfl (by kernel_rfl)) rfl ?_
  exact ⟨re_, bl⟩
 ·
  replace c3 := Bool.eq_false_iff.mpr c3
  subst c3
  rw [if_neg (show ¬ (false = true) by decide)] at H
  obtain ⟨⟨t406, t407⟩, A9, H⟩ := bs H
  try dsimp only at H
  by_cases c10 : t407 = 0
  ·
   rw [if_pos c10] at H
   have c10b0 : (t407 == 0) = true := beq_iff_eq.mpr c10
   have c10b1 : (t407 != 0) = false := bne_eq_false_iff_eq.mpr c10
   clear c10
   obtain ⟨c11, H⟩ := gn H
   have c11b0 : ((t406.length : Int) == 0) = false := beq_eq_false_iff_ne.mpr c11
   have c11b1 : ((t406.length : Int) != 0) = true := bne_iff_ne.mpr c11
   have c11b2 : ¬ (t406 = []) := fun h_ => c11 (by rw [h_]; rfl)
   obtain ⟨c12, H⟩ := gd H
   have c12b0 : decide (0 < (t406.length : Int)) = true := decide_eq_true c12
   have c12b1 : decide (0 < t406.length) = true := decide_eq_true (by omega)
   clear c12
   simp only [Option.some.injEq, Prod.mk.injEq] at H
   obtain ⟨rfl, rfl, rfl, rfl, rfl, rfl⟩ := H
   go_enter Tryz.func40, Tryz.ntmps40
   go_wp2_with (first | ((with_reducible refine gate_dst (N := 2) rfl ?_); refine bx (N := 2) #[.int .i64 0, .string (⟨#[]⟩ : ByteArray), .int .i64 0, .bool false, .bool false] 48 ?_; intro gb397 hg w13 hbox hb; have BK397 := Aside0.mk (hbox); have GW397 := gw hg (uW HB.out); have GE397 := GW397; replace HB := cW HB hb; clear hb hbox hg) | (refine gL (some 10) rfl Tryz.func57 #[.string a0, .string (⟨#[33]⟩ : ByteArray)] ?_; (with_reducible refine (strings_CutPrefix.calls a0 (⟨#[33]⟩ : ByteArray) t398 false _ A2.out).mono ?_); rintro e w' ⟨rfl, ⟨nd, rfl⟩⟩; refine ⟨_, rfl, ?_⟩; (try (rw [drewN_self w13]; generalize hq_ : World.drewN w13 _ = w13; have n0_ : Aside0 (w13.heap[gb397]? = some (.cells #[.int .i64 0, .string (⟨#[]⟩ : ByteArray), .int .i64 0, .bool false, .bool false] 48 (0, 0))) := ⟨by rw [← hq_]; exact (uB BK397.out)⟩; have n1_ : Aside0 (Below w.heap.size w w13) := ⟨by rw [← hq_]; exact bl⟩; clear BK397 HB hq_; have BK397 := n0_; have HB := n1_; clear n0_ n1_))) | (refine gL (some 20) rfl Tryz.func59 #[.string a0] ?_; (with_reducible refine (row_Parse.calls (hL := ld) k a0 t406 t407 _ A9.out).mono ?_); rintro e w14 ⟨v408, rfl, ho0, hb⟩; refine ⟨_, rfl, ?_⟩; have HO409 := Aside0.mk (Kd.R_lower ho0 (below_size bl)); replace BK397 := cB BK397 hb; replace HB := Aside0.mk (below_step bl hb); (try clear hb); (try clear ho0); obtain ⟨Ao15, co15, eo15⟩ := Kd.R_slice HO409.out; subst eo15; have p410 : 0 ≤ (0 : Int) := (by omega); have q410 : 0 < (t406.length : Int) := od; obtain ⟨ad410, e410, hx410_0, hx410_1, hx410_2, hx410_3⟩ := at_T45 (Kd.R_reads' HO409.out).2.2 0 p410 q410; cases e410; have qi410 : (0 < t406.length) = True := eq_true (by omega); (try rw [show ((0 : Int)).toNat = 0 from rfl] at hx410_0); (try rw [show 0 * 4 = 0 from rfl] at hx410_0); (try rw [Addr.add_zero'] at hx410_0); (try rw [show ((0 : Int)).toNat = 0 from rfl] at hx410_1); (try rw [show 0 * 4 = 0 from rfl] at hx410_1); (try rw [Addr.add_zero'] at hx410_1); (try rw [show ((0 : Int)).toNat = 0 from rfl] at hx410_2); (try rw [show 0 * 4 = 0 from rfl] at hx410_2); (try rw [Addr.add_zero'] at hx410_2); (try rw [show ((0 : Int)).toNat = 0 from rfl] at hx410_3); (try rw [show 0 * 4 = 0 from rfl] at hx410_3); (try rw [Addr.add_zero'] at hx410_3); replace p410 := eq_true p410; replace q410 := eq_true q410; obtain ⟨hcz16_0, hcz16_1, hcz16_2, hcz16_3, hcz16_4, hfz16_0, hfz16_1, hfz16_2, hfz16_3, hfz16_4⟩ := z5 BK397) | ((with_reducible refine gate_store (t := 48) (p := 2) rfl ?_); refine store_event (t := 48) (p := 2) (v := ?vo_w17) (w1 := (((((w14.setCell ⟨gb397, 0, none⟩ (.int .i64 ((rd_T45 t406 0).f0))).setCell ⟨gb397, 1, none⟩ (.string ((rd_T45 t406 0).f1))).setCell ⟨gb397, 2, none⟩ (.int .i64 ((rd_T45 t406 0).f2.f0))).setCell ⟨gb397, 3, none⟩ (.bool ((rd_T45 t406 0).f2.f1))).setCell ⟨gb397, 4, none⟩ (.bool false))) ?hg ?ho ?hn ?hr ?_; (case ho => rfl); (case hg => rfl); (case hn => rfl); (case hr => first | (go_simp; done) | (go_simp; rfl)); intro w17 hw; have n0_ : Aside0 (Kd.R k45 45 w17 w.heap.size (fun _ => True) (.slice (some ad410) t406.length co15) t406) := ⟨(by rw [hw]; exact (by exact uR <| Kd.R_mono (Kd.R_far (p := ⟨gb397, 4, none⟩) (Kd.R_far (p := ⟨gb397, 3, none⟩) (Kd.R_far (p := ⟨gb397, 2, none⟩) (Kd.R_far (p := ⟨gb397, 1, none⟩) (Kd.R_far (p := ⟨gb397, 0, none⟩) (Kd.R_types HO409.out BK397.out (by decide)) (fun _ hk => hk.2) (.int .i64 ((rd_T45 t406 0).f0))) (fun _ hk => hk.2) (.string ((rd_T45 t406 0).f1))) (fun _ hk => hk.2) (.int .i64 ((rd_T45 t406 0).f2.f0))) (fun _ hk => hk.2) (.bool ((rd_T45 t406 0).f2.f1))) (fun _ hk => hk.2) (.bool false)) (fun _ hk => trivial)))⟩; have n1_ : Aside0 (w17.heap[gb397]? = some (.cells #[.int .i64 ((rd_T45 t406 0).f0), .string ((rd_T45 t406 0).f1), .int .i64 ((rd_T45 t406 0).f2.f0), .bool ((rd_T45 t406 0).f2.f1), .bool false] 48 (0, 0))) := ⟨(by rw [hw]; exact (by (with_reducible repeat (first | refine blk_drewN ?_ _ | refine blk_drew ?_ | refine blk_alloc ?_ _)); refine blk_put (cs := #[.int .i64 ((rd_T45 t406 0).f0), .string ((rd_T45 t406 0).f1), .int .i64 ((rd_T45 t406 0).f2.f0), .bool ((rd_T45 t406 0).f2.f1), .bool false]) ?_ 4 _ rfl; (with_reducible repeat (first | refine blk_drewN ?_ _ | refine blk_drew ?_ | refine blk_alloc ?_ _)); refine blk_put (cs := #[.int .i64 ((rd_T45 t406 0).f0), .string ((rd_T45 t406 0).f1), .int .i64 ((rd_T45 t406 0).f2.f0), .bool false, .bool false]) ?_ 3 _ rfl; (with_reducible repeat (first | refine blk_drewN ?_ _ | refine blk_drew ?_ | refine blk_alloc ?_ _)); refine blk_put (cs := #[.int .i64 ((rd_T45 t406 0).f0), .string ((rd_T45 t406 0).f1), .int .i64 0, .bool false, .bool false]) ?_ 2 _ rfl; (with_reducible repeat (first | refine blk_drewN ?_ _ | refine blk_drew ?_ | refine blk_alloc ?_ _)); refine blk_put (cs := #[.int .i64 ((rd_T45 t406 0).f0), .string (⟨#[]⟩ : ByteArray), .int .i64 0, .bool false, .bool false]) ?_ 1 _ rfl; (with_reducible repeat (first | refine blk_drewN ?_ _ | refine blk_drew ?_ | refine blk_alloc ?_ _)); refine blk_put (cs := #[.int .i64 0, .string (⟨#[]⟩ : ByteArray), .int .i64 0, .bool false, .bool false]) ?_ 0 _ rfl; exact uB <| BK397.out))⟩; have n2_ : Aside0 (Below w.heap.size w w17) := ⟨(by rw [hw]; exact bl)⟩; clear hw; clear HO409; clear BK397; clear HB; have HO409 := n0_; have BK397 := n1_; have HB := n2_; clear n0_ n1_ n2_))
   refine bodyPost_ret (results_ct rfl _ _ gb397 48 #[.int .i64 ((rd_T45 t406 0).f0), .string ((rd_T45 t406 0).f1), .int .i64 ((rd_T45 t406 0).f2.f0), .bool ((rd_T45 t406 0).f2.f1), .bool false] (0, 0) _ rfl (uB BK397.out) Tryz.underlying48 rfl (by kernel_rfl)) rfl ?_
   exact ⟨re_, bl⟩
  ·
   rw [if_neg c10] at H
   exact absurd H (by simp)
def diff_Parse.l0 : Nat → List (S48) → List ByteArray → Int → Int → Option ((List (S48)) × Int)
 | 0, _, _, _, _ => none
 | k + 1, x2, x11, x12, x13 => if x13 < x12 then (if 0 ≤ x13 then (if x13 < (x11.length : Int) then ((diff_one.f k (rdOf ByteArray.empty x11 x13)).bind fun bt415 => (if bt415.2.2.2.2.2 = 0 then (if x2.length < 2932031007402 then (diff_Parse.l0 k (x2 ++ [(⟨(⟨bt415.1, bt415.2.1, (⟨bt415.2.2.1, bt415.2.2.2.1⟩ : S43)⟩ : S45), bt415.2.2.2.2.1⟩ : S48)]) x11 x12 (wrap64 (x13 + 1))) else (none)) else (none))) else (none)) else (none)) else ((diff_right.f k x2).bind fun t425 => (if t425 = true then (some (x2, 0)) else (none)))
def diff_Parse.f (k : Nat) (a0 : ByteArray) : Option ((List (S48)) × Int) := if a0.toList = ([45] : List UInt8) then (none) else ((word_Split.f k a0 59).bind fun t411 => (diff_Parse.l0 k ([] : List (S48)) t411 (t411.length : Int) 0))
theorem diff_Parse.mono_l : ∀ k, (∀ y0 y1 y2 y3, LeC (diff_Parse.l0 k y0 y1 y2 y3) (diff_Parse.l0 (k + 1) y0 y1 y2 y3))
 | 0 => fun _ _ _ _ => ⟨fun r h => by simp [diff_Parse.l0] at h⟩
 | k + 1 => by have ih0 := diff_Parse.mono_l k; exact fun _ _ _ _ => by unfold diff_Parse.l0; exact lm
theorem diff_Parse.mono : ∀ a0 k, LeO (diff_Parse.f k a0) (diff_Parse.f (k + 1) a0) := by
 intro a0 k
 have ih0 := diff_Parse.mono_l k
 unfold diff_Parse.f
 exact lo
instance diff_Parse.mI {a0 k} : LeC (diff_Parse.f k a0) (diff_Parse.f (k + 1) a0) := ⟨diff_Parse.mono _ _⟩
theorem diff_Parse.calls (k : Nat) (a0 : ByteArray) (r1 : List (S48)) (r2 : Int) (w : World) (hL : LD w) (h : diff_Parse.f k a0 = some (r1, r2)) :
 Calls Tryz.prog 20 #[.string a0] w fun e w' => ∃ v0_ : Value, e = .returned (.tuple #[v0_, .int .i64 r2]) ∧ Kd.R k48 48 w' w.heap.size (fun _ => True) v0_ r1 ∧ Below w.heap.size w w' := by
 have HL0 := Aside0.mk hL
 clear hL
 have hu48 := Tryz.underlying48
 have HB := Aside0.mk (Below.refl w.heap.size w)
 have H : (if a0.toList = ([45] : List UInt8) then (none) else ((word_Split.f k a0 59).bind fun t411 => (diff_Parse.l0 k ([] : List (S48)) t411 (t411.length : Int) 0))) = some (r1, r2) := h
 clear h
 obtain ⟨c2, H⟩ := gn H
 have c2b0 : (a0.toList == ([45] : List UInt8)) = false := beq_eq_false_iff_ne.mpr c2
 have c2b1 : (a0.toList != ([45] : List UInt8)) = true := bne_iff_ne.mpr c2
 obtain ⟨t411, A3, H⟩ := bs H
 try dsimp only at H
 have H' := Aside0.mk H
 clear H
 go_enter Tryz.func20, Tryz.ntmps20
 go_wp2_with (first | (refine gL (some 11) rfl Tryz.func39 #[.string a0, .int .u8 59] ?_; (with_reducible refine (word_Split.calls k a0 59 t411 _ A3.out).mono ?_); rintro e w4 ⟨v412, rfl, ho0, hb⟩; refine ⟨_, rfl, ?_⟩; have HO413 := Aside0.mk (Kd.R_lower ho0 (below_size (uW HB.out))); replace HB := cW HB hb; (try clear hb); (try clear ho0); obtain ⟨Ao5, co5, eo5⟩ := Kd.R_slice HO413.out; subst eo5))
 (try simp only [Act.put, List.setIfInBounds_toArray, List.set_cons_zero, List.set_cons_succ])
 go_loopg [2, 13] k (fun kq v2 v13 w' => ∃ (x2_1 : List (S48)) (x13_1 : Int), v13 = .int .i64 x13_1 ∧ Aside0 (diff_Parse.l0 kq x2_1 t411 (t411.length : Int) x13_1 = some (r1, r2)) ∧ Aside0 (kq ≤ k) ∧ Aside0 (Kd.R k48 48 w' w.heap.size (fun _ => True) v2 x2_1) ∧ Aside0 (Kd.R Kd.string 9 w' w.heap.size (fun _ => True) (.slice Ao5 t411.length co5) t411) ∧ Aside0 (Below w.heap.size w w'))
 case atStart => exact ⟨(([] : List (S48))), (0), rs_, H', ⟨Nat.le_refl _⟩, ⟨nl_⟩, ⟨uR HO413.out⟩, ⟨uW HB.out⟩⟩
 case round =>
  clear H'
  try clear c2
  try clear c2b0
  try clear c2b1
  try clear p2
  try clear c3
  obtain ⟨x2_1, x13_1, rfl, HA, HK1, HO_2, HO_11, HB⟩ := hrel
  cases gk with
  | zero => exact absurd HA.out (by simp [diff_Parse.l0])
  | succ k1 =>
   have H := HA.out
   clear HA
   simp only [diff_Parse.l0] at H
   by_cases c6 : x13_1 < (t411.length : Int)
   ·
    rw [if_pos c6] at H
    have c6b0 : decide (x13_1 < (t411.length : Int)) = true := decide_eq_true c6
    clear c6
    obtain ⟨c7b0, H⟩ := gdd H
    obtain ⟨c8b0, H⟩ := gdd H
    obtain ⟨⟨t415, t416, t417, t418, t419, t420⟩, A9, H⟩ := bs H
    try dsimp only at H
    obtain ⟨c10, H⟩ := gd H
    have c10b0 : (t420 == 0) = true := beq_iff_eq.mpr c10
    have c10b1 : (t420 != 0) = false := bne_eq_false_iff_eq.mpr c10
    clear c10
    obtain ⟨c11, H⟩ := gd H
    have LMc11 := Aside0.mk c11
    clear c11
    obtain ⟨y422, hy422⟩ : ∃ y_ : List (S48), y_ = (x2_1 ++ [(⟨(⟨t415, t416, (⟨t417, t418⟩ : S43)⟩ : S45), t419⟩ : S48)]) := ⟨_, rfl⟩
    replace H : (diff_Parse.l0 k1 y422 t411 (t411.length : Int) (wrap64 (x13_1 + 1))) = some (r1, r2) := by first | (rw [hy422]; with_reducible exact H) | (have H2_ := (Option.bind_some _ _).symm.trans H; rw [hy422]; with_reducible exact H2_) | (have H2_ := (Option.bind_some _ _).symm.trans H; with_reducible exact H2_) | with_reducible exact H | (rw [hy422]; exact H) | exact H
    have Ny422 := Aside0.mk hy422
    clear hy422
    have H' := Aside0.mk H
    clear H
    have p414 : 0 ≤ (x13_1 : Int) := od
    have q414 : x13_1 < (t411.length : Int) := od
    obtain ⟨ad414, e414, hx414_0⟩ := Kd.at_string (Kd.R_reads' HO_11.out).2.2 x13_1 p414 q414
    cases e414
    replace p414 := eq_true p414
    replace q414 := eq_true q414
    go_wp2_with (first | (refine gL (some 19) rfl Tryz.func40 #[.string (rdOf ByteArray.empty t411 x13_1)] ?_; (with_reducible refine (diff_one.calls (hL := ld) k1 (rdOf ByteArray.empty t411 x13_1) t415 t416 t417 t418 t419 t420 _ A9.out).mono ?_); rintro e w12 ⟨rfl, hb⟩; refine ⟨_, rfl, ?_⟩; replace HO_2 := cR HO_2 hb; replace HO_11 := cR HO_11 hb; replace HB := cW HB hb; (try clear hb)) | ((with_reducible refine gate_dst (N := 6) rfl ?_); refine bx (N := 6) #[.int .i64 0, .string (⟨#[]⟩ : ByteArray), .int .i64 0, .bool false, .bool false] 48 ?_; intro gb421 hg w13 hbox hb; replace HO_2 := Aside0.mk (Kd.R_below (Kd.R_elderB (uR HO_2.out) gb421 (Nat.le_of_eq hg.symm)) hb); replace HO_11 := cR HO_11 hb; have BK421 := Aside0.mk (hbox); have GW421 := gw hg (uW HB.out); have GE421 := GW421; replace HB := cW HB hb; clear hb hbox hg; obtain ⟨hcz14_0, hcz14_1, hcz14_2, hcz14_3, hcz14_4, hfz14_0, hfz14_1, hfz14_2, hfz14_3, hfz14_4⟩ := z5 BK421) | ((with_reducible refine gate_store (t := 48) (p := 6) rfl ?_); refine store_event (t := 48) (p := 6) (v := ?vo_w15) (w1 := (((((w13.setCell ⟨gb421, 0, none⟩ (.int .i64 t415)).setCell ⟨gb421, 1, none⟩ (.string t416)).setCell ⟨gb421, 2, none⟩ (.int .i64 t417)).setCell ⟨gb421, 3, none⟩ (.bool t418)).setCell ⟨gb421, 4, none⟩ (.bool t419))) ?hg ?ho ?hn ?hr ?_; (case ho => rfl); (case hg => rfl); (case hn => rfl); (case hr => first | (go_simp; done) | (go_simp; rfl)); intro w15 hw; have n0_ : Aside0 (Kd.R k48 48 w15 w.heap.size (fun k_ => k_ ≠ gb421) u2 x2_1) := ⟨(by rw [hw]; exact (by exact uR <| Kd.R_mono (Kd.R_far (p := ⟨gb421, 4, none⟩) (Kd.R_far (p := ⟨gb421, 3, none⟩) (Kd.R_far (p := ⟨gb421, 2, none⟩) (Kd.R_far (p := ⟨gb421, 1, none⟩) (Kd.R_far (p := ⟨gb421, 0, none⟩) (Kd.R_mono HO_2.out (fun k_ hk => (⟨hk, hk.2⟩ : _ ∧ k_ ≠ gb421))) (fun _ hk => hk.2) (.int .i64 t415)) (fun _ hk => hk.2) (.string t416)) (fun _ hk => hk.2) (.int .i64 t417)) (fun _ hk => hk.2) (.bool t418)) (fun _ hk => hk.2) (.bool t419)) (fun _ hk => hk.1.2)))⟩; have n1_ : Aside0 (Kd.R Kd.string 9 w15 w.heap.size (fun _ => True) (.slice (some ad414) t411.length co5) t411) := ⟨(by rw [hw]; exact (by exact uR <| Kd.R_mono (Kd.R_far (p := ⟨gb421, 4, none⟩) (Kd.R_far (p := ⟨gb421, 3, none⟩) (Kd.R_far (p := ⟨gb421, 2, none⟩) (Kd.R_far (p := ⟨gb421, 1, none⟩) (Kd.R_far (p := ⟨gb421, 0, none⟩) (Kd.R_types HO_11.out BK421.out (by decide)) (fun _ hk => hk.2) (.int .i64 t415)) (fun _ hk => hk.2) (.string t416)) (fun _ hk => hk.2) (.int .i64 t417)) (fun _ hk => hk.2) (.bool t418)) (fun _ hk => hk.2) (.bool t419)) (fun _ hk => trivial)))⟩; have n2_ : Aside0 (w15.heap[gb421]? = some (.cells #[.int .i64 t415, .string t416, .int .i64 t417, .bool t418, .bool t419] 48 (0, 0))) := ⟨(by rw [hw]; exact (by (with_reducible repeat (first | refine blk_drewN ?_ _ | refine blk_drew ?_ | refine blk_alloc ?_ _)); refine blk_put (cs := #[.int .i64 t415, .string t416, .int .i64 t417, .bool t418, .bool false]) ?_ 4 _ rfl; (with_reducible repeat (first | refine blk_drewN ?_ _ | refine blk_drew ?_ | refine blk_alloc ?_ _)); refine blk_put (cs := #[.int .i64 t415, .string t416, .int .i64 t417, .bool false, .bool false]) ?_ 3 _ rfl; (with_reducible repeat (first | refine blk_drewN ?_ _ | refine blk_drew ?_ | refine blk_alloc ?_ _)); refine blk_put (cs := #[.int .i64 t415, .string t416, .int .i64 0, .bool false, .bool false]) ?_ 2 _ rfl; (with_reducible repeat (first | refine blk_drewN ?_ _ | refine blk_drew ?_ | refine blk_alloc ?_ _)); refine blk_put (cs := #[.int .i64 t415, .string (⟨#[]⟩ : ByteArray), .int .i64 0, .bool false, .bool false]) ?_ 1 _ rfl; (with_reducible repeat (first | refine blk_drewN ?_ _ | refine blk_drew ?_ | refine blk_alloc ?_ _)); refine blk_put (cs := #[.int .i64 0, .string (⟨#[]⟩ : ByteArray), .int .i64 0, .bool false, .bool false]) ?_ 0 _ rfl; exact uB <| BK421.out))⟩; have n3_ : Aside0 (Below w.heap.size w w15) := ⟨(by rw [hw]; exact bl)⟩; clear hw; clear HO_2; clear HO_11; clear BK421; clear HB; have HO_2 := n0_; have HO_11 := n1_; have BK421 := n2_; have HB := n3_; clear n0_ n1_ n2_ n3_; obtain ⟨hcz16_0, hcz16_1, hcz16_2, hcz16_3, hcz16_4, hfz16_0, hfz16_1, hfz16_2, hfz16_3, hfz16_4⟩ := z5 BK421) | ((with_reducible refine gate_builtin (b := .append) (xs := #[.tmp 25, .tmp 27]) rfl ?_); at_builtin; refine Kd.R_append k48 (w0 := w) w.heap.size rfl (.tmp 25) (.tmp 27) 25 48 (.agg #[(.int .i64 0), (.string ⟨#[]⟩), (.int .i64 0), (.bool false), (.bool false)]) 48 rfl Tryz.underlying25 info48 rfl (by decide) (by omega) u2 x2_1 (⟨(⟨t415, t416, (⟨t417, t418⟩ : S43)⟩ : S45), t419⟩ : S48) [.int .i64 t415, .string t416, .int .i64 t417, .bool t418, .bool t419] (fun k_ => k_ ≠ gb421) (fun _ => False) rfl rfl ?aP (fun _ hk => hk.elim) ?aF ?aO ?aB ?aS ?aL ?_; (case aP => exact k48_mkM _ _ _ (⟨(⟨t415, t416, (⟨t417, t418⟩ : S43)⟩ : S45), t419⟩ : S48)); (case aB => exact bl); (case aF => exact (fun k_ hk => Kd.freshB (g := gb421) (o := .cells #[.int .i64 t415, .string t416, .int .i64 t417, .bool t418, .bool t419] 48 (0, 0)) (uB BK421.out) k_ hk)); (case aO => exact (uR HO_2.out)); (case aS => exact (below_size bl)); (case aL => have := LMc11.out; omega); intro v423 w17 ho hb hg hat; rw [← Ny422.out] at ho; replace HO_11 := Aside0.mk (Kd.R_over' (uR HO_11.out) (Kd.R_typed (uR HO_2.out)) (by decide) hg); replace BK421 := Aside0.mk (blk_grown (g := gb421) (o := .cells #[.int .i64 t415, .string t416, .int .i64 t417, .bool t418, .bool t419] 48 (0, 0)) (uB BK421.out) hg (Kd.R_away HO_2.out (fun _ hk => hk))); replace HB := Aside0.mk (hb); have HO424 := Aside0.mk (ho); clear HO_2; clear ho hb hg hat))
    go_roundg k1
    case measure => have := HK1.out; omega
    case rel => exact ⟨(y422), (wrap64 (x13_1 + 1)), rs_, H', ⟨by have := HK1.out; omega⟩, ⟨by exact uR <| Kd.R_mono HO424.out (fun _ hk => trivial)⟩, ⟨uR HO_11.out⟩, ⟨bl⟩⟩
   ·
    rw [if_neg c6] at H
    have c6b0 : decide (x13_1 < (t411.length : Int)) = false := decide_eq_false c6
    clear c6
    obtain ⟨t425, A18, H⟩ := bs H
    try dsimp only at H
    by_cases c19 : t425 = true
    ·
     subst c19
     rw [if_pos rfl] at H
     simp only [Option.some.injEq, Prod.mk.injEq] at H
     obtain ⟨rfl, rfl⟩ := H
     obtain ⟨Ao20, co20, eo20⟩ := Kd.R_slice HO_2.out
     subst eo20
     go_wp2_with (first | (refine gL (some 31) rfl Tryz.func36 #[.slice Ao20 x2_1.length co20] ?_; (with_reducible refine (diff_right.calls (hL := ld) k1 _ _ x2_1 true _ ?side1 ?side2 A18.out).mono ?_); (case side1 => exact uC <| (Kd.R_reads' HO_2.out).2.2); (case side2 => exact (Kd.R_reads' HO_2.out).2.1); rintro e w21 ⟨rfl, hb⟩; refine ⟨_, rfl, ?_⟩; replace HO_2 := cR HO_2 hb; replace HO_11 := cR HO_11 hb; replace HB := cW HB hb; (try clear hb)))
     go_ret2
     exact ⟨_, re_, uR HO_2.out, uW HB.out⟩
    ·
     replace c19 := Bool.eq_false_iff.mpr c19
     subst c19
     rw [if_neg (show ¬ (false = true) by decide)] at H
     exact absurd H (by simp)
def r02_Split.l0 : Nat → ByteArray → Int → List ByteArray → Int → Int → Option (List ByteArray)
 | 0, _, _, _, _, _ => none
 | k + 1, x0, x1, x5, x6, x7 => if x7 < (x0.size : Int) then (if 0 ≤ x7 then (if (bt x0 x7) = x1 then (if 0 ≤ x6 then (if x6 ≤ x7 then (if x7 ≤ (x0.size : Int) then (if x5.length < 8796093022208 then (r02_Split.l0 k x0 x1 (x5 ++ [x0.extract (x6 : Int).toNat (x7 : Int).toNat]) (wrap64 (x7 + 1)) (wrap64 (x7 + 1))) else (none)) else (none)) else (none)) else (none)) else (r02_Split.l0 k x0 x1 x5 x6 (wrap64 (x7 + 1)))) else (none)) else (if 0 ≤ x6 then (if x6 ≤ (x0.size : Int) then (if x5.length < 8796093022208 then (some (x5 ++ [x0.extract (x6 : Int).toNat x0.size])) else (none)) else (none)) else (none))
def r02_Split.f (k : Nat) (a0 : ByteArray) (a1 : Int) : Option (List ByteArray) := r02_Split.l0 k a0 a1 ([] : List ByteArray) 0 0
theorem r02_Split.mono_l : ∀ k, (∀ y0 y1 y2 y3 y4, LeC (r02_Split.l0 k y0 y1 y2 y3 y4) (r02_Split.l0 (k + 1) y0 y1 y2 y3 y4))
 | 0 => fun _ _ _ _ _ => ⟨fun r h => by simp [r02_Split.l0] at h⟩
 | k + 1 => by have ih0 := r02_Split.mono_l k; exact fun _ _ _ _ _ => by unfold r02_Split.l0; exact lm
theorem r02_Split.mono : ∀ a0 a1 k, LeO (r02_Split.f k a0 a1) (r02_Split.f (k + 1) a0 a1) := by
 intro a0 a1 k
 have ih0 := r02_Split.mono_l k
 unfold r02_Split.f
 exact lo
instance r02_Split.mI {a0 a1 k} : LeC (r02_Split.f k a0 a1) (r02_Split.f (k + 1) a0 a1) := ⟨r02_Split.mono _ _ _⟩
theorem r02_Split.calls (k : Nat) (a0 : ByteArray) (a1 : Int) (r : List ByteArray) (w : World) (h : r02_Split.f k a0 a1 = some r) :
 Calls Tryz.prog 41 #[.string a0, .int .u8 a1] w fun e w' => ∃ v0_ : Value, e = .returned (v0_) ∧ Kd.R Kd.string 9 w' w.heap.size (fun _ => True) v0_ r ∧ Below w.heap.size w w' := by
 have HB := Aside0.mk (Below.refl w.heap.size w)
 have H : (r02_Split.l0 k a0 a1 ([] : List ByteArray) 0 0) = some r := h
 clear h
 have H' := Aside0.mk H
 clear H
 go_enter Tryz.func41, Tryz.ntmps41
 go_wp2
 go_loopg [5, 6, 7] k (fun kq v5 v6 v7 w' => ∃ (x5_1 : List ByteArray) (x6_1 : Int) (x7_1 : Int), v6 = .int .i64 x6_1 ∧ v7 = .int .i64 x7_1 ∧ Aside0 (r02_Split.l0 kq a0 a1 x5_1 x6_1 x7_1 = some r) ∧ Aside0 (kq ≤ k) ∧ Aside0 (Kd.R Kd.string 9 w' w.heap.size (fun _ => True) v5 x5_1) ∧ Aside0 (Below w.heap.size w w'))
 case atStart => exact ⟨(([] : List ByteArray)), (0), (0), rs_, rs_, H', ⟨Nat.le_refl _⟩, ⟨nl_⟩, ⟨uW HB.out⟩⟩
 case round =>
  clear H'
  try clear p2
  obtain ⟨x5_1, x6_1, x7_1, rfl, rfl, HA, HK1, HO_5, HB⟩ := hrel
  cases gk with
  | zero => exact absurd HA.out (by simp [r02_Split.l0])
  | succ k1 =>
   have H := HA.out
   clear HA
   simp only [r02_Split.l0] at H
   by_cases c3 : x7_1 < (a0.size : Int)
   ·
    rw [if_pos c3] at H
    have c3b0 : decide (x7_1 < (a0.size : Int)) = true := decide_eq_true c3
    clear c3
    obtain ⟨c4b0, H⟩ := gdd H
    by_cases c6 : (bt a0 x7_1) = a1
    ·
     rw [if_pos c6] at H
     have c6b0 : ((bt a0 x7_1) == a1) = true := beq_iff_eq.mpr c6
     have c6b1 : ((bt a0 x7_1) != a1) = false := bne_eq_false_iff_eq.mpr c6
     clear c6
     obtain ⟨c7, H⟩ := gd H
     have c7b0 := eq_true c7
     have c7b1 : decide (0 ≤ x6_1) = true := decide_eq_true c7
     clear c7
     obtain ⟨c8, H⟩ := gd H
     have c8b0 := eq_true c8
     have c8b1 : decide (x6_1 ≤ x7_1) = true := decide_eq_true c8
     clear c8
     obtain ⟨c9, H⟩ := gd H
     have c9b0 := eq_true c9
     have c9b1 : decide (x7_1 ≤ (a0.size : Int)) = true := decide_eq_true c9
     clear c9
     obtain ⟨c10, H⟩ := gd H
     have LMc10 := Aside0.mk c10
     clear c10
     obtain ⟨y426, hy426⟩ : ∃ y_ : List ByteArray, y_ = (x5_1 ++ [a0.extract (x6_1 : Int).toNat (x7_1 : Int).toNat]) := ⟨_, rfl⟩
     replace H : (r02_Split.l0 k1 a0 a1 y426 (wrap64 (x7_1 + 1)) (wrap64 (x7_1 + 1))) = some r := by first | (rw [hy426]; with_reducible exact H) | (have H2_ := (Option.bind_some _ _).symm.trans H; rw [hy426]; with_reducible exact H2_) | (have H2_ := (Option.bind_some _ _).symm.trans H; with_reducible exact H2_) | with_reducible exact H | (rw [hy426]; exact H) | exact H
     have Ny426 := Aside0.mk hy426
     clear hy426
     have H' := Aside0.mk H
     clear H
     have p5 : 0 ≤ (x7_1 : Int) := od
     have q5 : x7_1 < (a0.size : Int) := od
     have hx5 := bt_at a0 x7_1
     replace p5 := eq_true p5
     replace q5 := eq_true q5
     go_wp2_with (first | ((with_reducible refine gate_builtin (b := .append) (xs := #[.tmp 19, .tmp 24]) rfl ?_); at_builtin; refine Kd.R_append Kd.string (w0 := w) w.heap.size rfl (.tmp 19) (.tmp 24) 52 9 (.string ⟨#[]⟩) 16 rfl Tryz.underlying52 info9 rfl (by decide) (by omega) u5 x5_1 (a0.extract (x6_1 : Int).toNat (x7_1 : Int).toNat) [.string (a0.extract (x6_1 : Int).toNat (x7_1 : Int).toNat)] (fun _ => True) (fun _ => False) rfl rfl ?aP (fun _ hk => hk.elim) ?aF ?aO ?aB ?aS ?aL ?_; (case aP => exact rfl); (case aB => exact (uW HB.out)); (case aF => exact (fun _ _ => trivial)); (case aO => exact (uR HO_5.out)); (case aS => exact (below_size (uW HB.out))); (case aL => have := LMc10.out; omega); intro v427 w11 ho hb hg hat; rw [← Ny426.out] at ho; replace HB := Aside0.mk (hb); have HO428 := Aside0.mk (ho); clear HO_5; clear ho hb hg hat))
     go_roundg k1
     case measure => have := HK1.out; omega
     case rel => exact ⟨(y426), (wrap64 (x7_1 + 1)), (wrap64 (x7_1 + 1)), rs_, rs_, H', ⟨by have := HK1.out; omega⟩, ⟨uR HO428.out⟩, ⟨uW HB.out⟩⟩
    ·
     rw [if_neg c6] at H
     have c6b0 : ((bt a0 x7_1) == a1) = false := beq_eq_false_iff_ne.mpr c6
     have c6b1 : ((bt a0 x7_1) != a1) = true := bne_iff_ne.mpr c6
     have H' := Aside0.mk H
     clear H
     have p5 : 0 ≤ (x7_1 : Int) := od
     have q5 : x7_1 < (a0.size : Int) := od
     have hx5 := bt_at a0 x7_1
     replace p5 := eq_true p5
     replace q5 := eq_true q5
     go_wp2
     go_roundg k1
     case measure => have := HK1.out; omega
     case rel => exact ⟨(x5_1), (x6_1), (wrap64 (x7_1 + 1)), rs_, rs_, H', ⟨by have := HK1.out; omega⟩, ⟨uR HO_5.out⟩, ⟨uW HB.out⟩⟩
   ·
    rw [if_neg c3] at H
    have c3b0 : decide (x7_1 < (a0.size : Int)) = false := decide_eq_false c3
    clear c3
    by_cases c12 : 0 ≤ x6_1
    ·
     rw [if_pos c12] at H
     have c12b0 := eq_true c12
     have c12b1 : decide (0 ≤ x6_1) = true := decide_eq_true c12
     clear c12
     obtain ⟨c13, H⟩ := gd H
     have c13b0 := eq_true c13
     have c13b1 : decide (x6_1 ≤ (a0.size : Int)) = true := decide_eq_true c13
     clear c13
     obtain ⟨c14, H⟩ := gd H
     have LMc14 := Aside0.mk c14
     clear c14
     obtain ⟨y429, hy429⟩ : ∃ y_ : List ByteArray, y_ = (x5_1 ++ [a0.extract (x6_1 : Int).toNat a0.size]) := ⟨_, rfl⟩
     replace H : (some y429) = some r := by first | (rw [hy429]; with_reducible exact H) | (have H2_ := (Option.bind_some _ _).symm.trans H; rw [hy429]; with_reducible exact H2_) | (have H2_ := (Option.bind_some _ _).symm.trans H; with_reducible exact H2_) | with_reducible exact H | (rw [hy429]; exact H) | exact H
     have Ny429 := Aside0.mk hy429
     clear hy429
     obtain rfl := Option.some.inj H
     go_wp2_with (first | ((with_reducible refine gate_builtin (b := .append) (xs := #[.tmp 28, .tmp 32]) rfl ?_); at_builtin; refine Kd.R_append Kd.string (w0 := w) w.heap.size rfl (.tmp 28) (.tmp 32) 52 9 (.string ⟨#[]⟩) 16 rfl Tryz.underlying52 info9 rfl (by decide) (by omega) u5 x5_1 (a0.extract (x6_1 : Int).toNat a0.size) [.string (a0.extract (x6_1 : Int).toNat a0.size)] (fun _ => True) (fun _ => False) rfl rfl ?aP (fun _ hk => hk.elim) ?aF ?aO ?aB ?aS ?aL ?_; (case aP => exact rfl); (case aB => exact (uW HB.out)); (case aF => exact (fun _ _ => trivial)); (case aO => exact (uR HO_5.out)); (case aS => exact (below_size (uW HB.out))); (case aL => have := LMc14.out; omega); intro v430 w15 ho hb hg hat; rw [← Ny429.out] at ho; replace HB := Aside0.mk (hb); have HO431 := Aside0.mk (ho); clear HO_5; clear ho hb hg hat))
     go_ret
     exact ⟨_, re_, uR HO431.out, uW HB.out⟩
    ·
     rw [if_neg c12] at H
     exact absurd H (by simp)
def r02_Join.l0 : Nat → ByteArray → List ByteArray → ByteArray → Int → Option (ByteArray)
 | 0, _, _, _, _ => none
 | k + 1, x0, x1, x5, x6 => if x6 < (x1.length : Int) then (if x6 > 0 then (if x5.size + x0.size ≤ 9223372036854775807 then (if 0 ≤ x6 then (if (x5 ++ x0).size + (rdOf ByteArray.empty x1 x6).size ≤ 9223372036854775807 then (r02_Join.l0 k x0 x1 ((x5 ++ x0) ++ (rdOf ByteArray.empty x1 x6)) (wrap64 (x6 + 1))) else (none)) else (none)) else (none)) else (if 0 ≤ x6 then (if x5.size + (rdOf ByteArray.empty x1 x6).size ≤ 9223372036854775807 then (r02_Join.l0 k x0 x1 (x5 ++ (rdOf ByteArray.empty x1 x6)) (wrap64 (x6 + 1))) else (none)) else (none))) else (some x5)
def r02_Join.f (k : Nat) (a0 : ByteArray) (l1 : List ByteArray) : Option (ByteArray) := r02_Join.l0 k a0 l1 (⟨#[]⟩ : ByteArray) 0
theorem r02_Join.mono_l : ∀ k, (∀ y0 y1 y2 y3, LeC (r02_Join.l0 k y0 y1 y2 y3) (r02_Join.l0 (k + 1) y0 y1 y2 y3))
 | 0 => fun _ _ _ _ => ⟨fun r h => by simp [r02_Join.l0] at h⟩
 | k + 1 => by have ih0 := r02_Join.mono_l k; exact fun _ _ _ _ => by unfold r02_Join.l0; exact lm
theorem r02_Join.mono : ∀ a0 a1 k, LeO (r02_Join.f k a0 a1) (r02_Join.f (k + 1) a0 a1) := by
 intro a0 a1 k
 have ih0 := r02_Join.mono_l k
 unfold r02_Join.f
 exact lo
instance r02_Join.mI {a0 a1 k} : LeC (r02_Join.f k a0 a1) (r02_Join.f (k + 1) a0 a1) := ⟨r02_Join.mono _ _ _⟩
theorem r02_Join.calls (k : Nat) (a0 : ByteArray) (A1 : Option Addr) (c1 : Nat) (l1 : List ByteArray) (r : ByteArray) (w : World) (hr1 : Kd.C Kd.string w A1 l1.length l1) (hc1 : l1.length ≤ c1) (h : r02_Join.f k a0 l1 = some r) :
 Calls Tryz.prog 35 #[.string a0, .slice A1 l1.length c1] w fun e w' => e = .returned (.string r) ∧ Drawn0 w w' := by
 have HR1 := Aside0.mk hr1
 have HC1 := Aside0.mk hc1
 clear hr1 hc1
 have H : (r02_Join.l0 k a0 l1 (⟨#[]⟩ : ByteArray) 0) = some r := h
 clear h
 have H' := Aside0.mk H
 clear H
 go_enter Tryz.func35, Tryz.ntmps35
 go_wp2
 go_loopg [5, 6] k (fun kq v5 v6 w' => ∃ (x5_1 : ByteArray) (x6_1 : Int), v5 = .string x5_1 ∧ v6 = .int .i64 x6_1 ∧ Aside0 (r02_Join.l0 kq a0 l1 x5_1 x6_1 = some r) ∧ Aside0 (kq ≤ k) ∧ Drawn0 w w')
 case atStart => exact ⟨((⟨#[]⟩ : ByteArray)), (0), rs_, rs_, H', ⟨Nat.le_refl _⟩, dr_⟩
 case round =>
  clear H'
  try clear c1
  try clear p2
  obtain ⟨x5_1, x6_1, rfl, rfl, HA, HK1, ⟨m1, rfl⟩⟩ := hrel
  cases gk with
  | zero => exact absurd HA.out (by simp [r02_Join.l0])
  | succ k1 =>
   have H := HA.out
   clear HA
   simp only [r02_Join.l0] at H
   by_cases c3 : x6_1 < (l1.length : Int)
   ·
    rw [if_pos c3] at H
    have c3b0 : decide (x6_1 < (l1.length : Int)) = true := decide_eq_true c3
    clear c3
    by_cases c4 : x6_1 > 0
    ·
     rw [if_pos c4] at H
     have c4b0 : decide (0 < x6_1) = true := decide_eq_true c4
     clear c4
     obtain ⟨c5, H⟩ := gd H
     have c5b0 := eq_true c5
     have c5b1 : decide (x5_1.size + a0.size ≤ 9223372036854775807) = true := decide_eq_true c5
     try have c5b2 : (9223372036854775807 < x5_1.size + a0.size) = False := eq_false (Nat.not_lt.2 c5)
     obtain ⟨c6b0, H⟩ := gdd H
     obtain ⟨c7, H⟩ := gd H
     have c7b0 := eq_true c7
     have c7b1 : decide ((x5_1 ++ a0).size + (rdOf ByteArray.empty l1 x6_1).size ≤ 9223372036854775807) = true := decide_eq_true c7
     try have c7b2 : (9223372036854775807 < (x5_1 ++ a0).size + (rdOf ByteArray.empty l1 x6_1).size) = False := eq_false (Nat.not_lt.2 c7)
     try have c7b8 := c7b2
     try simp only [ByteArray.size_append] at c7b8
     have H' := Aside0.mk H
     clear H
     have p432 : 0 ≤ (x6_1 : Int) := od
     have q432 : x6_1 < (l1.length : Int) := od
     obtain ⟨ad432, e432, hx432_0⟩ := Kd.at_string HR1.out x6_1 p432 q432
     cases e432
     replace p432 := eq_true p432
     replace q432 := eq_true q432
     go_wp2
     go_roundg k1
     case measure => have := HK1.out; omega
     case rel => exact ⟨((x5_1 ++ a0) ++ (rdOf ByteArray.empty l1 x6_1)), (wrap64 (x6_1 + 1)), rs_, rs_, H', ⟨by have := HK1.out; omega⟩, dr_⟩
    ·
     rw [if_neg c4] at H
     have c4b0 : decide (0 < x6_1) = false := decide_eq_false c4
     clear c4
     obtain ⟨c8b0, H⟩ := gdd H
     obtain ⟨c9, H⟩ := gd H
     have c9b0 := eq_true c9
     have c9b1 : decide (x5_1.size + (rdOf ByteArray.empty l1 x6_1).size ≤ 9223372036854775807) = true := decide_eq_true c9
     try have c9b2 : (9223372036854775807 < x5_1.size + (rdOf ByteArray.empty l1 x6_1).size) = False := eq_false (Nat.not_lt.2 c9)
     have H' := Aside0.mk H
     clear H
     have p433 : 0 ≤ (x6_1 : Int) := od
     have q433 : x6_1 < (l1.length : Int) := od
     obtain ⟨ad433, e433, hx433_0⟩ := Kd.at_string HR1.out x6_1 p433 q433
     cases e433
     replace p433 := eq_true p433
     replace q433 := eq_true q433
     go_wp2
     go_roundg k1
     case measure => have := HK1.out; omega
     case rel => exact ⟨(x5_1 ++ (rdOf ByteArray.empty l1 x6_1)), (wrap64 (x6_1 + 1)), rs_, rs_, H', ⟨by have := HK1.out; omega⟩, dr_⟩
   ·
    rw [if_neg c3] at H
    have c3b0 : decide (x6_1 < (l1.length : Int)) = false := decide_eq_false c3
    clear c3
    obtain rfl := Option.some.inj H
    go_wp2
    go_ret
    exact ⟨rs_, dr_⟩
def r02_small.f (a0 : Int) : Option (Bool) := if a0 ≥ 97 then (some (decide (a0 ≤ 122))) else (some false)
theorem r02_small.calls (a0 : Int) (r : Bool) (w : World) (h : r02_small.f a0 = some r) :
 Calls Tryz.prog 139 #[.int .u8 a0] w fun e w' => e = .returned (.bool r) ∧ Drawn0 w w' := by
 have H : (if a0 ≥ 97 then (some (decide (a0 ≤ 122))) else (some false)) = some r := h
 clear h
 by_cases c2 : a0 ≥ 97
 ·
  rw [if_pos c2] at H
  have c2b0 : decide (97 ≤ a0) = true := decide_eq_true c2
  clear c2
  obtain rfl := Option.some.inj H
  go_enter Tryz.func139, Tryz.ntmps139
  go_wp2
  go_ret
  exact ⟨rs_, dr_⟩
 ·
  rw [if_neg c2] at H
  have c2b0 : decide (97 ≤ a0) = false := decide_eq_false c2
  clear c2
  obtain rfl := Option.some.inj H
  go_enter Tryz.func139, Tryz.ntmps139
  go_wp2
  go_ret
  exact ⟨rs_, dr_⟩
def r02_digit.f (a0 : Int) : Option (Bool) := if a0 ≥ 48 then (some (decide (a0 ≤ 57))) else (some false)
theorem r02_digit.calls (a0 : Int) (r : Bool) (w : World) (h : r02_digit.f a0 = some r) :
 Calls Tryz.prog 140 #[.int .u8 a0] w fun e w' => e = .returned (.bool r) ∧ Drawn0 w w' := by
 have H : (if a0 ≥ 48 then (some (decide (a0 ≤ 57))) else (some false)) = some r := h
 clear h
 by_cases c2 : a0 ≥ 48
 ·
  rw [if_pos c2] at H
  have c2b0 : decide (48 ≤ a0) = true := decide_eq_true c2
  clear c2
  obtain rfl := Option.some.inj H
  go_enter Tryz.func140, Tryz.ntmps140
  go_wp2
  go_ret
  exact ⟨rs_, dr_⟩
 ·
  rw [if_neg c2] at H
  have c2b0 : decide (48 ≤ a0) = false := decide_eq_false c2
  clear c2
  obtain rfl := Option.some.inj H
  go_enter Tryz.func140, Tryz.ntmps140
  go_wp2
  go_ret
  exact ⟨rs_, dr_⟩
end Go.Proofs.YtgcbejidponoaaaGreatDoor.X
