/- Printed by a program of this session's own: what functions of the program compute, and that the machine computes it. No condition of its own. -/
import Derived.Test.YtgcbejidponoaaaGreatDoorM3
import Derived.Test.YtgcbejidponoaaaGreatDoorM4
import Derived.Test.YtgcbejidponoaaaGreatDoorM5
import Derived.Test.YtgcbejidponoaaaGreatDoorM6
namespace Go.Proofs.YtgcbejidponoaaaGreatDoor.X
open Go.RowKit Go.Proofs.YtgcbejidponoaaaGreatDoorW.PrintWords Go.Proofs.YtgcbejidponoaaaGreatDoorW.PrintLast Go.Proofs.YtgcbejidponoaaaGreatDoorW.PrintMore
attribute [local go_sem] max2_int min2_int max_two min_two max_three min_three max_four min_four
set_option linter.unusedVariables false
set_option linter.unusedSimpArgs false
set_option maxHeartbeats 8000000
set_option maxRecDepth 100000
def diff_leaves.f (k : Nat) (a0 : ByteArray) : Option (Int × ByteArray × Int × Bool × Bool × Int) := (word_Split.f k a0 124).bind fun t340 => (if (t340.length : Int) = 2 then (if 1 < (t340.length : Int) then (if 0 < (t340.length : Int) then ((sat_Read.f (rdOf ByteArray.empty t340 0)).bind fun bt345 => (if bt345.2 = 0 then ((tag_Parse.f k (rdOf ByteArray.empty t340 1)).bind fun bt348 => (if bt348.2 = 0 then ((tag_Text.f k bt348.1).bind fun t352 => (if t352.toList = (rdOf ByteArray.empty t340 1).toList then (some (bt345.1, rdOf ByteArray.empty t340 1, 0, false, true, bt348.2)) else (some (bt345.1, rdOf ByteArray.empty t340 1, 0, false, true, 2)))) else (some (bt345.1, rdOf ByteArray.empty t340 1, 0, false, true, bt348.2)))) else (some (bt345.1, rdOf ByteArray.empty t340 1, 0, false, true, bt345.2)))) else (none)) else (none)) else (some (0, (⟨#[]⟩ : ByteArray), 0, false, false, 2)))
theorem diff_leaves.mono : ∀ a0 k, LeO (diff_leaves.f k a0) (diff_leaves.f (k + 1) a0) := by
 intro a0 k
 unfold diff_leaves.f
 exact lo
instance diff_leaves.mI {a0 k} : LeC (diff_leaves.f k a0) (diff_leaves.f (k + 1) a0) := ⟨diff_leaves.mono _ _⟩
def diff_leaves.T4 : Bool × List (List Nat × List Nat) := (true, [([], []), ([0], [0]), ([1], [1]), ([], []), ([3], [3]), ([0, 1, 2, 3, 4], []), ([5, 0, 1, 2, 3, 4], [5]), ([6, 2, 4, 0, 1, 2, 3, 4], [2, 6])])
def diff_leaves.B4 : List Nat := [0, 1, 3, 0, 8, 31, 63, 127]
theorem diff_leaves.tab4 : rtab .any (opsOf Tryz.f58 4) = diff_leaves.T4 := by kernel_rfl
theorem diff_leaves.bits4 : waitsOk diff_leaves.T4.2 diff_leaves.B4 = true := by kernel_rfl
def diff_leaves.T9 : Bool × List (List Nat × List Nat) := (true, [([], []), ([0], [0]), ([1], [1]), ([2], [2]), ([3, 2, 2], [2, 3]), ([2], [2]), ([5, 2], [2, 5]), ([6, 2], [2, 6]), ([4, 7, 2], [2, 4, 7]), ([2, 8], [2, 8])])
def diff_leaves.B9 : List Nat := [0, 1, 3, 7, 15, 7, 39, 103, 255, 511]
theorem diff_leaves.tab9 : rtab .any (opsOf Tryz.f58 9) = diff_leaves.T9 := by kernel_rfl
theorem diff_leaves.bits9 : waitsOk diff_leaves.T9.2 diff_leaves.B9 = true := by kernel_rfl
theorem diff_leaves.calls (k : Nat) (a0 : ByteArray) (r1 : Int) (r2 : ByteArray) (r3 : Int) (r4 : Bool) (r5 : Bool) (r6 : Int) (w : World) (hL : LD w) (h : diff_leaves.f k a0 = some (r1, r2, r3, r4, r5, r6)) :
 Calls Tryz.prog 58 #[.string a0] w fun e w' => e = .returned (.tuple #[.agg #[.int .i64 r1, .string r2, .int .i64 r3, .bool r4, .bool r5], .int .i64 r6]) ∧ Below w.heap.size w w' := by
 have HL0 := Aside0.mk hL
 clear hL
 have hu48 := Tryz.underlying48
 have HB := Aside0.mk (Below.refl w.heap.size w)
 have H : ((word_Split.f k a0 124).bind fun t340 => (if (t340.length : Int) = 2 then (if 1 < (t340.length : Int) then (if 0 < (t340.length : Int) then ((sat_Read.f (rdOf ByteArray.empty t340 0)).bind fun bt345 => (if bt345.2 = 0 then ((tag_Parse.f k (rdOf ByteArray.empty t340 1)).bind fun bt348 => (if bt348.2 = 0 then ((tag_Text.f k bt348.1).bind fun t352 => (if t352.toList = (rdOf ByteArray.empty t340 1).toList then (some (bt345.1, rdOf ByteArray.empty t340 1, 0, false, true, bt348.2)) else (some (bt345.1, rdOf ByteArray.empty t340 1, 0, false, true, 2)))) else (some (bt345.1, rdOf ByteArray.empty t340 1, 0, false, true, bt348.2)))) else (some (bt345.1, rdOf ByteArray.empty t340 1, 0, false, true, bt345.2)))) else (none)) else (none)) else (some (0, (⟨#[]⟩ : ByteArray), 0, false, false, 2)))) = some (r1, r2, r3, r4, r5, r6) := h
 clear h
 obtain ⟨t340, A2, H⟩ := bs H
 try dsimp only at H
 by_cases c3 : (t340.length : Int) = 2
 ·
  rw [if_pos c3] at H
  have c3b0 : ((t340.length : Int) == 2) = true := beq_iff_eq.mpr c3
  have c3b1 : ((t340.length : Int) != 2) = false := bne_eq_false_iff_eq.mpr c3
  clear c3
  obtain ⟨c4, H⟩ := gd H
  have c4b0 : decide (1 < (t340.length : Int)) = true := decide_eq_true c4
  have c4b1 : decide (1 < t340.length) = true := decide_eq_true (by omega)
  clear c4
  obtain ⟨c5, H⟩ := gd H
  have c5b0 : decide (0 < (t340.length : Int)) = true := decide_eq_true c5
  have c5b1 : decide (0 < t340.length) = true := decide_eq_true (by omega)
  clear c5
  obtain ⟨⟨t345, t346⟩, A6, H⟩ := bs H
  try dsimp only at H
  by_cases c7 : t346 = 0
  ·
   rw [if_pos c7] at H
   have c7b0 : (t346 == 0) = true := beq_iff_eq.mpr c7
   have c7b1 : (t346 != 0) = false := bne_eq_false_iff_eq.mpr c7
   clear c7
   obtain ⟨⟨t348, t349⟩, A8, H⟩ := bs H
   try dsimp only at H
   by_cases c9 : t349 = 0
   ·
    rw [if_pos c9] at H
    have c9b0 : (t349 == 0) = true := beq_iff_eq.mpr c9
    have c9b1 : (t349 != 0) = false := bne_eq_false_iff_eq.mpr c9
    clear c9
    obtain ⟨t352, A10, H⟩ := bs H
    try dsimp only at H
    by_cases c11 : t352.toList = (rdOf ByteArray.empty t340 1).toList
    ·
     rw [if_pos c11] at H
     have c11b0 : (t352.toList == (rdOf ByteArray.empty t340 1).toList) = true := beq_iff_eq.mpr c11
     have c11b1 : (t352.toList != (rdOf ByteArray.empty t340 1).toList) = false := bne_eq_false_iff_eq.mpr c11
     clear c11
     simp only [Option.some.injEq, Prod.mk.injEq] at H
     obtain ⟨rfl, rfl, rfl, rfl, rfl, rfl⟩ := H
     go_enter Tryz.func58, Tryz.ntmps58
     try go_wp2_with (first | ((with_reducible refine gate_dst (N := 2) rfl ?_); refine bx (N := 2) #[.int .i64 0, .string (⟨#[]⟩ : ByteArray), .int .i64 0, .bool false, .bool false] 48 ?_; intro gb339 hg w12 hbox hb; have BK339 := Aside0.mk (hbox); have GW339 := gw hg (uW HB.out); have GE339 := GW339; replace HB := cW HB hb; clear hb hbox hg) | (refine gL (some 7) rfl Tryz.func39 #[.string a0, .int .u8 124] ?_; (with_reducible refine (word_Split.calls k a0 124 t340 _ A2.out).mono ?_); rintro e w13 ⟨v341, rfl, ho0, hb⟩; refine ⟨_, rfl, ?_⟩; have HO342 := Aside0.mk (Kd.R_lower ho0 (below_size bl)); replace BK339 := cB BK339 hb; replace HB := Aside0.mk (below_step bl hb); (try clear hb); (try clear ho0); obtain ⟨Ao14, co14, eo14⟩ := Kd.R_slice HO342.out; subst eo14))
     replace HO342 := Aside0.mk (Kd.R_drew HO342.out)
     replace BK339 := Aside0.mk (blk_drew BK339.out)
     replace HB := Aside0.mk (below_drew1 HB.out)
     have p343 : 0 ≤ (1 : Int) := (by omega)
     have q343 : 1 < (t340.length : Int) := od
     obtain ⟨ad343, e343, hx343_0⟩ := Kd.at_string (Kd.R_reads' HO342.out).2.2 1 p343 q343
     cases e343
     (try simp only [show (1 : Int).toNat = 1 from rfl, Nat.reduceMul, Nat.reduceEqDiff, Go.Addr.add, ↓reduceIte] at hx343_0)
     have qi343 : (1 < t340.length) = True := eq_true (by omega)
     (try rw [show ((1 : Int)).toNat = 1 from rfl] at hx343_0)
     replace p343 := eq_true p343
     replace q343 := eq_true q343
     refine start_ (n := 8) (S := fun w' => w'.cell? ⟨ad343.block, ad343.off + 1, none⟩ = some (.string (rdOf ByteArray.empty t340 1))) (ds := []) _ (by kernel_rfl) rfl rfl (hx343_0) (fun hHeld => ?_); refine with_tabW diff_leaves.tab4 diff_leaves.bits4 (fun HT_ HW_ => ?_)
     generalize w13.drew = w15 at HO342 BK339 HB hx343_0 hHeld ⊢
     refine p1 0 (some 12) ?_
     refine p1 1 (some 13) ?_
     refine p1 3 (some 15) ?_
     refine t1 2 (some 14) rfl rfl hHeld (Or.inl ⟨by rfl, by intro w' s0; go_simp; with_reducible rfl⟩) ?_
     refine o1 4 none rfl rfl (fun K hK => ?_)
     have hs16 : w15.cell? ⟨gb339, 4, none⟩ = some (.bool false) := (blk_cell BK339.out 4).trans rfl
     have hfs16 := blk_frozen BK339.out 4
     refine skip_ (w1 := ?_) (by rfl) rfl ?_ ?_
     rotate_left
     ·
      go_simp
      rfl
     refine hK.out _ _ (((cell_far (p := ⟨gb339, _, none⟩) (by first | exact Kd.own_blk (Kd.R_ne HO342.out BK339.out (by decide)) | (rw [add_block]; exact Kd.own_blk (Kd.R_ne HO342.out BK339.out (by decide))) | (show (Addr.add _ _).block ≠ _; rw [add_block]; exact Kd.own_blk (Kd.R_ne HO342.out BK339.out (by decide))) | (dsimp only; exact Kd.own_blk (Kd.R_ne HO342.out BK339.out (by decide)))) _).trans (hHeld))) (fun hHeld => ?_)
     clear hK K
     refine p1 5 (some 16) ?_
     refine p1 6 (some 17) ?_
     refine o1 7 none rfl rfl (fun K hK => ?_)
     have hs17 : w15.cell? ⟨gb339, 1, none⟩ = some (.string (⟨#[]⟩ : ByteArray)) := (blk_cell BK339.out 1).trans rfl
     have hfs17 := blk_frozen BK339.out 1
     refine skip_ (w1 := ?_) (by rfl) rfl ?_ ?_
     rotate_left
     ·
      go_simp
      rfl
     refine hK.out _ _ (((cell_far (p := ⟨gb339, _, none⟩) (by first | exact Kd.own_blk (Kd.R_ne HO342.out BK339.out (by decide)) | (rw [add_block]; exact Kd.own_blk (Kd.R_ne HO342.out BK339.out (by decide))) | (show (Addr.add _ _).block ≠ _; rw [add_block]; exact Kd.own_blk (Kd.R_ne HO342.out BK339.out (by decide))) | (dsimp only; exact Kd.own_blk (Kd.R_ne HO342.out BK339.out (by decide)))) _).trans (hHeld))) (fun hHeld => ?_)
     clear hK K
     refine done_ (done_of HT_.out (by kernel_rfl)) ?_
     have p344 : 0 ≤ (0 : Int) := (by omega)
     have q344 : 0 < (t340.length : Int) := od
     obtain ⟨ad344, e344, hx344_0⟩ := Kd.at_string (Kd.R_reads' HO342.out).2.2 0 p344 q344
     obtain rfl : ad343 = ad344 := (by injection e344)
     have qi344 : (0 < t340.length) = True := eq_true (by omega)
     (try rw [show ((0 : Int)).toNat = 0 from rfl] at hx344_0)
     (try rw [Addr.add_zero'] at hx344_0)
     have hn344_0 : ad343.block ≠ gb339 := Kd.own_blk (Kd.R_ne HO342.out BK339.out (by decide))
     have hn344_1 : ad343.block ≠ gb339 := Kd.own_blk (Kd.R_ne HO342.out BK339.out (by decide))
     replace hx344_0 := (cell_far (p := ⟨gb339, 4, none⟩) (by first | (rw [add_block]; exact hn344_0) | (show (Addr.add _ _).block ≠ _; rw [add_block]; exact hn344_0) | exact hn344_0) (.bool true)).trans hx344_0
     replace hx344_0 := (cell_far (p := ⟨gb339, 1, none⟩) (by first | (rw [add_block]; exact hn344_1) | (show (Addr.add _ _).block ≠ _; rw [add_block]; exact hn344_1) | exact hn344_1) (.string (rdOf ByteArray.empty t340 1))).trans hx344_0
     clear hn344_0
     clear hn344_1
     replace p344 := eq_true p344
     replace q344 := eq_true q344
     try go_wp2_with (first | (refine gL (some 22) rfl Tryz.func76 #[.string (rdOf ByteArray.empty t340 0)] ?_; (with_reducible refine (sat_Read.calls (hL := ld) (rdOf ByteArray.empty t340 0) t345 t346 _ A6.out).mono ?_); rintro e w18 ⟨rfl, hb⟩; refine ⟨_, rfl, ?_⟩; replace HO342 := Aside0.mk (Kd.R_below (by exact uR <| (Kd.R_mono (Kd.R_far (p := ⟨gb339, 1, none⟩) (Kd.R_far (p := ⟨gb339, 4, none⟩) (Kd.R_types HO342.out BK339.out (by decide)) (fun _ hk => hk.2) (.bool true)) (fun _ hk => hk.2) (.string (rdOf ByteArray.empty t340 1))) (fun _ h_ => h_.1))) hb); replace BK339 := Aside0.mk (blk_below (g := gb339) (o := .cells #[.int .i64 0, .string (rdOf ByteArray.empty t340 1), .int .i64 0, .bool false, .bool true] 48 (0, 0)) (by (with_reducible repeat (first | refine blk_drewN ?_ _ | refine blk_drew ?_ | refine blk_alloc ?_ _)); refine blk_put (cs := #[.int .i64 0, .string (⟨#[]⟩ : ByteArray), .int .i64 0, .bool false, .bool true]) ?_ 1 _ rfl; (with_reducible repeat (first | refine blk_drewN ?_ _ | refine blk_drew ?_ | refine blk_alloc ?_ _)); refine blk_put (cs := #[.int .i64 0, .string (⟨#[]⟩ : ByteArray), .int .i64 0, .bool false, .bool false]) ?_ 4 _ rfl; exact uB <| BK339.out) hb); replace HB := Aside0.mk (below_step bl hb); (try clear hb); obtain ⟨hcz19_0, hcz19_1, hcz19_2, hcz19_3, hcz19_4, hfz19_0, hfz19_1, hfz19_2, hfz19_3, hfz19_4⟩ := z5 BK339; have p347 : 0 ≤ (1 : Int) := (by omega); have q347 : 1 < (t340.length : Int) := od; obtain ⟨ad347, e347, hx347_0⟩ := Kd.at_string (Kd.R_reads' HO342.out).2.2 1 p347 q347; obtain rfl : ad343 = ad347 := (by injection e347); (try simp only [show (1 : Int).toNat = 1 from rfl, Nat.reduceMul, Nat.reduceEqDiff, Go.Addr.add, ↓reduceIte] at hx347_0); have qi347 : (1 < t340.length) = True := eq_true (by omega); (try rw [show ((1 : Int)).toNat = 1 from rfl] at hx347_0); have hn347_0 : ad343.block ≠ gb339 := Kd.own_blk (Kd.R_ne HO342.out BK339.out (by decide)); replace hx347_0 := (cell_far (p := ⟨gb339, 0, none⟩) (by first | (rw [add_block]; exact hn347_0) | (show (Addr.add _ _).block ≠ _; rw [add_block]; exact hn347_0) | exact hn347_0) (.int .i64 t345)).trans hx347_0; clear hn347_0; replace p347 := eq_true p347; replace q347 := eq_true q347) | (refine gL (some 35) rfl Tryz.func65 #[.string (rdOf ByteArray.empty t340 1)] ?_; (with_reducible refine (tag_Parse.calls (hL := ld) k (rdOf ByteArray.empty t340 1) t348 t349 _ A8.out).mono ?_); rintro e w20 ⟨v350, rfl, ho0, hb⟩; refine ⟨_, rfl, ?_⟩; replace HO342 := Aside0.mk (Kd.R_below (by exact uR <| (Kd.R_mono (Kd.R_far (p := ⟨gb339, 0, none⟩) (Kd.R_types HO342.out BK339.out (by decide)) (fun _ hk => hk.2) (.int .i64 t345)) (fun _ h_ => h_.1))) hb); have HO351 := Aside0.mk (Kd.R_lower ho0 (below_size bl)); replace BK339 := Aside0.mk (blk_below (g := gb339) (o := .cells #[.int .i64 t345, .string (rdOf ByteArray.empty t340 1), .int .i64 0, .bool false, .bool true] 48 (0, 0)) (by (with_reducible repeat (first | refine blk_drewN ?_ _ | refine blk_drew ?_ | refine blk_alloc ?_ _)); refine blk_put (cs := #[.int .i64 0, .string (rdOf ByteArray.empty t340 1), .int .i64 0, .bool false, .bool true]) ?_ 0 _ rfl; exact uB <| BK339.out) hb); replace HB := Aside0.mk (below_step bl hb); (try clear hb); (try clear ho0)))
     replace HO342 := Aside0.mk (Kd.R_drew HO342.out)
     replace HO351 := Aside0.mk (Kd.R_drew HO351.out)
     replace BK339 := Aside0.mk (blk_drew BK339.out)
     replace HB := Aside0.mk (below_drew1 HB.out)
     have p353 : 0 ≤ (1 : Int) := (by omega)
     have q353 : 1 < (t340.length : Int) := od
     obtain ⟨ad353, e353, hx353_0⟩ := Kd.at_string (Kd.R_reads' HO342.out).2.2 1 p353 q353
     obtain rfl : ad343 = ad353 := (by injection e353)
     (try simp only [show (1 : Int).toNat = 1 from rfl, Nat.reduceMul, Nat.reduceEqDiff, Go.Addr.add, ↓reduceIte] at hx353_0)
     have qi353 : (1 < t340.length) = True := eq_true (by omega)
     (try rw [show ((1 : Int)).toNat = 1 from rfl] at hx353_0)
     replace p353 := eq_true p353
     replace q353 := eq_true q353
     obtain ⟨Ao22, co22, eo22⟩ := Kd.R_slice HO351.out
     (first | subst eo22 | (injection eo22 with f1_ f2_ f3_; have f4_ := f1_.symm; have f5_ := f3_.symm; clear f1_ f2_ f3_; subst f4_; subst f5_))
     refine start_ (n := 10) (S := fun w' => w'.cell? ⟨ad343.block, ad343.off + 1, none⟩ = some (.string (rdOf ByteArray.empty t340 1))) (ds := []) _ (by kernel_rfl) rfl rfl (hx353_0) (fun hHeld => ?_); refine with_tabW diff_leaves.tab9 diff_leaves.bits9 (fun HT_ HW_ => ?_)
     generalize w20.drew = w21 at HO342 HO351 BK339 HB hx353_0 hHeld ⊢
     refine p1 0 (some 38) ?_
     refine p1 1 (some 39) ?_
     refine p1 2 (some 40) ?_
     refine p1 3 (some 41) ?_
     refine p1 5 (some 43) ?_
     refine p1 6 (some 44) ?_
     refine t1 7 (some 45) rfl rfl hHeld (Or.inl ⟨by rfl, by intro w' s0; go_simp; with_reducible rfl⟩) ?_
     refine o1 4 (some 42) rfl rfl (fun K hK => ?_)
     refine gS Tryz.func66 #[.slice Ao22 t348.length co22] ?_
     with_reducible refine (tag_Text.calls k _ _ t348 t352 _ ?side1 ?side2 A10.out).mono ?_
     (case side1 => exact uC <| (Kd.R_reads' HO351.out).2.2)
     (case side2 => exact (Kd.R_reads' HO351.out).2.1)
     rintro e w23 ⟨rfl, hb⟩
     have HS0_ := (hb.cell (World.block_lt_of_cell? _ _ (hHeld))).trans (hHeld)
     refine ⟨_, rfl, ?_⟩
     replace HO342 := cR HO342 hb
     replace HO351 := cR HO351 hb
     replace BK339 := cB BK339 hb
     replace HB := Aside0.mk (below_step bl hb)
     (try clear hb)
     refine hK.out _ _ (HS0_) (fun hHeld => ?_)
     clear hK K
     refine norm_ (a' := ?_) ?_ ?_
     rotate_left
     ·
      show Act.put _ (some 42) _ = _
      simp only [Act.put, List.setIfInBounds_toArray, List.set_cons_zero, List.set_cons_succ, i64_w, i32_w]
      rfl
     refine p1 8 (some 46) ?_
     refine p1 9 (some 47) ?_
     refine done_ (done_of HT_.out (by kernel_rfl)) ?_
     obtain ⟨hcz24_0, hcz24_1, hcz24_2, hcz24_3, hcz24_4, hfz24_0, hfz24_1, hfz24_2, hfz24_3, hfz24_4⟩ := z5 BK339
     try go_wp2_with (first | ((with_reducible refine gate_store (t := 48) (p := 2) rfl ?_); refine store_event (t := 48) (p := 2) (v := ?vo_w25) (w1 := (((((w23.setCell ⟨gb339, 0, none⟩ (.int .i64 t345)).setCell ⟨gb339, 1, none⟩ (.string (rdOf ByteArray.empty t340 1))).setCell ⟨gb339, 2, none⟩ (.int .i64 0)).setCell ⟨gb339, 3, none⟩ (.bool false)).setCell ⟨gb339, 4, none⟩ (.bool true))) ?hg ?ho ?hn ?hr ?_; (case ho => rfl); (case hg => rfl); (case hn => rfl); (case hr => first | (go_simp; done) | (go_simp; rfl)); intro w25 hw; have n0_ : Aside0 (Kd.R Kd.string 9 w25 w.heap.size (fun _ => True) (.slice (some ad343) t340.length co14) t340) := ⟨(by rw [hw]; exact (by exact uR <| Kd.R_mono (Kd.R_far (p := ⟨gb339, 4, none⟩) (Kd.R_far (p := ⟨gb339, 3, none⟩) (Kd.R_far (p := ⟨gb339, 2, none⟩) (Kd.R_far (p := ⟨gb339, 1, none⟩) (Kd.R_far (p := ⟨gb339, 0, none⟩) (Kd.R_types HO342.out BK339.out (by decide)) (fun _ hk => hk.2) (.int .i64 t345)) (fun _ hk => hk.2) (.string (rdOf ByteArray.empty t340 1))) (fun _ hk => hk.2) (.int .i64 0)) (fun _ hk => hk.2) (.bool false)) (fun _ hk => hk.2) (.bool true)) (fun _ hk => trivial)))⟩; have n1_ : Aside0 (Kd.R k98 98 w25 w.heap.size (fun _ => True) (.slice Ao22 t348.length co22) t348) := ⟨(by rw [hw]; exact (by exact uR <| Kd.R_mono (Kd.R_far (p := ⟨gb339, 4, none⟩) (Kd.R_far (p := ⟨gb339, 3, none⟩) (Kd.R_far (p := ⟨gb339, 2, none⟩) (Kd.R_far (p := ⟨gb339, 1, none⟩) (Kd.R_far (p := ⟨gb339, 0, none⟩) (Kd.R_types HO351.out BK339.out (by decide)) (fun _ hk => hk.2) (.int .i64 t345)) (fun _ hk => hk.2) (.string (rdOf ByteArray.empty t340 1))) (fun _ hk => hk.2) (.int .i64 0)) (fun _ hk => hk.2) (.bool false)) (fun _ hk => hk.2) (.bool true)) (fun _ hk => trivial)))⟩; have n2_ : Aside0 (w25.heap[gb339]? = some (.cells #[.int .i64 t345, .string (rdOf ByteArray.empty t340 1), .int .i64 0, .bool false, .bool true] 48 (0, 0))) := ⟨(by rw [hw]; exact (by (with_reducible repeat (first | refine blk_drewN ?_ _ | refine blk_drew ?_ | refine blk_alloc ?_ _)); refine blk_put (cs := #[.int .i64 t345, .string (rdOf ByteArray.empty t340 1), .int .i64 0, .bool false, .bool true]) ?_ 4 _ rfl; (with_reducible repeat (first | refine blk_drewN ?_ _ | refine blk_drew ?_ | refine blk_alloc ?_ _)); refine blk_put (cs := #[.int .i64 t345, .string (rdOf ByteArray.empty t340 1), .int .i64 0, .bool false, .bool true]) ?_ 3 _ rfl; (with_reducible repeat (first | refine blk_drewN ?_ _ | refine blk_drew ?_ | refine blk_alloc ?_ _)); refine blk_put (cs := #[.int .i64 t345, .string (rdOf ByteArray.empty t340 1), .int .i64 0, .bool false, .bool true]) ?_ 2 _ rfl; (with_reducible repeat (first | refine blk_drewN ?_ _ | refine blk_drew ?_ | refine blk_alloc ?_ _)); refine blk_put (cs := #[.int .i64 t345, .string (rdOf ByteArray.empty t340 1), .int .i64 0, .bool false, .bool true]) ?_ 1 _ rfl; (with_reducible repeat (first | refine blk_drewN ?_ _ | refine blk_drew ?_ | refine blk_alloc ?_ _)); refine blk_put (cs := #[.int .i64 t345, .string (rdOf ByteArray.empty t340 1), .int .i64 0, .bool false, .bool true]) ?_ 0 _ rfl; exact uB <| BK339.out))⟩; have n3_ : Aside0 (Below w.heap.size w w25) := ⟨(by rw [hw]; exact bl)⟩; clear hw; clear HO342; clear HO351; clear BK339; clear HB; have HO342 := n0_; have HO351 := n1_; have BK339 := n2_; have HB := n3_; clear n0_ n1_ n2_ n3_))
     refine bodyPost_ret (results_ct rfl _ _ gb339 48 #[.int .i64 t345, .string (rdOf ByteArray.empty t340 1), .int .i64 0, .bool false, .bool true] (0, 0) _ rfl (uB BK339.out) Tryz.underlying48 rfl (by kernel_rfl)) rfl ?_
     exact ⟨re_, bl⟩
    ·
     rw [if_neg c11] at H
     have c11b0 : (t352.toList == (rdOf ByteArray.empty t340 1).toList) = false := beq_eq_false_iff_ne.mpr c11
     have c11b1 : (t352.toList != (rdOf ByteArray.empty t340 1).toList) = true := bne_iff_ne.mpr c11
     simp only [Option.some.injEq, Prod.mk.injEq] at H
     obtain ⟨rfl, rfl, rfl, rfl, rfl, rfl⟩ := H
     go_enter Tryz.func58, Tryz.ntmps58
     try go_wp2_with (first | ((with_reducible refine gate_dst (N := 2) rfl ?_); refine bx (N := 2) #[.int .i64 0, .string (⟨#[]⟩ : ByteArray), .int .i64 0, .bool false, .bool false] 48 ?_; intro gb339 hg w26 hbox hb; have BK339 := Aside0.mk (hbox); have GW339 := gw hg (uW HB.out); have GE339 := GW339; replace HB := cW HB hb; clear hb hbox hg) | (refine gL (some 7) rfl Tryz.func39 #[.string a0, .int .u8 124] ?_; (with_reducible refine (word_Split.calls k a0 124 t340 _ A2.out).mono ?_); rintro e w27 ⟨v341, rfl, ho0, hb⟩; refine ⟨_, rfl, ?_⟩; have HO342 := Aside0.mk (Kd.R_lower ho0 (below_size bl)); replace BK339 := cB BK339 hb; replace HB := Aside0.mk (below_step bl hb); (try clear hb); (try clear ho0); obtain ⟨Ao28, co28, eo28⟩ := Kd.R_slice HO342.out; subst eo28))
     replace HO342 := Aside0.mk (Kd.R_drew HO342.out)
     replace BK339 := Aside0.mk (blk_drew BK339.out)
     replace HB := Aside0.mk (below_drew1 HB.out)
     have p343 : 0 ≤ (1 : Int) := (by omega)
     have q343 : 1 < (t340.length : Int) := od
     obtain ⟨ad343, e343, hx343_0⟩ := Kd.at_string (Kd.R_reads' HO342.out).2.2 1 p343 q343
     cases e343
     (try simp only [show (1 : Int).toNat = 1 from rfl, Nat.reduceMul, Nat.reduceEqDiff, Go.Addr.add, ↓reduceIte] at hx343_0)
     have qi343 : (1 < t340.length) = True := eq_true (by omega)
     (try rw [show ((1 : Int)).toNat = 1 from rfl] at hx343_0)
     replace p343 := eq_true p343
     replace q343 := eq_true q343
     refine start_ (n := 8) (S := fun w' => w'.cell? ⟨ad343.block, ad343.off + 1, none⟩ = some (.string (rdOf ByteArray.empty t340 1))) (ds := []) _ (by kernel_rfl) rfl rfl (hx343_0) (fun hHeld => ?_); refine with_tabW diff_leaves.tab4 diff_leaves.bits4 (fun HT_ HW_ => ?_)
     generalize w27.drew = w29 at HO342 BK339 HB hx343_0 hHeld ⊢
     refine p1 0 (some 12) ?_
     refine p1 1 (some 13) ?_
     refine p1 3 (some 15) ?_
     refine t1 2 (some 14) rfl rfl hHeld (Or.inl ⟨by rfl, by intro w' s0; go_simp; with_reducible rfl⟩) ?_
     refine o1 4 none rfl rfl (fun K hK => ?_)
     have hs30 : w29.cell? ⟨gb339, 4, none⟩ = some (.bool false) := (blk_cell BK339.out 4).trans rfl
     have hfs30 := blk_frozen BK339.out 4
     refine skip_ (w1 := ?_) (by rfl) rfl ?_ ?_
     rotate_left
     ·
      go_simp
      rfl
     refine hK.out _ _ (((cell_far (p := ⟨gb339, _, none⟩) (by first | exact Kd.own_blk (Kd.R_ne HO342.out BK339.out (by decide)) | (rw [add_block]; exact Kd.own_blk (Kd.R_ne HO342.out BK339.out (by decide))) | (show (Addr.add _ _).block ≠ _; rw [add_block]; exact Kd.own_blk (Kd.R_ne HO342.out BK339.out (by decide))) | (dsimp only; exact Kd.own_blk (Kd.R_ne HO342.out BK339.out (by decide)))) _).trans (hHeld))) (fun hHeld => ?_)
     clear hK K
     refine p1 5 (some 16) ?_
     refine p1 6 (some 17) ?_
     refine o1 7 none rfl rfl (fun K hK => ?_)
     have hs31 : w29.cell? ⟨gb339, 1, none⟩ = some (.string (⟨#[]⟩ : ByteArray)) := (blk_cell BK339.out 1).trans rfl
     have hfs31 := blk_frozen BK339.out 1
     refine skip_ (w1 := ?_) (by rfl) rfl ?_ ?_
     rotate_left
     ·
      go_simp
      rfl
     refine hK.out _ _ (((cell_far (p := ⟨gb339, _, none⟩) (by first | exact Kd.own_blk (Kd.R_ne HO342.out BK339.out (by decide)) | (rw [add_block]; exact Kd.own_blk (Kd.R_ne HO342.out BK339.out (by decide))) | (show (Addr.add _ _).block ≠ _; rw [add_block]; exact Kd.own_blk (Kd.R_ne HO342.out BK339.out (by decide))) | (dsimp only; exact Kd.own_blk (Kd.R_ne HO342.out BK339.out (by decide)))) _).trans (hHeld))) (fun hHeld => ?_)
     clear hK K
     refine done_ (done_of HT_.out (by kernel_rfl)) ?_
     have p344 : 0 ≤ (0 : Int) := (by omega)
     have q344 : 0 < (t340.length : Int) := od
     obtain ⟨ad344, e344, hx344_0⟩ := Kd.at_string (Kd.R_reads' HO342.out).2.2 0 p344 q344
     obtain rfl : ad343 = ad344 := (by injection e344)
     have qi344 : (0 < t340.length) = True := eq_true (by omega)
     (try rw [show ((0 : Int)).toNat = 0 from rfl] at hx344_0)
     (try rw [Addr.add_zero'] at hx344_0)
     have hn344_0 : ad343.block ≠ gb339 := Kd.own_blk (Kd.R_ne HO342.out BK339.out (by decide))
     have hn344_1 : ad343.block ≠ gb339 := Kd.own_blk (Kd.R_ne HO342.out BK339.out (by decide))
     replace hx344_0 := (cell_far (p := ⟨gb339, 4, none⟩) (by first | (rw [add_block]; exact hn344_0) | (show (Addr.add _ _).block ≠ _; rw [add_block]; exact hn344_0) | exact hn344_0) (.bool true)).trans hx344_0
     replace hx344_0 := (cell_far (p := ⟨gb339, 1, none⟩) (by first | (rw [add_block]; exact hn344_1) | (show (Addr.add _ _).block ≠ _; rw [add_block]; exact hn344_1) | exact hn344_1) (.string (rdOf ByteArray.empty t340 1))).trans hx344_0
     clear hn344_0
     clear hn344_1
     replace p344 := eq_true p344
     replace q344 := eq_true q344
     try go_wp2_with (first | (refine gL (some 22) rfl Tryz.func76 #[.string (rdOf ByteArray.empty t340 0)] ?_; (with_reducible refine (sat_Read.calls (hL := ld) (rdOf ByteArray.empty t340 0) t345 t346 _ A6.out).mono ?_); rintro e w32 ⟨rfl, hb⟩; refine ⟨_, rfl, ?_⟩; replace HO342 := Aside0.mk (Kd.R_below (by exact uR <| (Kd.R_mono (Kd.R_far (p := ⟨gb339, 1, none⟩) (Kd.R_far (p := ⟨gb339, 4, none⟩) (Kd.R_types HO342.out BK339.out (by decide)) (fun _ hk => hk.2) (.bool true)) (fun _ hk => hk.2) (.string (rdOf ByteArray.empty t340 1))) (fun _ h_ => h_.1))) hb); replace BK339 := Aside0.mk (blk_below (g := gb339) (o := .cells #[.int .i64 0, .string (rdOf ByteArray.empty t340 1), .int .i64 0, .bool false, .bool true] 48 (0, 0)) (by (with_reducible repeat (first | refine blk_drewN ?_ _ | refine blk_drew ?_ | refine blk_alloc ?_ _)); refine blk_put (cs := #[.int .i64 0, .string (⟨#[]⟩ : ByteArray), .int .i64 0, .bool false, .bool true]) ?_ 1 _ rfl; (with_reducible repeat (first | refine blk_drewN ?_ _ | refine blk_drew ?_ | refine blk_alloc ?_ _)); refine blk_put (cs := #[.int .i64 0, .string (⟨#[]⟩ : ByteArray), .int .i64 0, .bool false, .bool false]) ?_ 4 _ rfl; exact uB <| BK339.out) hb); replace HB := Aside0.mk (below_step bl hb); (try clear hb); obtain ⟨hcz33_0, hcz33_1, hcz33_2, hcz33_3, hcz33_4, hfz33_0, hfz33_1, hfz33_2, hfz33_3, hfz33_4⟩ := z5 BK339; have p347 : 0 ≤ (1 : Int) := (by omega); have q347 : 1 < (t340.length : Int) := od; obtain ⟨ad347, e347, hx347_0⟩ := Kd.at_string (Kd.R_reads' HO342.out).2.2 1 p347 q347; obtain rfl : ad343 = ad347 := (by injection e347); (try simp only [show (1 : Int).toNat = 1 from rfl, Nat.reduceMul, Nat.reduceEqDiff, Go.Addr.add, ↓reduceIte] at hx347_0); have qi347 : (1 < t340.length) = True := eq_true (by omega); (try rw [show ((1 : Int)).toNat = 1 from rfl] at hx347_0); have hn347_0 : ad343.block ≠ gb339 := Kd.own_blk (Kd.R_ne HO342.out BK339.out (by decide)); replace hx347_0 := (cell_far (p := ⟨gb339, 0, none⟩) (by first | (rw [add_block]; exact hn347_0) | (show (Addr.add _ _).block ≠ _; rw [add_block]; exact hn347_0) | exact hn347_0) (.int .i64 t345)).trans hx347_0; clear hn347_0; replace p347 := eq_true p347; replace q347 := eq_true q347) | (refine gL (some 35) rfl Tryz.func65 #[.string (rdOf ByteArray.empty t340 1)] ?_; (with_reducible refine (tag_Parse.calls (hL := ld) k (rdOf ByteArray.empty t340 1) t348 t349 _ A8.out).mono ?_); rintro e w34 ⟨v350, rfl, ho0, hb⟩; refine ⟨_, rfl, ?_⟩; replace HO342 := Aside0.mk (Kd.R_below (by exact uR <| (Kd.R_mono (Kd.R_far (p := ⟨gb339, 0, none⟩) (Kd.R_types HO342.out BK339.out (by decide)) (fun _ hk => hk.2) (.int .i64 t345)) (fun _ h_ => h_.1))) hb); have HO351 := Aside0.mk (Kd.R_lower ho0 (below_size bl)); replace BK339 := Aside0.mk (blk_below (g := gb339) (o := .cells #[.int .i64 t345, .string (rdOf ByteArray.empty t340 1), .int .i64 0, .bool false, .bool true] 48 (0, 0)) (by (with_reducible repeat (first | refine blk_drewN ?_ _ | refine blk_drew ?_ | refine blk_alloc ?_ _)); refine blk_put (cs := #[.int .i64 0, .string (rdOf ByteArray.empty t340 1), .int .i64 0, .bool false, .bool true]) ?_ 0 _ rfl; exact uB <| BK339.out) hb); replace HB := Aside0.mk (below_step bl hb); (try clear hb); (try clear ho0)))
     replace HO342 := Aside0.mk (Kd.R_drew HO342.out)
     replace HO351 := Aside0.mk (Kd.R_drew HO351.out)
     replace BK339 := Aside0.mk (blk_drew BK339.out)
     replace HB := Aside0.mk (below_drew1 HB.out)
     have p353 : 0 ≤ (1 : Int) := (by omega)
     have q353 : 1 < (t340.length : Int) := od
     obtain ⟨ad353, e353, hx353_0⟩ := Kd.at_string (Kd.R_reads' HO342.out).2.2 1 p353 q353
     obtain rfl : ad343 = ad353 := (by injection e353)
     (try simp only [show (1 : Int).toNat = 1 from rfl, Nat.reduceMul, Nat.reduceEqDiff, Go.Addr.add, ↓reduceIte] at hx353_0)
     have qi353 : (1 < t340.length) = True := eq_true (by omega)
     (try rw [show ((1 : Int)).toNat = 1 from rfl] at hx353_0)
     replace p353 := eq_true p353
     replace q353 := eq_true q353
     obtain ⟨Ao36, co36, eo36⟩ := Kd.R_slice HO351.out
     (first | subst eo36 | (injection eo36 with f1_ f2_ f3_; have f4_ := f1_.symm; have f5_ := f3_.symm; clear f1_ f2_ f3_; subst f4_; subst f5_))
     refine start_ (n := 10) (S := fun w' => w'.cell? ⟨ad343.block, ad343.off + 1, none⟩ = some (.string (rdOf ByteArray.empty t340 1))) (ds := []) _ (by kernel_rfl) rfl rfl (hx353_0) (fun hHeld => ?_); refine with_tabW diff_leaves.tab9 diff_leaves.bits9 (fun HT_ HW_ => ?_)
     generalize w34.drew = w35 at HO342 HO351 BK339 HB hx353_0 hHeld ⊢
     refine p1 0 (some 38) ?_
     refine p1 1 (some 39) ?_
     refine p1 2 (some 40) ?_
     refine p1 3 (some 41) ?_
     refine p1 5 (some 43) ?_
     refine p1 6 (some 44) ?_
     refine t1 7 (some 45) rfl rfl hHeld (Or.inl ⟨by rfl, by intro w' s0; go_simp; with_reducible rfl⟩) ?_
     refine o1 4 (some 42) rfl rfl (fun K hK => ?_)
     refine gS Tryz.func66 #[.slice Ao36 t348.length co36] ?_
     with_reducible refine (tag_Text.calls k _ _ t348 t352 _ ?side1 ?side2 A10.out).mono ?_
     (case side1 => exact uC <| (Kd.R_reads' HO351.out).2.2)
     (case side2 => exact (Kd.R_reads' HO351.out).2.1)
     rintro e w37 ⟨rfl, hb⟩
     have HS0_ := (hb.cell (World.block_lt_of_cell? _ _ (hHeld))).trans (hHeld)
     refine ⟨_, rfl, ?_⟩
     replace HO342 := cR HO342 hb
     replace HO351 := cR HO351 hb
     replace BK339 := cB BK339 hb
     replace HB := Aside0.mk (below_step bl hb)
     (try clear hb)
     refine hK.out _ _ (HS0_) (fun hHeld => ?_)
     clear hK K
     refine norm_ (a' := ?_) ?_ ?_
     rotate_left
     ·
      show Act.put _ (some 42) _ = _
      simp only [Act.put, List.setIfInBounds_toArray, List.set_cons_zero, List.set_cons_succ, i64_w, i32_w]
      rfl
     refine p1 8 (some 46) ?_
     refine p1 9 (some 47) ?_
     refine done_ (done_of HT_.out (by kernel_rfl)) ?_
     obtain ⟨hcz38_0, hcz38_1, hcz38_2, hcz38_3, hcz38_4, hfz38_0, hfz38_1, hfz38_2, hfz38_3, hfz38_4⟩ := z5 BK339
     try go_wp2_with (first | ((with_reducible refine gate_store (t := 48) (p := 2) rfl ?_); refine store_event (t := 48) (p := 2) (v := ?vo_w39) (w1 := (((((w37.setCell ⟨gb339, 0, none⟩ (.int .i64 t345)).setCell ⟨gb339, 1, none⟩ (.string (rdOf ByteArray.empty t340 1))).setCell ⟨gb339, 2, none⟩ (.int .i64 0)).setCell ⟨gb339, 3, none⟩ (.bool false)).setCell ⟨gb339, 4, none⟩ (.bool true))) ?hg ?ho ?hn ?hr ?_; (case ho => rfl); (case hg => rfl); (case hn => rfl); (case hr => first | (go_simp; done) | (go_simp; rfl)); intro w39 hw; have n0_ : Aside0 (Kd.R Kd.string 9 w39 w.heap.size (fun _ => True) (.slice (some ad343) t340.length co28) t340) := ⟨(by rw [hw]; exact (by exact uR <| Kd.R_mono (Kd.R_far (p := ⟨gb339, 4, none⟩) (Kd.R_far (p := ⟨gb339, 3, none⟩) (Kd.R_far (p := ⟨gb339, 2, none⟩) (Kd.R_far (p := ⟨gb339, 1, none⟩) (Kd.R_far (p := ⟨gb339, 0, none⟩) (Kd.R_types HO342.out BK339.out (by decide)) (fun _ hk => hk.2) (.int .i64 t345)) (fun _ hk => hk.2) (.string (rdOf ByteArray.empty t340 1))) (fun _ hk => hk.2) (.int .i64 0)) (fun _ hk => hk.2) (.bool false)) (fun _ hk => hk.2) (.bool true)) (fun _ hk => trivial)))⟩; have n1_ : Aside0 (Kd.R k98 98 w39 w.heap.size (fun _ => True) (.slice Ao36 t348.length co36) t348) := ⟨(by rw [hw]; exact (by exact uR <| Kd.R_mono (Kd.R_far (p := ⟨gb339, 4, none⟩) (Kd.R_far (p := ⟨gb339, 3, none⟩) (Kd.R_far (p := ⟨gb339, 2, none⟩) (Kd.R_far (p := ⟨gb339, 1, none⟩) (Kd.R_far (p := ⟨gb339, 0, none⟩) (Kd.R_types HO351.out BK339.out (by decide)) (fun _ hk => hk.2) (.int .i64 t345)) (fun _ hk => hk.2) (.string (rdOf ByteArray.empty t340 1))) (fun _ hk => hk.2) (.int .i64 0)) (fun _ hk => hk.2) (.bool false)) (fun _ hk => hk.2) (.bool true)) (fun _ hk => trivial)))⟩; have n2_ : Aside0 (w39.heap[gb339]? = some (.cells #[.int .i64 t345, .string (rdOf ByteArray.empty t340 1), .int .i64 0, .bool false, .bool true] 48 (0, 0))) := ⟨(by rw [hw]; exact (by (with_reducible repeat (first | refine blk_drewN ?_ _ | refine blk_drew ?_ | refine blk_alloc ?_ _)); refine blk_put (cs := #[.int .i64 t345, .string (rdOf ByteArray.empty t340 1), .int .i64 0, .bool false, .bool true]) ?_ 4 _ rfl; (with_reducible repeat (first | refine blk_drewN ?_ _ | refine blk_drew ?_ | refine blk_alloc ?_ _)); refine blk_put (cs := #[.int .i64 t345, .string (rdOf ByteArray.empty t340 1), .int .i64 0, .bool false, .bool true]) ?_ 3 _ rfl; (with_reducible repeat (first | refine blk_drewN ?_ _ | refine blk_drew ?_ | refine blk_alloc ?_ _)); refine blk_put (cs := #[.int .i64 t345, .string (rdOf ByteArray.empty t340 1), .int .i64 0, .bool false, .bool true]) ?_ 2 _ rfl; (with_reducible repeat (first | refine blk_drewN ?_ _ | refine blk_drew ?_ | refine blk_alloc ?_ _)); refine blk_put (cs := #[.int .i64 t345, .string (rdOf ByteArray.empty t340 1), .int .i64 0, .bool false, .bool true]) ?_ 1 _ rfl; (with_reducible repeat (first | refine blk_drewN ?_ _ | refine blk_drew ?_ | refine blk_alloc ?_ _)); refine blk_put (cs := #[.int .i64 t345, .string (rdOf ByteArray.empty t340 1), .int .i64 0, .bool false, .bool true]) ?_ 0 _ rfl; exact uB <| BK339.out))⟩; have n3_ : Aside0 (Below w.heap.size w w39) := ⟨(by rw [hw]; exact bl)⟩; clear hw; clear HO342; clear HO351; clear BK339; clear HB; have HO342 := n0_; have HO351 := n1_; have BK339 := n2_; have HB := n3_; clear n0_ n1_ n2_ n3_))
     refine bodyPost_ret (results_ct rfl _ _ gb339 48 #[.int .i64 t345, .string (rdOf ByteArray.empty t340 1), .int .i64 0, .bool false, .bool true] (0, 0) _ rfl (uB BK339.out) Tryz.underlying48 rfl (by kernel_rfl)) rfl ?_
     exact ⟨re_, bl⟩
   ·
    rw [if_neg c9] at H
    have c9b0 : (t349 == 0) = false := beq_eq_false_iff_ne.mpr c9
    have c9b1 : (t349 != 0) = true := bne_iff_ne.mpr c9
    simp only [Option.some.injEq, Prod.mk.injEq] at H
    obtain ⟨rfl, rfl, rfl, rfl, rfl, rfl⟩ := H
    go_enter Tryz.func58, Tryz.ntmps58
    try go_wp2_with (first | ((with_reducible refine gate_dst (N := 2) rfl ?_); refine bx (N := 2) #[.int .i64 0, .string (⟨#[]⟩ : ByteArray), .int .i64 0, .bool false, .bool false] 48 ?_; intro gb339 hg w40 hbox hb; have BK339 := Aside0.mk (hbox); have GW339 := gw hg (uW HB.out); have GE339 := GW339; replace HB := cW HB hb; clear hb hbox hg) | (refine gL (some 7) rfl Tryz.func39 #[.string a0, .int .u8 124] ?_; (with_reducible refine (word_Split.calls k a0 124 t340 _ A2.out).mono ?_); rintro e w41 ⟨v341, rfl, ho0, hb⟩; refine ⟨_, rfl, ?_⟩; have HO342 := Aside0.mk (Kd.R_lower ho0 (below_size bl)); replace BK339 := cB BK339 hb; replace HB := Aside0.mk (below_step bl hb); (try clear hb); (try clear ho0); obtain ⟨Ao42, co42, eo42⟩ := Kd.R_slice HO342.out; subst eo42))
    replace HO342 := Aside0.mk (Kd.R_drew HO342.out)
    replace BK339 := Aside0.mk (blk_drew BK339.out)
    replace HB := Aside0.mk (below_drew1 HB.out)
    have p343 : 0 ≤ (1 : Int) := (by omega)
    have q343 : 1 < (t340.length : Int) := od
    obtain ⟨ad343, e343, hx343_0⟩ := Kd.at_string (Kd.R_reads' HO342.out).2.2 1 p343 q343
    cases e343
    (try simp only [show (1 : Int).toNat = 1 from rfl, Nat.reduceMul, Nat.reduceEqDiff, Go.Addr.add, ↓reduceIte] at hx343_0)
    have qi343 : (1 < t340.length) = True := eq_true (by omega)
    (try rw [show ((1 : Int)).toNat = 1 from rfl] at hx343_0)
    replace p343 := eq_true p343
    replace q343 := eq_true q343
    refine start_ (n := 8) (S := fun w' => w'.cell? ⟨ad343.block, ad343.off + 1, none⟩ = some (.string (rdOf ByteArray.empty t340 1))) (ds := []) _ (by kernel_rfl) rfl rfl (hx343_0) (fun hHeld => ?_); refine with_tabW diff_leaves.tab4 diff_leaves.bits4 (fun HT_ HW_ => ?_)
    generalize w41.drew = w43 at HO342 BK339 HB hx343_0 hHeld ⊢
    refine p1 0 (some 12) ?_
    refine p1 1 (some 13) ?_
    refine p1 3 (some 15) ?_
    refine t1 2 (some 14) rfl rfl hHeld (Or.inl ⟨by rfl, by intro w' s0; go_simp; with_reducible rfl⟩) ?_
    refine o1 4 none rfl rfl (fun K hK => ?_)
    have hs44 : w43.cell? ⟨gb339, 4, none⟩ = some (.bool false) := (blk_cell BK339.out 4).trans rfl
    have hfs44 := blk_frozen BK339.out 4
    refine skip_ (w1 := ?_) (by rfl) rfl ?_ ?_
    rotate_left
    ·
     go_simp
     rfl
    refine hK.out _ _ (((cell_far (p := ⟨gb339, _, none⟩) (by first | exact Kd.own_blk (Kd.R_ne HO342.out BK339.out (by decide)) | (rw [add_block]; exact Kd.own_blk (Kd.R_ne HO342.out BK339.out (by decide))) | (show (Addr.add _ _).block ≠ _; rw [add_block]; exact Kd.own_blk (Kd.R_ne HO342.out BK339.out (by decide))) | (dsimp only; exact Kd.own_blk (Kd.R_ne HO342.out BK339.out (by decide)))) _).trans (hHeld))) (fun hHeld => ?_)
    clear hK K
    refine p1 5 (some 16) ?_
    refine p1 6 (some 17) ?_
    refine o1 7 none rfl rfl (fun K hK => ?_)
    have hs45 : w43.cell? ⟨gb339, 1, none⟩ = some (.string (⟨#[]⟩ : ByteArray)) := (blk_cell BK339.out 1).trans rfl
    have hfs45 := blk_frozen BK339.out 1
    refine skip_ (w1 := ?_) (by rfl) rfl ?_ ?_
    rotate_left
    ·
     go_simp
     rfl
    refine hK.out _ _ (((cell_far (p := ⟨gb339, _, none⟩) (by first | exact Kd.own_blk (Kd.R_ne HO342.out BK339.out (by decide)) | (rw [add_block]; exact Kd.own_blk (Kd.R_ne HO342.out BK339.out (by decide))) | (show (Addr.add _ _).block ≠ _; rw [add_block]; exact Kd.own_blk (Kd.R_ne HO342.out BK339.out (by decide))) | (dsimp only; exact Kd.own_blk (Kd.R_ne HO342.out BK339.out (by decide)))) _).trans (hHeld))) (fun hHeld => ?_)
    clear hK K
    refine done_ (done_of HT_.out (by kernel_rfl)) ?_
    have p344 : 0 ≤ (0 : Int) := (by omega)
    have q344 : 0 < (t340.length : Int) := od
    obtain ⟨ad344, e344, hx344_0⟩ := Kd.at_string (Kd.R_reads' HO342.out).2.2 0 p344 q344
    obtain rfl : ad343 = ad344 := (by injection e344)
    have qi344 : (0 < t340.length) = True := eq_true (by omega)
    (try rw [show ((0 : Int)).toNat = 0 from rfl] at hx344_0)
    (try rw [Addr.add_zero'] at hx344_0)
    have hn344_0 : ad343.block ≠ gb339 := Kd.own_blk (Kd.R_ne HO342.out BK339.out (by decide))
    have hn344_1 : ad343.block ≠ gb339 := Kd.own_blk (Kd.R_ne HO342.out BK339.out (by decide))
    replace hx344_0 := (cell_far (p := ⟨gb339, 4, none⟩) (by first | (rw [add_block]; exact hn344_0) | (show (Addr.add _ _).block ≠ _; rw [add_block]; exact hn344_0) | exact hn344_0) (.bool true)).trans hx344_0
    replace hx344_0 := (cell_far (p := ⟨gb339, 1, none⟩) (by first | (rw [add_block]; exact hn344_1) | (show (Addr.add _ _).block ≠ _; rw [add_block]; exact hn344_1) | exact hn344_1) (.string (rdOf ByteArray.empty t340 1))).trans hx344_0
    clear hn344_0
    clear hn344_1
    replace p344 := eq_true p344
    replace q344 := eq_true q344
    try go_wp2_with (first | (refine gL (some 22) rfl Tryz.func76 #[.string (rdOf ByteArray.empty t340 0)] ?_; (with_reducible refine (sat_Read.calls (hL := ld) (rdOf ByteArray.empty t340 0) t345 t346 _ A6.out).mono ?_); rintro e w46 ⟨rfl, hb⟩; refine ⟨_, rfl, ?_⟩; replace HO342 := Aside0.mk (Kd.R_below (by exact uR <| (Kd.R_mono (Kd.R_far (p := ⟨gb339, 1, none⟩) (Kd.R_far (p := ⟨gb339, 4, none⟩) (Kd.R_types HO342.out BK339.out (by decide)) (fun _ hk => hk.2) (.bool true)) (fun _ hk => hk.2) (.string (rdOf ByteArray.empty t340 1))) (fun _ h_ => h_.1))) hb); replace BK339 := Aside0.mk (blk_below (g := gb339) (o := .cells #[.int .i64 0, .string (rdOf ByteArray.empty t340 1), .int .i64 0, .bool false, .bool true] 48 (0, 0)) (by (with_reducible repeat (first | refine blk_drewN ?_ _ | refine blk_drew ?_ | refine blk_alloc ?_ _)); refine blk_put (cs := #[.int .i64 0, .string (⟨#[]⟩ : ByteArray), .int .i64 0, .bool false, .bool true]) ?_ 1 _ rfl; (with_reducible repeat (first | refine blk_drewN ?_ _ | refine blk_drew ?_ | refine blk_alloc ?_ _)); refine blk_put (cs := #[.int .i64 0, .string (⟨#[]⟩ : ByteArray), .int .i64 0, .bool false, .bool false]) ?_ 4 _ rfl; exact uB <| BK339.out) hb); replace HB := Aside0.mk (below_step bl hb); (try clear hb); obtain ⟨hcz47_0, hcz47_1, hcz47_2, hcz47_3, hcz47_4, hfz47_0, hfz47_1, hfz47_2, hfz47_3, hfz47_4⟩ := z5 BK339; have p347 : 0 ≤ (1 : Int) := (by omega); have q347 : 1 < (t340.length : Int) := od; obtain ⟨ad347, e347, hx347_0⟩ := Kd.at_string (Kd.R_reads' HO342.out).2.2 1 p347 q347; obtain rfl : ad343 = ad347 := (by injection e347); (try simp only [show (1 : Int).toNat = 1 from rfl, Nat.reduceMul, Nat.reduceEqDiff, Go.Addr.add, ↓reduceIte] at hx347_0); have qi347 : (1 < t340.length) = True := eq_true (by omega); (try rw [show ((1 : Int)).toNat = 1 from rfl] at hx347_0); have hn347_0 : ad343.block ≠ gb339 := Kd.own_blk (Kd.R_ne HO342.out BK339.out (by decide)); replace hx347_0 := (cell_far (p := ⟨gb339, 0, none⟩) (by first | (rw [add_block]; exact hn347_0) | (show (Addr.add _ _).block ≠ _; rw [add_block]; exact hn347_0) | exact hn347_0) (.int .i64 t345)).trans hx347_0; clear hn347_0; replace p347 := eq_true p347; replace q347 := eq_true q347) | (refine gL (some 35) rfl Tryz.func65 #[.string (rdOf ByteArray.empty t340 1)] ?_; (with_reducible refine (tag_Parse.calls (hL := ld) k (rdOf ByteArray.empty t340 1) t348 t349 _ A8.out).mono ?_); rintro e w48 ⟨v350, rfl, ho0, hb⟩; refine ⟨_, rfl, ?_⟩; replace HO342 := Aside0.mk (Kd.R_below (by exact uR <| (Kd.R_mono (Kd.R_far (p := ⟨gb339, 0, none⟩) (Kd.R_types HO342.out BK339.out (by decide)) (fun _ hk => hk.2) (.int .i64 t345)) (fun _ h_ => h_.1))) hb); have HO351 := Aside0.mk (Kd.R_lower ho0 (below_size bl)); replace BK339 := Aside0.mk (blk_below (g := gb339) (o := .cells #[.int .i64 t345, .string (rdOf ByteArray.empty t340 1), .int .i64 0, .bool false, .bool true] 48 (0, 0)) (by (with_reducible repeat (first | refine blk_drewN ?_ _ | refine blk_drew ?_ | refine blk_alloc ?_ _)); refine blk_put (cs := #[.int .i64 0, .string (rdOf ByteArray.empty t340 1), .int .i64 0, .bool false, .bool true]) ?_ 0 _ rfl; exact uB <| BK339.out) hb); replace HB := Aside0.mk (below_step bl hb); (try clear hb); (try clear ho0)))
    replace HO342 := Aside0.mk (Kd.R_drew HO342.out)
    replace HO351 := Aside0.mk (Kd.R_drew HO351.out)
    replace BK339 := Aside0.mk (blk_drew BK339.out)
    replace HB := Aside0.mk (below_drew1 HB.out)
    refine start_ (n := 10) (S := fun w' => True) (ds := []) _ (by kernel_rfl) rfl rfl trivial (fun hHeld => ?_); refine with_tabW diff_leaves.tab9 diff_leaves.bits9 (fun HT_ HW_ => ?_)
    generalize w48.drew = w49 at HO342 HO351 BK339 HB hHeld ⊢
    refine p1 0 (some 38) ?_
    refine p1 1 (some 39) ?_
    refine p1 2 (some 40) ?_
    refine p2 3 (some 41) ?_
    refine p2 4 (some 42) ?_
    refine p2 5 (some 43) ?_
    refine p2 6 (some 44) ?_
    refine p2 7 (some 45) ?_
    refine p2 8 (some 46) ?_
    refine p1 9 (some 47) ?_
    refine done_ (done_of HT_.out (by kernel_rfl)) ?_
    obtain ⟨hcz50_0, hcz50_1, hcz50_2, hcz50_3, hcz50_4, hfz50_0, hfz50_1, hfz50_2, hfz50_3, hfz50_4⟩ := z5 BK339
    try go_wp2_with (first | ((with_reducible refine gate_store (t := 48) (p := 2) rfl ?_); refine store_event (t := 48) (p := 2) (v := ?vo_w51) (w1 := (((((w49.setCell ⟨gb339, 0, none⟩ (.int .i64 t345)).setCell ⟨gb339, 1, none⟩ (.string (rdOf ByteArray.empty t340 1))).setCell ⟨gb339, 2, none⟩ (.int .i64 0)).setCell ⟨gb339, 3, none⟩ (.bool false)).setCell ⟨gb339, 4, none⟩ (.bool true))) ?hg ?ho ?hn ?hr ?_; (case ho => rfl); (case hg => rfl); (case hn => rfl); (case hr => first | (go_simp; done) | (go_simp; rfl)); intro w51 hw; have n0_ : Aside0 (Kd.R Kd.string 9 w51 w.heap.size (fun _ => True) (.slice (some ad343) t340.length co42) t340) := ⟨(by rw [hw]; exact (by exact uR <| Kd.R_mono (Kd.R_far (p := ⟨gb339, 4, none⟩) (Kd.R_far (p := ⟨gb339, 3, none⟩) (Kd.R_far (p := ⟨gb339, 2, none⟩) (Kd.R_far (p := ⟨gb339, 1, none⟩) (Kd.R_far (p := ⟨gb339, 0, none⟩) (Kd.R_types HO342.out BK339.out (by decide)) (fun _ hk => hk.2) (.int .i64 t345)) (fun _ hk => hk.2) (.string (rdOf ByteArray.empty t340 1))) (fun _ hk => hk.2) (.int .i64 0)) (fun _ hk => hk.2) (.bool false)) (fun _ hk => hk.2) (.bool true)) (fun _ hk => trivial)))⟩; have n1_ : Aside0 (Kd.R k98 98 w51 w.heap.size (fun _ => True) v350 t348) := ⟨(by rw [hw]; exact (by exact uR <| Kd.R_mono (Kd.R_far (p := ⟨gb339, 4, none⟩) (Kd.R_far (p := ⟨gb339, 3, none⟩) (Kd.R_far (p := ⟨gb339, 2, none⟩) (Kd.R_far (p := ⟨gb339, 1, none⟩) (Kd.R_far (p := ⟨gb339, 0, none⟩) (Kd.R_types HO351.out BK339.out (by decide)) (fun _ hk => hk.2) (.int .i64 t345)) (fun _ hk => hk.2) (.string (rdOf ByteArray.empty t340 1))) (fun _ hk => hk.2) (.int .i64 0)) (fun _ hk => hk.2) (.bool false)) (fun _ hk => hk.2) (.bool true)) (fun _ hk => trivial)))⟩; have n2_ : Aside0 (w51.heap[gb339]? = some (.cells #[.int .i64 t345, .string (rdOf ByteArray.empty t340 1), .int .i64 0, .bool false, .bool true] 48 (0, 0))) := ⟨(by rw [hw]; exact (by (with_reducible repeat (first | refine blk_drewN ?_ _ | refine blk_drew ?_ | refine blk_alloc ?_ _)); refine blk_put (cs := #[.int .i64 t345, .string (rdOf ByteArray.empty t340 1), .int .i64 0, .bool false, .bool true]) ?_ 4 _ rfl; (with_reducible repeat (first | refine blk_drewN ?_ _ | refine blk_drew ?_ | refine blk_alloc ?_ _)); refine blk_put (cs := #[.int .i64 t345, .string (rdOf ByteArray.empty t340 1), .int .i64 0, .bool false, .bool true]) ?_ 3 _ rfl; (with_reducible repeat (first | refine blk_drewN ?_ _ | refine blk_drew ?_ | refine blk_alloc ?_ _)); refine blk_put (cs := #[.int .i64 t345, .string (rdOf ByteArray.empty t340 1), .int .i64 0, .bool false, .bool true]) ?_ 2 _ rfl; (with_reducible repeat (first | refine blk_drewN ?_ _ | refine blk_drew ?_ | refine blk_alloc ?_ _)); refine blk_put (cs := #[.int .i64 t345, .string (rdOf ByteArray.empty t340 1), .int .i64 0, .bool false, .bool true]) ?_ 1 _ rfl; (with_reducible repeat (first | refine blk_drewN ?_ _ | refine blk_drew ?_ | refine blk_alloc ?_ _)); refine blk_put (cs := #[.int .i64 t345, .string (rdOf ByteArray.empty t340 1), .int .i64 0, .bool false, .bool true]) ?_ 0 _ rfl; exact uB <| BK339.out))⟩; have n3_ : Aside0 (Below w.heap.size w w51) := ⟨(by rw [hw]; exact bl)⟩; clear hw; clear HO342; clear HO351; clear BK339; clear HB; have HO342 := n0_; have HO351 := n1_; have BK339 := n2_; have HB := n3_; clear n0_ n1_ n2_ n3_))
    refine bodyPost_ret (results_ct rfl _ _ gb339 48 #[.int .i64 t345, .string (rdOf ByteArray.empty t340 1), .int .i64 0, .bool false, .bool true] (0, 0) _ rfl (uB BK339.out) Tryz.underlying48 rfl (by kernel_rfl)) rfl ?_
    exact ⟨re_, bl⟩
  ·
   rw [if_neg c7] at H
   have c7b0 : (t346 == 0) = false := beq_eq_false_iff_ne.mpr c7
   have c7b1 : (t346 != 0) = true := bne_iff_ne.mpr c7
   simp only [Option.some.injEq, Prod.mk.injEq] at H
   obtain ⟨rfl, rfl, rfl, rfl, rfl, rfl⟩ := H
   go_enter Tryz.func58, Tryz.ntmps58
   try go_wp2_with (first | ((with_reducible refine gate_dst (N := 2) rfl ?_); refine bx (N := 2) #[.int .i64 0, .string (⟨#[]⟩ : ByteArray), .int .i64 0, .bool false, .bool false] 48 ?_; intro gb339 hg w52 hbox hb; have BK339 := Aside0.mk (hbox); have GW339 := gw hg (uW HB.out); have GE339 := GW339; replace HB := cW HB hb; clear hb hbox hg) | (refine gL (some 7) rfl Tryz.func39 #[.string a0, .int .u8 124] ?_; (with_reducible refine (word_Split.calls k a0 124 t340 _ A2.out).mono ?_); rintro e w53 ⟨v341, rfl, ho0, hb⟩; refine ⟨_, rfl, ?_⟩; have HO342 := Aside0.mk (Kd.R_lower ho0 (below_size bl)); replace BK339 := cB BK339 hb; replace HB := Aside0.mk (below_step bl hb); (try clear hb); (try clear ho0); obtain ⟨Ao54, co54, eo54⟩ := Kd.R_slice HO342.out; subst eo54))
   replace HO342 := Aside0.mk (Kd.R_drew HO342.out)
   replace BK339 := Aside0.mk (blk_drew BK339.out)
   replace HB := Aside0.mk (below_drew1 HB.out)
   have p343 : 0 ≤ (1 : Int) := (by omega)
   have q343 : 1 < (t340.length : Int) := od
   obtain ⟨ad343, e343, hx343_0⟩ := Kd.at_string (Kd.R_reads' HO342.out).2.2 1 p343 q343
   cases e343
   (try simp only [show (1 : Int).toNat = 1 from rfl, Nat.reduceMul, Nat.reduceEqDiff, Go.Addr.add, ↓reduceIte] at hx343_0)
   have qi343 : (1 < t340.length) = True := eq_true (by omega)
   (try rw [show ((1 : Int)).toNat = 1 from rfl] at hx343_0)
   replace p343 := eq_true p343
   replace q343 := eq_true q343
   refine start_ (n := 8) (S := fun w' => w'.cell? ⟨ad343.block, ad343.off + 1, none⟩ = some (.string (rdOf ByteArray.empty t340 1))) (ds := []) _ (by kernel_rfl) rfl rfl (hx343_0) (fun hHeld => ?_); refine with_tabW diff_leaves.tab4 diff_leaves.bits4 (fun HT_ HW_ => ?_)
   generalize w53.drew = w55 at HO342 BK339 HB hx343_0 hHeld ⊢
   refine p1 0 (some 12) ?_
   refine p1 1 (some 13) ?_
   refine p1 3 (some 15) ?_
   refine t1 2 (some 14) rfl rfl hHeld (Or.inl ⟨by rfl, by intro w' s0; go_simp; with_reducible rfl⟩) ?_
   refine o1 4 none rfl rfl (fun K hK => ?_)
   have hs56 : w55.cell? ⟨gb339, 4, none⟩ = some (.bool false) := (blk_cell BK339.out 4).trans rfl
   have hfs56 := blk_frozen BK339.out 4
   refine skip_ (w1 := ?_) (by rfl) rfl ?_ ?_
   rotate_left
   ·
    go_simp
    rfl
   refine hK.out _ _ (((cell_far (p := ⟨gb339, _, none⟩) (by first | exact Kd.own_blk (Kd.R_ne HO342.out BK339.out (by decide)) | (rw [add_block]; exact Kd.own_blk (Kd.R_ne HO342.out BK339.out (by decide))) | (show (Addr.add _ _).block ≠ _; rw [add_block]; exact Kd.own_blk (Kd.R_ne HO342.out BK339.out (by decide))) | (dsimp only; exact Kd.own_blk (Kd.R_ne HO342.out BK339.out (by decide)))) _).trans (hHeld))) (fun hHeld => ?_)
   clear hK K
   refine p1 5 (some 16) ?_
   refine p1 6 (some 17) ?_
   refine o1 7 none rfl rfl (fun K hK => ?_)
   have hs57 : w55.cell? ⟨gb339, 1, none⟩ = some (.string (⟨#[]⟩ : ByteArray)) := (blk_cell BK339.out 1).trans rfl
   have hfs57 := blk_frozen BK339.out 1
   refine skip_ (w1 := ?_) (by rfl) rfl ?_ ?_
   rotate_left
   ·
    go_simp
    rfl
   refine hK.out _ _ (((cell_far (p := ⟨gb339, _, none⟩) (by first | exact Kd.own_blk (Kd.R_ne HO342.out BK339.out (by decide)) | (rw [add_block]; exact Kd.own_blk (Kd.R_ne HO342.out BK339.out (by decide))) | (show (Addr.add _ _).block ≠ _; rw [add_block]; exact Kd.own_blk (Kd.R_ne HO342.out BK339.out (by decide))) | (dsimp only; exact Kd.own_blk (Kd.R_ne HO342.out BK339.out (by decide)))) _).trans (hHeld))) (fun hHeld => ?_)
   clear hK K
   refine done_ (done_of HT_.out (by kernel_rfl)) ?_
   have p344 : 0 ≤ (0 : Int) := (by omega)
   have q344 : 0 < (t340.length : Int) := od
   obtain ⟨ad344, e344, hx344_0⟩ := Kd.at_string (Kd.R_reads' HO342.out).2.2 0 p344 q344
   obtain rfl : ad343 = ad344 := (by injection e344)
   have qi344 : (0 < t340.length) = True := eq_true (by omega)
   (try rw [show ((0 : Int)).toNat = 0 from rfl] at hx344_0)
   (try rw [Addr.add_zero'] at hx344_0)
   have hn344_0 : ad343.block ≠ gb339 := Kd.own_blk (Kd.R_ne HO342.out BK339.out (by decide))
   have hn344_1 : ad343.block ≠ gb339 := Kd.own_blk (Kd.R_ne HO342.out BK339.out (by decide))
   replace hx344_0 := (cell_far (p := ⟨gb339, 4, none⟩) (by first | (rw [add_block]; exact hn344_0) | (show (Addr.add _ _).block ≠ _; rw [add_block]; exact hn344_0) | exact hn344_0) (.bool true)).trans hx344_0
   replace hx344_0 := (cell_far (p := ⟨gb339, 1, none⟩) (by first | (rw [add_block]; exact hn344_1) | (show (Addr.add _ _).block ≠ _; rw [add_block]; exact hn344_1) | exact hn344_1) (.string (rdOf ByteArray.empty t340 1))).trans hx344_0
   clear hn344_0
   clear hn344_1
   replace p344 := eq_true p344
   replace q344 := eq_true q344
   try go_wp2_with (first | (refine gL (some 22) rfl Tryz.func76 #[.string (rdOf ByteArray.empty t340 0)] ?_; (with_reducible refine (sat_Read.calls (hL := ld) (rdOf ByteArray.empty t340 0) t345 t346 _ A6.out).mono ?_); rintro e w58 ⟨rfl, hb⟩; refine ⟨_, rfl, ?_⟩; replace HO342 := Aside0.mk (Kd.R_below (by exact uR <| (Kd.R_mono (Kd.R_far (p := ⟨gb339, 1, none⟩) (Kd.R_far (p := ⟨gb339, 4, none⟩) (Kd.R_types HO342.out BK339.out (by decide)) (fun _ hk => hk.2) (.bool true)) (fun _ hk => hk.2) (.string (rdOf ByteArray.empty t340 1))) (fun _ h_ => h_.1))) hb); replace BK339 := Aside0.mk (blk_below (g := gb339) (o := .cells #[.int .i64 0, .string (rdOf ByteArray.empty t340 1), .int .i64 0, .bool false, .bool true] 48 (0, 0)) (by (with_reducible repeat (first | refine blk_drewN ?_ _ | refine blk_drew ?_ | refine blk_alloc ?_ _)); refine blk_put (cs := #[.int .i64 0, .string (⟨#[]⟩ : ByteArray), .int .i64 0, .bool false, .bool true]) ?_ 1 _ rfl; (with_reducible repeat (first | refine blk_drewN ?_ _ | refine blk_drew ?_ | refine blk_alloc ?_ _)); refine blk_put (cs := #[.int .i64 0, .string (⟨#[]⟩ : ByteArray), .int .i64 0, .bool false, .bool false]) ?_ 4 _ rfl; exact uB <| BK339.out) hb); replace HB := Aside0.mk (below_step bl hb); (try clear hb); obtain ⟨hcz59_0, hcz59_1, hcz59_2, hcz59_3, hcz59_4, hfz59_0, hfz59_1, hfz59_2, hfz59_3, hfz59_4⟩ := z5 BK339) | ((with_reducible refine gate_store (t := 48) (p := 2) rfl ?_); refine store_event (t := 48) (p := 2) (v := ?vo_w60) (w1 := ((((((w58.setCell ⟨gb339, 0, none⟩ (.int .i64 t345)).setCell ⟨gb339, 0, none⟩ (.int .i64 t345)).setCell ⟨gb339, 1, none⟩ (.string (rdOf ByteArray.empty t340 1))).setCell ⟨gb339, 2, none⟩ (.int .i64 0)).setCell ⟨gb339, 3, none⟩ (.bool false)).setCell ⟨gb339, 4, none⟩ (.bool true))) ?hg ?ho ?hn ?hr ?_; (case ho => rfl); (case hg => rfl); (case hn => rfl); (case hr => first | (go_simp; done) | (go_simp; rfl)); intro w60 hw; have n0_ : Aside0 (Kd.R Kd.string 9 w60 w.heap.size (fun _ => True) (.slice (some ad343) t340.length co54) t340) := ⟨(by rw [hw]; exact (by exact uR <| Kd.R_mono (Kd.R_far (p := ⟨gb339, 4, none⟩) (Kd.R_far (p := ⟨gb339, 3, none⟩) (Kd.R_far (p := ⟨gb339, 2, none⟩) (Kd.R_far (p := ⟨gb339, 1, none⟩) (Kd.R_far (p := ⟨gb339, 0, none⟩) (Kd.R_far (p := ⟨gb339, 0, none⟩) (Kd.R_types HO342.out BK339.out (by decide)) (fun _ hk => hk.2) (.int .i64 t345)) (fun _ hk => hk.2) (.int .i64 t345)) (fun _ hk => hk.2) (.string (rdOf ByteArray.empty t340 1))) (fun _ hk => hk.2) (.int .i64 0)) (fun _ hk => hk.2) (.bool false)) (fun _ hk => hk.2) (.bool true)) (fun _ hk => trivial)))⟩; have n1_ : Aside0 (w60.heap[gb339]? = some (.cells #[.int .i64 t345, .string (rdOf ByteArray.empty t340 1), .int .i64 0, .bool false, .bool true] 48 (0, 0))) := ⟨(by rw [hw]; exact (by (with_reducible repeat (first | refine blk_drewN ?_ _ | refine blk_drew ?_ | refine blk_alloc ?_ _)); refine blk_put (cs := #[.int .i64 t345, .string (rdOf ByteArray.empty t340 1), .int .i64 0, .bool false, .bool true]) ?_ 4 _ rfl; (with_reducible repeat (first | refine blk_drewN ?_ _ | refine blk_drew ?_ | refine blk_alloc ?_ _)); refine blk_put (cs := #[.int .i64 t345, .string (rdOf ByteArray.empty t340 1), .int .i64 0, .bool false, .bool true]) ?_ 3 _ rfl; (with_reducible repeat (first | refine blk_drewN ?_ _ | refine blk_drew ?_ | refine blk_alloc ?_ _)); refine blk_put (cs := #[.int .i64 t345, .string (rdOf ByteArray.empty t340 1), .int .i64 0, .bool false, .bool true]) ?_ 2 _ rfl; (with_reducible repeat (first | refine blk_drewN ?_ _ | refine blk_drew ?_ | refine blk_alloc ?_ _)); refine blk_put (cs := #[.int .i64 t345, .string (rdOf ByteArray.empty t340 1), .int .i64 0, .bool false, .bool true]) ?_ 1 _ rfl; (with_reducible repeat (first | refine blk_drewN ?_ _ | refine blk_drew ?_ | refine blk_alloc ?_ _)); refine blk_put (cs := #[.int .i64 t345, .string (rdOf ByteArray.empty t340 1), .int .i64 0, .bool false, .bool true]) ?_ 0 _ rfl; (with_reducible repeat (first | refine blk_drewN ?_ _ | refine blk_drew ?_ | refine blk_alloc ?_ _)); refine blk_put (cs := #[.int .i64 0, .string (rdOf ByteArray.empty t340 1), .int .i64 0, .bool false, .bool true]) ?_ 0 _ rfl; exact uB <| BK339.out))⟩; have n2_ : Aside0 (Below w.heap.size w w60) := ⟨(by rw [hw]; exact bl)⟩; clear hw; clear HO342; clear BK339; clear HB; have HO342 := n0_; have BK339 := n1_; have HB := n2_; clear n0_ n1_ n2_))
   refine bodyPost_ret (results_ct rfl _ _ gb339 48 #[.int .i64 t345, .string (rdOf ByteArray.empty t340 1), .int .i64 0, .bool false, .bool true] (0, 0) _ rfl (uB BK339.out) Tryz.underlying48 rfl (by kernel_rfl)) rfl ?_
   exact ⟨re_, bl⟩
 ·
  rw [if_neg c3] at H
  have c3b0 : ((t340.length : Int) == 2) = false := beq_eq_false_iff_ne.mpr c3
  have c3b1 : ((t340.length : Int) != 2) = true := bne_iff_ne.mpr c3
  simp only [Option.some.injEq, Prod.mk.injEq] at H
  obtain ⟨rfl, rfl, rfl, rfl, rfl, rfl⟩ := H
  go_enter Tryz.func58, Tryz.ntmps58
  go_wp2_with (first | ((with_reducible refine gate_dst (N := 2) rfl ?_); refine bx (N := 2) #[.int .i64 0, .string (⟨#[]⟩ : ByteArray), .int .i64 0, .bool false, .bool false] 48 ?_; intro gb339 hg w61 hbox hb; have BK339 := Aside0.mk (hbox); have GW339 := gw hg (uW HB.out); have GE339 := GW339; replace HB := cW HB hb; clear hb hbox hg) | (refine gL (some 7) rfl Tryz.func39 #[.string a0, .int .u8 124] ?_; (with_reducible refine (word_Split.calls k a0 124 t340 _ A2.out).mono ?_); rintro e w62 ⟨v341, rfl, ho0, hb⟩; refine ⟨_, rfl, ?_⟩; have HO342 := Aside0.mk (Kd.R_lower ho0 (below_size bl)); replace BK339 := cB BK339 hb; replace HB := Aside0.mk (below_step bl hb); (try clear hb); (try clear ho0); obtain ⟨Ao63, co63, eo63⟩ := Kd.R_slice HO342.out; subst eo63; obtain ⟨hcz64_0, hcz64_1, hcz64_2, hcz64_3, hcz64_4, hfz64_0, hfz64_1, hfz64_2, hfz64_3, hfz64_4⟩ := z5 BK339) | ((with_reducible refine gate_store (t := 48) (p := 2) rfl ?_); refine store_event (t := 48) (p := 2) (v := ?vo_w65) (w1 := (((((w62.setCell ⟨gb339, 0, none⟩ (.int .i64 0)).setCell ⟨gb339, 1, none⟩ (.string (⟨#[]⟩ : ByteArray))).setCell ⟨gb339, 2, none⟩ (.int .i64 0)).setCell ⟨gb339, 3, none⟩ (.bool false)).setCell ⟨gb339, 4, none⟩ (.bool false))) ?hg ?ho ?hn ?hr ?_; (case ho => rfl); (case hg => rfl); (case hn => rfl); (case hr => first | (go_simp; done) | (go_simp; rfl)); intro w65 hw; have n0_ : Aside0 (Kd.R Kd.string 9 w65 w.heap.size (fun _ => True) (.slice Ao63 t340.length co63) t340) := ⟨(by rw [hw]; exact (by exact uR <| Kd.R_mono (Kd.R_far (p := ⟨gb339, 4, none⟩) (Kd.R_far (p := ⟨gb339, 3, none⟩) (Kd.R_far (p := ⟨gb339, 2, none⟩) (Kd.R_far (p := ⟨gb339, 1, none⟩) (Kd.R_far (p := ⟨gb339, 0, none⟩) (Kd.R_types HO342.out BK339.out (by decide)) (fun _ hk => hk.2) (.int .i64 0)) (fun _ hk => hk.2) (.string (⟨#[]⟩ : ByteArray))) (fun _ hk => hk.2) (.int .i64 0)) (fun _ hk => hk.2) (.bool false)) (fun _ hk => hk.2) (.bool false)) (fun _ hk => trivial)))⟩; have n1_ : Aside0 (w65.heap[gb339]? = some (.cells #[.int .i64 0, .string (⟨#[]⟩ : ByteArray), .int .i64 0, .bool false, .bool false] 48 (0, 0))) := ⟨(by rw [hw]; exact (by (with_reducible repeat (first | refine blk_drewN ?_ _ | refine blk_drew ?_ | refine blk_alloc ?_ _)); refine blk_put (cs := #[.int .i64 0, .string (⟨#[]⟩ : ByteArray), .int .i64 0, .bool false, .bool false]) ?_ 4 _ rfl; (with_reducible repeat (first | refine blk_drewN ?_ _ | refine blk_drew ?_ | refine blk_alloc ?_ _)); refine blk_put (cs := #[.int .i64 0, .string (⟨#[]⟩ : ByteArray), .int .i64 0, .bool false, .bool false]) ?_ 3 _ rfl; (with_reducible repeat (first | refine blk_drewN ?_ _ | refine blk_drew ?_ | refine blk_alloc ?_ _)); refine blk_put (cs := #[.int .i64 0, .string (⟨#[]⟩ : ByteArray), .int .i64 0, .bool false, .bool false]) ?_ 2 _ rfl; (with_reducible repeat (first | refine blk_drewN ?_ _ | refine blk_drew ?_ | refine blk_alloc ?_ _)); refine blk_put (cs := #[.int .i64 0, .string (⟨#[]⟩ : ByteArray), .int .i64 0, .bool false, .bool false]) ?_ 1 _ rfl; (with_reducible repeat (first | refine blk_drewN ?_ _ | refine blk_drew ?_ | refine blk_alloc ?_ _)); refine blk_put (cs := #[.int .i64 0, .string (⟨#[]⟩ : ByteArray), .int .i64 0, .bool false, .bool false]) ?_ 0 _ rfl; exact uB <| BK339.out))⟩; have n2_ : Aside0 (Below w.heap.size w w65) := ⟨(by rw [hw]; exact bl)⟩; clear hw; clear HO342; clear BK339; clear HB; have HO342 := n0_; have BK339 := n1_; have HB := n2_; clear n0_ n1_ n2_))
  refine bodyPost_ret (results_ct rfl _ _ gb339 48 #[.int .i64 0, .string (⟨#[]⟩ : ByteArray), .int .i64 0, .bool false, .bool false] (0, 0) _ rfl (uB BK339.out) Tryz.underlying48 rfl (by kernel_rfl)) rfl ?_
  exact ⟨re_, bl⟩
def stringslite_HasSuffix.f (a0 : ByteArray) (a1 : ByteArray) : Option (Bool) := if (a0.size : Int) ≥ (a1.size : Int) then (if 0 ≤ (wrap64 ((a0.size : Int) - (a1.size : Int))) then (if (wrap64 ((a0.size : Int) - (a1.size : Int))) ≤ (a0.size : Int) then (some ((a0.extract ((wrap64 ((a0.size : Int) - (a1.size : Int))) : Int).toNat a0.size).toList == a1.toList)) else (none)) else (none)) else (some false)
theorem stringslite_HasSuffix.calls (a0 : ByteArray) (a1 : ByteArray) (r : Bool) (w : World) (h : stringslite_HasSuffix.f a0 a1 = some r) :
 Calls Tryz.prog 163 #[.string a0, .string a1] w fun e w' => e = .returned (.bool r) ∧ Drawn0 w w' := by
 have H : (if (a0.size : Int) ≥ (a1.size : Int) then (if 0 ≤ (wrap64 ((a0.size : Int) - (a1.size : Int))) then (if (wrap64 ((a0.size : Int) - (a1.size : Int))) ≤ (a0.size : Int) then (some ((a0.extract ((wrap64 ((a0.size : Int) - (a1.size : Int))) : Int).toNat a0.size).toList == a1.toList)) else (none)) else (none)) else (some false)) = some r := h
 clear h
 by_cases c3 : (a0.size : Int) ≥ (a1.size : Int)
 ·
  rw [if_pos c3] at H
  have c3b0 : decide ((a1.size : Int) ≤ (a0.size : Int)) = true := decide_eq_true c3
  have c3b1 : decide (a1.size ≤ a0.size) = true := decide_eq_true (Int.ofNat_le.mp c3)
  clear c3
  obtain ⟨ji4, hji4⟩ : ∃ j_ : Int, (wrap64 ((a0.size : Int) - (a1.size : Int))) = j_ := ⟨_, rfl⟩
  (first | rw [hji4] at H | simp only [hji4] at H)
  have hji4w : (IntKind.i64.wrap ((a0.size : Int) - (a1.size : Int))) = ji4 := (i64_w _).trans hji4
  obtain ⟨c5, H⟩ := gd H
  have c5b0 := eq_true c5
  have c5b1 : decide (0 ≤ (ji4)) = true := decide_eq_true c5
  clear c5
  obtain ⟨c6, H⟩ := gd H
  have c6b0 := eq_true c6
  have c6b1 : decide ((ji4) ≤ (a0.size : Int)) = true := decide_eq_true c6
  clear c6
  obtain rfl := Option.some.inj H
  go_enter Tryz.func163, Tryz.ntmps163
  go_wp2
  go_ret
  exact ⟨by first | rfl | (simp; done) | (simp only [← hji4] <;> (first | rfl | simp)) | (simp [*]; done), dr_⟩
 ·
  rw [if_neg c3] at H
  have c3b0 : decide ((a1.size : Int) ≤ (a0.size : Int)) = false := decide_eq_false c3
  have c3b1 : decide (a1.size ≤ a0.size) = false := decide_eq_false (fun h => c3 (Int.ofNat_le.mpr h))
  clear c3
  obtain rfl := Option.some.inj H
  go_enter Tryz.func163, Tryz.ntmps163
  go_wp2
  go_ret
  exact ⟨rs_, dr_⟩
def stringslite_TrimSuffix.f (a0 : ByteArray) (a1 : ByteArray) : Option (ByteArray) := (stringslite_HasSuffix.f a0 a1).bind fun t354 => (if t354 = true then (if 0 ≤ (wrap64 ((a0.size : Int) - (a1.size : Int))) then (if (wrap64 ((a0.size : Int) - (a1.size : Int))) ≤ (a0.size : Int) then (some (a0.extract 0 ((wrap64 ((a0.size : Int) - (a1.size : Int))) : Int).toNat)) else (none)) else (none)) else (some a0))
theorem stringslite_TrimSuffix.calls (a0 : ByteArray) (a1 : ByteArray) (r : ByteArray) (w : World) (h : stringslite_TrimSuffix.f a0 a1 = some r) :
 Calls Tryz.prog 138 #[.string a0, .string a1] w fun e w' => e = .returned (.string r) ∧ Drawn0 w w' := by
 have H : ((stringslite_HasSuffix.f a0 a1).bind fun t354 => (if t354 = true then (if 0 ≤ (wrap64 ((a0.size : Int) - (a1.size : Int))) then (if (wrap64 ((a0.size : Int) - (a1.size : Int))) ≤ (a0.size : Int) then (some (a0.extract 0 ((wrap64 ((a0.size : Int) - (a1.size : Int))) : Int).toNat)) else (none)) else (none)) else (some a0))) = some r := h
 clear h
 obtain ⟨t354, A3, H⟩ := bs H
 try dsimp only at H
 by_cases c4 : t354 = true
 ·
  subst c4
  rw [if_pos rfl] at H
  obtain ⟨ji5, hji5⟩ : ∃ j_ : Int, (wrap64 ((a0.size : Int) - (a1.size : Int))) = j_ := ⟨_, rfl⟩
  (first | rw [hji5] at H | simp only [hji5] at H)
  (try rw [hji5] at A3)
  have hji5w : (IntKind.i64.wrap ((a0.size : Int) - (a1.size : Int))) = ji5 := (i64_w _).trans hji5
  obtain ⟨c6, H⟩ := gd H
  have c6b0 := eq_true c6
  have c6b1 : decide (0 ≤ (ji5)) = true := decide_eq_true c6
  clear c6
  obtain ⟨c7, H⟩ := gd H
  have c7b0 := eq_true c7
  have c7b1 : decide ((ji5) ≤ (a0.size : Int)) = true := decide_eq_true c7
  clear c7
  obtain rfl := Option.some.inj H
  go_enter Tryz.func138, Tryz.ntmps138
  go_wp2_with (first | (refine gL (some 7) rfl Tryz.func163 #[.string a0, .string a1] ?_; (with_reducible refine (stringslite_HasSuffix.calls a0 a1 true _ A3.out).mono ?_); rintro e w' ⟨rfl, ⟨nd, rfl⟩⟩; refine ⟨_, rfl, ?_⟩))
  go_ret
  exact ⟨by first | rfl | (simp; done) | (simp only [← hji5] <;> (first | rfl | simp)) | (simp [*]; done), dr_⟩
 ·
  replace c4 := Bool.eq_false_iff.mpr c4
  subst c4
  rw [if_neg (show ¬ (false = true) by decide)] at H
  obtain rfl := Option.some.inj H
  go_enter Tryz.func138, Tryz.ntmps138
  go_wp2_with (first | (refine gL (some 7) rfl Tryz.func163 #[.string a0, .string a1] ?_; (with_reducible refine (stringslite_HasSuffix.calls a0 a1 false _ A3.out).mono ?_); rintro e w' ⟨rfl, ⟨nd, rfl⟩⟩; refine ⟨_, rfl, ?_⟩))
  go_ret
  exact ⟨rs_, dr_⟩
def strings_TrimSuffix.f (a0 : ByteArray) (a1 : ByteArray) : Option (ByteArray) := (stringslite_TrimSuffix.f a0 a1).bind fun t355 => (some t355)
theorem strings_TrimSuffix.calls (a0 : ByteArray) (a1 : ByteArray) (r : ByteArray) (w : World) (h : strings_TrimSuffix.f a0 a1 = some r) :
 Calls Tryz.prog 115 #[.string a0, .string a1] w fun e w' => e = .returned (.string r) ∧ Drawn0 w w' := by
 have H : ((stringslite_TrimSuffix.f a0 a1).bind fun t355 => (some t355)) = some r := h
 clear h
 obtain ⟨t355, A3, H⟩ := bs H
 try dsimp only at H
 obtain rfl := Option.some.inj H
 go_enter Tryz.func115, Tryz.ntmps115
 go_wp2_with (first | (refine gL (some 7) rfl Tryz.func138 #[.string a0, .string a1] ?_; (with_reducible refine (stringslite_TrimSuffix.calls a0 a1 t355 _ A3.out).mono ?_); rintro e w' ⟨rfl, ⟨nd, rfl⟩⟩; refine ⟨_, rfl, ?_⟩))
 go_ret
 exact ⟨rs_, dr_⟩
def sat_Parse.f (a0 : ByteArray) : Option (Int × Bool × Int) := (strings_TrimSuffix.f a0 (⟨#[33]⟩ : ByteArray)).bind fun t357 => ((sat_Read.f t357).bind fun bt358 => (if bt358.2 = 0 then (some (bt358.1, (t357.toList != a0.toList), 0)) else (some (0, false, bt358.2))))
theorem sat_Parse.calls (a0 : ByteArray) (r1 : Int) (r2 : Bool) (r3 : Int) (w : World) (hL : LD w) (h : sat_Parse.f a0 = some (r1, r2, r3)) :
 Calls Tryz.prog 94 #[.string a0] w fun e w' => e = .returned (.tuple #[.agg #[.int .i64 r1, .bool r2], .int .i64 r3]) ∧ Below w.heap.size w w' := by
 have HL0 := Aside0.mk hL
 clear hL
 have hu43 := Tryz.underlying43
 have HB := Aside0.mk (Below.refl w.heap.size w)
 have H : ((strings_TrimSuffix.f a0 (⟨#[33]⟩ : ByteArray)).bind fun t357 => ((sat_Read.f t357).bind fun bt358 => (if bt358.2 = 0 then (some (bt358.1, (t357.toList != a0.toList), 0)) else (some (0, false, bt358.2))))) = some (r1, r2, r3) := h
 clear h
 obtain ⟨t357, A2, H⟩ := bs H
 try dsimp only at H
 obtain ⟨⟨t358, t359⟩, A3, H⟩ := bs H
 try dsimp only at H
 by_cases c4 : t359 = 0
 ·
  rw [if_pos c4] at H
  have c4b0 : (t359 == 0) = true := beq_iff_eq.mpr c4
  have c4b1 : (t359 != 0) = false := bne_eq_false_iff_eq.mpr c4
  clear c4
  simp only [Option.some.injEq, Prod.mk.injEq] at H
  obtain ⟨rfl, rfl, rfl⟩ := H
  go_enter Tryz.func94, Tryz.ntmps94
  go_wp2_with (first | ((with_reducible refine gate_dst (N := 2) rfl ?_); refine bx (N := 2) #[.int .i64 0, .bool false] 43 ?_; intro gb356 hg w5 hbox hb; have BK356 := Aside0.mk (hbox); have GW356 := gw hg (uW HB.out); have GE356 := GW356; replace HB := cW HB hb; clear hb hbox hg) | (refine gL (some 8) rfl Tryz.func115 #[.string a0, .string (⟨#[33]⟩ : ByteArray)] ?_; (with_reducible refine (strings_TrimSuffix.calls a0 (⟨#[33]⟩ : ByteArray) t357 _ A2.out).mono ?_); rintro e w' ⟨rfl, ⟨nd, rfl⟩⟩; refine ⟨_, rfl, ?_⟩; (try (rw [drewN_self w5]; generalize hq_ : World.drewN w5 _ = w5; have n0_ : Aside0 (w5.heap[gb356]? = some (.cells #[.int .i64 0, .bool false] 43 (0, 0))) := ⟨by rw [← hq_]; exact (uB BK356.out)⟩; have n1_ : Aside0 (Below w.heap.size w w5) := ⟨by rw [← hq_]; exact bl⟩; clear BK356 HB hq_; have BK356 := n0_; have HB := n1_; clear n0_ n1_))) | (refine gL (some 11) rfl Tryz.func76 #[.string t357] ?_; (with_reducible refine (sat_Read.calls (hL := ld) t357 t358 t359 _ A3.out).mono ?_); rintro e w6 ⟨rfl, hb⟩; refine ⟨_, rfl, ?_⟩; replace BK356 := cB BK356 hb; replace HB := Aside0.mk (below_step bl hb); (try clear hb); obtain ⟨hcz7_0, hcz7_1, hfz7_0, hfz7_1⟩ := z2 BK356))
  refine bodyPost_ret (results_ct rfl _ _ gb356 43 #[.int .i64 t358, .bool (t357.toList != a0.toList)] (0, 0) _ rfl (by (with_reducible repeat (first | refine blk_drewN ?_ _ | refine blk_drew ?_ | refine blk_alloc ?_ _)); refine blk_put (cs := #[.int .i64 t358, .bool false]) ?_ 1 _ rfl; (with_reducible repeat (first | refine blk_drewN ?_ _ | refine blk_drew ?_ | refine blk_alloc ?_ _)); refine blk_put (cs := #[.int .i64 0, .bool false]) ?_ 0 _ rfl; exact uB <| BK356.out) Tryz.underlying43 rfl (by kernel_rfl)) rfl ?_
  exact ⟨re_, bl⟩
 ·
  rw [if_neg c4] at H
  have c4b0 : (t359 == 0) = false := beq_eq_false_iff_ne.mpr c4
  have c4b1 : (t359 != 0) = true := bne_iff_ne.mpr c4
  simp only [Option.some.injEq, Prod.mk.injEq] at H
  obtain ⟨rfl, rfl, rfl⟩ := H
  go_enter Tryz.func94, Tryz.ntmps94
  go_wp2_with (first | ((with_reducible refine gate_dst (N := 2) rfl ?_); refine bx (N := 2) #[.int .i64 0, .bool false] 43 ?_; intro gb356 hg w8 hbox hb; have BK356 := Aside0.mk (hbox); have GW356 := gw hg (uW HB.out); have GE356 := GW356; replace HB := cW HB hb; clear hb hbox hg) | (refine gL (some 8) rfl Tryz.func115 #[.string a0, .string (⟨#[33]⟩ : ByteArray)] ?_; (with_reducible refine (strings_TrimSuffix.calls a0 (⟨#[33]⟩ : ByteArray) t357 _ A2.out).mono ?_); rintro e w' ⟨rfl, ⟨nd, rfl⟩⟩; refine ⟨_, rfl, ?_⟩; (try (rw [drewN_self w8]; generalize hq_ : World.drewN w8 _ = w8; have n0_ : Aside0 (w8.heap[gb356]? = some (.cells #[.int .i64 0, .bool false] 43 (0, 0))) := ⟨by rw [← hq_]; exact (uB BK356.out)⟩; have n1_ : Aside0 (Below w.heap.size w w8) := ⟨by rw [← hq_]; exact bl⟩; clear BK356 HB hq_; have BK356 := n0_; have HB := n1_; clear n0_ n1_))) | (refine gL (some 11) rfl Tryz.func76 #[.string t357] ?_; (with_reducible refine (sat_Read.calls (hL := ld) t357 t358 t359 _ A3.out).mono ?_); rintro e w9 ⟨rfl, hb⟩; refine ⟨_, rfl, ?_⟩; replace BK356 := cB BK356 hb; replace HB := Aside0.mk (below_step bl hb); (try clear hb); obtain ⟨hcz10_0, hcz10_1, hfz10_0, hfz10_1⟩ := z2 BK356))
  refine bodyPost_ret (results_ct rfl _ _ gb356 43 #[.int .i64 0, .bool false] (0, 0) _ rfl (by (with_reducible repeat (first | refine blk_drewN ?_ _ | refine blk_drew ?_ | refine blk_alloc ?_ _)); refine blk_put (cs := #[.int .i64 0, .bool false]) ?_ 1 _ rfl; (with_reducible repeat (first | refine blk_drewN ?_ _ | refine blk_drew ?_ | refine blk_alloc ?_ _)); refine blk_put (cs := #[.int .i64 0, .bool false]) ?_ 0 _ rfl; exact uB <| BK356.out) Tryz.underlying43 rfl (by kernel_rfl)) rfl ?_
  exact ⟨re_, bl⟩
def row_one.f (k : Nat) (a0 : ByteArray) : Option (Int × ByteArray × Int × Bool × Int) := (word_Split.f k a0 124).bind fun t361 => (if (t361.length : Int) = 3 then (if 0 < (t361.length : Int) then ((sat_Read.f (rdOf ByteArray.empty t361 0)).bind fun bt365 => (if bt365.2 = 0 then (if 1 < (t361.length : Int) then ((row_group.f k (rdOf ByteArray.empty t361 1)).bind fun t368 => (if t368 = 0 then (if 2 < (t361.length : Int) then ((sat_Parse.f (rdOf ByteArray.empty t361 2)).bind fun bt371 => (some (bt365.1, rdOf ByteArray.empty t361 1, bt371.1, bt371.2.1, bt371.2.2))) else (none)) else (some (bt365.1, (⟨#[]⟩ : ByteArray), 0, false, t368)))) else (none)) else (some (bt365.1, (⟨#[]⟩ : ByteArray), 0, false, bt365.2)))) else (none)) else (some (0, (⟨#[]⟩ : ByteArray), 0, false, 2)))
theorem row_one.mono : ∀ a0 k, LeO (row_one.f k a0) (row_one.f (k + 1) a0) := by
 intro a0 k
 unfold row_one.f
 exact lo
instance row_one.mI {a0 k} : LeC (row_one.f k a0) (row_one.f (k + 1) a0) := ⟨row_one.mono _ _⟩
theorem row_one.calls (k : Nat) (a0 : ByteArray) (r1 : Int) (r2 : ByteArray) (r3 : Int) (r4 : Bool) (r5 : Int) (w : World) (hL : LD w) (h : row_one.f k a0 = some (r1, r2, r3, r4, r5)) :
 Calls Tryz.prog 77 #[.string a0] w fun e w' => e = .returned (.tuple #[.agg #[.int .i64 r1, .string r2, .int .i64 r3, .bool r4], .int .i64 r5]) ∧ Below w.heap.size w w' := by
 have HL0 := Aside0.mk hL
 clear hL
 have hu45 := Tryz.underlying45
 have hu43 := Tryz.underlying43
 have HB := Aside0.mk (Below.refl w.heap.size w)
 have H : ((word_Split.f k a0 124).bind fun t361 => (if (t361.length : Int) = 3 then (if 0 < (t361.length : Int) then ((sat_Read.f (rdOf ByteArray.empty t361 0)).bind fun bt365 => (if bt365.2 = 0 then (if 1 < (t361.length : Int) then ((row_group.f k (rdOf ByteArray.empty t361 1)).bind fun t368 => (if t368 = 0 then (if 2 < (t361.length : Int) then ((sat_Parse.f (rdOf ByteArray.empty t361 2)).bind fun bt371 => (some (bt365.1, rdOf ByteArray.empty t361 1, bt371.1, bt371.2.1, bt371.2.2))) else (none)) else (some (bt365.1, (⟨#[]⟩ : ByteArray), 0, false, t368)))) else (none)) else (some (bt365.1, (⟨#[]⟩ : ByteArray), 0, false, bt365.2)))) else (none)) else (some (0, (⟨#[]⟩ : ByteArray), 0, false, 2)))) = some (r1, r2, r3, r4, r5) := h
 clear h
 obtain ⟨t361, A2, H⟩ := bs H
 try dsimp only at H
 by_cases c3 : (t361.length : Int) = 3
 ·
  rw [if_pos c3] at H
  have c3b0 : ((t361.length : Int) == 3) = true := beq_iff_eq.mpr c3
  have c3b1 : ((t361.length : Int) != 3) = false := bne_eq_false_iff_eq.mpr c3
  clear c3
  obtain ⟨c4, H⟩ := gd H
  have c4b0 : decide (0 < (t361.length : Int)) = true := decide_eq_true c4
  have c4b1 : decide (0 < t361.length) = true := decide_eq_true (by omega)
  clear c4
  obtain ⟨⟨t365, t366⟩, A5, H⟩ := bs H
  try dsimp only at H
  by_cases c6 : t366 = 0
  ·
   rw [if_pos c6] at H
   have c6b0 : (t366 == 0) = true := beq_iff_eq.mpr c6
   have c6b1 : (t366 != 0) = false := bne_eq_false_iff_eq.mpr c6
   clear c6
   obtain ⟨c7, H⟩ := gd H
   have c7b0 : decide (1 < (t361.length : Int)) = true := decide_eq_true c7
   have c7b1 : decide (1 < t361.length) = true := decide_eq_true (by omega)
   clear c7
   obtain ⟨t368, A8, H⟩ := bs H
   try dsimp only at H
   by_cases c9 : t368 = 0
   ·
    rw [if_pos c9] at H
    have c9b0 : (t368 == 0) = true := beq_iff_eq.mpr c9
    have c9b1 : (t368 != 0) = false := bne_eq_false_iff_eq.mpr c9
    clear c9
    obtain ⟨c10, H⟩ := gd H
    have c10b0 : decide (2 < (t361.length : Int)) = true := decide_eq_true c10
    have c10b1 : decide (2 < t361.length) = true := decide_eq_true (by omega)
    clear c10
    obtain ⟨⟨t371, t372, t373⟩, A11, H⟩ := bs H
    try dsimp only at H
    simp only [Option.some.injEq, Prod.mk.injEq] at H
    obtain ⟨rfl, rfl, rfl, rfl, rfl⟩ := H
    go_enter Tryz.func77, Tryz.ntmps77
    go_wp2_with (first | ((with_reducible refine gate_dst (N := 2) rfl ?_); refine bx (N := 2) #[.int .i64 0, .string (⟨#[]⟩ : ByteArray), .int .i64 0, .bool false] 45 ?_; intro gb360 hg w12 hbox hb; have BK360 := Aside0.mk (hbox); have GW360 := gw hg (uW HB.out); have GE360 := GW360; replace HB := cW HB hb; clear hb hbox hg) | (refine gL (some 6) rfl Tryz.func39 #[.string a0, .int .u8 124] ?_; (with_reducible refine (word_Split.calls k a0 124 t361 _ A2.out).mono ?_); rintro e w13 ⟨v362, rfl, ho0, hb⟩; refine ⟨_, rfl, ?_⟩; have HO363 := Aside0.mk (Kd.R_lower ho0 (below_size bl)); replace BK360 := cB BK360 hb; replace HB := Aside0.mk (below_step bl hb); (try clear hb); (try clear ho0); obtain ⟨Ao14, co14, eo14⟩ := Kd.R_slice HO363.out; subst eo14; have p364 : 0 ≤ (0 : Int) := (by omega); have q364 : 0 < (t361.length : Int) := od; obtain ⟨ad364, e364, hx364_0⟩ := Kd.at_string (Kd.R_reads' HO363.out).2.2 0 p364 q364; cases e364; have qi364 : (0 < t361.length) = True := eq_true (by omega); (try rw [show ((0 : Int)).toNat = 0 from rfl] at hx364_0); (try rw [Addr.add_zero'] at hx364_0); replace p364 := eq_true p364; replace q364 := eq_true q364) | (refine gL (some 15) rfl Tryz.func76 #[.string (rdOf ByteArray.empty t361 0)] ?_; (with_reducible refine (sat_Read.calls (hL := ld) (rdOf ByteArray.empty t361 0) t365 t366 _ A5.out).mono ?_); rintro e w15 ⟨rfl, hb⟩; refine ⟨_, rfl, ?_⟩; replace HO363 := cR HO363 hb; replace BK360 := cB BK360 hb; replace HB := Aside0.mk (below_step bl hb); (try clear hb); obtain ⟨hcz16_0, hcz16_1, hcz16_2, hcz16_3, hfz16_0, hfz16_1, hfz16_2, hfz16_3⟩ := z4 BK360; have p367 : 0 ≤ (1 : Int) := (by omega); have q367 : 1 < (t361.length : Int) := od; obtain ⟨ad367, e367, hx367_0⟩ := Kd.at_string (Kd.R_reads' HO363.out).2.2 1 p367 q367; obtain rfl : ad364 = ad367 := (by injection e367); (try simp only [show (1 : Int).toNat = 1 from rfl, Nat.reduceMul, Nat.reduceEqDiff, Go.Addr.add, ↓reduceIte] at hx367_0); have qi367 : (1 < t361.length) = True := eq_true (by omega); (try rw [show ((1 : Int)).toNat = 1 from rfl] at hx367_0); have hn367_0 : ad364.block ≠ gb360 := Kd.own_blk (Kd.R_ne HO363.out BK360.out (by decide)); replace hx367_0 := (cell_far (p := ⟨gb360, 0, none⟩) (by first | (rw [add_block]; exact hn367_0) | (show (Addr.add _ _).block ≠ _; rw [add_block]; exact hn367_0) | exact hn367_0) (.int .i64 t365)).trans hx367_0; clear hn367_0; replace p367 := eq_true p367; replace q367 := eq_true q367) | (refine gL (some 26) rfl Tryz.func48 #[.string (rdOf ByteArray.empty t361 1)] ?_; (with_reducible refine (row_group.calls (hL := ld) k (rdOf ByteArray.empty t361 1) t368 _ A8.out).mono ?_); rintro e w17 ⟨rfl, hb⟩; refine ⟨_, rfl, ?_⟩; replace HO363 := Aside0.mk (Kd.R_below (by exact uR <| (Kd.R_mono (Kd.R_far (p := ⟨gb360, 0, none⟩) (Kd.R_types HO363.out BK360.out (by decide)) (fun _ hk => hk.2) (.int .i64 t365)) (fun _ h_ => h_.1))) hb); replace BK360 := Aside0.mk (blk_below (g := gb360) (o := .cells #[.int .i64 t365, .string (⟨#[]⟩ : ByteArray), .int .i64 0, .bool false] 45 (0, 0)) (by (with_reducible repeat (first | refine blk_drewN ?_ _ | refine blk_drew ?_ | refine blk_alloc ?_ _)); refine blk_put (cs := #[.int .i64 0, .string (⟨#[]⟩ : ByteArray), .int .i64 0, .bool false]) ?_ 0 _ rfl; exact uB <| BK360.out) hb); replace HB := Aside0.mk (below_step bl hb); (try clear hb); have p369 : 0 ≤ (1 : Int) := (by omega); have q369 : 1 < (t361.length : Int) := od; obtain ⟨ad369, e369, hx369_0⟩ := Kd.at_string (Kd.R_reads' HO363.out).2.2 1 p369 q369; obtain rfl : ad364 = ad369 := (by injection e369); (try simp only [show (1 : Int).toNat = 1 from rfl, Nat.reduceMul, Nat.reduceEqDiff, Go.Addr.add, ↓reduceIte] at hx369_0); have qi369 : (1 < t361.length) = True := eq_true (by omega); (try rw [show ((1 : Int)).toNat = 1 from rfl] at hx369_0); replace p369 := eq_true p369; replace q369 := eq_true q369; obtain ⟨hcz18_0, hcz18_1, hcz18_2, hcz18_3, hfz18_0, hfz18_1, hfz18_2, hfz18_3⟩ := z4 BK360; have p370 : 0 ≤ (2 : Int) := (by omega); have q370 : 2 < (t361.length : Int) := od; obtain ⟨ad370, e370, hx370_0⟩ := Kd.at_string (Kd.R_reads' HO363.out).2.2 2 p370 q370; obtain rfl : ad364 = ad370 := (by injection e370); (try simp only [show (2 : Int).toNat = 2 from rfl, Nat.reduceMul, Nat.reduceEqDiff, Go.Addr.add, ↓reduceIte] at hx370_0); have qi370 : (2 < t361.length) = True := eq_true (by omega); (try rw [show ((2 : Int)).toNat = 2 from rfl] at hx370_0); have hn370_0 : ad364.block ≠ gb360 := Kd.own_blk (Kd.R_ne HO363.out BK360.out (by decide)); replace hx370_0 := (cell_far (p := ⟨gb360, 1, none⟩) (by first | (rw [add_block]; exact hn370_0) | (show (Addr.add _ _).block ≠ _; rw [add_block]; exact hn370_0) | exact hn370_0) (.string (rdOf ByteArray.empty t361 1))).trans hx370_0; clear hn370_0; replace p370 := eq_true p370; replace q370 := eq_true q370) | (refine gL (some 39) rfl Tryz.func94 #[.string (rdOf ByteArray.empty t361 2)] ?_; (with_reducible refine (sat_Parse.calls (hL := ld) (rdOf ByteArray.empty t361 2) t371 t372 t373 _ A11.out).mono ?_); rintro e w19 ⟨rfl, hb⟩; refine ⟨_, rfl, ?_⟩; replace HO363 := Aside0.mk (Kd.R_below (by exact uR <| (Kd.R_mono (Kd.R_far (p := ⟨gb360, 1, none⟩) (Kd.R_types HO363.out BK360.out (by decide)) (fun _ hk => hk.2) (.string (rdOf ByteArray.empty t361 1))) (fun _ h_ => h_.1))) hb); replace BK360 := Aside0.mk (blk_below (g := gb360) (o := .cells #[.int .i64 t365, .string (rdOf ByteArray.empty t361 1), .int .i64 0, .bool false] 45 (0, 0)) (by (with_reducible repeat (first | refine blk_drewN ?_ _ | refine blk_drew ?_ | refine blk_alloc ?_ _)); refine blk_put (cs := #[.int .i64 t365, .string (⟨#[]⟩ : ByteArray), .int .i64 0, .bool false]) ?_ 1 _ rfl; exact uB <| BK360.out) hb); replace HB := Aside0.mk (below_step bl hb); (try clear hb); obtain ⟨hcz20_0, hcz20_1, hcz20_2, hcz20_3, hfz20_0, hfz20_1, hfz20_2, hfz20_3⟩ := z4 BK360) | ((with_reducible refine gate_store (t := 45) (p := 2) rfl ?_); refine store_event (t := 45) (p := 2) (v := ?vo_w21) (w1 := ((((((w19.setCell ⟨gb360, 2, none⟩ (.int .i64 t371)).setCell ⟨gb360, 3, none⟩ (.bool t372)).setCell ⟨gb360, 0, none⟩ (.int .i64 t365)).setCell ⟨gb360, 1, none⟩ (.string (rdOf ByteArray.empty t361 1))).setCell ⟨gb360, 2, none⟩ (.int .i64 t371)).setCell ⟨gb360, 3, none⟩ (.bool t372))) ?hg ?ho ?hn ?hr ?_; (case ho => rfl); (case hg => rfl); (case hn => rfl); (case hr => first | (go_simp; done) | (go_simp; rfl)); intro w21 hw; have n0_ : Aside0 (Kd.R Kd.string 9 w21 w.heap.size (fun _ => True) (.slice (some ad364) t361.length co14) t361) := ⟨(by rw [hw]; exact (by exact uR <| Kd.R_mono (Kd.R_far (p := ⟨gb360, 3, none⟩) (Kd.R_far (p := ⟨gb360, 2, none⟩) (Kd.R_far (p := ⟨gb360, 1, none⟩) (Kd.R_far (p := ⟨gb360, 0, none⟩) (Kd.R_far (p := ⟨gb360, 3, none⟩) (Kd.R_far (p := ⟨gb360, 2, none⟩) (Kd.R_types HO363.out BK360.out (by decide)) (fun _ hk => hk.2) (.int .i64 t371)) (fun _ hk => hk.2) (.bool t372)) (fun _ hk => hk.2) (.int .i64 t365)) (fun _ hk => hk.2) (.string (rdOf ByteArray.empty t361 1))) (fun _ hk => hk.2) (.int .i64 t371)) (fun _ hk => hk.2) (.bool t372)) (fun _ hk => trivial)))⟩; have n1_ : Aside0 (w21.heap[gb360]? = some (.cells #[.int .i64 t365, .string (rdOf ByteArray.empty t361 1), .int .i64 t371, .bool t372] 45 (0, 0))) := ⟨(by rw [hw]; exact (by (with_reducible repeat (first | refine blk_drewN ?_ _ | refine blk_drew ?_ | refine blk_alloc ?_ _)); refine blk_put (cs := #[.int .i64 t365, .string (rdOf ByteArray.empty t361 1), .int .i64 t371, .bool t372]) ?_ 3 _ rfl; (with_reducible repeat (first | refine blk_drewN ?_ _ | refine blk_drew ?_ | refine blk_alloc ?_ _)); refine blk_put (cs := #[.int .i64 t365, .string (rdOf ByteArray.empty t361 1), .int .i64 t371, .bool t372]) ?_ 2 _ rfl; (with_reducible repeat (first | refine blk_drewN ?_ _ | refine blk_drew ?_ | refine blk_alloc ?_ _)); refine blk_put (cs := #[.int .i64 t365, .string (rdOf ByteArray.empty t361 1), .int .i64 t371, .bool t372]) ?_ 1 _ rfl; (with_reducible repeat (first | refine blk_drewN ?_ _ | refine blk_drew ?_ | refine blk_alloc ?_ _)); refine blk_put (cs := #[.int .i64 t365, .string (rdOf ByteArray.empty t361 1), .int .i64 t371, .bool t372]) ?_ 0 _ rfl; (with_reducible repeat (first | refine blk_drewN ?_ _ | refine blk_drew ?_ | refine blk_alloc ?_ _)); refine blk_put (cs := #[.int .i64 t365, .string (rdOf ByteArray.empty t361 1), .int .i64 t371, .bool false]) ?_ 3 _ rfl; (with_reducible repeat (first | refine blk_drewN ?_ _ | refine blk_drew ?_ | refine blk_alloc ?_ _)); refine blk_put (cs := #[.int .i64 t365, .string (rdOf ByteArray.empty t361 1), .int .i64 0, .bool false]) ?_ 2 _ rfl; exact uB <| BK360.out))⟩; have n2_ : Aside0 (Below w.heap.size w w21) := ⟨(by rw [hw]; exact bl)⟩; clear hw; clear HO363; clear BK360; clear HB; have HO363 := n0_; have BK360 := n1_; have HB := n2_; clear n0_ n1_ n2_))
    refine bodyPost_ret (results_ct rfl _ _ gb360 45 #[.int .i64 t365, .string (rdOf ByteArray.empty t361 1), .int .i64 t371, .bool t372] (0, 0) _ rfl (uB BK360.out) Tryz.underlying45 rfl (by kernel_rfl)) rfl ?_
    exact ⟨re_, bl⟩
   ·
    rw [if_neg c9] at H
    have c9b0 : (t368 == 0) = false := beq_eq_false_iff_ne.mpr c9
    have c9b1 : (t368 != 0) = true := bne_iff_ne.mpr c9
    simp only [Option.some.injEq, Prod.mk.injEq] at H
    obtain ⟨rfl, rfl, rfl, rfl, rfl⟩ := H
    go_enter Tryz.func77, Tryz.ntmps77
    go_wp2_with (first | ((with_reducible refine gate_dst (N := 2) rfl ?_); refine bx (N := 2) #[.int .i64 0, .string (⟨#[]⟩ : ByteArray), .int .i64 0, .bool false] 45 ?_; intro gb360 hg w22 hbox hb; have BK360 := Aside0.mk (hbox); have GW360 := gw hg (uW HB.out); have GE360 := GW360; replace HB := cW HB hb; clear hb hbox hg) | (refine gL (some 6) rfl Tryz.func39 #[.string a0, .int .u8 124] ?_; (with_reducible refine (word_Split.calls k a0 124 t361 _ A2.out).mono ?_); rintro e w23 ⟨v362, rfl, ho0, hb⟩; refine ⟨_, rfl, ?_⟩; have HO363 := Aside0.mk (Kd.R_lower ho0 (below_size bl)); replace BK360 := cB BK360 hb; replace HB := Aside0.mk (below_step bl hb); (try clear hb); (try clear ho0); obtain ⟨Ao24, co24, eo24⟩ := Kd.R_slice HO363.out; subst eo24; have p364 : 0 ≤ (0 : Int) := (by omega); have q364 : 0 < (t361.length : Int) := od; obtain ⟨ad364, e364, hx364_0⟩ := Kd.at_string (Kd.R_reads' HO363.out).2.2 0 p364 q364; cases e364; have qi364 : (0 < t361.length) = True := eq_true (by omega); (try rw [show ((0 : Int)).toNat = 0 from rfl] at hx364_0); (try rw [Addr.add_zero'] at hx364_0); replace p364 := eq_true p364; replace q364 := eq_true q364) | (refine gL (some 15) rfl Tryz.func76 #[.string (rdOf ByteArray.empty t361 0)] ?_; (with_reducible refine (sat_Read.calls (hL := ld) (rdOf ByteArray.empty t361 0) t365 t366 _ A5.out).mono ?_); rintro e w25 ⟨rfl, hb⟩; refine ⟨_, rfl, ?_⟩; replace HO363 := cR HO363 hb; replace BK360 := cB BK360 hb; replace HB := Aside0.mk (below_step bl hb); (try clear hb); obtain ⟨hcz26_0, hcz26_1, hcz26_2, hcz26_3, hfz26_0, hfz26_1, hfz26_2, hfz26_3⟩ := z4 BK360; have p367 : 0 ≤ (1 : Int) := (by omega); have q367 : 1 < (t361.length : Int) := od; obtain ⟨ad367, e367, hx367_0⟩ := Kd.at_string (Kd.R_reads' HO363.out).2.2 1 p367 q367; obtain rfl : ad364 = ad367 := (by injection e367); (try simp only [show (1 : Int).toNat = 1 from rfl, Nat.reduceMul, Nat.reduceEqDiff, Go.Addr.add, ↓reduceIte] at hx367_0); have qi367 : (1 < t361.length) = True := eq_true (by omega); (try rw [show ((1 : Int)).toNat = 1 from rfl] at hx367_0); have hn367_0 : ad364.block ≠ gb360 := Kd.own_blk (Kd.R_ne HO363.out BK360.out (by decide)); replace hx367_0 := (cell_far (p := ⟨gb360, 0, none⟩) (by first | (rw [add_block]; exact hn367_0) | (show (Addr.add _ _).block ≠ _; rw [add_block]; exact hn367_0) | exact hn367_0) (.int .i64 t365)).trans hx367_0; clear hn367_0; replace p367 := eq_true p367; replace q367 := eq_true q367) | (refine gL (some 26) rfl Tryz.func48 #[.string (rdOf ByteArray.empty t361 1)] ?_; (with_reducible refine (row_group.calls (hL := ld) k (rdOf ByteArray.empty t361 1) t368 _ A8.out).mono ?_); rintro e w27 ⟨rfl, hb⟩; refine ⟨_, rfl, ?_⟩; replace HO363 := Aside0.mk (Kd.R_below (by exact uR <| (Kd.R_mono (Kd.R_far (p := ⟨gb360, 0, none⟩) (Kd.R_types HO363.out BK360.out (by decide)) (fun _ hk => hk.2) (.int .i64 t365)) (fun _ h_ => h_.1))) hb); replace BK360 := Aside0.mk (blk_below (g := gb360) (o := .cells #[.int .i64 t365, .string (⟨#[]⟩ : ByteArray), .int .i64 0, .bool false] 45 (0, 0)) (by (with_reducible repeat (first | refine blk_drewN ?_ _ | refine blk_drew ?_ | refine blk_alloc ?_ _)); refine blk_put (cs := #[.int .i64 0, .string (⟨#[]⟩ : ByteArray), .int .i64 0, .bool false]) ?_ 0 _ rfl; exact uB <| BK360.out) hb); replace HB := Aside0.mk (below_step bl hb); (try clear hb); obtain ⟨hcz28_0, hcz28_1, hcz28_2, hcz28_3, hfz28_0, hfz28_1, hfz28_2, hfz28_3⟩ := z4 BK360))
    refine bodyPost_ret (results_ct rfl _ _ gb360 45 #[.int .i64 t365, .string (⟨#[]⟩ : ByteArray), .int .i64 0, .bool false] (0, 0) _ rfl (by (with_reducible repeat (first | refine blk_drewN ?_ _ | refine blk_drew ?_ | refine blk_alloc ?_ _)); refine blk_put (cs := #[.int .i64 t365, .string (⟨#[]⟩ : ByteArray), .int .i64 0, .bool false]) ?_ 3 _ rfl; (with_reducible repeat (first | refine blk_drewN ?_ _ | refine blk_drew ?_ | refine blk_alloc ?_ _)); refine blk_put (cs := #[.int .i64 t365, .string (⟨#[]⟩ : ByteArray), .int .i64 0, .bool false]) ?_ 2 _ rfl; (with_reducible repeat (first | refine blk_drewN ?_ _ | refine blk_drew ?_ | refine blk_alloc ?_ _)); refine blk_put (cs := #[.int .i64 t365, .string (⟨#[]⟩ : ByteArray), .int .i64 0, .bool false]) ?_ 1 _ rfl; (with_reducible repeat (first | refine blk_drewN ?_ _ | refine blk_drew ?_ | refine blk_alloc ?_ _)); refine blk_put (cs := #[.int .i64 t365, .string (⟨#[]⟩ : ByteArray), .int .i64 0, .bool false]) ?_ 0 _ rfl; exact uB <| BK360.out) Tryz.underlying45 rfl (by kernel_rfl)) rfl ?_
    exact ⟨re_, bl⟩
  ·
   rw [if_neg c6] at H
   have c6b0 : (t366 == 0) = false := beq_eq_false_iff_ne.mpr c6
   have c6b1 : (t366 != 0) = true := bne_iff_ne.mpr c6
   simp only [Option.some.injEq, Prod.mk.injEq] at H
   obtain ⟨rfl, rfl, rfl, rfl, rfl⟩ := H
   go_enter Tryz.func77, Tryz.ntmps77
   go_wp2_with (first | ((with_reducible refine gate_dst (N := 2) rfl ?_); refine bx (N := 2) #[.int .i64 0, .string (⟨#[]⟩ : ByteArray), .int .i64 0, .bool false] 45 ?_; intro gb360 hg w29 hbox hb; have BK360 := Aside0.mk (hbox); have GW360 := gw hg (uW HB.out); have GE360 := GW360; replace HB := cW HB hb; clear hb hbox hg) | (refine gL (some 6) rfl Tryz.func39 #[.string a0, .int .u8 124] ?_; (with_reducible refine (word_Split.calls k a0 124 t361 _ A2.out).mono ?_); rintro e w30 ⟨v362, rfl, ho0, hb⟩; refine ⟨_, rfl, ?_⟩; have HO363 := Aside0.mk (Kd.R_lower ho0 (below_size bl)); replace BK360 := cB BK360 hb; replace HB := Aside0.mk (below_step bl hb); (try clear hb); (try clear ho0); obtain ⟨Ao31, co31, eo31⟩ := Kd.R_slice HO363.out; subst eo31; have p364 : 0 ≤ (0 : Int) := (by omega); have q364 : 0 < (t361.length : Int) := od; obtain ⟨ad364, e364, hx364_0⟩ := Kd.at_string (Kd.R_reads' HO363.out).2.2 0 p364 q364; cases e364; have qi364 : (0 < t361.length) = True := eq_true (by omega); (try rw [show ((0 : Int)).toNat = 0 from rfl] at hx364_0); (try rw [Addr.add_zero'] at hx364_0); replace p364 := eq_true p364; replace q364 := eq_true q364) | (refine gL (some 15) rfl Tryz.func76 #[.string (rdOf ByteArray.empty t361 0)] ?_; (with_reducible refine (sat_Read.calls (hL := ld) (rdOf ByteArray.empty t361 0) t365 t366 _ A5.out).mono ?_); rintro e w32 ⟨rfl, hb⟩; refine ⟨_, rfl, ?_⟩; replace HO363 := cR HO363 hb; replace BK360 := cB BK360 hb; replace HB := Aside0.mk (below_step bl hb); (try clear hb); obtain ⟨hcz33_0, hcz33_1, hcz33_2, hcz33_3, hfz33_0, hfz33_1, hfz33_2, hfz33_3⟩ := z4 BK360) | ((with_reducible refine gate_store (t := 45) (p := 2) rfl ?_); refine store_event (t := 45) (p := 2) (v := ?vo_w34) (w1 := (((((w32.setCell ⟨gb360, 0, none⟩ (.int .i64 t365)).setCell ⟨gb360, 0, none⟩ (.int .i64 t365)).setCell ⟨gb360, 1, none⟩ (.string (⟨#[]⟩ : ByteArray))).setCell ⟨gb360, 2, none⟩ (.int .i64 0)).setCell ⟨gb360, 3, none⟩ (.bool false))) ?hg ?ho ?hn ?hr ?_; (case ho => rfl); (case hg => rfl); (case hn => rfl); (case hr => first | (go_simp; done) | (go_simp; rfl)); intro w34 hw; have n0_ : Aside0 (Kd.R Kd.string 9 w34 w.heap.size (fun _ => True) (.slice (some ad364) t361.length co31) t361) := ⟨(by rw [hw]; exact (by exact uR <| Kd.R_mono (Kd.R_far (p := ⟨gb360, 3, none⟩) (Kd.R_far (p := ⟨gb360, 2, none⟩) (Kd.R_far (p := ⟨gb360, 1, none⟩) (Kd.R_far (p := ⟨gb360, 0, none⟩) (Kd.R_far (p := ⟨gb360, 0, none⟩) (Kd.R_types HO363.out BK360.out (by decide)) (fun _ hk => hk.2) (.int .i64 t365)) (fun _ hk => hk.2) (.int .i64 t365)) (fun _ hk => hk.2) (.string (⟨#[]⟩ : ByteArray))) (fun _ hk => hk.2) (.int .i64 0)) (fun _ hk => hk.2) (.bool false)) (fun _ hk => trivial)))⟩; have n1_ : Aside0 (w34.heap[gb360]? = some (.cells #[.int .i64 t365, .string (⟨#[]⟩ : ByteArray), .int .i64 0, .bool false] 45 (0, 0))) := ⟨(by rw [hw]; exact (by (with_reducible repeat (first | refine blk_drewN ?_ _ | refine blk_drew ?_ | refine blk_alloc ?_ _)); refine blk_put (cs := #[.int .i64 t365, .string (⟨#[]⟩ : ByteArray), .int .i64 0, .bool false]) ?_ 3 _ rfl; (with_reducible repeat (first | refine blk_drewN ?_ _ | refine blk_drew ?_ | refine blk_alloc ?_ _)); refine blk_put (cs := #[.int .i64 t365, .string (⟨#[]⟩ : ByteArray), .int .i64 0, .bool false]) ?_ 2 _ rfl; (with_reducible repeat (first | refine blk_drewN ?_ _ | refine blk_drew ?_ | refine blk_alloc ?_ _)); refine blk_put (cs := #[.int .i64 t365, .string (⟨#[]⟩ : ByteArray), .int .i64 0, .bool false]) ?_ 1 _ rfl; (with_reducible repeat (first | refine blk_drewN ?_ _ | refine blk_drew ?_ | refine blk_alloc ?_ _)); refine blk_put (cs := #[.int .i64 t365, .string (⟨#[]⟩ : ByteArray), .int .i64 0, .bool false]) ?_ 0 _ rfl; (with_reducible repeat (first | refine blk_drewN ?_ _ | refine blk_drew ?_ | refine blk_alloc ?_ _)); refine blk_put (cs := #[.int .i64 0, .string (⟨#[]⟩ : ByteArray), .int .i64 0, .bool false]) ?_ 0 _ rfl; exact uB <| BK360.out))⟩; have n2_ : Aside0 (Below w.heap.size w w34) := ⟨(by rw [hw]; exact bl)⟩; clear hw; clear HO363; clear BK360; clear HB; have HO363 := n0_; have BK360 := n1_; have HB := n2_; clear n0_ n1_ n2_))
   refine bodyPost_ret (results_ct rfl _ _ gb360 45 #[.int .i64 t365, .string (⟨#[]⟩ : ByteArray), .int .i64 0, .bool false] (0, 0) _ rfl (uB BK360.out) Tryz.underlying45 rfl (by kernel_rfl)) rfl ?_
   exact ⟨re_, bl⟩
 ·
  rw [if_neg c3] at H
  have c3b0 : ((t361.length : Int) == 3) = false := beq_eq_false_iff_ne.mpr c3
  have c3b1 : ((t361.length : Int) != 3) = true := bne_iff_ne.mpr c3
  simp only [Option.some.injEq, Prod.mk.injEq] at H
  obtain ⟨rfl, rfl, rfl, rfl, rfl⟩ := H
  go_enter Tryz.func77, Tryz.ntmps77
  go_wp2_with (first | ((with_reducible refine gate_dst (N := 2) rfl ?_); refine bx (N := 2) #[.int .i64 0, .string (⟨#[]⟩ : ByteArray), .int .i64 0, .bool false] 45 ?_; intro gb360 hg w35 hbox hb; have BK360 := Aside0.mk (hbox); have GW360 := gw hg (uW HB.out); have GE360 := GW360; replace HB := cW HB hb; clear hb hbox hg) | (refine gL (some 6) rfl Tryz.func39 #[.string a0, .int .u8 124] ?_; (with_reducible refine (word_Split.calls k a0 124 t361 _ A2.out).mono ?_); rintro e w36 ⟨v362, rfl, ho0, hb⟩; refine ⟨_, rfl, ?_⟩; have HO363 := Aside0.mk (Kd.R_lower ho0 (below_size bl)); replace BK360 := cB BK360 hb; replace HB := Aside0.mk (below_step bl hb); (try clear hb); (try clear ho0); obtain ⟨Ao37, co37, eo37⟩ := Kd.R_slice HO363.out; subst eo37; obtain ⟨hcz38_0, hcz38_1, hcz38_2, hcz38_3, hfz38_0, hfz38_1, hfz38_2, hfz38_3⟩ := z4 BK360))
  refine bodyPost_ret (results_ct rfl _ _ gb360 45 #[.int .i64 0, .string (⟨#[]⟩ : ByteArray), .int .i64 0, .bool false] (0, 0) _ rfl (by (with_reducible repeat (first | refine blk_drewN ?_ _ | refine blk_drew ?_ | refine blk_alloc ?_ _)); refine blk_put (cs := #[.int .i64 0, .string (⟨#[]⟩ : ByteArray), .int .i64 0, .bool false]) ?_ 3 _ rfl; (with_reducible repeat (first | refine blk_drewN ?_ _ | refine blk_drew ?_ | refine blk_alloc ?_ _)); refine blk_put (cs := #[.int .i64 0, .string (⟨#[]⟩ : ByteArray), .int .i64 0, .bool false]) ?_ 2 _ rfl; (with_reducible repeat (first | refine blk_drewN ?_ _ | refine blk_drew ?_ | refine blk_alloc ?_ _)); refine blk_put (cs := #[.int .i64 0, .string (⟨#[]⟩ : ByteArray), .int .i64 0, .bool false]) ?_ 1 _ rfl; (with_reducible repeat (first | refine blk_drewN ?_ _ | refine blk_drew ?_ | refine blk_alloc ?_ _)); refine blk_put (cs := #[.int .i64 0, .string (⟨#[]⟩ : ByteArray), .int .i64 0, .bool false]) ?_ 0 _ rfl; exact uB <| BK360.out) Tryz.underlying45 rfl (by kernel_rfl)) rfl ?_
  exact ⟨re_, bl⟩
def row_Parse.l0 : Nat → List (S45) → List ByteArray → Int → Int → Option ((List (S45)) × Int)
 | 0, _, _, _, _ => none
 | k + 1, x2, x11, x12, x13 => if x13 < x12 then (if 0 ≤ x13 then (if x13 < (x11.length : Int) then ((row_one.f k (rdOf ByteArray.empty x11 x13)).bind fun bt378 => (if bt378.2.2.2.2 = 0 then (if x2.length < 3518437208883 then (row_Parse.l0 k (x2 ++ [(⟨bt378.1, bt378.2.1, (⟨bt378.2.2.1, bt378.2.2.2.1⟩ : S43)⟩ : S45)]) x11 x12 (wrap64 (x13 + 1))) else (none)) else (some (([] : List (S45)), bt378.2.2.2.2)))) else (none)) else (none)) else ((row_rise.f k x2).bind fun t387 => (if t387 = true then (some (x2, 0)) else (some (([] : List (S45)), 9))))
def row_Parse.f (k : Nat) (a0 : ByteArray) : Option ((List (S45)) × Int) := if a0.toList = ([45] : List UInt8) then (some (([] : List (S45)), 0)) else ((word_Split.f k a0 59).bind fun t374 => (row_Parse.l0 k ([] : List (S45)) t374 (t374.length : Int) 0))
theorem row_Parse.mono_l : ∀ k, (∀ y0 y1 y2 y3, LeC (row_Parse.l0 k y0 y1 y2 y3) (row_Parse.l0 (k + 1) y0 y1 y2 y3))
 | 0 => fun _ _ _ _ => ⟨fun r h => by simp [row_Parse.l0] at h⟩
 | k + 1 => by have ih0 := row_Parse.mono_l k; exact fun _ _ _ _ => by unfold row_Parse.l0; exact lm
theorem row_Parse.mono : ∀ a0 k, LeO (row_Parse.f k a0) (row_Parse.f (k + 1) a0) := by
 intro a0 k
 have ih0 := row_Parse.mono_l k
 unfold row_Parse.f
 exact lo
instance row_Parse.mI {a0 k} : LeC (row_Parse.f k a0) (row_Parse.f (k + 1) a0) := ⟨row_Parse.mono _ _⟩
theorem row_Parse.calls (k : Nat) (a0 : ByteArray) (r1 : List (S45)) (r2 : Int) (w : World) (hL : LD w) (h : row_Parse.f k a0 = some (r1, r2)) :
 Calls Tryz.prog 59 #[.string a0] w fun e w' => ∃ v0_ : Value, e = .returned (.tuple #[v0_, .int .i64 r2]) ∧ Kd.R k45 45 w' w.heap.size (fun _ => True) v0_ r1 ∧ Below w.heap.size w w' := by
 have HL0 := Aside0.mk hL
 clear hL
 have hu45 := Tryz.underlying45
 have HB := Aside0.mk (Below.refl w.heap.size w)
 have H : (if a0.toList = ([45] : List UInt8) then (some (([] : List (S45)), 0)) else ((word_Split.f k a0 59).bind fun t374 => (row_Parse.l0 k ([] : List (S45)) t374 (t374.length : Int) 0))) = some (r1, r2) := h
 clear h
 by_cases c2 : a0.toList = ([45] : List UInt8)
 ·
  rw [if_pos c2] at H
  have c2b0 : (a0.toList == ([45] : List UInt8)) = true := beq_iff_eq.mpr c2
  have c2b1 : (a0.toList != ([45] : List UInt8)) = false := bne_eq_false_iff_eq.mpr c2
  clear c2
  simp only [Option.some.injEq, Prod.mk.injEq] at H
  obtain ⟨rfl, rfl⟩ := H
  go_enter Tryz.func59, Tryz.ntmps59
  go_wp2
  go_ret2
  exact ⟨_, re_, nl_, uW HB.out⟩
 ·
  rw [if_neg c2] at H
  have c2b0 : (a0.toList == ([45] : List UInt8)) = false := beq_eq_false_iff_ne.mpr c2
  have c2b1 : (a0.toList != ([45] : List UInt8)) = true := bne_iff_ne.mpr c2
  obtain ⟨t374, A3, H⟩ := bs H
  try dsimp only at H
  have H' := Aside0.mk H
  clear H
  go_enter Tryz.func59, Tryz.ntmps59
  go_wp2_with (first | (refine gL (some 11) rfl Tryz.func39 #[.string a0, .int .u8 59] ?_; (with_reducible refine (word_Split.calls k a0 59 t374 _ A3.out).mono ?_); rintro e w4 ⟨v375, rfl, ho0, hb⟩; refine ⟨_, rfl, ?_⟩; have HO376 := Aside0.mk (Kd.R_lower ho0 (below_size (uW HB.out))); replace HB := cW HB hb; (try clear hb); (try clear ho0); obtain ⟨Ao5, co5, eo5⟩ := Kd.R_slice HO376.out; subst eo5))
  (try simp only [Act.put, List.setIfInBounds_toArray, List.set_cons_zero, List.set_cons_succ])
  go_loopg [2, 13] k (fun kq v2 v13 w' => ∃ (x2_1 : List (S45)) (x13_1 : Int), v13 = .int .i64 x13_1 ∧ Aside0 (row_Parse.l0 kq x2_1 t374 (t374.length : Int) x13_1 = some (r1, r2)) ∧ Aside0 (kq ≤ k) ∧ Aside0 (Kd.R k45 45 w' w.heap.size (fun _ => True) v2 x2_1) ∧ Aside0 (Kd.R Kd.string 9 w' w.heap.size (fun _ => True) (.slice Ao5 t374.length co5) t374) ∧ Aside0 (Below w.heap.size w w'))
  case atStart => exact ⟨(([] : List (S45))), (0), rs_, H', ⟨Nat.le_refl _⟩, ⟨nl_⟩, ⟨uR HO376.out⟩, ⟨uW HB.out⟩⟩
  case round =>
   clear H'
   try clear c2
   try clear c2b0
   try clear c2b1
   try clear p2
   try clear c3
   try clear c5
   obtain ⟨x2_1, x13_1, rfl, HA, HK1, HO_2, HO_11, HB⟩ := hrel
   cases gk with
   | zero => exact absurd HA.out (by simp [row_Parse.l0])
   | succ k1 =>
    have H := HA.out
    clear HA
    simp only [row_Parse.l0] at H
    by_cases c6 : x13_1 < (t374.length : Int)
    ·
     rw [if_pos c6] at H
     have c6b0 : decide (x13_1 < (t374.length : Int)) = true := decide_eq_true c6
     clear c6
     obtain ⟨c7b0, H⟩ := gdd H
     obtain ⟨c8b0, H⟩ := gdd H
     obtain ⟨⟨t378, t379, t380, t381, t382⟩, A9, H⟩ := bs H
     try dsimp only at H
     by_cases c10 : t382 = 0
     ·
      rw [if_pos c10] at H
      have c10b0 : (t382 == 0) = true := beq_iff_eq.mpr c10
      have c10b1 : (t382 != 0) = false := bne_eq_false_iff_eq.mpr c10
      clear c10
      obtain ⟨c11, H⟩ := gd H
      have LMc11 := Aside0.mk c11
      clear c11
      obtain ⟨y384, hy384⟩ : ∃ y_ : List (S45), y_ = (x2_1 ++ [(⟨t378, t379, (⟨t380, t381⟩ : S43)⟩ : S45)]) := ⟨_, rfl⟩
      replace H : (row_Parse.l0 k1 y384 t374 (t374.length : Int) (wrap64 (x13_1 + 1))) = some (r1, r2) := by first | (rw [hy384]; with_reducible exact H) | (have H2_ := (Option.bind_some _ _).symm.trans H; rw [hy384]; with_reducible exact H2_) | (have H2_ := (Option.bind_some _ _).symm.trans H; with_reducible exact H2_) | with_reducible exact H | (rw [hy384]; exact H) | exact H
      have Ny384 := Aside0.mk hy384
      clear hy384
      have H' := Aside0.mk H
      clear H
      have p377 : 0 ≤ (x13_1 : Int) := od
      have q377 : x13_1 < (t374.length : Int) := od
      obtain ⟨ad377, e377, hx377_0⟩ := Kd.at_string (Kd.R_reads' HO_11.out).2.2 x13_1 p377 q377
      cases e377
      replace p377 := eq_true p377
      replace q377 := eq_true q377
      go_wp2_with (first | (refine gL (some 19) rfl Tryz.func77 #[.string (rdOf ByteArray.empty t374 x13_1)] ?_; (with_reducible refine (row_one.calls (hL := ld) k1 (rdOf ByteArray.empty t374 x13_1) t378 t379 t380 t381 t382 _ A9.out).mono ?_); rintro e w12 ⟨rfl, hb⟩; refine ⟨_, rfl, ?_⟩; replace HO_2 := cR HO_2 hb; replace HO_11 := cR HO_11 hb; replace HB := cW HB hb; (try clear hb)) | ((with_reducible refine gate_dst (N := 6) rfl ?_); refine bx (N := 6) #[.int .i64 0, .string (⟨#[]⟩ : ByteArray), .int .i64 0, .bool false] 45 ?_; intro gb383 hg w13 hbox hb; replace HO_2 := Aside0.mk (Kd.R_below (Kd.R_elderB (uR HO_2.out) gb383 (Nat.le_of_eq hg.symm)) hb); replace HO_11 := cR HO_11 hb; have BK383 := Aside0.mk (hbox); have GW383 := gw hg (uW HB.out); have GE383 := GW383; replace HB := cW HB hb; clear hb hbox hg; obtain ⟨hcz14_0, hcz14_1, hcz14_2, hcz14_3, hfz14_0, hfz14_1, hfz14_2, hfz14_3⟩ := z4 BK383) | ((with_reducible refine gate_builtin (b := .append) (xs := #[.tmp 25, .tmp 27]) rfl ?_); at_builtin; refine Kd.R_append k45 (w0 := w) w.heap.size rfl (.tmp 25) (.tmp 27) 22 45 (.agg #[(.int .i64 0), (.string ⟨#[]⟩), (.int .i64 0), (.bool false)]) 40 rfl Tryz.underlying22 info45 rfl (by decide) (by omega) u2 x2_1 (⟨t378, t379, (⟨t380, t381⟩ : S43)⟩ : S45) [.int .i64 t378, .string t379, .int .i64 t380, .bool t381] (fun k_ => k_ ≠ gb383) (fun _ => False) rfl (by first | (go_simp; done) | (go_simp; rfl)) ?aP (fun _ hk => hk.elim) ?aF ?aO ?aB ?aS ?aL ?_; (case aP => exact k45_mkM _ _ _ (⟨t378, t379, (⟨t380, t381⟩ : S43)⟩ : S45)); (case aB => exact bl); (case aF => exact (fun k_ hk => Kd.freshB (g := gb383) (o := .cells #[.int .i64 t378, .string t379, .int .i64 t380, .bool t381] 45 (0, 0)) (by (with_reducible repeat (first | refine blk_drewN ?_ _ | refine blk_drew ?_ | refine blk_alloc ?_ _)); refine blk_put (cs := #[.int .i64 t378, .string t379, .int .i64 t380, .bool false]) ?_ 3 _ rfl; (with_reducible repeat (first | refine blk_drewN ?_ _ | refine blk_drew ?_ | refine blk_alloc ?_ _)); refine blk_put (cs := #[.int .i64 t378, .string t379, .int .i64 0, .bool false]) ?_ 2 _ rfl; (with_reducible repeat (first | refine blk_drewN ?_ _ | refine blk_drew ?_ | refine blk_alloc ?_ _)); refine blk_put (cs := #[.int .i64 t378, .string (⟨#[]⟩ : ByteArray), .int .i64 0, .bool false]) ?_ 1 _ rfl; (with_reducible repeat (first | refine blk_drewN ?_ _ | refine blk_drew ?_ | refine blk_alloc ?_ _)); refine blk_put (cs := #[.int .i64 0, .string (⟨#[]⟩ : ByteArray), .int .i64 0, .bool false]) ?_ 0 _ rfl; exact uB <| BK383.out) k_ hk)); (case aO => exact (by exact uR <| Kd.R_mono (Kd.R_far (p := ⟨gb383, 3, none⟩) (Kd.R_far (p := ⟨gb383, 2, none⟩) (Kd.R_far (p := ⟨gb383, 1, none⟩) (Kd.R_far (p := ⟨gb383, 0, none⟩) (Kd.R_mono HO_2.out (fun k_ hk => (⟨hk, hk.2⟩ : _ ∧ k_ ≠ gb383))) (fun _ hk => hk.2) (.int .i64 t378)) (fun _ hk => hk.2) (.string t379)) (fun _ hk => hk.2) (.int .i64 t380)) (fun _ hk => hk.2) (.bool t381)) (fun _ hk => hk.1.2))); (case aS => exact (below_size bl)); (case aL => have := LMc11.out; omega); intro v385 w15 ho hb hg hat; rw [← Ny384.out] at ho; replace HO_11 := Aside0.mk (Kd.R_over' (by exact uR <| (Kd.R_mono (Kd.R_far (p := ⟨gb383, 3, none⟩) (Kd.R_far (p := ⟨gb383, 2, none⟩) (Kd.R_far (p := ⟨gb383, 1, none⟩) (Kd.R_far (p := ⟨gb383, 0, none⟩) (Kd.R_types HO_11.out BK383.out (by decide)) (fun _ hk => hk.2) (.int .i64 t378)) (fun _ hk => hk.2) (.string t379)) (fun _ hk => hk.2) (.int .i64 t380)) (fun _ hk => hk.2) (.bool t381)) (fun _ h_ => h_.1))) (Kd.R_typed (by exact uR <| (Kd.R_mono (Kd.R_far (p := ⟨gb383, 3, none⟩) (Kd.R_far (p := ⟨gb383, 2, none⟩) (Kd.R_far (p := ⟨gb383, 1, none⟩) (Kd.R_far (p := ⟨gb383, 0, none⟩) (Kd.R_mono HO_2.out (fun k_ hk => (⟨hk, hk.2⟩ : _ ∧ k_ ≠ gb383))) (fun _ hk => hk.2) (.int .i64 t378)) (fun _ hk => hk.2) (.string t379)) (fun _ hk => hk.2) (.int .i64 t380)) (fun _ hk => hk.2) (.bool t381)) (fun _ h_ => h_.1)))) (by decide) hg); replace BK383 := Aside0.mk (blk_grown (g := gb383) (o := .cells #[.int .i64 t378, .string t379, .int .i64 t380, .bool t381] 45 (0, 0)) (by (with_reducible repeat (first | refine blk_drewN ?_ _ | refine blk_drew ?_ | refine blk_alloc ?_ _)); refine blk_put (cs := #[.int .i64 t378, .string t379, .int .i64 t380, .bool false]) ?_ 3 _ rfl; (with_reducible repeat (first | refine blk_drewN ?_ _ | refine blk_drew ?_ | refine blk_alloc ?_ _)); refine blk_put (cs := #[.int .i64 t378, .string t379, .int .i64 0, .bool false]) ?_ 2 _ rfl; (with_reducible repeat (first | refine blk_drewN ?_ _ | refine blk_drew ?_ | refine blk_alloc ?_ _)); refine blk_put (cs := #[.int .i64 t378, .string (⟨#[]⟩ : ByteArray), .int .i64 0, .bool false]) ?_ 1 _ rfl; (with_reducible repeat (first | refine blk_drewN ?_ _ | refine blk_drew ?_ | refine blk_alloc ?_ _)); refine blk_put (cs := #[.int .i64 0, .string (⟨#[]⟩ : ByteArray), .int .i64 0, .bool false]) ?_ 0 _ rfl; exact uB <| BK383.out) hg (Kd.R_away HO_2.out (fun _ hk => hk.2))); replace HB := Aside0.mk (hb); have HO386 := Aside0.mk (ho); clear HO_2; clear ho hb hg hat))
      go_roundg k1
      case measure => have := HK1.out; omega
      case rel => exact ⟨(y384), (wrap64 (x13_1 + 1)), rs_, H', ⟨by have := HK1.out; omega⟩, ⟨by exact uR <| Kd.R_mono HO386.out (fun _ hk => trivial)⟩, ⟨uR HO_11.out⟩, ⟨bl⟩⟩
     ·
      rw [if_neg c10] at H
      have c10b0 : (t382 == 0) = false := beq_eq_false_iff_ne.mpr c10
      have c10b1 : (t382 != 0) = true := bne_iff_ne.mpr c10
      simp only [Option.some.injEq, Prod.mk.injEq] at H
      obtain ⟨rfl, rfl⟩ := H
      have p377 : 0 ≤ (x13_1 : Int) := od
      have q377 : x13_1 < (t374.length : Int) := od
      obtain ⟨ad377, e377, hx377_0⟩ := Kd.at_string (Kd.R_reads' HO_11.out).2.2 x13_1 p377 q377
      cases e377
      replace p377 := eq_true p377
      replace q377 := eq_true q377
      go_wp2_with (first | (refine gL (some 19) rfl Tryz.func77 #[.string (rdOf ByteArray.empty t374 x13_1)] ?_; (with_reducible refine (row_one.calls (hL := ld) k1 (rdOf ByteArray.empty t374 x13_1) t378 t379 t380 t381 t382 _ A9.out).mono ?_); rintro e w16 ⟨rfl, hb⟩; refine ⟨_, rfl, ?_⟩; replace HO_2 := cR HO_2 hb; replace HO_11 := cR HO_11 hb; replace HB := cW HB hb; (try clear hb)) | ((with_reducible refine gate_dst (N := 6) rfl ?_); refine bx (N := 6) #[.int .i64 0, .string (⟨#[]⟩ : ByteArray), .int .i64 0, .bool false] 45 ?_; intro gb383 hg w17 hbox hb; replace HO_2 := Aside0.mk (Kd.R_below (Kd.R_elderB (uR HO_2.out) gb383 (Nat.le_of_eq hg.symm)) hb); replace HO_11 := cR HO_11 hb; have BK383 := Aside0.mk (hbox); have GW383 := gw hg (uW HB.out); have GE383 := GW383; replace HB := cW HB hb; clear hb hbox hg; obtain ⟨hcz18_0, hcz18_1, hcz18_2, hcz18_3, hfz18_0, hfz18_1, hfz18_2, hfz18_3⟩ := z4 BK383))
      go_ret2
      exact ⟨_, re_, nl_, bl⟩
    ·
     rw [if_neg c6] at H
     have c6b0 : decide (x13_1 < (t374.length : Int)) = false := decide_eq_false c6
     clear c6
     obtain ⟨t387, A19, H⟩ := bs H
     try dsimp only at H
     by_cases c20 : t387 = true
     ·
      subst c20
      rw [if_pos rfl] at H
      simp only [Option.some.injEq, Prod.mk.injEq] at H
      obtain ⟨rfl, rfl⟩ := H
      obtain ⟨Ao21, co21, eo21⟩ := Kd.R_slice HO_2.out
      subst eo21
      go_wp2_with (first | (refine gL (some 31) rfl Tryz.func45 #[.slice Ao21 x2_1.length co21] ?_; (with_reducible refine (row_rise.calls k1 _ _ x2_1 true _ ?side1 ?side2 A19.out).mono ?_); (case side1 => exact uC <| (Kd.R_reads' HO_2.out).2.2); (case side2 => exact (Kd.R_reads' HO_2.out).2.1); rintro e w22 ⟨rfl, hb⟩; refine ⟨_, rfl, ?_⟩; replace HO_2 := cR HO_2 hb; replace HO_11 := cR HO_11 hb; replace HB := cW HB hb; (try clear hb)))
      go_ret2
      exact ⟨_, re_, uR HO_2.out, uW HB.out⟩
     ·
      replace c20 := Bool.eq_false_iff.mpr c20
      subst c20
      rw [if_neg (show ¬ (false = true) by decide)] at H
      simp only [Option.some.injEq, Prod.mk.injEq] at H
      obtain ⟨rfl, rfl⟩ := H
      obtain ⟨Ao23, co23, eo23⟩ := Kd.R_slice HO_2.out
      subst eo23
      go_wp2_with (first | (refine gL (some 31) rfl Tryz.func45 #[.slice Ao23 x2_1.length co23] ?_; (with_reducible refine (row_rise.calls k1 _ _ x2_1 false _ ?side1 ?side2 A19.out).mono ?_); (case side1 => exact uC <| (Kd.R_reads' HO_2.out).2.2); (case side2 => exact (Kd.R_reads' HO_2.out).2.1); rintro e w24 ⟨rfl, hb⟩; refine ⟨_, rfl, ?_⟩; replace HO_2 := cR HO_2 hb; replace HO_11 := cR HO_11 hb; replace HB := cW HB hb; (try clear hb)))
      go_ret2
      exact ⟨_, re_, nl_, uW HB.out⟩
end Go.Proofs.YtgcbejidponoaaaGreatDoor.X
