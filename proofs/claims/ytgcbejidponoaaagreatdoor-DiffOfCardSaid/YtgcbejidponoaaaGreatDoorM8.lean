/- Printed by a program of this session's own: what functions of the program compute, and that the machine computes it. No condition of its own. -/
import Derived.Test.YtgcbejidponoaaaGreatDoorM3
import Derived.Test.YtgcbejidponoaaaGreatDoorM4
import Derived.Test.YtgcbejidponoaaaGreatDoorM5
import Derived.Test.YtgcbejidponoaaaGreatDoorM7
namespace Go.Proofs.YtgcbejidponoaaaGreatDoor.X
open Go.RowKit Go.Proofs.YtgcbejidponoaaaGreatDoorW.PrintWords Go.Proofs.YtgcbejidponoaaaGreatDoorW.PrintLast Go.Proofs.YtgcbejidponoaaaGreatDoorW.PrintMore
attribute [local go_sem] max2_int min2_int max_two min_two max_three min_three max_four min_four
set_option linter.unusedVariables false
set_option linter.unusedSimpArgs false
set_option maxHeartbeats 8000000
set_option maxRecDepth 100000
def diff_leaves.f (k : Nat) (a0 : ByteArray) : Option (Int × ByteArray × Int × Bool × Bool × Int) := (word_Split.f k a0 124).bind fun t340 => (if (t340.length : Int) = 2 then (if 1 < (t340.length : Int) then (if 0 < (t340.length : Int) then ((sat_Read.f (rdOf ByteArray.empty t340 0)).bind fun bt345 => (if bt345.2 = 0 then ((tag_Parse.f k (rdOf ByteArray.empty t340 1)).bind fun bt348 => (if bt348.2 = 0 then ((tag_Text.f k bt348.1).bind fun t352 => (if t352.toList = (rdOf ByteArray.empty t340 1).toList then (some (bt345.1, rdOf ByteArray.empty t340 1, 0, false, true, bt348.2)) else (none))) else (some (bt345.1, rdOf ByteArray.empty t340 1, 0, false, true, bt348.2)))) else (none))) else (none)) else (none)) else (none))
theorem diff_leaves.mono : ∀ a0 k, LeO (diff_leaves.f k a0) (diff_leaves.f (k + 1) a0) := by
 intro a0 k
 unfold diff_leaves.f
 exact lo
instance diff_leaves.mI {a0 k} : LeC (diff_leaves.f k a0) (diff_leaves.f (k + 1) a0) := ⟨diff_leaves.mono _ _⟩
def diff_leaves.T4 : Bool × List (List Nat × List Nat) := (true, [([], []), ([0], [0]), ([1], [1]), ([], []), ([3], [3]), ([0, 1, 2, 3, 4], []), ([5, 0, 1, 2, 3, 4], [5]), ([6, 2, 4, 0, 1, 2, 3, 4], [2, 6])])
def diff_leaves.B4 : List Nat := [0, 1, 3, 0, 8, 31, 63, 127]
theorem diff_leaves.tab4 : rtab .any (opsOf Tryz.f58 4) = diff_leaves.T4 := by kernel_rfl
theorem diff_leaves.bits4 : waitsOk diff_leaves.T4.2 diff_leaves.B4 = true := by kernel_rfl
def diff_leaves.T9 : Bool × List (List Nat × List Nat) := (true, [([], []), ([0], [0]), ([1], [1]), ([2], [2]), ([3, 2, 2], [2, 3]), ([2], [2]), ([5, 2], [2, 5]), ([6, 2], [2, 6]), ([4, 7, 2], [2, 4, 7]), ([2, 8], [2, 8])])
def diff_leaves.B9 : List Nat := [0, 1, 3, 7, 15, 7, 39, 103, 255, 511]
theorem diff_leaves.tab9 : rtab .any (opsOf Tryz.f58 9) = diff_leaves.T9 := by kernel_rfl
theorem diff_leaves.bits9 : waitsOk diff_leaves.T9.2 diff_leaves.B9 = true := by kernel_rfl
theorem diff_leaves.calls (k : Nat) (a0 : ByteArray) (r1 : Int) (r2 : ByteArray) (r3 : Int) (r4 : Bool) (r5 : Bool) (r6 : Int) (w : World) (hL : LD w) (h : diff_leaves.f k a0 = some (r1, r2, r3, r4, r5, r6)) :
 Calls Tryz.prog 58 #[.string a0] w fun e w' => e = .returned (.tuple #[.agg #[.int .i64 r1, .string r2, .int .i64 r3, .bool r4, .bool r5], .int .i64 r6]) ∧ Below w.heap.size w w' := by
 have HL0 := Aside0.mk hL
 clear hL
 have hu48 := Tryz.underlying48
 have HB := Aside0.mk (Below.refl w.heap.size w)
 have H : ((word_Split.f k a0 124).bind fun t340 => (if (t340.length : Int) = 2 then (if 1 < (t340.length : Int) then (if 0 < (t340.length : Int) then ((sat_Read.f (rdOf ByteArray.empty t340 0)).bind fun bt345 => (if bt345.2 = 0 then ((tag_Parse.f k (rdOf ByteArray.empty t340 1)).bind fun bt348 => (if bt348.2 = 0 then ((tag_Text.f k bt348.1).bind fun t352 => (if t352.toList = (rdOf ByteArray.empty t340 1).toList then (some (bt345.1, rdOf ByteArray.empty t340 1, 0, false, true, bt348.2)) else (none))) else (some (bt345.1, rdOf ByteArray.empty t340 1, 0, false, true, bt348.2)))) else (none))) else (none)) else (none)) else (none))) = some (r1, r2, r3, r4, r5, r6) := h
 clear h
 obtain ⟨t340, A2, H⟩ := bs H
 try dsimp only at H
 by_cases c3 : (t340.length : Int) = 2
 ·
  rw [if_pos c3] at H
  have c3b0 : ((t340.length : Int) == 2) = true := beq_iff_eq.mpr c3
  have c3b1 : ((t340.length : Int) != 2) = false := bne_eq_false_iff_eq.mpr c3
  clear c3
  obtain ⟨c4, H⟩ := gd H
  have c4b0 : decide (1 < (t340.length : Int)) = true := decide_eq_true c4
  have c4b1 : decide (1 < t340.length) = true := decide_eq_true (by omega)
  clear c4
  obtain ⟨c5, H⟩ := gd H
  have c5b0 : decide (0 < (t340.length : Int)) = true := decide_eq_true c5
  have c5b1 : decide (0 < t340.length) = true := decide_eq_true (by omega)
  clear c5
  obtain ⟨⟨t345, t346⟩, A6, H⟩ := bs H
  try dsimp only at H
  obtain ⟨c7, H⟩ := gd H
  have c7b0 : (t346 == 0) = true := beq_iff_eq.mpr c7
  have c7b1 : (t346 != 0) = false := bne_eq_false_iff_eq.mpr c7
  clear c7
  obtain ⟨⟨t348, t349⟩, A8, H⟩ := bs H
  try dsimp only at H
  by_cases c9 : t349 = 0
  ·
   rw [if_pos c9] at H
   have c9b0 : (t349 == 0) = true := beq_iff_eq.mpr c9
   have c9b1 : (t349 != 0) = false := bne_eq_false_iff_eq.mpr c9
   clear c9
   obtain ⟨t352, A10, H⟩ := bs H
   try dsimp only at H
   obtain ⟨c11, H⟩ := gd H
   have c11b0 : (t352.toList == (rdOf ByteArray.empty t340 1).toList) = true := beq_iff_eq.mpr c11
   have c11b1 : (t352.toList != (rdOf ByteArray.empty t340 1).toList) = false := bne_eq_false_iff_eq.mpr c11
   clear c11
   simp only [Option.some.injEq, Prod.mk.injEq] at H
   obtain ⟨rfl, rfl, rfl, rfl, rfl, rfl⟩ := H
   go_enter Tryz.func58, Tryz.ntmps58
   try go_wp2_with (first | ((with_reducible refine gate_dst (N := 2) rfl ?_); refine bx (N := 2) #[.int .i64 0, .string (⟨#[]⟩ : ByteArray), .int .i64 0, .bool false, .bool false] 48 ?_; intro gb339 hg w12 hbox hb; have BK339 := Aside0.mk (hbox); have GW339 := gw hg (uW HB.out); have GE339 := GW339; replace HB := cW HB hb; clear hb hbox hg) | (refine gL (some 7) rfl Tryz.func39 #[.string a0, .int .u8 124] ?_; (with_reducible refine (word_Split.calls k a0 124 t340 _ A2.out).mono ?_); rintro e w13 ⟨v341, rfl, ho0, hb⟩; refine ⟨_, rfl, ?_⟩; have HO342 := Aside0.mk (Kd.R_lower ho0 (below_size bl)); replace BK339 := cB BK339 hb; replace HB := Aside0.mk (below_step bl hb); (try clear hb); (try clear ho0); obtain ⟨Ao14, co14, eo14⟩ := Kd.R_slice HO342.out; subst eo14))
   have n0_ := Aside0.mk (Kd.R_drew HO342.out)
   have n1_ := Aside0.mk (blk_drew BK339.out)
   have n2_ := Aside0.mk (below_drew1 HB.out)
   clear HO342
   clear BK339
   clear HB
   have HO342 := n0_
   have BK339 := n1_
   have HB := n2_
   clear n0_ n1_ n2_
   have p343 : 0 ≤ (1 : Int) := (by omega)
   have q343 : 1 < (t340.length : Int) := od
   obtain ⟨ad343, e343, hx343_0⟩ := Kd.at_string (Kd.R_reads' HO342.out).2.2 1 p343 q343
   cases e343
   (try simp only [show (1 : Int).toNat = 1 from rfl, Nat.reduceMul, Nat.reduceEqDiff, Go.Addr.add, ↓reduceIte] at hx343_0)
   have qi343 : (1 < t340.length) = True := eq_true (by omega)
   (try rw [show ((1 : Int)).toNat = 1 from rfl] at hx343_0)
   replace p343 := eq_true p343
   replace q343 := eq_true q343
   refine start_ (n := 8) (S := fun w' => w'.cell? ⟨ad343.block, ad343.off + 1, none⟩ = some (.string (rdOf ByteArray.empty t340 1))) (ds := []) #[false, false, false, false, false, false, false, false] (by kernel_rfl) rfl rfl (hx343_0) (fun hHeld => ?_); refine with_tabW diff_leaves.tab4 diff_leaves.bits4 (fun HT_ HW_ => ?_)
   generalize w13.drew = w15 at HO342 BK339 HB hx343_0 hHeld ⊢
   refine p1 0 (some 12) ?_
   refine p1 1 (some 13) ?_
   refine p1 3 (some 15) ?_
   refine t1 2 (some 14) rfl rfl hHeld (Or.inl ⟨by rfl, by intro w' s0; go_simp; with_reducible rfl⟩) ?_
   refine one_ (i := 4) (N := none) #[true, true, true, true, true, false, false, false] rfl rfl (one_of HT_.out (by kernel_rfl)) (by decide) (fun K hK => ?_)
   have hs16 : w15.cell? ⟨gb339, 4, none⟩ = some (.bool false) := (blk_cell BK339.out 4).trans rfl
   have hfs16 := blk_frozen BK339.out 4
   refine skip_ (w1 := ?_) (by rfl) rfl ?_ ?_
   rotate_left
   ·
    go_simp
    rfl
   refine hK.out _ _ (((cell_far (p := ⟨gb339, _, none⟩) (by first | exact Kd.own_blk (Kd.R_ne HO342.out BK339.out (by decide)) | (rw [add_block]; exact Kd.own_blk (Kd.R_ne HO342.out BK339.out (by decide))) | (show (Addr.add _ _).block ≠ _; rw [add_block]; exact Kd.own_blk (Kd.R_ne HO342.out BK339.out (by decide))) | (dsimp only; exact Kd.own_blk (Kd.R_ne HO342.out BK339.out (by decide)))) _).trans (hHeld))) (fun hHeld => ?_)
   clear hK K
   refine p1 5 (some 16) ?_
   refine p1 6 (some 17) ?_
   refine one_ (i := 7) (N := none) #[true, true, true, true, true, true, true, true] rfl rfl (one_of HT_.out (by kernel_rfl)) (by decide) (fun K hK => ?_)
   have hs17 : w15.cell? ⟨gb339, 1, none⟩ = some (.string (⟨#[]⟩ : ByteArray)) := (blk_cell BK339.out 1).trans rfl
   have hfs17 := blk_frozen BK339.out 1
   refine skip_ (w1 := ?_) (by rfl) rfl ?_ ?_
   rotate_left
   ·
    go_simp
    rfl
   refine hK.out _ _ (((cell_far (p := ⟨gb339, _, none⟩) (by first | exact Kd.own_blk (Kd.R_ne HO342.out BK339.out (by decide)) | (rw [add_block]; exact Kd.own_blk (Kd.R_ne HO342.out BK339.out (by decide))) | (show (Addr.add _ _).block ≠ _; rw [add_block]; exact Kd.own_blk (Kd.R_ne HO342.out BK339.out (by decide))) | (dsimp only; exact Kd.own_blk (Kd.R_ne HO342.out BK339.out (by decide)))) _).trans (hHeld))) (fun hHeld => ?_)
   clear hK K
   refine done_ (done_of HT_.out (by kernel_rfl)) ?_
   have p344 : 0 ≤ (0 : Int) := (by omega)
   have q344 : 0 < (t340.length : Int) := od
   obtain ⟨ad344, e344, hx344_0⟩ := Kd.at_string (Kd.R_reads' HO342.out).2.2 0 p344 q344
   obtain rfl : ad343 = ad344 := (by injection e344)
   have qi344 : (0 < t340.length) = True := eq_true (by omega)
   (try rw [show ((0 : Int)).toNat = 0 from rfl] at hx344_0)
   (try rw [Addr.add_zero'] at hx344_0)
   have hn344_0 : ad343.block ≠ gb339 := Kd.own_blk (Kd.R_ne HO342.out BK339.out (by decide))
   have hn344_1 : ad343.block ≠ gb339 := Kd.own_blk (Kd.R_ne HO342.out BK339.out (by decide))
   replace hx344_0 := (cell_far (p := ⟨gb339, 4, none⟩) (by first | (rw [add_block]; exact hn344_0) | (show (Addr.add _ _).block ≠ _; rw [add_block]; exact hn344_0) | exact hn344_0) (.bool true)).trans hx344_0
   replace hx344_0 := (cell_far (p := ⟨gb339, 1, none⟩) (by first | (rw [add_block]; exact hn344_1) | (show (Addr.add _ _).block ≠ _; rw [add_block]; exact hn344_1) | exact hn344_1) (.string (rdOf ByteArray.empty t340 1))).trans hx344_0
   clear hn344_0
   clear hn344_1
   replace p344 := eq_true p344
   replace q344 := eq_true q344
   try go_wp2_with (first | (refine gL (some 22) rfl Tryz.func76 #[.string (rdOf ByteArray.empty t340 0)] ?_; (with_reducible refine (sat_Read.calls (hL := (by first | exact HL0.out | exact LD.below HL0.out bl)) (rdOf ByteArray.empty t340 0) t345 t346 _ A6.out).mono ?_); rintro e w18 ⟨rfl, hb⟩; refine ⟨_, rfl, ?_⟩; replace HO342 := Aside0.mk (Kd.R_below (by exact uR <| (Kd.R_mono (Kd.R_far (p := ⟨gb339, 1, none⟩) (Kd.R_far (p := ⟨gb339, 4, none⟩) (Kd.R_types HO342.out BK339.out (by decide)) (fun _ hk => hk.2) (.bool true)) (fun _ hk => hk.2) (.string (rdOf ByteArray.empty t340 1))) (fun _ h_ => h_.1))) hb); replace BK339 := Aside0.mk (blk_below (g := gb339) (o := .cells #[.int .i64 0, .string (rdOf ByteArray.empty t340 1), .int .i64 0, .bool false, .bool true] 48 (0, 0)) (by (with_reducible repeat (first | refine blk_drewN ?_ _ | refine blk_drew ?_ | refine blk_alloc ?_ _)); refine blk_put (cs := #[.int .i64 0, .string (⟨#[]⟩ : ByteArray), .int .i64 0, .bool false, .bool true]) ?_ 1 _ rfl; (with_reducible repeat (first | refine blk_drewN ?_ _ | refine blk_drew ?_ | refine blk_alloc ?_ _)); refine blk_put (cs := #[.int .i64 0, .string (⟨#[]⟩ : ByteArray), .int .i64 0, .bool false, .bool false]) ?_ 4 _ rfl; exact uB <| BK339.out) hb); replace HB := Aside0.mk (below_step bl hb); (try clear hb); obtain ⟨hcz19_0, hcz19_1, hcz19_2, hcz19_3, hcz19_4, hfz19_0, hfz19_1, hfz19_2, hfz19_3, hfz19_4⟩ := z5 BK339; have p347 : 0 ≤ (1 : Int) := (by omega); have q347 : 1 < (t340.length : Int) := od; obtain ⟨ad347, e347, hx347_0⟩ := Kd.at_string (Kd.R_reads' HO342.out).2.2 1 p347 q347; obtain rfl : ad343 = ad347 := (by injection e347); (try simp only [show (1 : Int).toNat = 1 from rfl, Nat.reduceMul, Nat.reduceEqDiff, Go.Addr.add, ↓reduceIte] at hx347_0); have qi347 : (1 < t340.length) = True := eq_true (by omega); (try rw [show ((1 : Int)).toNat = 1 from rfl] at hx347_0); have hn347_0 : ad343.block ≠ gb339 := Kd.own_blk (Kd.R_ne HO342.out BK339.out (by decide)); replace hx347_0 := (cell_far (p := ⟨gb339, 0, none⟩) (by first | (rw [add_block]; exact hn347_0) | (show (Addr.add _ _).block ≠ _; rw [add_block]; exact hn347_0) | exact hn347_0) (.int .i64 t345)).trans hx347_0; clear hn347_0; replace p347 := eq_true p347; replace q347 := eq_true q347) | (refine gL (some 35) rfl Tryz.func65 #[.string (rdOf ByteArray.empty t340 1)] ?_; (with_reducible refine (tag_Parse.calls (hL := (by first | exact HL0.out | exact LD.below HL0.out bl)) k (rdOf ByteArray.empty t340 1) t348 t349 _ A8.out).mono ?_); rintro e w20 ⟨v350, rfl, ho0, hb⟩; refine ⟨_, rfl, ?_⟩; replace HO342 := Aside0.mk (Kd.R_below (by exact uR <| (Kd.R_mono (Kd.R_far (p := ⟨gb339, 0, none⟩) (Kd.R_types HO342.out BK339.out (by decide)) (fun _ hk => hk.2) (.int .i64 t345)) (fun _ h_ => h_.1))) hb); have HO351 := Aside0.mk (Kd.R_lower ho0 (below_size bl)); replace BK339 := Aside0.mk (blk_below (g := gb339) (o := .cells #[.int .i64 t345, .string (rdOf ByteArray.empty t340 1), .int .i64 0, .bool false, .bool true] 48 (0, 0)) (by (with_reducible repeat (first | refine blk_drewN ?_ _ | refine blk_drew ?_ | refine blk_alloc ?_ _)); refine blk_put (cs := #[.int .i64 0, .string (rdOf ByteArray.empty t340 1), .int .i64 0, .bool false, .bool true]) ?_ 0 _ rfl; exact uB <| BK339.out) hb); replace HB := Aside0.mk (below_step bl hb); (try clear hb); (try clear ho0)))
   have n0_ := Aside0.mk (Kd.R_drew HO342.out)
   have n1_ := Aside0.mk (Kd.R_drew HO351.out)
   have n2_ := Aside0.mk (blk_drew BK339.out)
   have n3_ := Aside0.mk (below_drew1 HB.out)
   clear HO342
   clear HO351
   clear BK339
   clear HB
   have HO342 := n0_
   have HO351 := n1_
   have BK339 := n2_
   have HB := n3_
   clear n0_ n1_ n2_ n3_
   have p353 : 0 ≤ (1 : Int) := (by omega)
   have q353 : 1 < (t340.length : Int) := od
   obtain ⟨ad353, e353, hx353_0⟩ := Kd.at_string (Kd.R_reads' HO342.out).2.2 1 p353 q353
   obtain rfl : ad343 = ad353 := (by injection e353)
   (try simp only [show (1 : Int).toNat = 1 from rfl, Nat.reduceMul, Nat.reduceEqDiff, Go.Addr.add, ↓reduceIte] at hx353_0)
   have qi353 : (1 < t340.length) = True := eq_true (by omega)
   (try rw [show ((1 : Int)).toNat = 1 from rfl] at hx353_0)
   replace p353 := eq_true p353
   replace q353 := eq_true q353
   obtain ⟨Ao22, co22, eo22⟩ := Kd.R_slice HO351.out
   (first | subst eo22 | (injection eo22 with f1_ f2_ f3_; have f4_ := f1_.symm; have f5_ := f3_.symm; clear f1_ f2_ f3_; subst f4_; subst f5_))
   refine start_ (n := 10) (S := fun w' => w'.cell? ⟨ad343.block, ad343.off + 1, none⟩ = some (.string (rdOf ByteArray.empty t340 1))) (ds := []) #[false, false, false, false, false, false, false, false, false, false] (by kernel_rfl) rfl rfl (hx353_0) (fun hHeld => ?_); refine with_tabW diff_leaves.tab9 diff_leaves.bits9 (fun HT_ HW_ => ?_)
   generalize w20.drew = w21 at HO342 HO351 BK339 HB hx353_0 hHeld ⊢
   refine p1 0 (some 38) ?_
   refine p1 1 (some 39) ?_
   refine p1 2 (some 40) ?_
   refine p1 3 (some 41) ?_
   refine p1 5 (some 43) ?_
   refine p1 6 (some 44) ?_
   refine t1 7 (some 45) rfl rfl hHeld (Or.inl ⟨by rfl, by intro w' s0; go_simp; with_reducible rfl⟩) ?_
   refine one_ (i := 4) (N := some 42) #[true, true, true, true, true, true, true, true, false, false] rfl rfl (one_of HT_.out (by kernel_rfl)) (by decide) (fun K hK => ?_)
   refine goes_ Tryz.func66 (by kernel_rfl) rfl #[.slice Ao22 t348.length co22] (by rfl) rfl rfl (by (try simp only [List.map_toArray, List.map_cons, List.map_nil]); first | done | rfl | (simp only [List.length_drop, List.length_take]; rfl)) ?_
   with_reducible refine (tag_Text.calls k _ _ t348 t352 _ ?side1 ?side2 A10.out).mono ?_
   (case side1 => exact uC <| (Kd.R_reads' HO351.out).2.2)
   (case side2 => exact (Kd.R_reads' HO351.out).2.1)
   rintro e w23 ⟨rfl, hb⟩
   have HS0_ := (hb.cell (World.block_lt_of_cell? _ _ (hHeld))).trans (hHeld)
   refine ⟨_, rfl, ?_⟩
   have n0_ := cR HO342 hb
   have n1_ := cR HO351 hb
   have n2_ := cB BK339 hb
   have n3_ := Aside0.mk (below_step bl hb)
   clear HO342
   clear HO351
   clear BK339
   clear HB
   have HO342 := n0_
   have HO351 := n1_
   have BK339 := n2_
   have HB := n3_
   clear n0_ n1_ n2_ n3_
   (try clear hb)
   (try clear hb2)
   (try clear hk)
   (try clear hi)
   refine hK.out _ _ (HS0_) (fun hHeld => ?_)
   clear hK K
   refine norm_ (a' := ?_) ?_ ?_
   rotate_left
   ·
    show Act.put _ (some 42) _ = _
    simp only [Act.put, List.setIfInBounds_toArray, List.set_cons_zero, List.set_cons_succ, i64_w, i32_w]
    rfl
   refine p1 8 (some 46) ?_
   refine p1 9 (some 47) ?_
   refine done_ (done_of HT_.out (by kernel_rfl)) ?_
   obtain ⟨hcz24_0, hcz24_1, hcz24_2, hcz24_3, hcz24_4, hfz24_0, hfz24_1, hfz24_2, hfz24_3, hfz24_4⟩ := z5 BK339
   try go_wp2_with (first | ((with_reducible refine gate_store (t := 48) (p := 2) rfl ?_); refine store_event (t := 48) (p := 2) (v := ?vo_w25) (w1 := (((((w23.setCell ⟨gb339, 0, none⟩ (.int .i64 t345)).setCell ⟨gb339, 1, none⟩ (.string (rdOf ByteArray.empty t340 1))).setCell ⟨gb339, 2, none⟩ (.int .i64 0)).setCell ⟨gb339, 3, none⟩ (.bool false)).setCell ⟨gb339, 4, none⟩ (.bool true))) ?hg ?ho ?hn ?hr ?_; (case ho => rfl); (case hg => rfl); (case hn => rfl); (case hr => first | (go_simp; done) | (go_simp; rfl)); intro w25 hw; have n0_ : Aside0 (Kd.R Kd.string 9 w25 w.heap.size (fun _ => True) (.slice (some ad343) t340.length co14) t340) := ⟨(by rw [hw]; exact (by exact uR <| Kd.R_mono (Kd.R_far (p := ⟨gb339, 4, none⟩) (Kd.R_far (p := ⟨gb339, 3, none⟩) (Kd.R_far (p := ⟨gb339, 2, none⟩) (Kd.R_far (p := ⟨gb339, 1, none⟩) (Kd.R_far (p := ⟨gb339, 0, none⟩) (Kd.R_types HO342.out BK339.out (by decide)) (fun _ hk => hk.2) (.int .i64 t345)) (fun _ hk => hk.2) (.string (rdOf ByteArray.empty t340 1))) (fun _ hk => hk.2) (.int .i64 0)) (fun _ hk => hk.2) (.bool false)) (fun _ hk => hk.2) (.bool true)) (fun _ hk => trivial)))⟩; have n1_ : Aside0 (Kd.R k98 98 w25 w.heap.size (fun _ => True) (.slice Ao22 t348.length co22) t348) := ⟨(by rw [hw]; exact (by exact uR <| Kd.R_mono (Kd.R_far (p := ⟨gb339, 4, none⟩) (Kd.R_far (p := ⟨gb339, 3, none⟩) (Kd.R_far (p := ⟨gb339, 2, none⟩) (Kd.R_far (p := ⟨gb339, 1, none⟩) (Kd.R_far (p := ⟨gb339, 0, none⟩) (Kd.R_types HO351.out BK339.out (by decide)) (fun _ hk => hk.2) (.int .i64 t345)) (fun _ hk => hk.2) (.string (rdOf ByteArray.empty t340 1))) (fun _ hk => hk.2) (.int .i64 0)) (fun _ hk => hk.2) (.bool false)) (fun _ hk => hk.2) (.bool true)) (fun _ hk => trivial)))⟩; have n2_ : Aside0 (w25.heap[gb339]? = some (.cells #[.int .i64 t345, .string (rdOf ByteArray.empty t340 1), .int .i64 0, .bool false, .bool true] 48 (0, 0))) := ⟨(by rw [hw]; exact (by (with_reducible repeat (first | refine blk_drewN ?_ _ | refine blk_drew ?_ | refine blk_alloc ?_ _)); refine blk_put (cs := #[.int .i64 t345, .string (rdOf ByteArray.empty t340 1), .int .i64 0, .bool false, .bool true]) ?_ 4 _ rfl; (with_reducible repeat (first | refine blk_drewN ?_ _ | refine blk_drew ?_ | refine blk_alloc ?_ _)); refine blk_put (cs := #[.int .i64 t345, .string (rdOf ByteArray.empty t340 1), .int .i64 0, .bool false, .bool true]) ?_ 3 _ rfl; (with_reducible repeat (first | refine blk_drewN ?_ _ | refine blk_drew ?_ | refine blk_alloc ?_ _)); refine blk_put (cs := #[.int .i64 t345, .string (rdOf ByteArray.empty t340 1), .int .i64 0, .bool false, .bool true]) ?_ 2 _ rfl; (with_reducible repeat (first | refine blk_drewN ?_ _ | refine blk_drew ?_ | refine blk_alloc ?_ _)); refine blk_put (cs := #[.int .i64 t345, .string (rdOf ByteArray.empty t340 1), .int .i64 0, .bool false, .bool true]) ?_ 1 _ rfl; (with_reducible repeat (first | refine blk_drewN ?_ _ | refine blk_drew ?_ | refine blk_alloc ?_ _)); refine blk_put (cs := #[.int .i64 t345, .string (rdOf ByteArray.empty t340 1), .int .i64 0, .bool false, .bool true]) ?_ 0 _ rfl; exact uB <| BK339.out))⟩; have n3_ : Aside0 (Below w.heap.size w w25) := ⟨(by rw [hw]; exact bl)⟩; clear hw; clear HO342; clear HO351; clear BK339; clear HB; have HO342 := n0_; have HO351 := n1_; have BK339 := n2_; have HB := n3_; clear n0_ n1_ n2_ n3_))
   refine bodyPost_ret (results_ct rfl _ _ gb339 48 #[.int .i64 t345, .string (rdOf ByteArray.empty t340 1), .int .i64 0, .bool false, .bool true] (0, 0) _ rfl (uB BK339.out) Tryz.underlying48 rfl (by kernel_rfl)) rfl ?_
   exact ⟨re_, bl⟩
  ·
   rw [if_neg c9] at H
   have c9b0 : (t349 == 0) = false := beq_eq_false_iff_ne.mpr c9
   have c9b1 : (t349 != 0) = true := bne_iff_ne.mpr c9
   simp only [Option.some.injEq, Prod.mk.injEq] at H
   obtain ⟨rfl, rfl, rfl, rfl, rfl, rfl⟩ := H
   go_enter Tryz.func58, Tryz.ntmps58
   try go_wp2_with (first | ((with_reducible refine gate_dst (N := 2) rfl ?_); refine bx (N := 2) #[.int .i64 0, .string (⟨#[]⟩ : ByteArray), .int .i64 0, .bool false, .bool false] 48 ?_; intro gb339 hg w26 hbox hb; have BK339 := Aside0.mk (hbox); have GW339 := gw hg (uW HB.out); have GE339 := GW339; replace HB := cW HB hb; clear hb hbox hg) | (refine gL (some 7) rfl Tryz.func39 #[.string a0, .int .u8 124] ?_; (with_reducible refine (word_Split.calls k a0 124 t340 _ A2.out).mono ?_); rintro e w27 ⟨v341, rfl, ho0, hb⟩; refine ⟨_, rfl, ?_⟩; have HO342 := Aside0.mk (Kd.R_lower ho0 (below_size bl)); replace BK339 := cB BK339 hb; replace HB := Aside0.mk (below_step bl hb); (try clear hb); (try clear ho0); obtain ⟨Ao28, co28, eo28⟩ := Kd.R_slice HO342.out; subst eo28))
   have n0_ := Aside0.mk (Kd.R_drew HO342.out)
   have n1_ := Aside0.mk (blk_drew BK339.out)
   have n2_ := Aside0.mk (below_drew1 HB.out)
   clear HO342
   clear BK339
   clear HB
   have HO342 := n0_
   have BK339 := n1_
   have HB := n2_
   clear n0_ n1_ n2_
   have p343 : 0 ≤ (1 : Int) := (by omega)
   have q343 : 1 < (t340.length : Int) := od
   obtain ⟨ad343, e343, hx343_0⟩ := Kd.at_string (Kd.R_reads' HO342.out).2.2 1 p343 q343
   cases e343
   (try simp only [show (1 : Int).toNat = 1 from rfl, Nat.reduceMul, Nat.reduceEqDiff, Go.Addr.add, ↓reduceIte] at hx343_0)
   have qi343 : (1 < t340.length) = True := eq_true (by omega)
   (try rw [show ((1 : Int)).toNat = 1 from rfl] at hx343_0)
   replace p343 := eq_true p343
   replace q343 := eq_true q343
   refine start_ (n := 8) (S := fun w' => w'.cell? ⟨ad343.block, ad343.off + 1, none⟩ = some (.string (rdOf ByteArray.empty t340 1))) (ds := []) #[false, false, false, false, false, false, false, false] (by kernel_rfl) rfl rfl (hx343_0) (fun hHeld => ?_); refine with_tabW diff_leaves.tab4 diff_leaves.bits4 (fun HT_ HW_ => ?_)
   generalize w27.drew = w29 at HO342 BK339 HB hx343_0 hHeld ⊢
   refine p1 0 (some 12) ?_
   refine p1 1 (some 13) ?_
   refine p1 3 (some 15) ?_
   refine t1 2 (some 14) rfl rfl hHeld (Or.inl ⟨by rfl, by intro w' s0; go_simp; with_reducible rfl⟩) ?_
   refine one_ (i := 4) (N := none) #[true, true, true, true, true, false, false, false] rfl rfl (one_of HT_.out (by kernel_rfl)) (by decide) (fun K hK => ?_)
   have hs30 : w29.cell? ⟨gb339, 4, none⟩ = some (.bool false) := (blk_cell BK339.out 4).trans rfl
   have hfs30 := blk_frozen BK339.out 4
   refine skip_ (w1 := ?_) (by rfl) rfl ?_ ?_
   rotate_left
   ·
    go_simp
    rfl
   refine hK.out _ _ (((cell_far (p := ⟨gb339, _, none⟩) (by first | exact Kd.own_blk (Kd.R_ne HO342.out BK339.out (by decide)) | (rw [add_block]; exact Kd.own_blk (Kd.R_ne HO342.out BK339.out (by decide))) | (show (Addr.add _ _).block ≠ _; rw [add_block]; exact Kd.own_blk (Kd.R_ne HO342.out BK339.out (by decide))) | (dsimp only; exact Kd.own_blk (Kd.R_ne HO342.out BK339.out (by decide)))) _).trans (hHeld))) (fun hHeld => ?_)
   clear hK K
   refine p1 5 (some 16) ?_
   refine p1 6 (some 17) ?_
   refine one_ (i := 7) (N := none) #[true, true, true, true, true, true, true, true] rfl rfl (one_of HT_.out (by kernel_rfl)) (by decide) (fun K hK => ?_)
   have hs31 : w29.cell? ⟨gb339, 1, none⟩ = some (.string (⟨#[]⟩ : ByteArray)) := (blk_cell BK339.out 1).trans rfl
   have hfs31 := blk_frozen BK339.out 1
   refine skip_ (w1 := ?_) (by rfl) rfl ?_ ?_
   rotate_left
   ·
    go_simp
    rfl
   refine hK.out _ _ (((cell_far (p := ⟨gb339, _, none⟩) (by first | exact Kd.own_blk (Kd.R_ne HO342.out BK339.out (by decide)) | (rw [add_block]; exact Kd.own_blk (Kd.R_ne HO342.out BK339.out (by decide))) | (show (Addr.add _ _).block ≠ _; rw [add_block]; exact Kd.own_blk (Kd.R_ne HO342.out BK339.out (by decide))) | (dsimp only; exact Kd.own_blk (Kd.R_ne HO342.out BK339.out (by decide)))) _).trans (hHeld))) (fun hHeld => ?_)
   clear hK K
   refine done_ (done_of HT_.out (by kernel_rfl)) ?_
   have p344 : 0 ≤ (0 : Int) := (by omega)
   have q344 : 0 < (t340.length : Int) := od
   obtain ⟨ad344, e344, hx344_0⟩ := Kd.at_string (Kd.R_reads' HO342.out).2.2 0 p344 q344
   obtain rfl : ad343 = ad344 := (by injection e344)
   have qi344 : (0 < t340.length) = True := eq_true (by omega)
   (try rw [show ((0 : Int)).toNat = 0 from rfl] at hx344_0)
   (try rw [Addr.add_zero'] at hx344_0)
   have hn344_0 : ad343.block ≠ gb339 := Kd.own_blk (Kd.R_ne HO342.out BK339.out (by decide))
   have hn344_1 : ad343.block ≠ gb339 := Kd.own_blk (Kd.R_ne HO342.out BK339.out (by decide))
   replace hx344_0 := (cell_far (p := ⟨gb339, 4, none⟩) (by first | (rw [add_block]; exact hn344_0) | (show (Addr.add _ _).block ≠ _; rw [add_block]; exact hn344_0) | exact hn344_0) (.bool true)).trans hx344_0
   replace hx344_0 := (cell_far (p := ⟨gb339, 1, none⟩) (by first | (rw [add_block]; exact hn344_1) | (show (Addr.add _ _).block ≠ _; rw [add_block]; exact hn344_1) | exact hn344_1) (.string (rdOf ByteArray.empty t340 1))).trans hx344_0
   clear hn344_0
   clear hn344_1
   replace p344 := eq_true p344
   replace q344 := eq_true q344
   try go_wp2_with (first | (refine gL (some 22) rfl Tryz.func76 #[.string (rdOf ByteArray.empty t340 0)] ?_; (with_reducible refine (sat_Read.calls (hL := (by first | exact HL0.out | exact LD.below HL0.out bl)) (rdOf ByteArray.empty t340 0) t345 t346 _ A6.out).mono ?_); rintro e w32 ⟨rfl, hb⟩; refine ⟨_, rfl, ?_⟩; replace HO342 := Aside0.mk (Kd.R_below (by exact uR <| (Kd.R_mono (Kd.R_far (p := ⟨gb339, 1, none⟩) (Kd.R_far (p := ⟨gb339, 4, none⟩) (Kd.R_types HO342.out BK339.out (by decide)) (fun _ hk => hk.2) (.bool true)) (fun _ hk => hk.2) (.string (rdOf ByteArray.empty t340 1))) (fun _ h_ => h_.1))) hb); replace BK339 := Aside0.mk (blk_below (g := gb339) (o := .cells #[.int .i64 0, .string (rdOf ByteArray.empty t340 1), .int .i64 0, .bool false, .bool true] 48 (0, 0)) (by (with_reducible repeat (first | refine blk_drewN ?_ _ | refine blk_drew ?_ | refine blk_alloc ?_ _)); refine blk_put (cs := #[.int .i64 0, .string (⟨#[]⟩ : ByteArray), .int .i64 0, .bool false, .bool true]) ?_ 1 _ rfl; (with_reducible repeat (first | refine blk_drewN ?_ _ | refine blk_drew ?_ | refine blk_alloc ?_ _)); refine blk_put (cs := #[.int .i64 0, .string (⟨#[]⟩ : ByteArray), .int .i64 0, .bool false, .bool false]) ?_ 4 _ rfl; exact uB <| BK339.out) hb); replace HB := Aside0.mk (below_step bl hb); (try clear hb); obtain ⟨hcz33_0, hcz33_1, hcz33_2, hcz33_3, hcz33_4, hfz33_0, hfz33_1, hfz33_2, hfz33_3, hfz33_4⟩ := z5 BK339; have p347 : 0 ≤ (1 : Int) := (by omega); have q347 : 1 < (t340.length : Int) := od; obtain ⟨ad347, e347, hx347_0⟩ := Kd.at_string (Kd.R_reads' HO342.out).2.2 1 p347 q347; obtain rfl : ad343 = ad347 := (by injection e347); (try simp only [show (1 : Int).toNat = 1 from rfl, Nat.reduceMul, Nat.reduceEqDiff, Go.Addr.add, ↓reduceIte] at hx347_0); have qi347 : (1 < t340.length) = True := eq_true (by omega); (try rw [show ((1 : Int)).toNat = 1 from rfl] at hx347_0); have hn347_0 : ad343.block ≠ gb339 := Kd.own_blk (Kd.R_ne HO342.out BK339.out (by decide)); replace hx347_0 := (cell_far (p := ⟨gb339, 0, none⟩) (by first | (rw [add_block]; exact hn347_0) | (show (Addr.add _ _).block ≠ _; rw [add_block]; exact hn347_0) | exact hn347_0) (.int .i64 t345)).trans hx347_0; clear hn347_0; replace p347 := eq_true p347; replace q347 := eq_true q347) | (refine gL (some 35) rfl Tryz.func65 #[.string (rdOf ByteArray.empty t340 1)] ?_; (with_reducible refine (tag_Parse.calls (hL := (by first | exact HL0.out | exact LD.below HL0.out bl)) k (rdOf ByteArray.empty t340 1) t348 t349 _ A8.out).mono ?_); rintro e w34 ⟨v350, rfl, ho0, hb⟩; refine ⟨_, rfl, ?_⟩; replace HO342 := Aside0.mk (Kd.R_below (by exact uR <| (Kd.R_mono (Kd.R_far (p := ⟨gb339, 0, none⟩) (Kd.R_types HO342.out BK339.out (by decide)) (fun _ hk => hk.2) (.int .i64 t345)) (fun _ h_ => h_.1))) hb); have HO351 := Aside0.mk (Kd.R_lower ho0 (below_size bl)); replace BK339 := Aside0.mk (blk_below (g := gb339) (o := .cells #[.int .i64 t345, .string (rdOf ByteArray.empty t340 1), .int .i64 0, .bool false, .bool true] 48 (0, 0)) (by (with_reducible repeat (first | refine blk_drewN ?_ _ | refine blk_drew ?_ | refine blk_alloc ?_ _)); refine blk_put (cs := #[.int .i64 0, .string (rdOf ByteArray.empty t340 1), .int .i64 0, .bool false, .bool true]) ?_ 0 _ rfl; exact uB <| BK339.out) hb); replace HB := Aside0.mk (below_step bl hb); (try clear hb); (try clear ho0)))
   have n0_ := Aside0.mk (Kd.R_drew HO342.out)
   have n1_ := Aside0.mk (Kd.R_drew HO351.out)
   have n2_ := Aside0.mk (blk_drew BK339.out)
   have n3_ := Aside0.mk (below_drew1 HB.out)
   clear HO342
   clear HO351
   clear BK339
   clear HB
   have HO342 := n0_
   have HO351 := n1_
   have BK339 := n2_
   have HB := n3_
   clear n0_ n1_ n2_ n3_
   refine start_ (n := 10) (S := fun w' => True) (ds := []) #[false, false, false, false, false, false, false, false, false, false] (by kernel_rfl) rfl rfl trivial (fun hHeld => ?_); refine with_tabW diff_leaves.tab9 diff_leaves.bits9 (fun HT_ HW_ => ?_)
   generalize w34.drew = w35 at HO342 HO351 BK339 HB hHeld ⊢
   refine p1 0 (some 38) ?_
   refine p1 1 (some 39) ?_
   refine p1 2 (some 40) ?_
   refine p2 3 (some 41) ?_
   refine p2 4 (some 42) ?_
   refine p2 5 (some 43) ?_
   refine p2 6 (some 44) ?_
   refine p2 7 (some 45) ?_
   refine p2 8 (some 46) ?_
   refine p1 9 (some 47) ?_
   refine done_ (done_of HT_.out (by kernel_rfl)) ?_
   obtain ⟨hcz36_0, hcz36_1, hcz36_2, hcz36_3, hcz36_4, hfz36_0, hfz36_1, hfz36_2, hfz36_3, hfz36_4⟩ := z5 BK339
   try go_wp2_with (first | ((with_reducible refine gate_store (t := 48) (p := 2) rfl ?_); refine store_event (t := 48) (p := 2) (v := ?vo_w37) (w1 := (((((w35.setCell ⟨gb339, 0, none⟩ (.int .i64 t345)).setCell ⟨gb339, 1, none⟩ (.string (rdOf ByteArray.empty t340 1))).setCell ⟨gb339, 2, none⟩ (.int .i64 0)).setCell ⟨gb339, 3, none⟩ (.bool false)).setCell ⟨gb339, 4, none⟩ (.bool true))) ?hg ?ho ?hn ?hr ?_; (case ho => rfl); (case hg => rfl); (case hn => rfl); (case hr => first | (go_simp; done) | (go_simp; rfl)); intro w37 hw; have n0_ : Aside0 (Kd.R Kd.string 9 w37 w.heap.size (fun _ => True) (.slice (some ad343) t340.length co28) t340) := ⟨(by rw [hw]; exact (by exact uR <| Kd.R_mono (Kd.R_far (p := ⟨gb339, 4, none⟩) (Kd.R_far (p := ⟨gb339, 3, none⟩) (Kd.R_far (p := ⟨gb339, 2, none⟩) (Kd.R_far (p := ⟨gb339, 1, none⟩) (Kd.R_far (p := ⟨gb339, 0, none⟩) (Kd.R_types HO342.out BK339.out (by decide)) (fun _ hk => hk.2) (.int .i64 t345)) (fun _ hk => hk.2) (.string (rdOf ByteArray.empty t340 1))) (fun _ hk => hk.2) (.int .i64 0)) (fun _ hk => hk.2) (.bool false)) (fun _ hk => hk.2) (.bool true)) (fun _ hk => trivial)))⟩; have n1_ : Aside0 (Kd.R k98 98 w37 w.heap.size (fun _ => True) v350 t348) := ⟨(by rw [hw]; exact (by exact uR <| Kd.R_mono (Kd.R_far (p := ⟨gb339, 4, none⟩) (Kd.R_far (p := ⟨gb339, 3, none⟩) (Kd.R_far (p := ⟨gb339, 2, none⟩) (Kd.R_far (p := ⟨gb339, 1, none⟩) (Kd.R_far (p := ⟨gb339, 0, none⟩) (Kd.R_types HO351.out BK339.out (by decide)) (fun _ hk => hk.2) (.int .i64 t345)) (fun _ hk => hk.2) (.string (rdOf ByteArray.empty t340 1))) (fun _ hk => hk.2) (.int .i64 0)) (fun _ hk => hk.2) (.bool false)) (fun _ hk => hk.2) (.bool true)) (fun _ hk => trivial)))⟩; have n2_ : Aside0 (w37.heap[gb339]? = some (.cells #[.int .i64 t345, .string (rdOf ByteArray.empty t340 1), .int .i64 0, .bool false, .bool true] 48 (0, 0))) := ⟨(by rw [hw]; exact (by (with_reducible repeat (first | refine blk_drewN ?_ _ | refine blk_drew ?_ | refine blk_alloc ?_ _)); refine blk_put (cs := #[.int .i64 t345, .string (rdOf ByteArray.empty t340 1), .int .i64 0, .bool false, .bool true]) ?_ 4 _ rfl; (with_reducible repeat (first | refine blk_drewN ?_ _ | refine blk_drew ?_ | refine blk_alloc ?_ _)); refine blk_put (cs := #[.int .i64 t345, .string (rdOf ByteArray.empty t340 1), .int .i64 0, .bool false, .bool true]) ?_ 3 _ rfl; (with_reducible repeat (first | refine blk_drewN ?_ _ | refine blk_drew ?_ | refine blk_alloc ?_ _)); refine blk_put (cs := #[.int .i64 t345, .string (rdOf ByteArray.empty t340 1), .int .i64 0, .bool false, .bool true]) ?_ 2 _ rfl; (with_reducible repeat (first | refine blk_drewN ?_ _ | refine blk_drew ?_ | refine blk_alloc ?_ _)); refine blk_put (cs := #[.int .i64 t345, .string (rdOf ByteArray.empty t340 1), .int .i64 0, .bool false, .bool true]) ?_ 1 _ rfl; (with_reducible repeat (first | refine blk_drewN ?_ _ | refine blk_drew ?_ | refine blk_alloc ?_ _)); refine blk_put (cs := #[.int .i64 t345, .string (rdOf ByteArray.empty t340 1), .int .i64 0, .bool false, .bool true]) ?_ 0 _ rfl; exact uB <| BK339.out))⟩; have n3_ : Aside0 (Below w.heap.size w w37) := ⟨(by rw [hw]; exact bl)⟩; clear hw; clear HO342; clear HO351; clear BK339; clear HB; have HO342 := n0_; have HO351 := n1_; have BK339 := n2_; have HB := n3_; clear n0_ n1_ n2_ n3_))
   refine bodyPost_ret (results_ct rfl _ _ gb339 48 #[.int .i64 t345, .string (rdOf ByteArray.empty t340 1), .int .i64 0, .bool false, .bool true] (0, 0) _ rfl (uB BK339.out) Tryz.underlying48 rfl (by kernel_rfl)) rfl ?_
   exact ⟨re_, bl⟩
 ·
  rw [if_neg c3] at H
  exact absurd H (by simp)
def stringslite_HasSuffix.f (a0 : ByteArray) (a1 : ByteArray) : Option (Bool) := if (a0.size : Int) ≥ (a1.size : Int) then (if 0 ≤ (wrap64 ((a0.size : Int) - (a1.size : Int))) then (if (wrap64 ((a0.size : Int) - (a1.size : Int))) ≤ (a0.size : Int) then (some ((a0.extract ((wrap64 ((a0.size : Int) - (a1.size : Int))) : Int).toNat a0.size).toList == a1.toList)) else (none)) else (none)) else (some false)
theorem stringslite_HasSuffix.calls (a0 : ByteArray) (a1 : ByteArray) (r : Bool) (w : World) (h : stringslite_HasSuffix.f a0 a1 = some r) :
 Calls Tryz.prog 163 #[.string a0, .string a1] w fun e w' => e = .returned (.bool r) ∧ Drawn0 w w' := by
 have H : (if (a0.size : Int) ≥ (a1.size : Int) then (if 0 ≤ (wrap64 ((a0.size : Int) - (a1.size : Int))) then (if (wrap64 ((a0.size : Int) - (a1.size : Int))) ≤ (a0.size : Int) then (some ((a0.extract ((wrap64 ((a0.size : Int) - (a1.size : Int))) : Int).toNat a0.size).toList == a1.toList)) else (none)) else (none)) else (some false)) = some r := h
 clear h
 by_cases c3 : (a0.size : Int) ≥ (a1.size : Int)
 ·
  rw [if_pos c3] at H
  have c3b0 : decide ((a1.size : Int) ≤ (a0.size : Int)) = true := decide_eq_true c3
  have c3b1 : decide (a1.size ≤ a0.size) = true := decide_eq_true (Int.ofNat_le.mp c3)
  clear c3
  obtain ⟨ji4, hji4⟩ : ∃ j_ : Int, (wrap64 ((a0.size : Int) - (a1.size : Int))) = j_ := ⟨_, rfl⟩
  (first | rw [hji4] at H | simp only [hji4] at H)
  have hji4w : (IntKind.i64.wrap ((a0.size : Int) - (a1.size : Int))) = ji4 := (i64_w _).trans hji4
  obtain ⟨c5, H⟩ := gd H
  have c5b0 := eq_true c5
  have c5b1 : decide (0 ≤ (ji4)) = true := decide_eq_true c5
  clear c5
  obtain ⟨c6, H⟩ := gd H
  have c6b0 := eq_true c6
  have c6b1 : decide ((ji4) ≤ (a0.size : Int)) = true := decide_eq_true c6
  clear c6
  obtain rfl := Option.some.inj H
  go_enter Tryz.func163, Tryz.ntmps163
  go_wp2
  go_ret
  exact ⟨by first | rfl | (simp; done) | (simp only [← hji4] <;> (first | rfl | simp)) | (simp [*]; done), dr_⟩
 ·
  rw [if_neg c3] at H
  have c3b0 : decide ((a1.size : Int) ≤ (a0.size : Int)) = false := decide_eq_false c3
  have c3b1 : decide (a1.size ≤ a0.size) = false := decide_eq_false (fun h => c3 (Int.ofNat_le.mpr h))
  clear c3
  obtain rfl := Option.some.inj H
  go_enter Tryz.func163, Tryz.ntmps163
  go_wp2
  go_ret
  exact ⟨rs_, dr_⟩
def stringslite_TrimSuffix.f (a0 : ByteArray) (a1 : ByteArray) : Option (ByteArray) := (stringslite_HasSuffix.f a0 a1).bind fun t354 => (if t354 = true then (if 0 ≤ (wrap64 ((a0.size : Int) - (a1.size : Int))) then (if (wrap64 ((a0.size : Int) - (a1.size : Int))) ≤ (a0.size : Int) then (some (a0.extract 0 ((wrap64 ((a0.size : Int) - (a1.size : Int))) : Int).toNat)) else (none)) else (none)) else (some a0))
theorem stringslite_TrimSuffix.calls (a0 : ByteArray) (a1 : ByteArray) (r : ByteArray) (w : World) (h : stringslite_TrimSuffix.f a0 a1 = some r) :
 Calls Tryz.prog 138 #[.string a0, .string a1] w fun e w' => e = .returned (.string r) ∧ Drawn0 w w' := by
 have H : ((stringslite_HasSuffix.f a0 a1).bind fun t354 => (if t354 = true then (if 0 ≤ (wrap64 ((a0.size : Int) - (a1.size : Int))) then (if (wrap64 ((a0.size : Int) - (a1.size : Int))) ≤ (a0.size : Int) then (some (a0.extract 0 ((wrap64 ((a0.size : Int) - (a1.size : Int))) : Int).toNat)) else (none)) else (none)) else (some a0))) = some r := h
 clear h
 obtain ⟨t354, A3, H⟩ := bs H
 try dsimp only at H
 by_cases c4 : t354 = true
 ·
  subst c4
  rw [if_pos rfl] at H
  obtain ⟨ji5, hji5⟩ : ∃ j_ : Int, (wrap64 ((a0.size : Int) - (a1.size : Int))) = j_ := ⟨_, rfl⟩
  (first | rw [hji5] at H | simp only [hji5] at H)
  (try rw [hji5] at A3)
  have hji5w : (IntKind.i64.wrap ((a0.size : Int) - (a1.size : Int))) = ji5 := (i64_w _).trans hji5
  obtain ⟨c6, H⟩ := gd H
  have c6b0 := eq_true c6
  have c6b1 : decide (0 ≤ (ji5)) = true := decide_eq_true c6
  clear c6
  obtain ⟨c7, H⟩ := gd H
  have c7b0 := eq_true c7
  have c7b1 : decide ((ji5) ≤ (a0.size : Int)) = true := decide_eq_true c7
  clear c7
  obtain rfl := Option.some.inj H
  go_enter Tryz.func138, Tryz.ntmps138
  go_wp2_with (first | (refine gL (some 7) rfl Tryz.func163 #[.string a0, .string a1] ?_; (with_reducible refine (stringslite_HasSuffix.calls a0 a1 true _ A3.out).mono ?_); rintro e w' ⟨rfl, ⟨nd, rfl⟩⟩; refine ⟨_, rfl, ?_⟩))
  go_ret
  exact ⟨by first | rfl | (simp; done) | (simp only [← hji5] <;> (first | rfl | simp)) | (simp [*]; done), dr_⟩
 ·
  replace c4 := Bool.eq_false_iff.mpr c4
  subst c4
  rw [if_neg (show ¬ (false = true) by decide)] at H
  obtain rfl := Option.some.inj H
  go_enter Tryz.func138, Tryz.ntmps138
  go_wp2_with (first | (refine gL (some 7) rfl Tryz.func163 #[.string a0, .string a1] ?_; (with_reducible refine (stringslite_HasSuffix.calls a0 a1 false _ A3.out).mono ?_); rintro e w' ⟨rfl, ⟨nd, rfl⟩⟩; refine ⟨_, rfl, ?_⟩))
  go_ret
  exact ⟨rs_, dr_⟩
def strings_TrimSuffix.f (a0 : ByteArray) (a1 : ByteArray) : Option (ByteArray) := (stringslite_TrimSuffix.f a0 a1).bind fun t355 => (some t355)
theorem strings_TrimSuffix.calls (a0 : ByteArray) (a1 : ByteArray) (r : ByteArray) (w : World) (h : strings_TrimSuffix.f a0 a1 = some r) :
 Calls Tryz.prog 115 #[.string a0, .string a1] w fun e w' => e = .returned (.string r) ∧ Drawn0 w w' := by
 have H : ((stringslite_TrimSuffix.f a0 a1).bind fun t355 => (some t355)) = some r := h
 clear h
 obtain ⟨t355, A3, H⟩ := bs H
 try dsimp only at H
 obtain rfl := Option.some.inj H
 go_enter Tryz.func115, Tryz.ntmps115
 go_wp2_with (first | (refine gL (some 7) rfl Tryz.func138 #[.string a0, .string a1] ?_; (with_reducible refine (stringslite_TrimSuffix.calls a0 a1 t355 _ A3.out).mono ?_); rintro e w' ⟨rfl, ⟨nd, rfl⟩⟩; refine ⟨_, rfl, ?_⟩))
 go_ret
 exact ⟨rs_, dr_⟩
def sat_Parse.f (a0 : ByteArray) : Option (Int × Bool × Int) := (strings_TrimSuffix.f a0 (⟨#[33]⟩ : ByteArray)).bind fun t357 => ((sat_Read.f t357).bind fun bt358 => (if bt358.2 = 0 then (some (bt358.1, (t357.toList != a0.toList), 0)) else (none)))
theorem sat_Parse.calls (a0 : ByteArray) (r1 : Int) (r2 : Bool) (r3 : Int) (w : World) (hL : LD w) (h : sat_Parse.f a0 = some (r1, r2, r3)) :
 Calls Tryz.prog 94 #[.string a0] w fun e w' => e = .returned (.tuple #[.agg #[.int .i64 r1, .bool r2], .int .i64 r3]) ∧ Below w.heap.size w w' := by
 have HL0 := Aside0.mk hL
 clear hL
 have hu43 := Tryz.underlying43
 have HB := Aside0.mk (Below.refl w.heap.size w)
 have H : ((strings_TrimSuffix.f a0 (⟨#[33]⟩ : ByteArray)).bind fun t357 => ((sat_Read.f t357).bind fun bt358 => (if bt358.2 = 0 then (some (bt358.1, (t357.toList != a0.toList), 0)) else (none)))) = some (r1, r2, r3) := h
 clear h
 obtain ⟨t357, A2, H⟩ := bs H
 try dsimp only at H
 obtain ⟨⟨t358, t359⟩, A3, H⟩ := bs H
 try dsimp only at H
 by_cases c4 : t359 = 0
 ·
  rw [if_pos c4] at H
  have c4b0 : (t359 == 0) = true := beq_iff_eq.mpr c4
  have c4b1 : (t359 != 0) = false := bne_eq_false_iff_eq.mpr c4
  clear c4
  simp only [Option.some.injEq, Prod.mk.injEq] at H
  obtain ⟨rfl, rfl, rfl⟩ := H
  go_enter Tryz.func94, Tryz.ntmps94
  go_wp2_with (first | ((with_reducible refine gate_dst (N := 2) rfl ?_); refine bx (N := 2) #[.int .i64 0, .bool false] 43 ?_; intro gb356 hg w5 hbox hb; have BK356 := Aside0.mk (hbox); have GW356 := gw hg (uW HB.out); have GE356 := GW356; replace HB := cW HB hb; clear hb hbox hg) | (refine gL (some 8) rfl Tryz.func115 #[.string a0, .string (⟨#[33]⟩ : ByteArray)] ?_; (with_reducible refine (strings_TrimSuffix.calls a0 (⟨#[33]⟩ : ByteArray) t357 _ A2.out).mono ?_); rintro e w' ⟨rfl, ⟨nd, rfl⟩⟩; refine ⟨_, rfl, ?_⟩; (try (rw [drewN_self w5]; generalize hq_ : World.drewN w5 _ = w5; have n0_ : Aside0 (w5.heap[gb356]? = some (.cells #[.int .i64 0, .bool false] 43 (0, 0))) := ⟨by rw [← hq_]; exact (uB BK356.out)⟩; have n1_ : Aside0 (Below w.heap.size w w5) := ⟨by rw [← hq_]; exact bl⟩; clear BK356 HB hq_; have BK356 := n0_; have HB := n1_; clear n0_ n1_))) | (refine gL (some 11) rfl Tryz.func76 #[.string t357] ?_; (with_reducible refine (sat_Read.calls (hL := (by first | exact HL0.out | exact LD.below HL0.out bl)) t357 t358 t359 _ A3.out).mono ?_); rintro e w6 ⟨rfl, hb⟩; refine ⟨_, rfl, ?_⟩; replace BK356 := cB BK356 hb; replace HB := Aside0.mk (below_step bl hb); (try clear hb); obtain ⟨hcz7_0, hcz7_1, hfz7_0, hfz7_1⟩ := z2 BK356))
  refine bodyPost_ret (results_ct rfl _ _ gb356 43 #[.int .i64 t358, .bool (t357.toList != a0.toList)] (0, 0) _ rfl (by (with_reducible repeat (first | refine blk_drewN ?_ _ | refine blk_drew ?_ | refine blk_alloc ?_ _)); refine blk_put (cs := #[.int .i64 t358, .bool false]) ?_ 1 _ rfl; (with_reducible repeat (first | refine blk_drewN ?_ _ | refine blk_drew ?_ | refine blk_alloc ?_ _)); refine blk_put (cs := #[.int .i64 0, .bool false]) ?_ 0 _ rfl; exact uB <| BK356.out) Tryz.underlying43 rfl (by kernel_rfl)) rfl ?_
  exact ⟨re_, bl⟩
 ·
  rw [if_neg c4] at H
  exact absurd H (by simp)
def row_one.f (k : Nat) (a0 : ByteArray) : Option (Int × ByteArray × Int × Bool × Int) := (word_Split.f k a0 124).bind fun t361 => (if (t361.length : Int) = 3 then (if 0 < (t361.length : Int) then ((sat_Read.f (rdOf ByteArray.empty t361 0)).bind fun bt365 => (if bt365.2 = 0 then (if 1 < (t361.length : Int) then ((row_group.f k (rdOf ByteArray.empty t361 1)).bind fun t368 => (if t368 = 0 then (if 2 < (t361.length : Int) then ((sat_Parse.f (rdOf ByteArray.empty t361 2)).bind fun bt371 => (some (bt365.1, rdOf ByteArray.empty t361 1, bt371.1, bt371.2.1, bt371.2.2))) else (none)) else (none))) else (none)) else (none))) else (none)) else (none))
theorem row_one.mono : ∀ a0 k, LeO (row_one.f k a0) (row_one.f (k + 1) a0) := by
 intro a0 k
 unfold row_one.f
 exact lo
instance row_one.mI {a0 k} : LeC (row_one.f k a0) (row_one.f (k + 1) a0) := ⟨row_one.mono _ _⟩
theorem row_one.calls (k : Nat) (a0 : ByteArray) (r1 : Int) (r2 : ByteArray) (r3 : Int) (r4 : Bool) (r5 : Int) (w : World) (hL : LD w) (h : row_one.f k a0 = some (r1, r2, r3, r4, r5)) :
 Calls Tryz.prog 77 #[.string a0] w fun e w' => e = .returned (.tuple #[.agg #[.int .i64 r1, .string r2, .int .i64 r3, .bool r4], .int .i64 r5]) ∧ Below w.heap.size w w' := by
 have HL0 := Aside0.mk hL
 clear hL
 have hu45 := Tryz.underlying45
 have hu43 := Tryz.underlying43
 have HB := Aside0.mk (Below.refl w.heap.size w)
 have H : ((word_Split.f k a0 124).bind fun t361 => (if (t361.length : Int) = 3 then (if 0 < (t361.length : Int) then ((sat_Read.f (rdOf ByteArray.empty t361 0)).bind fun bt365 => (if bt365.2 = 0 then (if 1 < (t361.length : Int) then ((row_group.f k (rdOf ByteArray.empty t361 1)).bind fun t368 => (if t368 = 0 then (if 2 < (t361.length : Int) then ((sat_Parse.f (rdOf ByteArray.empty t361 2)).bind fun bt371 => (some (bt365.1, rdOf ByteArray.empty t361 1, bt371.1, bt371.2.1, bt371.2.2))) else (none)) else (none))) else (none)) else (none))) else (none)) else (none))) = some (r1, r2, r3, r4, r5) := h
 clear h
 obtain ⟨t361, A2, H⟩ := bs H
 try dsimp only at H
 by_cases c3 : (t361.length : Int) = 3
 ·
  rw [if_pos c3] at H
  have c3b0 : ((t361.length : Int) == 3) = true := beq_iff_eq.mpr c3
  have c3b1 : ((t361.length : Int) != 3) = false := bne_eq_false_iff_eq.mpr c3
  clear c3
  obtain ⟨c4, H⟩ := gd H
  have c4b0 : decide (0 < (t361.length : Int)) = true := decide_eq_true c4
  have c4b1 : decide (0 < t361.length) = true := decide_eq_true (by omega)
  clear c4
  obtain ⟨⟨t365, t366⟩, A5, H⟩ := bs H
  try dsimp only at H
  obtain ⟨c6, H⟩ := gd H
  have c6b0 : (t366 == 0) = true := beq_iff_eq.mpr c6
  have c6b1 : (t366 != 0) = false := bne_eq_false_iff_eq.mpr c6
  clear c6
  obtain ⟨c7, H⟩ := gd H
  have c7b0 : decide (1 < (t361.length : Int)) = true := decide_eq_true c7
  have c7b1 : decide (1 < t361.length) = true := decide_eq_true (by omega)
  clear c7
  obtain ⟨t368, A8, H⟩ := bs H
  try dsimp only at H
  obtain ⟨c9, H⟩ := gd H
  have c9b0 : (t368 == 0) = true := beq_iff_eq.mpr c9
  have c9b1 : (t368 != 0) = false := bne_eq_false_iff_eq.mpr c9
  clear c9
  obtain ⟨c10, H⟩ := gd H
  have c10b0 : decide (2 < (t361.length : Int)) = true := decide_eq_true c10
  have c10b1 : decide (2 < t361.length) = true := decide_eq_true (by omega)
  clear c10
  obtain ⟨⟨t371, t372, t373⟩, A11, H⟩ := bs H
  try dsimp only at H
  simp only [Option.some.injEq, Prod.mk.injEq] at H
  obtain ⟨rfl, rfl, rfl, rfl, rfl⟩ := H
  go_enter Tryz.func77, Tryz.ntmps77
  go_wp2_with (first | ((with_reducible refine gate_dst (N := 2) rfl ?_); refine bx (N := 2) #[.int .i64 0, .string (⟨#[]⟩ : ByteArray), .int .i64 0, .bool false] 45 ?_; intro gb360 hg w12 hbox hb; have BK360 := Aside0.mk (hbox); have GW360 := gw hg (uW HB.out); have GE360 := GW360; replace HB := cW HB hb; clear hb hbox hg) | (refine gL (some 6) rfl Tryz.func39 #[.string a0, .int .u8 124] ?_; (with_reducible refine (word_Split.calls k a0 124 t361 _ A2.out).mono ?_); rintro e w13 ⟨v362, rfl, ho0, hb⟩; refine ⟨_, rfl, ?_⟩; have HO363 := Aside0.mk (Kd.R_lower ho0 (below_size bl)); replace BK360 := cB BK360 hb; replace HB := Aside0.mk (below_step bl hb); (try clear hb); (try clear ho0); obtain ⟨Ao14, co14, eo14⟩ := Kd.R_slice HO363.out; subst eo14; have p364 : 0 ≤ (0 : Int) := (by omega); have q364 : 0 < (t361.length : Int) := od; obtain ⟨ad364, e364, hx364_0⟩ := Kd.at_string (Kd.R_reads' HO363.out).2.2 0 p364 q364; cases e364; have qi364 : (0 < t361.length) = True := eq_true (by omega); (try rw [show ((0 : Int)).toNat = 0 from rfl] at hx364_0); (try rw [Addr.add_zero'] at hx364_0); replace p364 := eq_true p364; replace q364 := eq_true q364) | (refine gL (some 15) rfl Tryz.func76 #[.string (rdOf ByteArray.empty t361 0)] ?_; (with_reducible refine (sat_Read.calls (hL := (by first | exact HL0.out | exact LD.below HL0.out bl)) (rdOf ByteArray.empty t361 0) t365 t366 _ A5.out).mono ?_); rintro e w15 ⟨rfl, hb⟩; refine ⟨_, rfl, ?_⟩; replace HO363 := cR HO363 hb; replace BK360 := cB BK360 hb; replace HB := Aside0.mk (below_step bl hb); (try clear hb); obtain ⟨hcz16_0, hcz16_1, hcz16_2, hcz16_3, hfz16_0, hfz16_1, hfz16_2, hfz16_3⟩ := z4 BK360; have p367 : 0 ≤ (1 : Int) := (by omega); have q367 : 1 < (t361.length : Int) := od; obtain ⟨ad367, e367, hx367_0⟩ := Kd.at_string (Kd.R_reads' HO363.out).2.2 1 p367 q367; obtain rfl : ad364 = ad367 := (by injection e367); (try simp only [show (1 : Int).toNat = 1 from rfl, Nat.reduceMul, Nat.reduceEqDiff, Go.Addr.add, ↓reduceIte] at hx367_0); have qi367 : (1 < t361.length) = True := eq_true (by omega); (try rw [show ((1 : Int)).toNat = 1 from rfl] at hx367_0); have hn367_0 : ad364.block ≠ gb360 := Kd.own_blk (Kd.R_ne HO363.out BK360.out (by decide)); replace hx367_0 := (cell_far (p := ⟨gb360, 0, none⟩) (by first | (rw [add_block]; exact hn367_0) | (show (Addr.add _ _).block ≠ _; rw [add_block]; exact hn367_0) | exact hn367_0) (.int .i64 t365)).trans hx367_0; clear hn367_0; replace p367 := eq_true p367; replace q367 := eq_true q367) | (refine gL (some 26) rfl Tryz.func48 #[.string (rdOf ByteArray.empty t361 1)] ?_; (with_reducible refine (row_group.calls (hL := (by first | exact HL0.out | exact LD.below HL0.out bl)) k (rdOf ByteArray.empty t361 1) t368 _ A8.out).mono ?_); rintro e w17 ⟨rfl, hb⟩; refine ⟨_, rfl, ?_⟩; replace HO363 := Aside0.mk (Kd.R_below (by exact uR <| (Kd.R_mono (Kd.R_far (p := ⟨gb360, 0, none⟩) (Kd.R_types HO363.out BK360.out (by decide)) (fun _ hk => hk.2) (.int .i64 t365)) (fun _ h_ => h_.1))) hb); replace BK360 := Aside0.mk (blk_below (g := gb360) (o := .cells #[.int .i64 t365, .string (⟨#[]⟩ : ByteArray), .int .i64 0, .bool false] 45 (0, 0)) (by (with_reducible repeat (first | refine blk_drewN ?_ _ | refine blk_drew ?_ | refine blk_alloc ?_ _)); refine blk_put (cs := #[.int .i64 0, .string (⟨#[]⟩ : ByteArray), .int .i64 0, .bool false]) ?_ 0 _ rfl; exact uB <| BK360.out) hb); replace HB := Aside0.mk (below_step bl hb); (try clear hb); have p369 : 0 ≤ (1 : Int) := (by omega); have q369 : 1 < (t361.length : Int) := od; obtain ⟨ad369, e369, hx369_0⟩ := Kd.at_string (Kd.R_reads' HO363.out).2.2 1 p369 q369; obtain rfl : ad364 = ad369 := (by injection e369); (try simp only [show (1 : Int).toNat = 1 from rfl, Nat.reduceMul, Nat.reduceEqDiff, Go.Addr.add, ↓reduceIte] at hx369_0); have qi369 : (1 < t361.length) = True := eq_true (by omega); (try rw [show ((1 : Int)).toNat = 1 from rfl] at hx369_0); replace p369 := eq_true p369; replace q369 := eq_true q369; obtain ⟨hcz18_0, hcz18_1, hcz18_2, hcz18_3, hfz18_0, hfz18_1, hfz18_2, hfz18_3⟩ := z4 BK360; have p370 : 0 ≤ (2 : Int) := (by omega); have q370 : 2 < (t361.length : Int) := od; obtain ⟨ad370, e370, hx370_0⟩ := Kd.at_string (Kd.R_reads' HO363.out).2.2 2 p370 q370; obtain rfl : ad364 = ad370 := (by injection e370); (try simp only [show (2 : Int).toNat = 2 from rfl, Nat.reduceMul, Nat.reduceEqDiff, Go.Addr.add, ↓reduceIte] at hx370_0); have qi370 : (2 < t361.length) = True := eq_true (by omega); (try rw [show ((2 : Int)).toNat = 2 from rfl] at hx370_0); have hn370_0 : ad364.block ≠ gb360 := Kd.own_blk (Kd.R_ne HO363.out BK360.out (by decide)); replace hx370_0 := (cell_far (p := ⟨gb360, 1, none⟩) (by first | (rw [add_block]; exact hn370_0) | (show (Addr.add _ _).block ≠ _; rw [add_block]; exact hn370_0) | exact hn370_0) (.string (rdOf ByteArray.empty t361 1))).trans hx370_0; clear hn370_0; replace p370 := eq_true p370; replace q370 := eq_true q370) | (refine gL (some 39) rfl Tryz.func94 #[.string (rdOf ByteArray.empty t361 2)] ?_; (with_reducible refine (sat_Parse.calls (hL := (by first | exact HL0.out | exact LD.below HL0.out bl)) (rdOf ByteArray.empty t361 2) t371 t372 t373 _ A11.out).mono ?_); rintro e w19 ⟨rfl, hb⟩; refine ⟨_, rfl, ?_⟩; replace HO363 := Aside0.mk (Kd.R_below (by exact uR <| (Kd.R_mono (Kd.R_far (p := ⟨gb360, 1, none⟩) (Kd.R_types HO363.out BK360.out (by decide)) (fun _ hk => hk.2) (.string (rdOf ByteArray.empty t361 1))) (fun _ h_ => h_.1))) hb); replace BK360 := Aside0.mk (blk_below (g := gb360) (o := .cells #[.int .i64 t365, .string (rdOf ByteArray.empty t361 1), .int .i64 0, .bool false] 45 (0, 0)) (by (with_reducible repeat (first | refine blk_drewN ?_ _ | refine blk_drew ?_ | refine blk_alloc ?_ _)); refine blk_put (cs := #[.int .i64 t365, .string (⟨#[]⟩ : ByteArray), .int .i64 0, .bool false]) ?_ 1 _ rfl; exact uB <| BK360.out) hb); replace HB := Aside0.mk (below_step bl hb); (try clear hb); obtain ⟨hcz20_0, hcz20_1, hcz20_2, hcz20_3, hfz20_0, hfz20_1, hfz20_2, hfz20_3⟩ := z4 BK360) | ((with_reducible refine gate_store (t := 45) (p := 2) rfl ?_); refine store_event (t := 45) (p := 2) (v := ?vo_w21) (w1 := ((((((w19.setCell ⟨gb360, 2, none⟩ (.int .i64 t371)).setCell ⟨gb360, 3, none⟩ (.bool t372)).setCell ⟨gb360, 0, none⟩ (.int .i64 t365)).setCell ⟨gb360, 1, none⟩ (.string (rdOf ByteArray.empty t361 1))).setCell ⟨gb360, 2, none⟩ (.int .i64 t371)).setCell ⟨gb360, 3, none⟩ (.bool t372))) ?hg ?ho ?hn ?hr ?_; (case ho => rfl); (case hg => rfl); (case hn => rfl); (case hr => first | (go_simp; done) | (go_simp; rfl)); intro w21 hw; have n0_ : Aside0 (Kd.R Kd.string 9 w21 w.heap.size (fun _ => True) (.slice (some ad364) t361.length co14) t361) := ⟨(by rw [hw]; exact (by exact uR <| Kd.R_mono (Kd.R_far (p := ⟨gb360, 3, none⟩) (Kd.R_far (p := ⟨gb360, 2, none⟩) (Kd.R_far (p := ⟨gb360, 1, none⟩) (Kd.R_far (p := ⟨gb360, 0, none⟩) (Kd.R_far (p := ⟨gb360, 3, none⟩) (Kd.R_far (p := ⟨gb360, 2, none⟩) (Kd.R_types HO363.out BK360.out (by decide)) (fun _ hk => hk.2) (.int .i64 t371)) (fun _ hk => hk.2) (.bool t372)) (fun _ hk => hk.2) (.int .i64 t365)) (fun _ hk => hk.2) (.string (rdOf ByteArray.empty t361 1))) (fun _ hk => hk.2) (.int .i64 t371)) (fun _ hk => hk.2) (.bool t372)) (fun _ hk => trivial)))⟩; have n1_ : Aside0 (w21.heap[gb360]? = some (.cells #[.int .i64 t365, .string (rdOf ByteArray.empty t361 1), .int .i64 t371, .bool t372] 45 (0, 0))) := ⟨(by rw [hw]; exact (by (with_reducible repeat (first | refine blk_drewN ?_ _ | refine blk_drew ?_ | refine blk_alloc ?_ _)); refine blk_put (cs := #[.int .i64 t365, .string (rdOf ByteArray.empty t361 1), .int .i64 t371, .bool t372]) ?_ 3 _ rfl; (with_reducible repeat (first | refine blk_drewN ?_ _ | refine blk_drew ?_ | refine blk_alloc ?_ _)); refine blk_put (cs := #[.int .i64 t365, .string (rdOf ByteArray.empty t361 1), .int .i64 t371, .bool t372]) ?_ 2 _ rfl; (with_reducible repeat (first | refine blk_drewN ?_ _ | refine blk_drew ?_ | refine blk_alloc ?_ _)); refine blk_put (cs := #[.int .i64 t365, .string (rdOf ByteArray.empty t361 1), .int .i64 t371, .bool t372]) ?_ 1 _ rfl; (with_reducible repeat (first | refine blk_drewN ?_ _ | refine blk_drew ?_ | refine blk_alloc ?_ _)); refine blk_put (cs := #[.int .i64 t365, .string (rdOf ByteArray.empty t361 1), .int .i64 t371, .bool t372]) ?_ 0 _ rfl; (with_reducible repeat (first | refine blk_drewN ?_ _ | refine blk_drew ?_ | refine blk_alloc ?_ _)); refine blk_put (cs := #[.int .i64 t365, .string (rdOf ByteArray.empty t361 1), .int .i64 t371, .bool false]) ?_ 3 _ rfl; (with_reducible repeat (first | refine blk_drewN ?_ _ | refine blk_drew ?_ | refine blk_alloc ?_ _)); refine blk_put (cs := #[.int .i64 t365, .string (rdOf ByteArray.empty t361 1), .int .i64 0, .bool false]) ?_ 2 _ rfl; exact uB <| BK360.out))⟩; have n2_ : Aside0 (Below w.heap.size w w21) := ⟨(by rw [hw]; exact bl)⟩; clear hw; clear HO363; clear BK360; clear HB; have HO363 := n0_; have BK360 := n1_; have HB := n2_; clear n0_ n1_ n2_))
  refine bodyPost_ret (results_ct rfl _ _ gb360 45 #[.int .i64 t365, .string (rdOf ByteArray.empty t361 1), .int .i64 t371, .bool t372] (0, 0) _ rfl (uB BK360.out) Tryz.underlying45 rfl (by kernel_rfl)) rfl ?_
  exact ⟨re_, bl⟩
 ·
  rw [if_neg c3] at H
  exact absurd H (by simp)
def row_Parse.l0 : Nat → List (S45) → List ByteArray → Int → Int → Option ((List (S45)) × Int)
 | 0, _, _, _, _ => none
 | k + 1, x2, x11, x12, x13 => if x13 < x12 then (if 0 ≤ x13 then (if x13 < (x11.length : Int) then ((row_one.f k (rdOf ByteArray.empty x11 x13)).bind fun bt378 => (if bt378.2.2.2.2 = 0 then (if x2.length < 3518437208883 then (row_Parse.l0 k (x2 ++ [(⟨bt378.1, bt378.2.1, (⟨bt378.2.2.1, bt378.2.2.2.1⟩ : S43)⟩ : S45)]) x11 x12 (wrap64 (x13 + 1))) else (none)) else (none))) else (none)) else (none)) else ((row_rise.f k x2).bind fun t387 => (if t387 = true then (some (x2, 0)) else (none)))
def row_Parse.f (k : Nat) (a0 : ByteArray) : Option ((List (S45)) × Int) := if a0.toList = ([45] : List UInt8) then (none) else ((word_Split.f k a0 59).bind fun t374 => (row_Parse.l0 k ([] : List (S45)) t374 (t374.length : Int) 0))
theorem row_Parse.mono_l : ∀ k, (∀ y0 y1 y2 y3, LeC (row_Parse.l0 k y0 y1 y2 y3) (row_Parse.l0 (k + 1) y0 y1 y2 y3))
 | 0 => fun _ _ _ _ => ⟨fun r h => by simp [row_Parse.l0] at h⟩
 | k + 1 => by have ih0 := row_Parse.mono_l k; exact fun _ _ _ _ => by unfold row_Parse.l0; exact lm
theorem row_Parse.mono : ∀ a0 k, LeO (row_Parse.f k a0) (row_Parse.f (k + 1) a0) := by
 intro a0 k
 have ih0 := row_Parse.mono_l k
 unfold row_Parse.f
 exact lo
instance row_Parse.mI {a0 k} : LeC (row_Parse.f k a0) (row_Parse.f (k + 1) a0) := ⟨row_Parse.mono _ _⟩
theorem row_Parse.calls (k : Nat) (a0 : ByteArray) (r1 : List (S45)) (r2 : Int) (w : World) (hL : LD w) (h : row_Parse.f k a0 = some (r1, r2)) :
 Calls Tryz.prog 59 #[.string a0] w fun e w' => ∃ v0_ : Value, e = .returned (.tuple #[v0_, .int .i64 r2]) ∧ Kd.R k45 45 w' w.heap.size (fun _ => True) v0_ r1 ∧ Below w.heap.size w w' := by
 have HL0 := Aside0.mk hL
 clear hL
 have hu45 := Tryz.underlying45
 have HB := Aside0.mk (Below.refl w.heap.size w)
 have H : (if a0.toList = ([45] : List UInt8) then (none) else ((word_Split.f k a0 59).bind fun t374 => (row_Parse.l0 k ([] : List (S45)) t374 (t374.length : Int) 0))) = some (r1, r2) := h
 clear h
 obtain ⟨c2, H⟩ := gn H
 have c2b0 : (a0.toList == ([45] : List UInt8)) = false := beq_eq_false_iff_ne.mpr c2
 have c2b1 : (a0.toList != ([45] : List UInt8)) = true := bne_iff_ne.mpr c2
 obtain ⟨t374, A3, H⟩ := bs H
 try dsimp only at H
 have H' := Aside0.mk H
 clear H
 go_enter Tryz.func59, Tryz.ntmps59
 go_wp2_with (first | (refine gL (some 11) rfl Tryz.func39 #[.string a0, .int .u8 59] ?_; (with_reducible refine (word_Split.calls k a0 59 t374 _ A3.out).mono ?_); rintro e w4 ⟨v375, rfl, ho0, hb⟩; refine ⟨_, rfl, ?_⟩; have HO376 := Aside0.mk (Kd.R_lower ho0 (below_size (uW HB.out))); replace HB := cW HB hb; (try clear hb); (try clear ho0); obtain ⟨Ao5, co5, eo5⟩ := Kd.R_slice HO376.out; subst eo5))
 (try simp only [Act.put, List.setIfInBounds_toArray, List.set_cons_zero, List.set_cons_succ])
 go_loopg [2, 13] k (fun kq v2 v13 w' => ∃ (x2_1 : List (S45)) (x13_1 : Int), v13 = .int .i64 x13_1 ∧ Aside0 (row_Parse.l0 kq x2_1 t374 (t374.length : Int) x13_1 = some (r1, r2)) ∧ Aside0 (kq ≤ k) ∧ Aside0 (Kd.R k45 45 w' w.heap.size (fun _ => True) v2 x2_1) ∧ Aside0 (Kd.R Kd.string 9 w' w.heap.size (fun _ => True) (.slice Ao5 t374.length co5) t374) ∧ Aside0 (Below w.heap.size w w'))
 case atStart => exact ⟨(([] : List (S45))), (0), rs_, H', ⟨Nat.le_refl _⟩, ⟨nl_⟩, ⟨uR HO376.out⟩, ⟨uW HB.out⟩⟩
 case round =>
  clear H'
  try clear c2
  try clear c2b0
  try clear c2b1
  try clear p2
  try clear c3
  try clear c5
  obtain ⟨x2_1, x13_1, rfl, HA, HK1, HO_2, HO_11, HB⟩ := hrel
  cases gk with
  | zero => exact absurd HA.out (by simp [row_Parse.l0])
  | succ k1 =>
   have H := HA.out
   clear HA
   simp only [row_Parse.l0] at H
   by_cases c6 : x13_1 < (t374.length : Int)
   ·
    rw [if_pos c6] at H
    have c6b0 : decide (x13_1 < (t374.length : Int)) = true := decide_eq_true c6
    clear c6
    obtain ⟨c7b0, H⟩ := gdd H
    obtain ⟨c8b0, H⟩ := gdd H
    obtain ⟨⟨t378, t379, t380, t381, t382⟩, A9, H⟩ := bs H
    try dsimp only at H
    obtain ⟨c10, H⟩ := gd H
    have c10b0 : (t382 == 0) = true := beq_iff_eq.mpr c10
    have c10b1 : (t382 != 0) = false := bne_eq_false_iff_eq.mpr c10
    clear c10
    obtain ⟨c11, H⟩ := gd H
    have LMc11 := Aside0.mk c11
    clear c11
    obtain ⟨y384, hy384⟩ : ∃ y_ : List (S45), y_ = (x2_1 ++ [(⟨t378, t379, (⟨t380, t381⟩ : S43)⟩ : S45)]) := ⟨_, rfl⟩
    replace H : (row_Parse.l0 k1 y384 t374 (t374.length : Int) (wrap64 (x13_1 + 1))) = some (r1, r2) := by first | (rw [hy384]; with_reducible exact H) | (have H2_ := (Option.bind_some _ _).symm.trans H; rw [hy384]; with_reducible exact H2_) | (have H2_ := (Option.bind_some _ _).symm.trans H; with_reducible exact H2_) | with_reducible exact H | (rw [hy384]; exact H) | exact H
    have Ny384 := Aside0.mk hy384
    clear hy384
    have H' := Aside0.mk H
    clear H
    have p377 : 0 ≤ (x13_1 : Int) := od
    have q377 : x13_1 < (t374.length : Int) := od
    obtain ⟨ad377, e377, hx377_0⟩ := Kd.at_string (Kd.R_reads' HO_11.out).2.2 x13_1 p377 q377
    cases e377
    replace p377 := eq_true p377
    replace q377 := eq_true q377
    go_wp2_with (first | (refine gL (some 19) rfl Tryz.func77 #[.string (rdOf ByteArray.empty t374 x13_1)] ?_; (with_reducible refine (row_one.calls (hL := (by first | exact HL0.out | exact LD.below HL0.out (uW HB.out))) k1 (rdOf ByteArray.empty t374 x13_1) t378 t379 t380 t381 t382 _ A9.out).mono ?_); rintro e w12 ⟨rfl, hb⟩; refine ⟨_, rfl, ?_⟩; replace HO_2 := cR HO_2 hb; replace HO_11 := cR HO_11 hb; replace HB := cW HB hb; (try clear hb)) | ((with_reducible refine gate_dst (N := 6) rfl ?_); refine bx (N := 6) #[.int .i64 0, .string (⟨#[]⟩ : ByteArray), .int .i64 0, .bool false] 45 ?_; intro gb383 hg w13 hbox hb; replace HO_2 := Aside0.mk (Kd.R_below (Kd.R_elderB (uR HO_2.out) gb383 (Nat.le_of_eq hg.symm)) hb); replace HO_11 := cR HO_11 hb; have BK383 := Aside0.mk (hbox); have GW383 := gw hg (uW HB.out); have GE383 := GW383; replace HB := cW HB hb; clear hb hbox hg; obtain ⟨hcz14_0, hcz14_1, hcz14_2, hcz14_3, hfz14_0, hfz14_1, hfz14_2, hfz14_3⟩ := z4 BK383) | ((with_reducible refine gate_builtin (b := .append) (xs := #[.tmp 25, .tmp 27]) rfl ?_); at_builtin; refine Kd.R_append k45 (w0 := w) w.heap.size rfl (.tmp 25) (.tmp 27) 22 45 (.agg #[(.int .i64 0), (.string ⟨#[]⟩), (.int .i64 0), (.bool false)]) 40 rfl Tryz.underlying22 info45 rfl (by decide) (by omega) u2 x2_1 (⟨t378, t379, (⟨t380, t381⟩ : S43)⟩ : S45) [.int .i64 t378, .string t379, .int .i64 t380, .bool t381] (fun k_ => k_ ≠ gb383) (fun _ => False) rfl (by first | (go_simp; done) | (go_simp; rfl)) ?aP (fun _ hk => hk.elim) ?aF ?aO ?aB ?aS ?aL ?_; (case aP => exact k45_mkM _ _ _ (⟨t378, t379, (⟨t380, t381⟩ : S43)⟩ : S45)); (case aB => exact bl); (case aF => exact (fun k_ hk => Kd.freshB (g := gb383) (o := .cells #[.int .i64 t378, .string t379, .int .i64 t380, .bool t381] 45 (0, 0)) (by (with_reducible repeat (first | refine blk_drewN ?_ _ | refine blk_drew ?_ | refine blk_alloc ?_ _)); refine blk_put (cs := #[.int .i64 t378, .string t379, .int .i64 t380, .bool false]) ?_ 3 _ rfl; (with_reducible repeat (first | refine blk_drewN ?_ _ | refine blk_drew ?_ | refine blk_alloc ?_ _)); refine blk_put (cs := #[.int .i64 t378, .string t379, .int .i64 0, .bool false]) ?_ 2 _ rfl; (with_reducible repeat (first | refine blk_drewN ?_ _ | refine blk_drew ?_ | refine blk_alloc ?_ _)); refine blk_put (cs := #[.int .i64 t378, .string (⟨#[]⟩ : ByteArray), .int .i64 0, .bool false]) ?_ 1 _ rfl; (with_reducible repeat (first | refine blk_drewN ?_ _ | refine blk_drew ?_ | refine blk_alloc ?_ _)); refine blk_put (cs := #[.int .i64 0, .string (⟨#[]⟩ : ByteArray), .int .i64 0, .bool false]) ?_ 0 _ rfl; exact uB <| BK383.out) k_ hk)); (case aO => exact (by exact uR <| Kd.R_mono (Kd.R_far (p := ⟨gb383, 3, none⟩) (Kd.R_far (p := ⟨gb383, 2, none⟩) (Kd.R_far (p := ⟨gb383, 1, none⟩) (Kd.R_far (p := ⟨gb383, 0, none⟩) (Kd.R_mono HO_2.out (fun k_ hk => (⟨hk, hk.2⟩ : _ ∧ k_ ≠ gb383))) (fun _ hk => hk.2) (.int .i64 t378)) (fun _ hk => hk.2) (.string t379)) (fun _ hk => hk.2) (.int .i64 t380)) (fun _ hk => hk.2) (.bool t381)) (fun _ hk => hk.1.2))); (case aS => exact (below_size bl)); (case aL => have := LMc11.out; omega); intro v385 w15 ho hb hg hat; rw [← Ny384.out] at ho; replace HO_11 := Aside0.mk (Kd.R_over' (by exact uR <| (Kd.R_mono (Kd.R_far (p := ⟨gb383, 3, none⟩) (Kd.R_far (p := ⟨gb383, 2, none⟩) (Kd.R_far (p := ⟨gb383, 1, none⟩) (Kd.R_far (p := ⟨gb383, 0, none⟩) (Kd.R_types HO_11.out BK383.out (by decide)) (fun _ hk => hk.2) (.int .i64 t378)) (fun _ hk => hk.2) (.string t379)) (fun _ hk => hk.2) (.int .i64 t380)) (fun _ hk => hk.2) (.bool t381)) (fun _ h_ => h_.1))) (Kd.R_typed (by exact uR <| (Kd.R_mono (Kd.R_far (p := ⟨gb383, 3, none⟩) (Kd.R_far (p := ⟨gb383, 2, none⟩) (Kd.R_far (p := ⟨gb383, 1, none⟩) (Kd.R_far (p := ⟨gb383, 0, none⟩) (Kd.R_mono HO_2.out (fun k_ hk => (⟨hk, hk.2⟩ : _ ∧ k_ ≠ gb383))) (fun _ hk => hk.2) (.int .i64 t378)) (fun _ hk => hk.2) (.string t379)) (fun _ hk => hk.2) (.int .i64 t380)) (fun _ hk => hk.2) (.bool t381)) (fun _ h_ => h_.1)))) (by decide) hg); replace BK383 := Aside0.mk (blk_grown (g := gb383) (o := .cells #[.int .i64 t378, .string t379, .int .i64 t380, .bool t381] 45 (0, 0)) (by (with_reducible repeat (first | refine blk_drewN ?_ _ | refine blk_drew ?_ | refine blk_alloc ?_ _)); refine blk_put (cs := #[.int .i64 t378, .string t379, .int .i64 t380, .bool false]) ?_ 3 _ rfl; (with_reducible repeat (first | refine blk_drewN ?_ _ | refine blk_drew ?_ | refine blk_alloc ?_ _)); refine blk_put (cs := #[.int .i64 t378, .string t379, .int .i64 0, .bool false]) ?_ 2 _ rfl; (with_reducible repeat (first | refine blk_drewN ?_ _ | refine blk_drew ?_ | refine blk_alloc ?_ _)); refine blk_put (cs := #[.int .i64 t378, .string (⟨#[]⟩ : ByteArray), .int .i64 0, .bool false]) ?_ 1 _ rfl; (with_reducible repeat (first | refine blk_drewN ?_ _ | refine blk_drew ?_ | refine blk_alloc ?_ _)); refine blk_put (cs := #[.int .i64 0, .string (⟨#[]⟩ : ByteArray), .int .i64 0, .bool false]) ?_ 0 _ rfl; exact uB <| BK383.out) hg (Kd.R_away HO_2.out (fun _ hk => hk.2))); replace HB := Aside0.mk (hb); have HO386 := Aside0.mk (ho); clear HO_2; clear ho hb hg hat))
    go_roundg k1
    case measure => have := HK1.out; omega
    case rel => exact ⟨(y384), (wrap64 (x13_1 + 1)), rs_, H', ⟨by have := HK1.out; omega⟩, ⟨by exact uR <| Kd.R_mono HO386.out (fun _ hk => trivial)⟩, ⟨uR HO_11.out⟩, ⟨bl⟩⟩
   ·
    rw [if_neg c6] at H
    have c6b0 : decide (x13_1 < (t374.length : Int)) = false := decide_eq_false c6
    clear c6
    obtain ⟨t387, A16, H⟩ := bs H
    try dsimp only at H
    by_cases c17 : t387 = true
    ·
     subst c17
     rw [if_pos rfl] at H
     simp only [Option.some.injEq, Prod.mk.injEq] at H
     obtain ⟨rfl, rfl⟩ := H
     obtain ⟨Ao18, co18, eo18⟩ := Kd.R_slice HO_2.out
     subst eo18
     go_wp2_with (first | (refine gL (some 31) rfl Tryz.func45 #[.slice Ao18 x2_1.length co18] ?_; (with_reducible refine (row_rise.calls k1 _ _ x2_1 true _ ?side1 ?side2 A16.out).mono ?_); (case side1 => exact uC <| (Kd.R_reads' HO_2.out).2.2); (case side2 => exact (Kd.R_reads' HO_2.out).2.1); rintro e w19 ⟨rfl, hb⟩; refine ⟨_, rfl, ?_⟩; replace HO_2 := cR HO_2 hb; replace HO_11 := cR HO_11 hb; replace HB := cW HB hb; (try clear hb)))
     go_ret2
     exact ⟨_, re_, uR HO_2.out, uW HB.out⟩
    ·
     replace c17 := Bool.eq_false_iff.mpr c17
     subst c17
     rw [if_neg (show ¬ (false = true) by decide)] at H
     exact absurd H (by simp)
def diff_one.f (k : Nat) (a0 : ByteArray) : Option (Int × ByteArray × Int × Bool × Bool × Int) := (strings_CutPrefix.f a0 (⟨#[33]⟩ : ByteArray)).bind fun bt389 => (if bt389.2 = true then ((diff_leaves.f k bt389.1).bind fun bt391 => (some (bt391.1, bt391.2.1, bt391.2.2.1, bt391.2.2.2.1, bt391.2.2.2.2.1, bt391.2.2.2.2.2))) else ((row_Parse.f k a0).bind fun bt397 => (if bt397.2 = 0 then (if (bt397.1.length : Int) = 0 then (none) else (if 0 < (bt397.1.length : Int) then (some ((rd_T45 bt397.1 0).f0, (rd_T45 bt397.1 0).f1, (rd_T45 bt397.1 0).f2.f0, (rd_T45 bt397.1 0).f2.f1, false, 0)) else (none))) else (none))))
theorem diff_one.mono : ∀ a0 k, LeO (diff_one.f k a0) (diff_one.f (k + 1) a0) := by
 intro a0 k
 unfold diff_one.f
 exact lo
instance diff_one.mI {a0 k} : LeC (diff_one.f k a0) (diff_one.f (k + 1) a0) := ⟨diff_one.mono _ _⟩
theorem diff_one.calls (k : Nat) (a0 : ByteArray) (r1 : Int) (r2 : ByteArray) (r3 : Int) (r4 : Bool) (r5 : Bool) (r6 : Int) (w : World) (hL : LD w) (h : diff_one.f k a0 = some (r1, r2, r3, r4, r5, r6)) :
 Calls Tryz.prog 40 #[.string a0] w fun e w' => e = .returned (.tuple #[.agg #[.int .i64 r1, .string r2, .int .i64 r3, .bool r4, .bool r5], .int .i64 r6]) ∧ Below w.heap.size w w' := by
 have HL0 := Aside0.mk hL
 clear hL
 have hu48 := Tryz.underlying48
 have hu45 := Tryz.underlying45
 have HB := Aside0.mk (Below.refl w.heap.size w)
 have H : ((strings_CutPrefix.f a0 (⟨#[33]⟩ : ByteArray)).bind fun bt389 => (if bt389.2 = true then ((diff_leaves.f k bt389.1).bind fun bt391 => (some (bt391.1, bt391.2.1, bt391.2.2.1, bt391.2.2.2.1, bt391.2.2.2.2.1, bt391.2.2.2.2.2))) else ((row_Parse.f k a0).bind fun bt397 => (if bt397.2 = 0 then (if (bt397.1.length : Int) = 0 then (none) else (if 0 < (bt397.1.length : Int) then (some ((rd_T45 bt397.1 0).f0, (rd_T45 bt397.1 0).f1, (rd_T45 bt397.1 0).f2.f0, (rd_T45 bt397.1 0).f2.f1, false, 0)) else (none))) else (none))))) = some (r1, r2, r3, r4, r5, r6) := h
 clear h
 obtain ⟨⟨t389, t390⟩, A2, H⟩ := bs H
 try dsimp only at H
 by_cases c3 : t390 = true
 ·
  subst c3
  rw [if_pos rfl] at H
  obtain ⟨⟨t391, t392, t393, t394, t395, t396⟩, A4, H⟩ := bs H
  try dsimp only at H
  simp only [Option.some.injEq, Prod.mk.injEq] at H
  obtain ⟨rfl, rfl, rfl, rfl, rfl, rfl⟩ := H
  go_enter Tryz.func40, Tryz.ntmps40
  go_wp2_with (first | ((with_reducible refine gate_dst (N := 2) rfl ?_); refine bx (N := 2) #[.int .i64 0, .string (⟨#[]⟩ : ByteArray), .int .i64 0, .bool false, .bool false] 48 ?_; intro gb388 hg w5 hbox hb; have BK388 := Aside0.mk (hbox); have GW388 := gw hg (uW HB.out); have GE388 := GW388; replace HB := cW HB hb; clear hb hbox hg) | (refine gL (some 10) rfl Tryz.func57 #[.string a0, .string (⟨#[33]⟩ : ByteArray)] ?_; (with_reducible refine (strings_CutPrefix.calls a0 (⟨#[33]⟩ : ByteArray) t389 true _ A2.out).mono ?_); rintro e w' ⟨rfl, ⟨nd, rfl⟩⟩; refine ⟨_, rfl, ?_⟩; (try (rw [drewN_self w5]; generalize hq_ : World.drewN w5 _ = w5; have n0_ : Aside0 (w5.heap[gb388]? = some (.cells #[.int .i64 0, .string (⟨#[]⟩ : ByteArray), .int .i64 0, .bool false, .bool false] 48 (0, 0))) := ⟨by rw [← hq_]; exact (uB BK388.out)⟩; have n1_ : Aside0 (Below w.heap.size w w5) := ⟨by rw [← hq_]; exact bl⟩; clear BK388 HB hq_; have BK388 := n0_; have HB := n1_; clear n0_ n1_))) | (refine gL (some 15) rfl Tryz.func58 #[.string t389] ?_; (with_reducible refine (diff_leaves.calls (hL := (by first | exact HL0.out | exact LD.below HL0.out bl)) k t389 t391 t392 t393 t394 t395 t396 _ A4.out).mono ?_); rintro e w6 ⟨rfl, hb⟩; refine ⟨_, rfl, ?_⟩; replace BK388 := cB BK388 hb; replace HB := Aside0.mk (below_step bl hb); (try clear hb); obtain ⟨hcz7_0, hcz7_1, hcz7_2, hcz7_3, hcz7_4, hfz7_0, hfz7_1, hfz7_2, hfz7_3, hfz7_4⟩ := z5 BK388) | ((with_reducible refine gate_store (t := 48) (p := 2) rfl ?_); refine store_event (t := 48) (p := 2) (v := ?vo_w8) (w1 := (((((w6.setCell ⟨gb388, 0, none⟩ (.int .i64 t391)).setCell ⟨gb388, 1, none⟩ (.string t392)).setCell ⟨gb388, 2, none⟩ (.int .i64 t393)).setCell ⟨gb388, 3, none⟩ (.bool t394)).setCell ⟨gb388, 4, none⟩ (.bool t395))) ?hg ?ho ?hn ?hr ?_; (case ho => rfl); (case hg => rfl); (case hn => rfl); (case hr => first | (go_simp; done) | (go_simp; rfl)); intro w8 hw; have n0_ : Aside0 (w8.heap[gb388]? = some (.cells #[.int .i64 t391, .string t392, .int .i64 t393, .bool t394, .bool t395] 48 (0, 0))) := ⟨(by rw [hw]; exact (by (with_reducible repeat (first | refine blk_drewN ?_ _ | refine blk_drew ?_ | refine blk_alloc ?_ _)); refine blk_put (cs := #[.int .i64 t391, .string t392, .int .i64 t393, .bool t394, .bool false]) ?_ 4 _ rfl; (with_reducible repeat (first | refine blk_drewN ?_ _ | refine blk_drew ?_ | refine blk_alloc ?_ _)); refine blk_put (cs := #[.int .i64 t391, .string t392, .int .i64 t393, .bool false, .bool false]) ?_ 3 _ rfl; (with_reducible repeat (first | refine blk_drewN ?_ _ | refine blk_drew ?_ | refine blk_alloc ?_ _)); refine blk_put (cs := #[.int .i64 t391, .string t392, .int .i64 0, .bool false, .bool false]) ?_ 2 _ rfl; (with_reducible repeat (first | refine blk_drewN ?_ _ | refine blk_drew ?_ | refine blk_alloc ?_ _)); refine blk_put (cs := #[.int .i64 t391, .string (⟨#[]⟩ : ByteArray), .int .i64 0, .bool false, .bool false]) ?_ 1 _ rfl; (with_reducible repeat (first | refine blk_drewN ?_ _ | refine blk_drew ?_ | refine blk_alloc ?_ _)); refine blk_put (cs := #[.int .i64 0, .string (⟨#[]⟩ : ByteArray), .int .i64 0, .bool false, .bool false]) ?_ 0 _ rfl; exact uB <| BK388.out))⟩; have n1_ : Aside0 (Below w.heap.size w w8) := ⟨(by rw [hw]; exact bl)⟩; clear hw; clear BK388; clear HB; have BK388 := n0_; have HB := n1_; clear n0_ n1_))
  refine bodyPost_ret (results_ct rfl _ _ gb388 48 #[.int .i64 t391, .string t392, .int .i64 t393, .bool t394, .bool t395] (0, 0) _ rfl (uB BK388.out) Tryz.underlying48 rfl (by kernel_rfl)) rfl ?_
  exact ⟨re_, bl⟩
 ·
  replace c3 := Bool.eq_false_iff.mpr c3
  subst c3
  rw [if_neg (show ¬ (false = true) by decide)] at H
  obtain ⟨⟨t397, t398⟩, A9, H⟩ := bs H
  try dsimp only at H
  by_cases c10 : t398 = 0
  ·
   rw [if_pos c10] at H
   have c10b0 : (t398 == 0) = true := beq_iff_eq.mpr c10
   have c10b1 : (t398 != 0) = false := bne_eq_false_iff_eq.mpr c10
   clear c10
   obtain ⟨c11, H⟩ := gn H
   have c11b0 : ((t397.length : Int) == 0) = false := beq_eq_false_iff_ne.mpr c11
   have c11b1 : ((t397.length : Int) != 0) = true := bne_iff_ne.mpr c11
   have c11b2 : ¬ (t397 = []) := fun h_ => c11 (by rw [h_]; rfl)
   obtain ⟨c12, H⟩ := gd H
   have c12b0 : decide (0 < (t397.length : Int)) = true := decide_eq_true c12
   have c12b1 : decide (0 < t397.length) = true := decide_eq_true (by omega)
   clear c12
   simp only [Option.some.injEq, Prod.mk.injEq] at H
   obtain ⟨rfl, rfl, rfl, rfl, rfl, rfl⟩ := H
   go_enter Tryz.func40, Tryz.ntmps40
   go_wp2_with (first | ((with_reducible refine gate_dst (N := 2) rfl ?_); refine bx (N := 2) #[.int .i64 0, .string (⟨#[]⟩ : ByteArray), .int .i64 0, .bool false, .bool false] 48 ?_; intro gb388 hg w13 hbox hb; have BK388 := Aside0.mk (hbox); have GW388 := gw hg (uW HB.out); have GE388 := GW388; replace HB := cW HB hb; clear hb hbox hg) | (refine gL (some 10) rfl Tryz.func57 #[.string a0, .string (⟨#[33]⟩ : ByteArray)] ?_; (with_reducible refine (strings_CutPrefix.calls a0 (⟨#[33]⟩ : ByteArray) t389 false _ A2.out).mono ?_); rintro e w' ⟨rfl, ⟨nd, rfl⟩⟩; refine ⟨_, rfl, ?_⟩; (try (rw [drewN_self w13]; generalize hq_ : World.drewN w13 _ = w13; have n0_ : Aside0 (w13.heap[gb388]? = some (.cells #[.int .i64 0, .string (⟨#[]⟩ : ByteArray), .int .i64 0, .bool false, .bool false] 48 (0, 0))) := ⟨by rw [← hq_]; exact (uB BK388.out)⟩; have n1_ : Aside0 (Below w.heap.size w w13) := ⟨by rw [← hq_]; exact bl⟩; clear BK388 HB hq_; have BK388 := n0_; have HB := n1_; clear n0_ n1_))) | (refine gL (some 20) rfl Tryz.func59 #[.string a0] ?_; (with_reducible refine (row_Parse.calls (hL := (by first | exact HL0.out | exact LD.below HL0.out bl)) k a0 t397 t398 _ A9.out).mono ?_); rintro e w14 ⟨v399, rfl, ho0, hb⟩; refine ⟨_, rfl, ?_⟩; have HO400 := Aside0.mk (Kd.R_lower ho0 (below_size bl)); replace BK388 := cB BK388 hb; replace HB := Aside0.mk (below_step bl hb); (try clear hb); (try clear ho0); obtain ⟨Ao15, co15, eo15⟩ := Kd.R_slice HO400.out; subst eo15; have p401 : 0 ≤ (0 : Int) := (by omega); have q401 : 0 < (t397.length : Int) := od; obtain ⟨ad401, e401, hx401_0, hx401_1, hx401_2, hx401_3⟩ := at_T45 (Kd.R_reads' HO400.out).2.2 0 p401 q401; cases e401; have qi401 : (0 < t397.length) = True := eq_true (by omega); (try rw [show ((0 : Int)).toNat = 0 from rfl] at hx401_0); (try rw [show 0 * 4 = 0 from rfl] at hx401_0); (try rw [Addr.add_zero'] at hx401_0); (try rw [show ((0 : Int)).toNat = 0 from rfl] at hx401_1); (try rw [show 0 * 4 = 0 from rfl] at hx401_1); (try rw [Addr.add_zero'] at hx401_1); (try rw [show ((0 : Int)).toNat = 0 from rfl] at hx401_2); (try rw [show 0 * 4 = 0 from rfl] at hx401_2); (try rw [Addr.add_zero'] at hx401_2); (try rw [show ((0 : Int)).toNat = 0 from rfl] at hx401_3); (try rw [show 0 * 4 = 0 from rfl] at hx401_3); (try rw [Addr.add_zero'] at hx401_3); replace p401 := eq_true p401; replace q401 := eq_true q401; obtain ⟨hcz16_0, hcz16_1, hcz16_2, hcz16_3, hcz16_4, hfz16_0, hfz16_1, hfz16_2, hfz16_3, hfz16_4⟩ := z5 BK388) | ((with_reducible refine gate_store (t := 48) (p := 2) rfl ?_); refine store_event (t := 48) (p := 2) (v := ?vo_w17) (w1 := (((((w14.setCell ⟨gb388, 0, none⟩ (.int .i64 ((rd_T45 t397 0).f0))).setCell ⟨gb388, 1, none⟩ (.string ((rd_T45 t397 0).f1))).setCell ⟨gb388, 2, none⟩ (.int .i64 ((rd_T45 t397 0).f2.f0))).setCell ⟨gb388, 3, none⟩ (.bool ((rd_T45 t397 0).f2.f1))).setCell ⟨gb388, 4, none⟩ (.bool false))) ?hg ?ho ?hn ?hr ?_; (case ho => rfl); (case hg => rfl); (case hn => rfl); (case hr => first | (go_simp; done) | (go_simp; rfl)); intro w17 hw; have n0_ : Aside0 (Kd.R k45 45 w17 w.heap.size (fun _ => True) (.slice (some ad401) t397.length co15) t397) := ⟨(by rw [hw]; exact (by exact uR <| Kd.R_mono (Kd.R_far (p := ⟨gb388, 4, none⟩) (Kd.R_far (p := ⟨gb388, 3, none⟩) (Kd.R_far (p := ⟨gb388, 2, none⟩) (Kd.R_far (p := ⟨gb388, 1, none⟩) (Kd.R_far (p := ⟨gb388, 0, none⟩) (Kd.R_types HO400.out BK388.out (by decide)) (fun _ hk => hk.2) (.int .i64 ((rd_T45 t397 0).f0))) (fun _ hk => hk.2) (.string ((rd_T45 t397 0).f1))) (fun _ hk => hk.2) (.int .i64 ((rd_T45 t397 0).f2.f0))) (fun _ hk => hk.2) (.bool ((rd_T45 t397 0).f2.f1))) (fun _ hk => hk.2) (.bool false)) (fun _ hk => trivial)))⟩; have n1_ : Aside0 (w17.heap[gb388]? = some (.cells #[.int .i64 ((rd_T45 t397 0).f0), .string ((rd_T45 t397 0).f1), .int .i64 ((rd_T45 t397 0).f2.f0), .bool ((rd_T45 t397 0).f2.f1), .bool false] 48 (0, 0))) := ⟨(by rw [hw]; exact (by (with_reducible repeat (first | refine blk_drewN ?_ _ | refine blk_drew ?_ | refine blk_alloc ?_ _)); refine blk_put (cs := #[.int .i64 ((rd_T45 t397 0).f0), .string ((rd_T45 t397 0).f1), .int .i64 ((rd_T45 t397 0).f2.f0), .bool ((rd_T45 t397 0).f2.f1), .bool false]) ?_ 4 _ rfl; (with_reducible repeat (first | refine blk_drewN ?_ _ | refine blk_drew ?_ | refine blk_alloc ?_ _)); refine blk_put (cs := #[.int .i64 ((rd_T45 t397 0).f0), .string ((rd_T45 t397 0).f1), .int .i64 ((rd_T45 t397 0).f2.f0), .bool false, .bool false]) ?_ 3 _ rfl; (with_reducible repeat (first | refine blk_drewN ?_ _ | refine blk_drew ?_ | refine blk_alloc ?_ _)); refine blk_put (cs := #[.int .i64 ((rd_T45 t397 0).f0), .string ((rd_T45 t397 0).f1), .int .i64 0, .bool false, .bool false]) ?_ 2 _ rfl; (with_reducible repeat (first | refine blk_drewN ?_ _ | refine blk_drew ?_ | refine blk_alloc ?_ _)); refine blk_put (cs := #[.int .i64 ((rd_T45 t397 0).f0), .string (⟨#[]⟩ : ByteArray), .int .i64 0, .bool false, .bool false]) ?_ 1 _ rfl; (with_reducible repeat (first | refine blk_drewN ?_ _ | refine blk_drew ?_ | refine blk_alloc ?_ _)); refine blk_put (cs := #[.int .i64 0, .string (⟨#[]⟩ : ByteArray), .int .i64 0, .bool false, .bool false]) ?_ 0 _ rfl; exact uB <| BK388.out))⟩; have n2_ : Aside0 (Below w.heap.size w w17) := ⟨(by rw [hw]; exact bl)⟩; clear hw; clear HO400; clear BK388; clear HB; have HO400 := n0_; have BK388 := n1_; have HB := n2_; clear n0_ n1_ n2_))
   refine bodyPost_ret (results_ct rfl _ _ gb388 48 #[.int .i64 ((rd_T45 t397 0).f0), .string ((rd_T45 t397 0).f1), .int .i64 ((rd_T45 t397 0).f2.f0), .bool ((rd_T45 t397 0).f2.f1), .bool false] (0, 0) _ rfl (uB BK388.out) Tryz.underlying48 rfl (by kernel_rfl)) rfl ?_
   exact ⟨re_, bl⟩
  ·
   rw [if_neg c10] at H
   exact absurd H (by simp)
def diff_Parse.l0 : Nat → List (S48) → List ByteArray → Int → Int → Option ((List (S48)) × Int)
 | 0, _, _, _, _ => none
 | k + 1, x2, x11, x12, x13 => if x13 < x12 then (if 0 ≤ x13 then (if x13 < (x11.length : Int) then ((diff_one.f k (rdOf ByteArray.empty x11 x13)).bind fun bt406 => (if bt406.2.2.2.2.2 = 0 then (if x2.length < 2932031007402 then (diff_Parse.l0 k (x2 ++ [(⟨(⟨bt406.1, bt406.2.1, (⟨bt406.2.2.1, bt406.2.2.2.1⟩ : S43)⟩ : S45), bt406.2.2.2.2.1⟩ : S48)]) x11 x12 (wrap64 (x13 + 1))) else (none)) else (none))) else (none)) else (none)) else ((diff_right.f k x2).bind fun t416 => (if t416 = true then (some (x2, 0)) else (none)))
def diff_Parse.f (k : Nat) (a0 : ByteArray) : Option ((List (S48)) × Int) := if a0.toList = ([45] : List UInt8) then (none) else ((word_Split.f k a0 59).bind fun t402 => (diff_Parse.l0 k ([] : List (S48)) t402 (t402.length : Int) 0))
theorem diff_Parse.mono_l : ∀ k, (∀ y0 y1 y2 y3, LeC (diff_Parse.l0 k y0 y1 y2 y3) (diff_Parse.l0 (k + 1) y0 y1 y2 y3))
 | 0 => fun _ _ _ _ => ⟨fun r h => by simp [diff_Parse.l0] at h⟩
 | k + 1 => by have ih0 := diff_Parse.mono_l k; exact fun _ _ _ _ => by unfold diff_Parse.l0; exact lm
theorem diff_Parse.mono : ∀ a0 k, LeO (diff_Parse.f k a0) (diff_Parse.f (k + 1) a0) := by
 intro a0 k
 have ih0 := diff_Parse.mono_l k
 unfold diff_Parse.f
 exact lo
instance diff_Parse.mI {a0 k} : LeC (diff_Parse.f k a0) (diff_Parse.f (k + 1) a0) := ⟨diff_Parse.mono _ _⟩
theorem diff_Parse.calls (k : Nat) (a0 : ByteArray) (r1 : List (S48)) (r2 : Int) (w : World) (hL : LD w) (h : diff_Parse.f k a0 = some (r1, r2)) :
 Calls Tryz.prog 20 #[.string a0] w fun e w' => ∃ v0_ : Value, e = .returned (.tuple #[v0_, .int .i64 r2]) ∧ Kd.R k48 48 w' w.heap.size (fun _ => True) v0_ r1 ∧ Below w.heap.size w w' := by
 have HL0 := Aside0.mk hL
 clear hL
 have hu48 := Tryz.underlying48
 have HB := Aside0.mk (Below.refl w.heap.size w)
 have H : (if a0.toList = ([45] : List UInt8) then (none) else ((word_Split.f k a0 59).bind fun t402 => (diff_Parse.l0 k ([] : List (S48)) t402 (t402.length : Int) 0))) = some (r1, r2) := h
 clear h
 obtain ⟨c2, H⟩ := gn H
 have c2b0 : (a0.toList == ([45] : List UInt8)) = false := beq_eq_false_iff_ne.mpr c2
 have c2b1 : (a0.toList != ([45] : List UInt8)) = true := bne_iff_ne.mpr c2
 obtain ⟨t402, A3, H⟩ := bs H
 try dsimp only at H
 have H' := Aside0.mk H
 clear H
 go_enter Tryz.func20, Tryz.ntmps20
 go_wp2_with (first | (refine gL (some 11) rfl Tryz.func39 #[.string a0, .int .u8 59] ?_; (with_reducible refine (word_Split.calls k a0 59 t402 _ A3.out).mono ?_); rintro e w4 ⟨v403, rfl, ho0, hb⟩; refine ⟨_, rfl, ?_⟩; have HO404 := Aside0.mk (Kd.R_lower ho0 (below_size (uW HB.out))); replace HB := cW HB hb; (try clear hb); (try clear ho0); obtain ⟨Ao5, co5, eo5⟩ := Kd.R_slice HO404.out; subst eo5))
 (try simp only [Act.put, List.setIfInBounds_toArray, List.set_cons_zero, List.set_cons_succ])
 go_loopg [2, 13] k (fun kq v2 v13 w' => ∃ (x2_1 : List (S48)) (x13_1 : Int), v13 = .int .i64 x13_1 ∧ Aside0 (diff_Parse.l0 kq x2_1 t402 (t402.length : Int) x13_1 = some (r1, r2)) ∧ Aside0 (kq ≤ k) ∧ Aside0 (Kd.R k48 48 w' w.heap.size (fun _ => True) v2 x2_1) ∧ Aside0 (Kd.R Kd.string 9 w' w.heap.size (fun _ => True) (.slice Ao5 t402.length co5) t402) ∧ Aside0 (Below w.heap.size w w'))
 case atStart => exact ⟨(([] : List (S48))), (0), rs_, H', ⟨Nat.le_refl _⟩, ⟨nl_⟩, ⟨uR HO404.out⟩, ⟨uW HB.out⟩⟩
 case round =>
  clear H'
  try clear c2
  try clear c2b0
  try clear c2b1
  try clear p2
  try clear c3
  obtain ⟨x2_1, x13_1, rfl, HA, HK1, HO_2, HO_11, HB⟩ := hrel
  cases gk with
  | zero => exact absurd HA.out (by simp [diff_Parse.l0])
  | succ k1 =>
   have H := HA.out
   clear HA
   simp only [diff_Parse.l0] at H
   by_cases c6 : x13_1 < (t402.length : Int)
   ·
    rw [if_pos c6] at H
    have c6b0 : decide (x13_1 < (t402.length : Int)) = true := decide_eq_true c6
    clear c6
    obtain ⟨c7b0, H⟩ := gdd H
    obtain ⟨c8b0, H⟩ := gdd H
    obtain ⟨⟨t406, t407, t408, t409, t410, t411⟩, A9, H⟩ := bs H
    try dsimp only at H
    obtain ⟨c10, H⟩ := gd H
    have c10b0 : (t411 == 0) = true := beq_iff_eq.mpr c10
    have c10b1 : (t411 != 0) = false := bne_eq_false_iff_eq.mpr c10
    clear c10
    obtain ⟨c11, H⟩ := gd H
    have LMc11 := Aside0.mk c11
    clear c11
    obtain ⟨y413, hy413⟩ : ∃ y_ : List (S48), y_ = (x2_1 ++ [(⟨(⟨t406, t407, (⟨t408, t409⟩ : S43)⟩ : S45), t410⟩ : S48)]) := ⟨_, rfl⟩
    replace H : (diff_Parse.l0 k1 y413 t402 (t402.length : Int) (wrap64 (x13_1 + 1))) = some (r1, r2) := by first | (rw [hy413]; with_reducible exact H) | (have H2_ := (Option.bind_some _ _).symm.trans H; rw [hy413]; with_reducible exact H2_) | (have H2_ := (Option.bind_some _ _).symm.trans H; with_reducible exact H2_) | with_reducible exact H | (rw [hy413]; exact H) | exact H
    have Ny413 := Aside0.mk hy413
    clear hy413
    have H' := Aside0.mk H
    clear H
    have p405 : 0 ≤ (x13_1 : Int) := od
    have q405 : x13_1 < (t402.length : Int) := od
    obtain ⟨ad405, e405, hx405_0⟩ := Kd.at_string (Kd.R_reads' HO_11.out).2.2 x13_1 p405 q405
    cases e405
    replace p405 := eq_true p405
    replace q405 := eq_true q405
    go_wp2_with (first | (refine gL (some 19) rfl Tryz.func40 #[.string (rdOf ByteArray.empty t402 x13_1)] ?_; (with_reducible refine (diff_one.calls (hL := (by first | exact HL0.out | exact LD.below HL0.out (uW HB.out))) k1 (rdOf ByteArray.empty t402 x13_1) t406 t407 t408 t409 t410 t411 _ A9.out).mono ?_); rintro e w12 ⟨rfl, hb⟩; refine ⟨_, rfl, ?_⟩; replace HO_2 := cR HO_2 hb; replace HO_11 := cR HO_11 hb; replace HB := cW HB hb; (try clear hb)) | ((with_reducible refine gate_dst (N := 6) rfl ?_); refine bx (N := 6) #[.int .i64 0, .string (⟨#[]⟩ : ByteArray), .int .i64 0, .bool false, .bool false] 48 ?_; intro gb412 hg w13 hbox hb; replace HO_2 := Aside0.mk (Kd.R_below (Kd.R_elderB (uR HO_2.out) gb412 (Nat.le_of_eq hg.symm)) hb); replace HO_11 := cR HO_11 hb; have BK412 := Aside0.mk (hbox); have GW412 := gw hg (uW HB.out); have GE412 := GW412; replace HB := cW HB hb; clear hb hbox hg; obtain ⟨hcz14_0, hcz14_1, hcz14_2, hcz14_3, hcz14_4, hfz14_0, hfz14_1, hfz14_2, hfz14_3, hfz14_4⟩ := z5 BK412) | ((with_reducible refine gate_store (t := 48) (p := 6) rfl ?_); refine store_event (t := 48) (p := 6) (v := ?vo_w15) (w1 := (((((w13.setCell ⟨gb412, 0, none⟩ (.int .i64 t406)).setCell ⟨gb412, 1, none⟩ (.string t407)).setCell ⟨gb412, 2, none⟩ (.int .i64 t408)).setCell ⟨gb412, 3, none⟩ (.bool t409)).setCell ⟨gb412, 4, none⟩ (.bool t410))) ?hg ?ho ?hn ?hr ?_; (case ho => rfl); (case hg => rfl); (case hn => rfl); (case hr => first | (go_simp; done) | (go_simp; rfl)); intro w15 hw; have n0_ : Aside0 (Kd.R k48 48 w15 w.heap.size (fun k_ => k_ ≠ gb412) u2 x2_1) := ⟨(by rw [hw]; exact (by exact uR <| Kd.R_mono (Kd.R_far (p := ⟨gb412, 4, none⟩) (Kd.R_far (p := ⟨gb412, 3, none⟩) (Kd.R_far (p := ⟨gb412, 2, none⟩) (Kd.R_far (p := ⟨gb412, 1, none⟩) (Kd.R_far (p := ⟨gb412, 0, none⟩) (Kd.R_mono HO_2.out (fun k_ hk => (⟨hk, hk.2⟩ : _ ∧ k_ ≠ gb412))) (fun _ hk => hk.2) (.int .i64 t406)) (fun _ hk => hk.2) (.string t407)) (fun _ hk => hk.2) (.int .i64 t408)) (fun _ hk => hk.2) (.bool t409)) (fun _ hk => hk.2) (.bool t410)) (fun _ hk => hk.1.2)))⟩; have n1_ : Aside0 (Kd.R Kd.string 9 w15 w.heap.size (fun _ => True) (.slice (some ad405) t402.length co5) t402) := ⟨(by rw [hw]; exact (by exact uR <| Kd.R_mono (Kd.R_far (p := ⟨gb412, 4, none⟩) (Kd.R_far (p := ⟨gb412, 3, none⟩) (Kd.R_far (p := ⟨gb412, 2, none⟩) (Kd.R_far (p := ⟨gb412, 1, none⟩) (Kd.R_far (p := ⟨gb412, 0, none⟩) (Kd.R_types HO_11.out BK412.out (by decide)) (fun _ hk => hk.2) (.int .i64 t406)) (fun _ hk => hk.2) (.string t407)) (fun _ hk => hk.2) (.int .i64 t408)) (fun _ hk => hk.2) (.bool t409)) (fun _ hk => hk.2) (.bool t410)) (fun _ hk => trivial)))⟩; have n2_ : Aside0 (w15.heap[gb412]? = some (.cells #[.int .i64 t406, .string t407, .int .i64 t408, .bool t409, .bool t410] 48 (0, 0))) := ⟨(by rw [hw]; exact (by (with_reducible repeat (first | refine blk_drewN ?_ _ | refine blk_drew ?_ | refine blk_alloc ?_ _)); refine blk_put (cs := #[.int .i64 t406, .string t407, .int .i64 t408, .bool t409, .bool false]) ?_ 4 _ rfl; (with_reducible repeat (first | refine blk_drewN ?_ _ | refine blk_drew ?_ | refine blk_alloc ?_ _)); refine blk_put (cs := #[.int .i64 t406, .string t407, .int .i64 t408, .bool false, .bool false]) ?_ 3 _ rfl; (with_reducible repeat (first | refine blk_drewN ?_ _ | refine blk_drew ?_ | refine blk_alloc ?_ _)); refine blk_put (cs := #[.int .i64 t406, .string t407, .int .i64 0, .bool false, .bool false]) ?_ 2 _ rfl; (with_reducible repeat (first | refine blk_drewN ?_ _ | refine blk_drew ?_ | refine blk_alloc ?_ _)); refine blk_put (cs := #[.int .i64 t406, .string (⟨#[]⟩ : ByteArray), .int .i64 0, .bool false, .bool false]) ?_ 1 _ rfl; (with_reducible repeat (first | refine blk_drewN ?_ _ | refine blk_drew ?_ | refine blk_alloc ?_ _)); refine blk_put (cs := #[.int .i64 0, .string (⟨#[]⟩ : ByteArray), .int .i64 0, .bool false, .bool false]) ?_ 0 _ rfl; exact uB <| BK412.out))⟩; have n3_ : Aside0 (Below w.heap.size w w15) := ⟨(by rw [hw]; exact bl)⟩; clear hw; clear HO_2; clear HO_11; clear BK412; clear HB; have HO_2 := n0_; have HO_11 := n1_; have BK412 := n2_; have HB := n3_; clear n0_ n1_ n2_ n3_; obtain ⟨hcz16_0, hcz16_1, hcz16_2, hcz16_3, hcz16_4, hfz16_0, hfz16_1, hfz16_2, hfz16_3, hfz16_4⟩ := z5 BK412) | ((with_reducible refine gate_builtin (b := .append) (xs := #[.tmp 25, .tmp 27]) rfl ?_); at_builtin; refine Kd.R_append k48 (w0 := w) w.heap.size rfl (.tmp 25) (.tmp 27) 25 48 (.agg #[(.int .i64 0), (.string ⟨#[]⟩), (.int .i64 0), (.bool false), (.bool false)]) 48 rfl Tryz.underlying25 info48 rfl (by decide) (by omega) u2 x2_1 (⟨(⟨t406, t407, (⟨t408, t409⟩ : S43)⟩ : S45), t410⟩ : S48) [.int .i64 t406, .string t407, .int .i64 t408, .bool t409, .bool t410] (fun k_ => k_ ≠ gb412) (fun _ => False) rfl rfl ?aP (fun _ hk => hk.elim) ?aF ?aO ?aB ?aS ?aL ?_; (case aP => exact k48_mkM _ _ _ (⟨(⟨t406, t407, (⟨t408, t409⟩ : S43)⟩ : S45), t410⟩ : S48)); (case aB => exact bl); (case aF => exact (fun k_ hk => Kd.freshB (g := gb412) (o := .cells #[.int .i64 t406, .string t407, .int .i64 t408, .bool t409, .bool t410] 48 (0, 0)) (uB BK412.out) k_ hk)); (case aO => exact (uR HO_2.out)); (case aS => exact (below_size bl)); (case aL => have := LMc11.out; omega); intro v414 w17 ho hb hg hat; rw [← Ny413.out] at ho; replace HO_11 := Aside0.mk (Kd.R_over' (uR HO_11.out) (Kd.R_typed (uR HO_2.out)) (by decide) hg); replace BK412 := Aside0.mk (blk_grown (g := gb412) (o := .cells #[.int .i64 t406, .string t407, .int .i64 t408, .bool t409, .bool t410] 48 (0, 0)) (uB BK412.out) hg (Kd.R_away HO_2.out (fun _ hk => hk))); replace HB := Aside0.mk (hb); have HO415 := Aside0.mk (ho); clear HO_2; clear ho hb hg hat))
    go_roundg k1
    case measure => have := HK1.out; omega
    case rel => exact ⟨(y413), (wrap64 (x13_1 + 1)), rs_, H', ⟨by have := HK1.out; omega⟩, ⟨by exact uR <| Kd.R_mono HO415.out (fun _ hk => trivial)⟩, ⟨uR HO_11.out⟩, ⟨bl⟩⟩
   ·
    rw [if_neg c6] at H
    have c6b0 : decide (x13_1 < (t402.length : Int)) = false := decide_eq_false c6
    clear c6
    obtain ⟨t416, A18, H⟩ := bs H
    try dsimp only at H
    by_cases c19 : t416 = true
    ·
     subst c19
     rw [if_pos rfl] at H
     simp only [Option.some.injEq, Prod.mk.injEq] at H
     obtain ⟨rfl, rfl⟩ := H
     obtain ⟨Ao20, co20, eo20⟩ := Kd.R_slice HO_2.out
     subst eo20
     go_wp2_with (first | (refine gL (some 31) rfl Tryz.func36 #[.slice Ao20 x2_1.length co20] ?_; (with_reducible refine (diff_right.calls (hL := (by first | exact HL0.out | exact LD.below HL0.out (uW HB.out))) k1 _ _ x2_1 true _ ?side1 ?side2 A18.out).mono ?_); (case side1 => exact uC <| (Kd.R_reads' HO_2.out).2.2); (case side2 => exact (Kd.R_reads' HO_2.out).2.1); rintro e w21 ⟨rfl, hb⟩; refine ⟨_, rfl, ?_⟩; replace HO_2 := cR HO_2 hb; replace HO_11 := cR HO_11 hb; replace HB := cW HB hb; (try clear hb)))
     go_ret2
     exact ⟨_, re_, uR HO_2.out, uW HB.out⟩
    ·
     replace c19 := Bool.eq_false_iff.mpr c19
     subst c19
     rw [if_neg (show ¬ (false = true) by decide)] at H
     exact absurd H (by simp)
def ebbtideref02_Split.l0 : Nat → ByteArray → Int → List ByteArray → Int → Int → Option (List ByteArray)
 | 0, _, _, _, _, _ => none
 | k + 1, x0, x1, x5, x6, x7 => if x7 < (x0.size : Int) then (if 0 ≤ x7 then (if (bt x0 x7) = x1 then (if 0 ≤ x6 then (if x6 ≤ x7 then (if x7 ≤ (x0.size : Int) then (if x5.length < 8796093022208 then (ebbtideref02_Split.l0 k x0 x1 (x5 ++ [x0.extract (x6 : Int).toNat (x7 : Int).toNat]) (wrap64 (x7 + 1)) (wrap64 (x7 + 1))) else (none)) else (none)) else (none)) else (none)) else (ebbtideref02_Split.l0 k x0 x1 x5 x6 (wrap64 (x7 + 1)))) else (none)) else (if 0 ≤ x6 then (if x6 ≤ (x0.size : Int) then (if x5.length < 8796093022208 then (some (x5 ++ [x0.extract (x6 : Int).toNat x0.size])) else (none)) else (none)) else (none))
def ebbtideref02_Split.f (k : Nat) (a0 : ByteArray) (a1 : Int) : Option (List ByteArray) := ebbtideref02_Split.l0 k a0 a1 ([] : List ByteArray) 0 0
theorem ebbtideref02_Split.mono_l : ∀ k, (∀ y0 y1 y2 y3 y4, LeC (ebbtideref02_Split.l0 k y0 y1 y2 y3 y4) (ebbtideref02_Split.l0 (k + 1) y0 y1 y2 y3 y4))
 | 0 => fun _ _ _ _ _ => ⟨fun r h => by simp [ebbtideref02_Split.l0] at h⟩
 | k + 1 => by have ih0 := ebbtideref02_Split.mono_l k; exact fun _ _ _ _ _ => by unfold ebbtideref02_Split.l0; exact lm
theorem ebbtideref02_Split.mono : ∀ a0 a1 k, LeO (ebbtideref02_Split.f k a0 a1) (ebbtideref02_Split.f (k + 1) a0 a1) := by
 intro a0 a1 k
 have ih0 := ebbtideref02_Split.mono_l k
 unfold ebbtideref02_Split.f
 exact lo
instance ebbtideref02_Split.mI {a0 a1 k} : LeC (ebbtideref02_Split.f k a0 a1) (ebbtideref02_Split.f (k + 1) a0 a1) := ⟨ebbtideref02_Split.mono _ _ _⟩
theorem ebbtideref02_Split.calls (k : Nat) (a0 : ByteArray) (a1 : Int) (r : List ByteArray) (w : World) (h : ebbtideref02_Split.f k a0 a1 = some r) :
 Calls Tryz.prog 41 #[.string a0, .int .u8 a1] w fun e w' => ∃ v0_ : Value, e = .returned (v0_) ∧ Kd.R Kd.string 9 w' w.heap.size (fun _ => True) v0_ r ∧ Below w.heap.size w w' := by
 have HB := Aside0.mk (Below.refl w.heap.size w)
 have H : (ebbtideref02_Split.l0 k a0 a1 ([] : List ByteArray) 0 0) = some r := h
 clear h
 have H' := Aside0.mk H
 clear H
 go_enter Tryz.func41, Tryz.ntmps41
 go_wp2
 go_loopg [5, 6, 7] k (fun kq v5 v6 v7 w' => ∃ (x5_1 : List ByteArray) (x6_1 : Int) (x7_1 : Int), v6 = .int .i64 x6_1 ∧ v7 = .int .i64 x7_1 ∧ Aside0 (ebbtideref02_Split.l0 kq a0 a1 x5_1 x6_1 x7_1 = some r) ∧ Aside0 (kq ≤ k) ∧ Aside0 (Kd.R Kd.string 9 w' w.heap.size (fun _ => True) v5 x5_1) ∧ Aside0 (Below w.heap.size w w'))
 case atStart => exact ⟨(([] : List ByteArray)), (0), (0), rs_, rs_, H', ⟨Nat.le_refl _⟩, ⟨nl_⟩, ⟨uW HB.out⟩⟩
 case round =>
  clear H'
  try clear p2
  obtain ⟨x5_1, x6_1, x7_1, rfl, rfl, HA, HK1, HO_5, HB⟩ := hrel
  cases gk with
  | zero => exact absurd HA.out (by simp [ebbtideref02_Split.l0])
  | succ k1 =>
   have H := HA.out
   clear HA
   simp only [ebbtideref02_Split.l0] at H
   by_cases c3 : x7_1 < (a0.size : Int)
   ·
    rw [if_pos c3] at H
    have c3b0 : decide (x7_1 < (a0.size : Int)) = true := decide_eq_true c3
    clear c3
    obtain ⟨c4b0, H⟩ := gdd H
    by_cases c6 : (bt a0 x7_1) = a1
    ·
     rw [if_pos c6] at H
     have c6b0 : ((bt a0 x7_1) == a1) = true := beq_iff_eq.mpr c6
     have c6b1 : ((bt a0 x7_1) != a1) = false := bne_eq_false_iff_eq.mpr c6
     clear c6
     obtain ⟨c7, H⟩ := gd H
     have c7b0 := eq_true c7
     have c7b1 : decide (0 ≤ x6_1) = true := decide_eq_true c7
     clear c7
     obtain ⟨c8, H⟩ := gd H
     have c8b0 := eq_true c8
     have c8b1 : decide (x6_1 ≤ x7_1) = true := decide_eq_true c8
     clear c8
     obtain ⟨c9, H⟩ := gd H
     have c9b0 := eq_true c9
     have c9b1 : decide (x7_1 ≤ (a0.size : Int)) = true := decide_eq_true c9
     clear c9
     obtain ⟨c10, H⟩ := gd H
     have LMc10 := Aside0.mk c10
     clear c10
     obtain ⟨y417, hy417⟩ : ∃ y_ : List ByteArray, y_ = (x5_1 ++ [a0.extract (x6_1 : Int).toNat (x7_1 : Int).toNat]) := ⟨_, rfl⟩
     replace H : (ebbtideref02_Split.l0 k1 a0 a1 y417 (wrap64 (x7_1 + 1)) (wrap64 (x7_1 + 1))) = some r := by first | (rw [hy417]; with_reducible exact H) | (have H2_ := (Option.bind_some _ _).symm.trans H; rw [hy417]; with_reducible exact H2_) | (have H2_ := (Option.bind_some _ _).symm.trans H; with_reducible exact H2_) | with_reducible exact H | (rw [hy417]; exact H) | exact H
     have Ny417 := Aside0.mk hy417
     clear hy417
     have H' := Aside0.mk H
     clear H
     have p5 : 0 ≤ (x7_1 : Int) := od
     have q5 : x7_1 < (a0.size : Int) := od
     have hx5 := bt_at a0 x7_1
     replace p5 := eq_true p5
     replace q5 := eq_true q5
     go_wp2_with (first | ((with_reducible refine gate_builtin (b := .append) (xs := #[.tmp 19, .tmp 24]) rfl ?_); at_builtin; refine Kd.R_append Kd.string (w0 := w) w.heap.size rfl (.tmp 19) (.tmp 24) 52 9 (.string ⟨#[]⟩) 16 rfl Tryz.underlying52 info9 rfl (by decide) (by omega) u5 x5_1 (a0.extract (x6_1 : Int).toNat (x7_1 : Int).toNat) [.string (a0.extract (x6_1 : Int).toNat (x7_1 : Int).toNat)] (fun _ => True) (fun _ => False) rfl rfl ?aP (fun _ hk => hk.elim) ?aF ?aO ?aB ?aS ?aL ?_; (case aP => exact rfl); (case aB => exact (uW HB.out)); (case aF => exact (fun _ _ => trivial)); (case aO => exact (uR HO_5.out)); (case aS => exact (below_size (uW HB.out))); (case aL => have := LMc10.out; omega); intro v418 w11 ho hb hg hat; rw [← Ny417.out] at ho; replace HB := Aside0.mk (hb); have HO419 := Aside0.mk (ho); clear HO_5; clear ho hb hg hat))
     go_roundg k1
     case measure => have := HK1.out; omega
     case rel => exact ⟨(y417), (wrap64 (x7_1 + 1)), (wrap64 (x7_1 + 1)), rs_, rs_, H', ⟨by have := HK1.out; omega⟩, ⟨uR HO419.out⟩, ⟨uW HB.out⟩⟩
    ·
     rw [if_neg c6] at H
     have c6b0 : ((bt a0 x7_1) == a1) = false := beq_eq_false_iff_ne.mpr c6
     have c6b1 : ((bt a0 x7_1) != a1) = true := bne_iff_ne.mpr c6
     have H' := Aside0.mk H
     clear H
     have p5 : 0 ≤ (x7_1 : Int) := od
     have q5 : x7_1 < (a0.size : Int) := od
     have hx5 := bt_at a0 x7_1
     replace p5 := eq_true p5
     replace q5 := eq_true q5
     go_wp2
     go_roundg k1
     case measure => have := HK1.out; omega
     case rel => exact ⟨(x5_1), (x6_1), (wrap64 (x7_1 + 1)), rs_, rs_, H', ⟨by have := HK1.out; omega⟩, ⟨uR HO_5.out⟩, ⟨uW HB.out⟩⟩
   ·
    rw [if_neg c3] at H
    have c3b0 : decide (x7_1 < (a0.size : Int)) = false := decide_eq_false c3
    clear c3
    by_cases c12 : 0 ≤ x6_1
    ·
     rw [if_pos c12] at H
     have c12b0 := eq_true c12
     have c12b1 : decide (0 ≤ x6_1) = true := decide_eq_true c12
     clear c12
     obtain ⟨c13, H⟩ := gd H
     have c13b0 := eq_true c13
     have c13b1 : decide (x6_1 ≤ (a0.size : Int)) = true := decide_eq_true c13
     clear c13
     obtain ⟨c14, H⟩ := gd H
     have LMc14 := Aside0.mk c14
     clear c14
     obtain ⟨y420, hy420⟩ : ∃ y_ : List ByteArray, y_ = (x5_1 ++ [a0.extract (x6_1 : Int).toNat a0.size]) := ⟨_, rfl⟩
     replace H : (some y420) = some r := by first | (rw [hy420]; with_reducible exact H) | (have H2_ := (Option.bind_some _ _).symm.trans H; rw [hy420]; with_reducible exact H2_) | (have H2_ := (Option.bind_some _ _).symm.trans H; with_reducible exact H2_) | with_reducible exact H | (rw [hy420]; exact H) | exact H
     have Ny420 := Aside0.mk hy420
     clear hy420
     obtain rfl := Option.some.inj H
     go_wp2_with (first | ((with_reducible refine gate_builtin (b := .append) (xs := #[.tmp 28, .tmp 32]) rfl ?_); at_builtin; refine Kd.R_append Kd.string (w0 := w) w.heap.size rfl (.tmp 28) (.tmp 32) 52 9 (.string ⟨#[]⟩) 16 rfl Tryz.underlying52 info9 rfl (by decide) (by omega) u5 x5_1 (a0.extract (x6_1 : Int).toNat a0.size) [.string (a0.extract (x6_1 : Int).toNat a0.size)] (fun _ => True) (fun _ => False) rfl rfl ?aP (fun _ hk => hk.elim) ?aF ?aO ?aB ?aS ?aL ?_; (case aP => exact rfl); (case aB => exact (uW HB.out)); (case aF => exact (fun _ _ => trivial)); (case aO => exact (uR HO_5.out)); (case aS => exact (below_size (uW HB.out))); (case aL => have := LMc14.out; omega); intro v421 w15 ho hb hg hat; rw [← Ny420.out] at ho; replace HB := Aside0.mk (hb); have HO422 := Aside0.mk (ho); clear HO_5; clear ho hb hg hat))
     go_ret
     exact ⟨_, re_, uR HO422.out, uW HB.out⟩
    ·
     rw [if_neg c12] at H
     exact absurd H (by simp)
def ebbtideref02_Join.l0 : Nat → ByteArray → List ByteArray → ByteArray → Int → Option (ByteArray)
 | 0, _, _, _, _ => none
 | k + 1, x0, x1, x5, x6 => if x6 < (x1.length : Int) then (if x6 > 0 then (if x5.size + x0.size ≤ 9223372036854775807 then (if 0 ≤ x6 then (if (x5 ++ x0).size + (rdOf ByteArray.empty x1 x6).size ≤ 9223372036854775807 then (ebbtideref02_Join.l0 k x0 x1 ((x5 ++ x0) ++ (rdOf ByteArray.empty x1 x6)) (wrap64 (x6 + 1))) else (none)) else (none)) else (none)) else (if 0 ≤ x6 then (if x5.size + (rdOf ByteArray.empty x1 x6).size ≤ 9223372036854775807 then (ebbtideref02_Join.l0 k x0 x1 (x5 ++ (rdOf ByteArray.empty x1 x6)) (wrap64 (x6 + 1))) else (none)) else (none))) else (some x5)
def ebbtideref02_Join.f (k : Nat) (a0 : ByteArray) (l1 : List ByteArray) : Option (ByteArray) := ebbtideref02_Join.l0 k a0 l1 (⟨#[]⟩ : ByteArray) 0
theorem ebbtideref02_Join.mono_l : ∀ k, (∀ y0 y1 y2 y3, LeC (ebbtideref02_Join.l0 k y0 y1 y2 y3) (ebbtideref02_Join.l0 (k + 1) y0 y1 y2 y3))
 | 0 => fun _ _ _ _ => ⟨fun r h => by simp [ebbtideref02_Join.l0] at h⟩
 | k + 1 => by have ih0 := ebbtideref02_Join.mono_l k; exact fun _ _ _ _ => by unfold ebbtideref02_Join.l0; exact lm
theorem ebbtideref02_Join.mono : ∀ a0 a1 k, LeO (ebbtideref02_Join.f k a0 a1) (ebbtideref02_Join.f (k + 1) a0 a1) := by
 intro a0 a1 k
 have ih0 := ebbtideref02_Join.mono_l k
 unfold ebbtideref02_Join.f
 exact lo
instance ebbtideref02_Join.mI {a0 a1 k} : LeC (ebbtideref02_Join.f k a0 a1) (ebbtideref02_Join.f (k + 1) a0 a1) := ⟨ebbtideref02_Join.mono _ _ _⟩
theorem ebbtideref02_Join.calls (k : Nat) (a0 : ByteArray) (A1 : Option Addr) (c1 : Nat) (l1 : List ByteArray) (r : ByteArray) (w : World) (hr1 : Kd.C Kd.string w A1 l1.length l1) (hc1 : l1.length ≤ c1) (h : ebbtideref02_Join.f k a0 l1 = some r) :
 Calls Tryz.prog 35 #[.string a0, .slice A1 l1.length c1] w fun e w' => e = .returned (.string r) ∧ Drawn0 w w' := by
 have HR1 := Aside0.mk hr1
 have HC1 := Aside0.mk hc1
 clear hr1 hc1
 have H : (ebbtideref02_Join.l0 k a0 l1 (⟨#[]⟩ : ByteArray) 0) = some r := h
 clear h
 have H' := Aside0.mk H
 clear H
 go_enter Tryz.func35, Tryz.ntmps35
 go_wp2
 go_loopg [5, 6] k (fun kq v5 v6 w' => ∃ (x5_1 : ByteArray) (x6_1 : Int), v5 = .string x5_1 ∧ v6 = .int .i64 x6_1 ∧ Aside0 (ebbtideref02_Join.l0 kq a0 l1 x5_1 x6_1 = some r) ∧ Aside0 (kq ≤ k) ∧ Drawn0 w w')
 case atStart => exact ⟨((⟨#[]⟩ : ByteArray)), (0), rs_, rs_, H', ⟨Nat.le_refl _⟩, dr_⟩
 case round =>
  clear H'
  try clear c1
  try clear p2
  obtain ⟨x5_1, x6_1, rfl, rfl, HA, HK1, ⟨m1, rfl⟩⟩ := hrel
  cases gk with
  | zero => exact absurd HA.out (by simp [ebbtideref02_Join.l0])
  | succ k1 =>
   have H := HA.out
   clear HA
   simp only [ebbtideref02_Join.l0] at H
   by_cases c3 : x6_1 < (l1.length : Int)
   ·
    rw [if_pos c3] at H
    have c3b0 : decide (x6_1 < (l1.length : Int)) = true := decide_eq_true c3
    clear c3
    by_cases c4 : x6_1 > 0
    ·
     rw [if_pos c4] at H
     have c4b0 : decide (0 < x6_1) = true := decide_eq_true c4
     clear c4
     obtain ⟨c5, H⟩ := gd H
     have c5b0 := eq_true c5
     have c5b1 : decide (x5_1.size + a0.size ≤ 9223372036854775807) = true := decide_eq_true c5
     try have c5b2 : (9223372036854775807 < x5_1.size + a0.size) = False := eq_false (Nat.not_lt.2 c5)
     obtain ⟨c6b0, H⟩ := gdd H
     obtain ⟨c7, H⟩ := gd H
     have c7b0 := eq_true c7
     have c7b1 : decide ((x5_1 ++ a0).size + (rdOf ByteArray.empty l1 x6_1).size ≤ 9223372036854775807) = true := decide_eq_true c7
     try have c7b2 : (9223372036854775807 < (x5_1 ++ a0).size + (rdOf ByteArray.empty l1 x6_1).size) = False := eq_false (Nat.not_lt.2 c7)
     try have c7b8 := c7b2
     try simp only [ByteArray.size_append] at c7b8
     have H' := Aside0.mk H
     clear H
     have p423 : 0 ≤ (x6_1 : Int) := od
     have q423 : x6_1 < (l1.length : Int) := od
     obtain ⟨ad423, e423, hx423_0⟩ := Kd.at_string HR1.out x6_1 p423 q423
     cases e423
     replace p423 := eq_true p423
     replace q423 := eq_true q423
     go_wp2
     go_roundg k1
     case measure => have := HK1.out; omega
     case rel => exact ⟨((x5_1 ++ a0) ++ (rdOf ByteArray.empty l1 x6_1)), (wrap64 (x6_1 + 1)), rs_, rs_, H', ⟨by have := HK1.out; omega⟩, dr_⟩
    ·
     rw [if_neg c4] at H
     have c4b0 : decide (0 < x6_1) = false := decide_eq_false c4
     clear c4
     obtain ⟨c8b0, H⟩ := gdd H
     obtain ⟨c9, H⟩ := gd H
     have c9b0 := eq_true c9
     have c9b1 : decide (x5_1.size + (rdOf ByteArray.empty l1 x6_1).size ≤ 9223372036854775807) = true := decide_eq_true c9
     try have c9b2 : (9223372036854775807 < x5_1.size + (rdOf ByteArray.empty l1 x6_1).size) = False := eq_false (Nat.not_lt.2 c9)
     have H' := Aside0.mk H
     clear H
     have p424 : 0 ≤ (x6_1 : Int) := od
     have q424 : x6_1 < (l1.length : Int) := od
     obtain ⟨ad424, e424, hx424_0⟩ := Kd.at_string HR1.out x6_1 p424 q424
     cases e424
     replace p424 := eq_true p424
     replace q424 := eq_true q424
     go_wp2
     go_roundg k1
     case measure => have := HK1.out; omega
     case rel => exact ⟨(x5_1 ++ (rdOf ByteArray.empty l1 x6_1)), (wrap64 (x6_1 + 1)), rs_, rs_, H', ⟨by have := HK1.out; omega⟩, dr_⟩
   ·
    rw [if_neg c3] at H
    have c3b0 : decide (x6_1 < (l1.length : Int)) = false := decide_eq_false c3
    clear c3
    obtain rfl := Option.some.inj H
    go_wp2
    go_ret
    exact ⟨rs_, dr_⟩
def ebbtideref02_small.f (a0 : Int) : Option (Bool) := if a0 ≥ 97 then (some (decide (a0 ≤ 122))) else (some false)
theorem ebbtideref02_small.calls (a0 : Int) (r : Bool) (w : World) (h : ebbtideref02_small.f a0 = some r) :
 Calls Tryz.prog 139 #[.int .u8 a0] w fun e w' => e = .returned (.bool r) ∧ Drawn0 w w' := by
 have H : (if a0 ≥ 97 then (some (decide (a0 ≤ 122))) else (some false)) = some r := h
 clear h
 by_cases c2 : a0 ≥ 97
 ·
  rw [if_pos c2] at H
  have c2b0 : decide (97 ≤ a0) = true := decide_eq_true c2
  clear c2
  obtain rfl := Option.some.inj H
  go_enter Tryz.func139, Tryz.ntmps139
  go_wp2
  go_ret
  exact ⟨rs_, dr_⟩
 ·
  rw [if_neg c2] at H
  have c2b0 : decide (97 ≤ a0) = false := decide_eq_false c2
  clear c2
  obtain rfl := Option.some.inj H
  go_enter Tryz.func139, Tryz.ntmps139
  go_wp2
  go_ret
  exact ⟨rs_, dr_⟩
def ebbtideref02_digit.f (a0 : Int) : Option (Bool) := if a0 ≥ 48 then (some (decide (a0 ≤ 57))) else (some false)
theorem ebbtideref02_digit.calls (a0 : Int) (r : Bool) (w : World) (h : ebbtideref02_digit.f a0 = some r) :
 Calls Tryz.prog 140 #[.int .u8 a0] w fun e w' => e = .returned (.bool r) ∧ Drawn0 w w' := by
 have H : (if a0 ≥ 48 then (some (decide (a0 ≤ 57))) else (some false)) = some r := h
 clear h
 by_cases c2 : a0 ≥ 48
 ·
  rw [if_pos c2] at H
  have c2b0 : decide (48 ≤ a0) = true := decide_eq_true c2
  clear c2
  obtain rfl := Option.some.inj H
  go_enter Tryz.func140, Tryz.ntmps140
  go_wp2
  go_ret
  exact ⟨rs_, dr_⟩
 ·
  rw [if_neg c2] at H
  have c2b0 : decide (48 ≤ a0) = false := decide_eq_false c2
  clear c2
  obtain rfl := Option.some.inj H
  go_enter Tryz.func140, Tryz.ntmps140
  go_wp2
  go_ret
  exact ⟨rs_, dr_⟩
end Go.Proofs.YtgcbejidponoaaaGreatDoor.X
