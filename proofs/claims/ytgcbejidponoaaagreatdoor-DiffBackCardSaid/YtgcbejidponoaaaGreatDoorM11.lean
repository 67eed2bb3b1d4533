/- Printed by a program of this session's own: what functions of the program compute, and that the machine computes it. No condition of its own. -/
import Derived.Test.YtgcbejidponoaaaGreatDoorM3
import Derived.Test.YtgcbejidponoaaaGreatDoorM6
import Derived.Test.YtgcbejidponoaaaGreatDoorM7
import Derived.Test.YtgcbejidponoaaaGreatDoorM10
namespace Go.Proofs.YtgcbejidponoaaaGreatDoor.X
open Go.RowKit Go.Proofs.YtgcbejidponoaaaGreatDoorW.PrintWords Go.Proofs.YtgcbejidponoaaaGreatDoorW.PrintLast Go.Proofs.YtgcbejidponoaaaGreatDoorW.PrintMore
attribute [local go_sem] max2_int min2_int max_two min_two max_three min_three max_four min_four
set_option linter.unusedVariables false
set_option linter.unusedSimpArgs false
set_option maxHeartbeats 8000000
set_option maxRecDepth 100000
def diff_leaves.f (k : Nat) (a0 : ByteArray) : Option (Int × ByteArray × Int × Bool × Bool × Int) := (word_Split.f k a0 124).bind fun t484 => (if (t484.length : Int) = 2 then (if 1 < (t484.length : Int) then (if 0 < (t484.length : Int) then ((sat_Read.f (rdOf ByteArray.empty t484 0)).bind fun bt489 => (if bt489.2 = 0 then ((tag_Parse.f k (rdOf ByteArray.empty t484 1)).bind fun bt492 => (if bt492.2 = 0 then ((tag_Text.f k bt492.1).bind fun t496 => (if t496.toList = (rdOf ByteArray.empty t484 1).toList then (some (bt489.1, rdOf ByteArray.empty t484 1, 0, false, true, bt492.2)) else (some (bt489.1, rdOf ByteArray.empty t484 1, 0, false, true, 2)))) else (some (bt489.1, rdOf ByteArray.empty t484 1, 0, false, true, bt492.2)))) else (some (bt489.1, rdOf ByteArray.empty t484 1, 0, false, true, bt489.2)))) else (none)) else (none)) else (some (0, (⟨#[]⟩ : ByteArray), 0, false, false, 2)))
theorem diff_leaves.mono : ∀ a0 k, LeO (diff_leaves.f k a0) (diff_leaves.f (k + 1) a0) := by
 intro a0 k
 unfold diff_leaves.f
 exact lo
instance diff_leaves.mI {a0 k} : LeC (diff_leaves.f k a0) (diff_leaves.f (k + 1) a0) := ⟨diff_leaves.mono _ _⟩
def diff_leaves.T4 : Bool × List (List Nat × List Nat) := (true, [([], []), ([0], [0]), ([1], [1]), ([], []), ([3], [3]), ([0, 1, 2, 3, 4], []), ([5, 0, 1, 2, 3, 4], [5]), ([6, 2, 4, 0, 1, 2, 3, 4], [2, 6])])
def diff_leaves.B4 : List Nat := [0, 1, 3, 0, 8, 31, 63, 127]
theorem diff_leaves.tab4 : rtab .any (opsOf Tryz.f58 4) = diff_leaves.T4 := by kernel_rfl
theorem diff_leaves.bits4 : waitsOk diff_leaves.T4.2 diff_leaves.B4 = true := by kernel_rfl
def diff_leaves.T9 : Bool × List (List Nat × List Nat) := (true, [([], []), ([0], [0]), ([1], [1]), ([2], [2]), ([3, 2, 2], [2, 3]), ([2], [2]), ([5, 2], [2, 5]), ([6, 2], [2, 6]), ([4, 7, 2], [2, 4, 7]), ([2, 8], [2, 8])])
def diff_leaves.B9 : List Nat := [0, 1, 3, 7, 15, 7, 39, 103, 255, 511]
theorem diff_leaves.tab9 : rtab .any (opsOf Tryz.f58 9) = diff_leaves.T9 := by kernel_rfl
theorem diff_leaves.bits9 : waitsOk diff_leaves.T9.2 diff_leaves.B9 = true := by kernel_rfl
theorem diff_leaves.calls (k : Nat) (a0 : ByteArray) (r1 : Int) (r2 : ByteArray) (r3 : Int) (r4 : Bool) (r5 : Bool) (r6 : Int) (w : World) (hL : LD w) (h : diff_leaves.f k a0 = some (r1, r2, r3, r4, r5, r6)) :
 Calls Tryz.prog 58 #[.string a0] w fun e w' => e = .returned (.tuple #[.agg #[.int .i64 r1, .string r2, .int .i64 r3, .bool r4, .bool r5], .int .i64 r6]) ∧ Below w.heap.size w w' := by
 have HL0 := Aside0.mk hL
 clear hL
 have hu48 := Tryz.underlying48
 have HB := Aside0.mk (Below.refl w.heap.size w)
 have H : ((word_Split.f k a0 124).bind fun t484 => (if (t484.length : Int) = 2 then (if 1 < (t484.length : Int) then (if 0 < (t484.length : Int) then ((sat_Read.f (rdOf ByteArray.empty t484 0)).bind fun bt489 => (if bt489.2 = 0 then ((tag_Parse.f k (rdOf ByteArray.empty t484 1)).bind fun bt492 => (if bt492.2 = 0 then ((tag_Text.f k bt492.1).bind fun t496 => (if t496.toList = (rdOf ByteArray.empty t484 1).toList then (some (bt489.1, rdOf ByteArray.empty t484 1, 0, false, true, bt492.2)) else (some (bt489.1, rdOf ByteArray.empty t484 1, 0, false, true, 2)))) else (some (bt489.1, rdOf ByteArray.empty t484 1, 0, false, true, bt492.2)))) else (some (bt489.1, rdOf ByteArray.empty t484 1, 0, false, true, bt489.2)))) else (none)) else (none)) else (some (0, (⟨#[]⟩ : ByteArray), 0, false, false, 2)))) = some (r1, r2, r3, r4, r5, r6) := h
 clear h
 obtain ⟨t484, A2, H⟩ := bs H
 try dsimp only at H
 by_cases c3 : (t484.length : Int) = 2
 ·
  rw [if_pos c3] at H
  have c3b0 : ((t484.length : Int) == 2) = true := beq_iff_eq.mpr c3
  have c3b1 : ((t484.length : Int) != 2) = false := bne_eq_false_iff_eq.mpr c3
  clear c3
  obtain ⟨c4, H⟩ := gd H
  have c4b0 : decide (1 < (t484.length : Int)) = true := decide_eq_true c4
  have c4b1 : decide (1 < t484.length) = true := decide_eq_true (by omega)
  clear c4
  obtain ⟨c5, H⟩ := gd H
  have c5b0 : decide (0 < (t484.length : Int)) = true := decide_eq_true c5
  have c5b1 : decide (0 < t484.length) = true := decide_eq_true (by omega)
  clear c5
  obtain ⟨⟨t489, t490⟩, A6, H⟩ := bs H
  try dsimp only at H
  by_cases c7 : t490 = 0
  ·
   rw [if_pos c7] at H
   have c7b0 : (t490 == 0) = true := beq_iff_eq.mpr c7
   have c7b1 : (t490 != 0) = false := bne_eq_false_iff_eq.mpr c7
   clear c7
   obtain ⟨⟨t492, t493⟩, A8, H⟩ := bs H
   try dsimp only at H
   by_cases c9 : t493 = 0
   ·
    rw [if_pos c9] at H
    have c9b0 : (t493 == 0) = true := beq_iff_eq.mpr c9
    have c9b1 : (t493 != 0) = false := bne_eq_false_iff_eq.mpr c9
    clear c9
    obtain ⟨t496, A10, H⟩ := bs H
    try dsimp only at H
    by_cases c11 : t496.toList = (rdOf ByteArray.empty t484 1).toList
    ·
     rw [if_pos c11] at H
     have c11b0 : (t496.toList == (rdOf ByteArray.empty t484 1).toList) = true := beq_iff_eq.mpr c11
     have c11b1 : (t496.toList != (rdOf ByteArray.empty t484 1).toList) = false := bne_eq_false_iff_eq.mpr c11
     clear c11
     simp only [Option.some.injEq, Prod.mk.injEq] at H
     obtain ⟨rfl, rfl, rfl, rfl, rfl, rfl⟩ := H
     go_enter Tryz.func58, Tryz.ntmps58
     try go_wp2_with (first | ((with_reducible refine gate_dst (N := 2) rfl ?_); refine bx (N := 2) #[.int .i64 0, .string (⟨#[]⟩ : ByteArray), .int .i64 0, .bool false, .bool false] 48 ?_; intro gb483 hg w12 hbox hb; have BK483 := Aside0.mk (hbox); have GW483 := gw hg (uW HB.out); have GE483 := GW483; replace HB := cW HB hb; clear hb hbox hg) | (refine gL (some 7) rfl Tryz.func39 #[.string a0, .int .u8 124] ?_; (with_reducible refine (word_Split.calls k a0 124 t484 _ A2.out).mono ?_); rintro e w13 ⟨v485, rfl, ho0, hb⟩; refine ⟨_, rfl, ?_⟩; have HO486 := Aside0.mk (Kd.R_lower ho0 (below_size bl)); replace BK483 := cB BK483 hb; replace HB := Aside0.mk (below_step bl hb); (try clear hb); (try clear ho0); obtain ⟨Ao14, co14, eo14⟩ := Kd.R_slice HO486.out; subst eo14))
     replace HO486 := Aside0.mk (Kd.R_drew HO486.out)
     replace BK483 := Aside0.mk (blk_drew BK483.out)
     replace HB := Aside0.mk (below_drew1 HB.out)
     have p487 : 0 ≤ (1 : Int) := (by omega)
     have q487 : 1 < (t484.length : Int) := od
     obtain ⟨ad487, e487, hx487_0⟩ := Kd.at_string (Kd.R_reads' HO486.out).2.2 1 p487 q487
     cases e487
     (try simp only [show (1 : Int).toNat = 1 from rfl, Nat.reduceMul, Nat.reduceEqDiff, Go.Addr.add, ↓reduceIte] at hx487_0)
     have qi487 : (1 < t484.length) = True := eq_true (by omega)
     (try rw [show ((1 : Int)).toNat = 1 from rfl] at hx487_0)
     replace p487 := eq_true p487
     replace q487 := eq_true q487
     refine start_ (n := 8) (S := fun w' => w'.cell? ⟨ad487.block, ad487.off + 1, none⟩ = some (.string (rdOf ByteArray.empty t484 1))) (ds := []) _ (by kernel_rfl) rfl rfl (hx487_0) (fun hHeld => ?_); refine with_tabW diff_leaves.tab4 diff_leaves.bits4 (fun HT_ HW_ => ?_)
     generalize w13.drew = w15 at HO486 BK483 HB hx487_0 hHeld ⊢
     refine p1 0 (some 12) ?_
     refine p1 1 (some 13) ?_
     refine p1 3 (some 15) ?_
     refine t1 2 (some 14) rfl rfl hHeld (Or.inl ⟨by rfl, by intro w' s0; go_simp; with_reducible rfl⟩) ?_
     refine o1 4 none rfl rfl (fun K hK => ?_)
     have hs16 : w15.cell? ⟨gb483, 4, none⟩ = some (.bool false) := (blk_cell BK483.out 4).trans rfl
     have hfs16 := blk_frozen BK483.out 4
     refine skip_ (w1 := ?_) (by rfl) rfl ?_ ?_
     rotate_left
     ·
      go_simp
      rfl
     refine hK.out _ _ (((cell_far (p := ⟨gb483, _, none⟩) (by first | exact Kd.own_blk (Kd.R_ne HO486.out BK483.out (by decide)) | (rw [add_block]; exact Kd.own_blk (Kd.R_ne HO486.out BK483.out (by decide))) | (show (Addr.add _ _).block ≠ _; rw [add_block]; exact Kd.own_blk (Kd.R_ne HO486.out BK483.out (by decide))) | (dsimp only; exact Kd.own_blk (Kd.R_ne HO486.out BK483.out (by decide)))) _).trans (hHeld))) (fun hHeld => ?_)
     clear hK K
     refine p1 5 (some 16) ?_
     refine p1 6 (some 17) ?_
     refine o1 7 none rfl rfl (fun K hK => ?_)
     have hs17 : w15.cell? ⟨gb483, 1, none⟩ = some (.string (⟨#[]⟩ : ByteArray)) := (blk_cell BK483.out 1).trans rfl
     have hfs17 := blk_frozen BK483.out 1
     refine skip_ (w1 := ?_) (by rfl) rfl ?_ ?_
     rotate_left
     ·
      go_simp
      rfl
     refine hK.out _ _ (((cell_far (p := ⟨gb483, _, none⟩) (by first | exact Kd.own_blk (Kd.R_ne HO486.out BK483.out (by decide)) | (rw [add_block]; exact Kd.own_blk (Kd.R_ne HO486.out BK483.out (by decide))) | (show (Addr.add _ _).block ≠ _; rw [add_block]; exact Kd.own_blk (Kd.R_ne HO486.out BK483.out (by decide))) | (dsimp only; exact Kd.own_blk (Kd.R_ne HO486.out BK483.out (by decide)))) _).trans (hHeld))) (fun hHeld => ?_)
     clear hK K
     refine done_ (done_of HT_.out (by kernel_rfl)) ?_
     have p488 : 0 ≤ (0 : Int) := (by omega)
     have q488 : 0 < (t484.length : Int) := od
     obtain ⟨ad488, e488, hx488_0⟩ := Kd.at_string (Kd.R_reads' HO486.out).2.2 0 p488 q488
     obtain rfl : ad487 = ad488 := (by injection e488)
     have qi488 : (0 < t484.length) = True := eq_true (by omega)
     (try rw [show ((0 : Int)).toNat = 0 from rfl] at hx488_0)
     (try rw [Addr.add_zero'] at hx488_0)
     have hn488_0 : ad487.block ≠ gb483 := Kd.own_blk (Kd.R_ne HO486.out BK483.out (by decide))
     have hn488_1 : ad487.block ≠ gb483 := Kd.own_blk (Kd.R_ne HO486.out BK483.out (by decide))
     replace hx488_0 := (cell_far (p := ⟨gb483, 4, none⟩) (by first | (rw [add_block]; exact hn488_0) | (show (Addr.add _ _).block ≠ _; rw [add_block]; exact hn488_0) | exact hn488_0) (.bool true)).trans hx488_0
     replace hx488_0 := (cell_far (p := ⟨gb483, 1, none⟩) (by first | (rw [add_block]; exact hn488_1) | (show (Addr.add _ _).block ≠ _; rw [add_block]; exact hn488_1) | exact hn488_1) (.string (rdOf ByteArray.empty t484 1))).trans hx488_0
     clear hn488_0
     clear hn488_1
     replace p488 := eq_true p488
     replace q488 := eq_true q488
     try go_wp2_with (first | (refine gL (some 22) rfl Tryz.func76 #[.string (rdOf ByteArray.empty t484 0)] ?_; (with_reducible refine (sat_Read.calls (hL := ld) (rdOf ByteArray.empty t484 0) t489 t490 _ A6.out).mono ?_); rintro e w18 ⟨rfl, hb⟩; refine ⟨_, rfl, ?_⟩; replace HO486 := Aside0.mk (Kd.R_below (by exact uR <| (Kd.R_mono (Kd.R_far (p := ⟨gb483, 1, none⟩) (Kd.R_far (p := ⟨gb483, 4, none⟩) (Kd.R_types HO486.out BK483.out (by decide)) (fun _ hk => hk.2) (.bool true)) (fun _ hk => hk.2) (.string (rdOf ByteArray.empty t484 1))) (fun _ h_ => h_.1))) hb); replace BK483 := Aside0.mk (blk_below (g := gb483) (o := .cells #[.int .i64 0, .string (rdOf ByteArray.empty t484 1), .int .i64 0, .bool false, .bool true] 48 (0, 0)) (by (with_reducible repeat (first | refine blk_drewN ?_ _ | refine blk_drew ?_ | refine blk_alloc ?_ _)); refine blk_put (cs := #[.int .i64 0, .string (⟨#[]⟩ : ByteArray), .int .i64 0, .bool false, .bool true]) ?_ 1 _ rfl; (with_reducible repeat (first | refine blk_drewN ?_ _ | refine blk_drew ?_ | refine blk_alloc ?_ _)); refine blk_put (cs := #[.int .i64 0, .string (⟨#[]⟩ : ByteArray), .int .i64 0, .bool false, .bool false]) ?_ 4 _ rfl; exact uB <| BK483.out) hb); replace HB := Aside0.mk (below_step bl hb); (try clear hb); obtain ⟨hcz19_0, hcz19_1, hcz19_2, hcz19_3, hcz19_4, hfz19_0, hfz19_1, hfz19_2, hfz19_3, hfz19_4⟩ := z5 BK483; have p491 : 0 ≤ (1 : Int) := (by omega); have q491 : 1 < (t484.length : Int) := od; obtain ⟨ad491, e491, hx491_0⟩ := Kd.at_string (Kd.R_reads' HO486.out).2.2 1 p491 q491; obtain rfl : ad487 = ad491 := (by injection e491); (try simp only [show (1 : Int).toNat = 1 from rfl, Nat.reduceMul, Nat.reduceEqDiff, Go.Addr.add, ↓reduceIte] at hx491_0); have qi491 : (1 < t484.length) = True := eq_true (by omega); (try rw [show ((1 : Int)).toNat = 1 from rfl] at hx491_0); have hn491_0 : ad487.block ≠ gb483 := Kd.own_blk (Kd.R_ne HO486.out BK483.out (by decide)); replace hx491_0 := (cell_far (p := ⟨gb483, 0, none⟩) (by first | (rw [add_block]; exact hn491_0) | (show (Addr.add _ _).block ≠ _; rw [add_block]; exact hn491_0) | exact hn491_0) (.int .i64 t489)).trans hx491_0; clear hn491_0; replace p491 := eq_true p491; replace q491 := eq_true q491) | (refine gL (some 35) rfl Tryz.func65 #[.string (rdOf ByteArray.empty t484 1)] ?_; (with_reducible refine (tag_Parse.calls (hL := ld) k (rdOf ByteArray.empty t484 1) t492 t493 _ A8.out).mono ?_); rintro e w20 ⟨v494, rfl, ho0, hb⟩; refine ⟨_, rfl, ?_⟩; replace HO486 := Aside0.mk (Kd.R_below (by exact uR <| (Kd.R_mono (Kd.R_far (p := ⟨gb483, 0, none⟩) (Kd.R_types HO486.out BK483.out (by decide)) (fun _ hk => hk.2) (.int .i64 t489)) (fun _ h_ => h_.1))) hb); have HO495 := Aside0.mk (Kd.R_lower ho0 (below_size bl)); replace BK483 := Aside0.mk (blk_below (g := gb483) (o := .cells #[.int .i64 t489, .string (rdOf ByteArray.empty t484 1), .int .i64 0, .bool false, .bool true] 48 (0, 0)) (by (with_reducible repeat (first | refine blk_drewN ?_ _ | refine blk_drew ?_ | refine blk_alloc ?_ _)); refine blk_put (cs := #[.int .i64 0, .string (rdOf ByteArray.empty t484 1), .int .i64 0, .bool false, .bool true]) ?_ 0 _ rfl; exact uB <| BK483.out) hb); replace HB := Aside0.mk (below_step bl hb); (try clear hb); (try clear ho0)))
     replace HO486 := Aside0.mk (Kd.R_drew HO486.out)
     replace HO495 := Aside0.mk (Kd.R_drew HO495.out)
     replace BK483 := Aside0.mk (blk_drew BK483.out)
     replace HB := Aside0.mk (below_drew1 HB.out)
     have p497 : 0 ≤ (1 : Int) := (by omega)
     have q497 : 1 < (t484.length : Int) := od
     obtain ⟨ad497, e497, hx497_0⟩ := Kd.at_string (Kd.R_reads' HO486.out).2.2 1 p497 q497
     obtain rfl : ad487 = ad497 := (by injection e497)
     (try simp only [show (1 : Int).toNat = 1 from rfl, Nat.reduceMul, Nat.reduceEqDiff, Go.Addr.add, ↓reduceIte] at hx497_0)
     have qi497 : (1 < t484.length) = True := eq_true (by omega)
     (try rw [show ((1 : Int)).toNat = 1 from rfl] at hx497_0)
     replace p497 := eq_true p497
     replace q497 := eq_true q497
     obtain ⟨Ao22, co22, eo22⟩ := Kd.R_slice HO495.out
     (first | subst eo22 | (injection eo22 with f1_ f2_ f3_; have f4_ := f1_.symm; have f5_ := f3_.symm; clear f1_ f2_ f3_; subst f4_; subst f5_))
     refine start_ (n := 10) (S := fun w' => w'.cell? ⟨ad487.block, ad487.off + 1, none⟩ = some (.string (rdOf ByteArray.empty t484 1))) (ds := []) _ (by kernel_rfl) rfl rfl (hx497_0) (fun hHeld => ?_); refine with_tabW diff_leaves.tab9 diff_leaves.bits9 (fun HT_ HW_ => ?_)
     generalize w20.drew = w21 at HO486 HO495 BK483 HB hx497_0 hHeld ⊢
     refine p1 0 (some 38) ?_
     refine p1 1 (some 39) ?_
     refine p1 2 (some 40) ?_
     refine p1 3 (some 41) ?_
     refine p1 5 (some 43) ?_
     refine p1 6 (some 44) ?_
     refine t1 7 (some 45) rfl rfl hHeld (Or.inl ⟨by rfl, by intro w' s0; go_simp; with_reducible rfl⟩) ?_
     refine o1 4 (some 42) rfl rfl (fun K hK => ?_)
     refine gS Tryz.func66 #[.slice Ao22 t492.length co22] ?_
     with_reducible refine (tag_Text.calls k _ _ t492 t496 _ ?side1 ?side2 A10.out).mono ?_
     (case side1 => exact uC <| (Kd.R_reads' HO495.out).2.2)
     (case side2 => exact (Kd.R_reads' HO495.out).2.1)
     rintro e w23 ⟨rfl, hb⟩
     have HS0_ := (hb.cell (World.block_lt_of_cell? _ _ (hHeld))).trans (hHeld)
     refine ⟨_, rfl, ?_⟩
     replace HO486 := cR HO486 hb
     replace HO495 := cR HO495 hb
     replace BK483 := cB BK483 hb
     replace HB := Aside0.mk (below_step bl hb)
     (try clear hb)
     refine hK.out _ _ (HS0_) (fun hHeld => ?_)
     clear hK K
     refine norm_ (a' := ?_) ?_ ?_
     rotate_left
     ·
      show Act.put _ (some 42) _ = _
      simp only [Act.put, List.setIfInBounds_toArray, List.set_cons_zero, List.set_cons_succ, i64_w, i32_w]
      rfl
     refine p1 8 (some 46) ?_
     refine p1 9 (some 47) ?_
     refine done_ (done_of HT_.out (by kernel_rfl)) ?_
     obtain ⟨hcz24_0, hcz24_1, hcz24_2, hcz24_3, hcz24_4, hfz24_0, hfz24_1, hfz24_2, hfz24_3, hfz24_4⟩ := z5 BK483
     try go_wp2_with (first | ((with_reducible refine gate_store (t := 48) (p := 2) rfl ?_); refine store_event (t := 48) (p := 2) (v := ?vo_w25) (w1 := (((((w23.setCell ⟨gb483, 0, none⟩ (.int .i64 t489)).setCell ⟨gb483, 1, none⟩ (.string (rdOf ByteArray.empty t484 1))).setCell ⟨gb483, 2, none⟩ (.int .i64 0)).setCell ⟨gb483, 3, none⟩ (.bool false)).setCell ⟨gb483, 4, none⟩ (.bool true))) ?hg ?ho ?hn ?hr ?_; (case ho => rfl); (case hg => rfl); (case hn => rfl); (case hr => first | (go_simp; done) | (go_simp; rfl)); intro w25 hw; have n0_ : Aside0 (Kd.R Kd.string 9 w25 w.heap.size (fun _ => True) (.slice (some ad487) t484.length co14) t484) := ⟨(by rw [hw]; exact (by exact uR <| Kd.R_mono (Kd.R_far (p := ⟨gb483, 4, none⟩) (Kd.R_far (p := ⟨gb483, 3, none⟩) (Kd.R_far (p := ⟨gb483, 2, none⟩) (Kd.R_far (p := ⟨gb483, 1, none⟩) (Kd.R_far (p := ⟨gb483, 0, none⟩) (Kd.R_types HO486.out BK483.out (by decide)) (fun _ hk => hk.2) (.int .i64 t489)) (fun _ hk => hk.2) (.string (rdOf ByteArray.empty t484 1))) (fun _ hk => hk.2) (.int .i64 0)) (fun _ hk => hk.2) (.bool false)) (fun _ hk => hk.2) (.bool true)) (fun _ hk => trivial)))⟩; have n1_ : Aside0 (Kd.R k98 98 w25 w.heap.size (fun _ => True) (.slice Ao22 t492.length co22) t492) := ⟨(by rw [hw]; exact (by exact uR <| Kd.R_mono (Kd.R_far (p := ⟨gb483, 4, none⟩) (Kd.R_far (p := ⟨gb483, 3, none⟩) (Kd.R_far (p := ⟨gb483, 2, none⟩) (Kd.R_far (p := ⟨gb483, 1, none⟩) (Kd.R_far (p := ⟨gb483, 0, none⟩) (Kd.R_types HO495.out BK483.out (by decide)) (fun _ hk => hk.2) (.int .i64 t489)) (fun _ hk => hk.2) (.string (rdOf ByteArray.empty t484 1))) (fun _ hk => hk.2) (.int .i64 0)) (fun _ hk => hk.2) (.bool false)) (fun _ hk => hk.2) (.bool true)) (fun _ hk => trivial)))⟩; have n2_ : Aside0 (w25.heap[gb483]? = some (.cells #[.int .i64 t489, .string (rdOf ByteArray.empty t484 1), .int .i64 0, .bool false, .bool true] 48 (0, 0))) := ⟨(by rw [hw]; exact (by (with_reducible repeat (first | refine blk_drewN ?_ _ | refine blk_drew ?_ | refine blk_alloc ?_ _)); refine blk_put (cs := #[.int .i64 t489, .string (rdOf ByteArray.empty t484 1), .int .i64 0, .bool false, .bool true]) ?_ 4 _ rfl; (with_reducible repeat (first | refine blk_drewN ?_ _ | refine blk_drew ?_ | refine blk_alloc ?_ _)); refine blk_put (cs := #[.int .i64 t489, .string (rdOf ByteArray.empty t484 1), .int .i64 0, .bool false, .bool true]) ?_ 3 _ rfl; (with_reducible repeat (first | refine blk_drewN ?_ _ | refine blk_drew ?_ | refine blk_alloc ?_ _)); refine blk_put (cs := #[.int .i64 t489, .string (rdOf ByteArray.empty t484 1), .int .i64 0, .bool false, .bool true]) ?_ 2 _ rfl; (with_reducible repeat (first | refine blk_drewN ?_ _ | refine blk_drew ?_ | refine blk_alloc ?_ _)); refine blk_put (cs := #[.int .i64 t489, .string (rdOf ByteArray.empty t484 1), .int .i64 0, .bool false, .bool true]) ?_ 1 _ rfl; (with_reducible repeat (first | refine blk_drewN ?_ _ | refine blk_drew ?_ | refine blk_alloc ?_ _)); refine blk_put (cs := #[.int .i64 t489, .string (rdOf ByteArray.empty t484 1), .int .i64 0, .bool false, .bool true]) ?_ 0 _ rfl; exact uB <| BK483.out))⟩; have n3_ : Aside0 (Below w.heap.size w w25) := ⟨(by rw [hw]; exact bl)⟩; clear hw; clear HO486; clear HO495; clear BK483; clear HB; have HO486 := n0_; have HO495 := n1_; have BK483 := n2_; have HB := n3_; clear n0_ n1_ n2_ n3_))
     refine bodyPost_ret (results_ct rfl _ _ gb483 48 #[.int .i64 t489, .string (rdOf ByteArray.empty t484 1), .int .i64 0, .bool false, .bool true] (0, 0) _ rfl (uB BK483.out) Tryz.underlying48 rfl (by kernel_rfl)) rfl ?_
     exact ⟨re_, bl⟩
    ·
     rw [if_neg c11] at H
     have c11b0 : (t496.toList == (rdOf ByteArray.empty t484 1).toList) = false := beq_eq_false_iff_ne.mpr c11
     have c11b1 : (t496.toList != (rdOf ByteArray.empty t484 1).toList) = true := bne_iff_ne.mpr c11
     simp only [Option.some.injEq, Prod.mk.injEq] at H
     obtain ⟨rfl, rfl, rfl, rfl, rfl, rfl⟩ := H
     go_enter Tryz.func58, Tryz.ntmps58
     try go_wp2_with (first | ((with_reducible refine gate_dst (N := 2) rfl ?_); refine bx (N := 2) #[.int .i64 0, .string (⟨#[]⟩ : ByteArray), .int .i64 0, .bool false, .bool false] 48 ?_; intro gb483 hg w26 hbox hb; have BK483 := Aside0.mk (hbox); have GW483 := gw hg (uW HB.out); have GE483 := GW483; replace HB := cW HB hb; clear hb hbox hg) | (refine gL (some 7) rfl Tryz.func39 #[.string a0, .int .u8 124] ?_; (with_reducible refine (word_Split.calls k a0 124 t484 _ A2.out).mono ?_); rintro e w27 ⟨v485, rfl, ho0, hb⟩; refine ⟨_, rfl, ?_⟩; have HO486 := Aside0.mk (Kd.R_lower ho0 (below_size bl)); replace BK483 := cB BK483 hb; replace HB := Aside0.mk (below_step bl hb); (try clear hb); (try clear ho0); obtain ⟨Ao28, co28, eo28⟩ := Kd.R_slice HO486.out; subst eo28))
     replace HO486 := Aside0.mk (Kd.R_drew HO486.out)
     replace BK483 := Aside0.mk (blk_drew BK483.out)
     replace HB := Aside0.mk (below_drew1 HB.out)
     have p487 : 0 ≤ (1 : Int) := (by omega)
     have q487 : 1 < (t484.length : Int) := od
     obtain ⟨ad487, e487, hx487_0⟩ := Kd.at_string (Kd.R_reads' HO486.out).2.2 1 p487 q487
     cases e487
     (try simp only [show (1 : Int).toNat = 1 from rfl, Nat.reduceMul, Nat.reduceEqDiff, Go.Addr.add, ↓reduceIte] at hx487_0)
     have qi487 : (1 < t484.length) = True := eq_true (by omega)
     (try rw [show ((1 : Int)).toNat = 1 from rfl] at hx487_0)
     replace p487 := eq_true p487
     replace q487 := eq_true q487
     refine start_ (n := 8) (S := fun w' => w'.cell? ⟨ad487.block, ad487.off + 1, none⟩ = some (.string (rdOf ByteArray.empty t484 1))) (ds := []) _ (by kernel_rfl) rfl rfl (hx487_0) (fun hHeld => ?_); refine with_tabW diff_leaves.tab4 diff_leaves.bits4 (fun HT_ HW_ => ?_)
     generalize w27.drew = w29 at HO486 BK483 HB hx487_0 hHeld ⊢
     refine p1 0 (some 12) ?_
     refine p1 1 (some 13) ?_
     refine p1 3 (some 15) ?_
     refine t1 2 (some 14) rfl rfl hHeld (Or.inl ⟨by rfl, by intro w' s0; go_simp; with_reducible rfl⟩) ?_
     refine o1 4 none rfl rfl (fun K hK => ?_)
     have hs30 : w29.cell? ⟨gb483, 4, none⟩ = some (.bool false) := (blk_cell BK483.out 4).trans rfl
     have hfs30 := blk_frozen BK483.out 4
     refine skip_ (w1 := ?_) (by rfl) rfl ?_ ?_
     rotate_left
     ·
      go_simp
      rfl
     refine hK.out _ _ (((cell_far (p := ⟨gb483, _, none⟩) (by first | exact Kd.own_blk (Kd.R_ne HO486.out BK483.out (by decide)) | (rw [add_block]; exact Kd.own_blk (Kd.R_ne HO486.out BK483.out (by decide))) | (show (Addr.add _ _).block ≠ _; rw [add_block]; exact Kd.own_blk (Kd.R_ne HO486.out BK483.out (by decide))) | (dsimp only; exact Kd.own_blk (Kd.R_ne HO486.out BK483.out (by decide)))) _).trans (hHeld))) (fun hHeld => ?_)
     clear hK K
     refine p1 5 (some 16) ?_
     refine p1 6 (some 17) ?_
     refine o1 7 none rfl rfl (fun K hK => ?_)
     have hs31 : w29.cell? ⟨gb483, 1, none⟩ = some (.string (⟨#[]⟩ : ByteArray)) := (blk_cell BK483.out 1).trans rfl
     have hfs31 := blk_frozen BK483.out 1
     refine skip_ (w1 := ?_) (by rfl) rfl ?_ ?_
     rotate_left
     ·
      go_simp
      rfl
     refine hK.out _ _ (((cell_far (p := ⟨gb483, _, none⟩) (by first | exact Kd.own_blk (Kd.R_ne HO486.out BK483.out (by decide)) | (rw [add_block]; exact Kd.own_blk (Kd.R_ne HO486.out BK483.out (by decide))) | (show (Addr.add _ _).block ≠ _; rw [add_block]; exact Kd.own_blk (Kd.R_ne HO486.out BK483.out (by decide))) | (dsimp only; exact Kd.own_blk (Kd.R_ne HO486.out BK483.out (by decide)))) _).trans (hHeld))) (fun hHeld => ?_)
     clear hK K
     refine done_ (done_of HT_.out (by kernel_rfl)) ?_
     have p488 : 0 ≤ (0 : Int) := (by omega)
     have q488 : 0 < (t484.length : Int) := od
     obtain ⟨ad488, e488, hx488_0⟩ := Kd.at_string (Kd.R_reads' HO486.out).2.2 0 p488 q488
     obtain rfl : ad487 = ad488 := (by injection e488)
     have qi488 : (0 < t484.length) = True := eq_true (by omega)
     (try rw [show ((0 : Int)).toNat = 0 from rfl] at hx488_0)
     (try rw [Addr.add_zero'] at hx488_0)
     have hn488_0 : ad487.block ≠ gb483 := Kd.own_blk (Kd.R_ne HO486.out BK483.out (by decide))
     have hn488_1 : ad487.block ≠ gb483 := Kd.own_blk (Kd.R_ne HO486.out BK483.out (by decide))
     replace hx488_0 := (cell_far (p := ⟨gb483, 4, none⟩) (by first | (rw [add_block]; exact hn488_0) | (show (Addr.add _ _).block ≠ _; rw [add_block]; exact hn488_0) | exact hn488_0) (.bool true)).trans hx488_0
     replace hx488_0 := (cell_far (p := ⟨gb483, 1, none⟩) (by first | (rw [add_block]; exact hn488_1) | (show (Addr.add _ _).block ≠ _; rw [add_block]; exact hn488_1) | exact hn488_1) (.string (rdOf ByteArray.empty t484 1))).trans hx488_0
     clear hn488_0
     clear hn488_1
     replace p488 := eq_true p488
     replace q488 := eq_true q488
     try go_wp2_with (first | (refine gL (some 22) rfl Tryz.func76 #[.string (rdOf ByteArray.empty t484 0)] ?_; (with_reducible refine (sat_Read.calls (hL := ld) (rdOf ByteArray.empty t484 0) t489 t490 _ A6.out).mono ?_); rintro e w32 ⟨rfl, hb⟩; refine ⟨_, rfl, ?_⟩; replace HO486 := Aside0.mk (Kd.R_below (by exact uR <| (Kd.R_mono (Kd.R_far (p := ⟨gb483, 1, none⟩) (Kd.R_far (p := ⟨gb483, 4, none⟩) (Kd.R_types HO486.out BK483.out (by decide)) (fun _ hk => hk.2) (.bool true)) (fun _ hk => hk.2) (.string (rdOf ByteArray.empty t484 1))) (fun _ h_ => h_.1))) hb); replace BK483 := Aside0.mk (blk_below (g := gb483) (o := .cells #[.int .i64 0, .string (rdOf ByteArray.empty t484 1), .int .i64 0, .bool false, .bool true] 48 (0, 0)) (by (with_reducible repeat (first | refine blk_drewN ?_ _ | refine blk_drew ?_ | refine blk_alloc ?_ _)); refine blk_put (cs := #[.int .i64 0, .string (⟨#[]⟩ : ByteArray), .int .i64 0, .bool false, .bool true]) ?_ 1 _ rfl; (with_reducible repeat (first | refine blk_drewN ?_ _ | refine blk_drew ?_ | refine blk_alloc ?_ _)); refine blk_put (cs := #[.int .i64 0, .string (⟨#[]⟩ : ByteArray), .int .i64 0, .bool false, .bool false]) ?_ 4 _ rfl; exact uB <| BK483.out) hb); replace HB := Aside0.mk (below_step bl hb); (try clear hb); obtain ⟨hcz33_0, hcz33_1, hcz33_2, hcz33_3, hcz33_4, hfz33_0, hfz33_1, hfz33_2, hfz33_3, hfz33_4⟩ := z5 BK483; have p491 : 0 ≤ (1 : Int) := (by omega); have q491 : 1 < (t484.length : Int) := od; obtain ⟨ad491, e491, hx491_0⟩ := Kd.at_string (Kd.R_reads' HO486.out).2.2 1 p491 q491; obtain rfl : ad487 = ad491 := (by injection e491); (try simp only [show (1 : Int).toNat = 1 from rfl, Nat.reduceMul, Nat.reduceEqDiff, Go.Addr.add, ↓reduceIte] at hx491_0); have qi491 : (1 < t484.length) = True := eq_true (by omega); (try rw [show ((1 : Int)).toNat = 1 from rfl] at hx491_0); have hn491_0 : ad487.block ≠ gb483 := Kd.own_blk (Kd.R_ne HO486.out BK483.out (by decide)); replace hx491_0 := (cell_far (p := ⟨gb483, 0, none⟩) (by first | (rw [add_block]; exact hn491_0) | (show (Addr.add _ _).block ≠ _; rw [add_block]; exact hn491_0) | exact hn491_0) (.int .i64 t489)).trans hx491_0; clear hn491_0; replace p491 := eq_true p491; replace q491 := eq_true q491) | (refine gL (some 35) rfl Tryz.func65 #[.string (rdOf ByteArray.empty t484 1)] ?_; (with_reducible refine (tag_Parse.calls (hL := ld) k (rdOf ByteArray.empty t484 1) t492 t493 _ A8.out).mono ?_); rintro e w34 ⟨v494, rfl, ho0, hb⟩; refine ⟨_, rfl, ?_⟩; replace HO486 := Aside0.mk (Kd.R_below (by exact uR <| (Kd.R_mono (Kd.R_far (p := ⟨gb483, 0, none⟩) (Kd.R_types HO486.out BK483.out (by decide)) (fun _ hk => hk.2) (.int .i64 t489)) (fun _ h_ => h_.1))) hb); have HO495 := Aside0.mk (Kd.R_lower ho0 (below_size bl)); replace BK483 := Aside0.mk (blk_below (g := gb483) (o := .cells #[.int .i64 t489, .string (rdOf ByteArray.empty t484 1), .int .i64 0, .bool false, .bool true] 48 (0, 0)) (by (with_reducible repeat (first | refine blk_drewN ?_ _ | refine blk_drew ?_ | refine blk_alloc ?_ _)); refine blk_put (cs := #[.int .i64 0, .string (rdOf ByteArray.empty t484 1), .int .i64 0, .bool false, .bool true]) ?_ 0 _ rfl; exact uB <| BK483.out) hb); replace HB := Aside0.mk (below_step bl hb); (try clear hb); (try clear ho0)))
     replace HO486 := Aside0.mk (Kd.R_drew HO486.out)
     replace HO495 := Aside0.mk (Kd.R_drew HO495.out)
     replace BK483 := Aside0.mk (blk_drew BK483.out)
     replace HB := Aside0.mk (below_drew1 HB.out)
     have p497 : 0 ≤ (1 : Int) := (by omega)
     have q497 : 1 < (t484.length : Int) := od
     obtain ⟨ad497, e497, hx497_0⟩ := Kd.at_string (Kd.R_reads' HO486.out).2.2 1 p497 q497
     obtain rfl : ad487 = ad497 := (by injection e497)
     (try simp only [show (1 : Int).toNat = 1 from rfl, Nat.reduceMul, Nat.reduceEqDiff, Go.Addr.add, ↓reduceIte] at hx497_0)
     have qi497 : (1 < t484.length) = True := eq_true (by omega)
     (try rw [show ((1 : Int)).toNat = 1 from rfl] at hx497_0)
     replace p497 := eq_true p497
     replace q497 := eq_true q497
     obtain ⟨Ao36, co36, eo36⟩ := Kd.R_slice HO495.out
     (first | subst eo36 | (injection eo36 with f1_ f2_ f3_; have f4_ := f1_.symm; have f5_ := f3_.symm; clear f1_ f2_ f3_; subst f4_; subst f5_))
     refine start_ (n := 10) (S := fun w' => w'.cell? ⟨ad487.block, ad487.off + 1, none⟩ = some (.string (rdOf ByteArray.empty t484 1))) (ds := []) _ (by kernel_rfl) rfl rfl (hx497_0) (fun hHeld => ?_); refine with_tabW diff_leaves.tab9 diff_leaves.bits9 (fun HT_ HW_ => ?_)
     generalize w34.drew = w35 at HO486 HO495 BK483 HB hx497_0 hHeld ⊢
     refine p1 0 (some 38) ?_
     refine p1 1 (some 39) ?_
     refine p1 2 (some 40) ?_
     refine p1 3 (some 41) ?_
     refine p1 5 (some 43) ?_
     refine p1 6 (some 44) ?_
     refine t1 7 (some 45) rfl rfl hHeld (Or.inl ⟨by rfl, by intro w' s0; go_simp; with_reducible rfl⟩) ?_
     refine o1 4 (some 42) rfl rfl (fun K hK => ?_)
     refine gS Tryz.func66 #[.slice Ao36 t492.length co36] ?_
     with_reducible refine (tag_Text.calls k _ _ t492 t496 _ ?side1 ?side2 A10.out).mono ?_
     (case side1 => exact uC <| (Kd.R_reads' HO495.out).2.2)
     (case side2 => exact (Kd.R_reads' HO495.out).2.1)
     rintro e w37 ⟨rfl, hb⟩
     have HS0_ := (hb.cell (World.block_lt_of_cell? _ _ (hHeld))).trans (hHeld)
     refine ⟨_, rfl, ?_⟩
     replace HO486 := cR HO486 hb
     replace HO495 := cR HO495 hb
     replace BK483 := cB BK483 hb
     replace HB := Aside0.mk (below_step bl hb)
     (try clear hb)
     refine hK.out _ _ (HS0_) (fun hHeld => ?_)
     clear hK K
     refine norm_ (a' := ?_) ?_ ?_
     rotate_left
     ·
      show Act.put _ (some 42) _ = _
      simp only [Act.put, List.setIfInBounds_toArray, List.set_cons_zero, List.set_cons_succ, i64_w, i32_w]
      rfl
     refine p1 8 (some 46) ?_
     refine p1 9 (some 47) ?_
     refine done_ (done_of HT_.out (by kernel_rfl)) ?_
     obtain ⟨hcz38_0, hcz38_1, hcz38_2, hcz38_3, hcz38_4, hfz38_0, hfz38_1, hfz38_2, hfz38_3, hfz38_4⟩ := z5 BK483
     try go_wp2_with (first | ((with_reducible refine gate_store (t := 48) (p := 2) rfl ?_); refine store_event (t := 48) (p := 2) (v := ?vo_w39) (w1 := (((((w37.setCell ⟨gb483, 0, none⟩ (.int .i64 t489)).setCell ⟨gb483, 1, none⟩ (.string (rdOf ByteArray.empty t484 1))).setCell ⟨gb483, 2, none⟩ (.int .i64 0)).setCell ⟨gb483, 3, none⟩ (.bool false)).setCell ⟨gb483, 4, none⟩ (.bool true))) ?hg ?ho ?hn ?hr ?_; (case ho => rfl); (case hg => rfl); (case hn => rfl); (case hr => first | (go_simp; done) | (go_simp; rfl)); intro w39 hw; have n0_ : Aside0 (Kd.R Kd.string 9 w39 w.heap.size (fun _ => True) (.slice (some ad487) t484.length co28) t484) := ⟨(by rw [hw]; exact (by exact uR <| Kd.R_mono (Kd.R_far (p := ⟨gb483, 4, none⟩) (Kd.R_far (p := ⟨gb483, 3, none⟩) (Kd.R_far (p := ⟨gb483, 2, none⟩) (Kd.R_far (p := ⟨gb483, 1, none⟩) (Kd.R_far (p := ⟨gb483, 0, none⟩) (Kd.R_types HO486.out BK483.out (by decide)) (fun _ hk => hk.2) (.int .i64 t489)) (fun _ hk => hk.2) (.string (rdOf ByteArray.empty t484 1))) (fun _ hk => hk.2) (.int .i64 0)) (fun _ hk => hk.2) (.bool false)) (fun _ hk => hk.2) (.bool true)) (fun _ hk => trivial)))⟩; have n1_ : Aside0 (Kd.R k98 98 w39 w.heap.size (fun _ => True) (.slice Ao36 t492.length co36) t492) := ⟨(by rw [hw]; exact (by exact uR <| Kd.R_mono (Kd.R_far (p := ⟨gb483, 4, none⟩) (Kd.R_far (p := ⟨gb483, 3, none⟩) (Kd.R_far (p := ⟨gb483, 2, none⟩) (Kd.R_far (p := ⟨gb483, 1, none⟩) (Kd.R_far (p := ⟨gb483, 0, none⟩) (Kd.R_types HO495.out BK483.out (by decide)) (fun _ hk => hk.2) (.int .i64 t489)) (fun _ hk => hk.2) (.string (rdOf ByteArray.empty t484 1))) (fun _ hk => hk.2) (.int .i64 0)) (fun _ hk => hk.2) (.bool false)) (fun _ hk => hk.2) (.bool true)) (fun _ hk => trivial)))⟩; have n2_ : Aside0 (w39.heap[gb483]? = some (.cells #[.int .i64 t489, .string (rdOf ByteArray.empty t484 1), .int .i64 0, .bool false, .bool true] 48 (0, 0))) := ⟨(by rw [hw]; exact (by (with_reducible repeat (first | refine blk_drewN ?_ _ | refine blk_drew ?_ | refine blk_alloc ?_ _)); refine blk_put (cs := #[.int .i64 t489, .string (rdOf ByteArray.empty t484 1), .int .i64 0, .bool false, .bool true]) ?_ 4 _ rfl; (with_reducible repeat (first | refine blk_drewN ?_ _ | refine blk_drew ?_ | refine blk_alloc ?_ _)); refine blk_put (cs := #[.int .i64 t489, .string (rdOf ByteArray.empty t484 1), .int .i64 0, .bool false, .bool true]) ?_ 3 _ rfl; (with_reducible repeat (first | refine blk_drewN ?_ _ | refine blk_drew ?_ | refine blk_alloc ?_ _)); refine blk_put (cs := #[.int .i64 t489, .string (rdOf ByteArray.empty t484 1), .int .i64 0, .bool false, .bool true]) ?_ 2 _ rfl; (with_reducible repeat (first | refine blk_drewN ?_ _ | refine blk_drew ?_ | refine blk_alloc ?_ _)); refine blk_put (cs := #[.int .i64 t489, .string (rdOf ByteArray.empty t484 1), .int .i64 0, .bool false, .bool true]) ?_ 1 _ rfl; (with_reducible repeat (first | refine blk_drewN ?_ _ | refine blk_drew ?_ | refine blk_alloc ?_ _)); refine blk_put (cs := #[.int .i64 t489, .string (rdOf ByteArray.empty t484 1), .int .i64 0, .bool false, .bool true]) ?_ 0 _ rfl; exact uB <| BK483.out))⟩; have n3_ : Aside0 (Below w.heap.size w w39) := ⟨(by rw [hw]; exact bl)⟩; clear hw; clear HO486; clear HO495; clear BK483; clear HB; have HO486 := n0_; have HO495 := n1_; have BK483 := n2_; have HB := n3_; clear n0_ n1_ n2_ n3_))
     refine bodyPost_ret (results_ct rfl _ _ gb483 48 #[.int .i64 t489, .string (rdOf ByteArray.empty t484 1), .int .i64 0, .bool false, .bool true] (0, 0) _ rfl (uB BK483.out) Tryz.underlying48 rfl (by kernel_rfl)) rfl ?_
     exact ⟨re_, bl⟩
   ·
    rw [if_neg c9] at H
    have c9b0 : (t493 == 0) = false := beq_eq_false_iff_ne.mpr c9
    have c9b1 : (t493 != 0) = true := bne_iff_ne.mpr c9
    simp only [Option.some.injEq, Prod.mk.injEq] at H
    obtain ⟨rfl, rfl, rfl, rfl, rfl, rfl⟩ := H
    go_enter Tryz.func58, Tryz.ntmps58
    try go_wp2_with (first | ((with_reducible refine gate_dst (N := 2) rfl ?_); refine bx (N := 2) #[.int .i64 0, .string (⟨#[]⟩ : ByteArray), .int .i64 0, .bool false, .bool false] 48 ?_; intro gb483 hg w40 hbox hb; have BK483 := Aside0.mk (hbox); have GW483 := gw hg (uW HB.out); have GE483 := GW483; replace HB := cW HB hb; clear hb hbox hg) | (refine gL (some 7) rfl Tryz.func39 #[.string a0, .int .u8 124] ?_; (with_reducible refine (word_Split.calls k a0 124 t484 _ A2.out).mono ?_); rintro e w41 ⟨v485, rfl, ho0, hb⟩; refine ⟨_, rfl, ?_⟩; have HO486 := Aside0.mk (Kd.R_lower ho0 (below_size bl)); replace BK483 := cB BK483 hb; replace HB := Aside0.mk (below_step bl hb); (try clear hb); (try clear ho0); obtain ⟨Ao42, co42, eo42⟩ := Kd.R_slice HO486.out; subst eo42))
    replace HO486 := Aside0.mk (Kd.R_drew HO486.out)
    replace BK483 := Aside0.mk (blk_drew BK483.out)
    replace HB := Aside0.mk (below_drew1 HB.out)
    have p487 : 0 ≤ (1 : Int) := (by omega)
    have q487 : 1 < (t484.length : Int) := od
    obtain ⟨ad487, e487, hx487_0⟩ := Kd.at_string (Kd.R_reads' HO486.out).2.2 1 p487 q487
    cases e487
    (try simp only [show (1 : Int).toNat = 1 from rfl, Nat.reduceMul, Nat.reduceEqDiff, Go.Addr.add, ↓reduceIte] at hx487_0)
    have qi487 : (1 < t484.length) = True := eq_true (by omega)
    (try rw [show ((1 : Int)).toNat = 1 from rfl] at hx487_0)
    replace p487 := eq_true p487
    replace q487 := eq_true q487
    refine start_ (n := 8) (S := fun w' => w'.cell? ⟨ad487.block, ad487.off + 1, none⟩ = some (.string (rdOf ByteArray.empty t484 1))) (ds := []) _ (by kernel_rfl) rfl rfl (hx487_0) (fun hHeld => ?_); refine with_tabW diff_leaves.tab4 diff_leaves.bits4 (fun HT_ HW_ => ?_)
    generalize w41.drew = w43 at HO486 BK483 HB hx487_0 hHeld ⊢
    refine p1 0 (some 12) ?_
    refine p1 1 (some 13) ?_
    refine p1 3 (some 15) ?_
    refine t1 2 (some 14) rfl rfl hHeld (Or.inl ⟨by rfl, by intro w' s0; go_simp; with_reducible rfl⟩) ?_
    refine o1 4 none rfl rfl (fun K hK => ?_)
    have hs44 : w43.cell? ⟨gb483, 4, none⟩ = some (.bool false) := (blk_cell BK483.out 4).trans rfl
    have hfs44 := blk_frozen BK483.out 4
    refine skip_ (w1 := ?_) (by rfl) rfl ?_ ?_
    rotate_left
    ·
     go_simp
     rfl
    refine hK.out _ _ (((cell_far (p := ⟨gb483, _, none⟩) (by first | exact Kd.own_blk (Kd.R_ne HO486.out BK483.out (by decide)) | (rw [add_block]; exact Kd.own_blk (Kd.R_ne HO486.out BK483.out (by decide))) | (show (Addr.add _ _).block ≠ _; rw [add_block]; exact Kd.own_blk (Kd.R_ne HO486.out BK483.out (by decide))) | (dsimp only; exact Kd.own_blk (Kd.R_ne HO486.out BK483.out (by decide)))) _).trans (hHeld))) (fun hHeld => ?_)
    clear hK K
    refine p1 5 (some 16) ?_
    refine p1 6 (some 17) ?_
    refine o1 7 none rfl rfl (fun K hK => ?_)
    have hs45 : w43.cell? ⟨gb483, 1, none⟩ = some (.string (⟨#[]⟩ : ByteArray)) := (blk_cell BK483.out 1).trans rfl
    have hfs45 := blk_frozen BK483.out 1
    refine skip_ (w1 := ?_) (by rfl) rfl ?_ ?_
    rotate_left
    ·
     go_simp
     rfl
    refine hK.out _ _ (((cell_far (p := ⟨gb483, _, none⟩) (by first | exact Kd.own_blk (Kd.R_ne HO486.out BK483.out (by decide)) | (rw [add_block]; exact Kd.own_blk (Kd.R_ne HO486.out BK483.out (by decide))) | (show (Addr.add _ _).block ≠ _; rw [add_block]; exact Kd.own_blk (Kd.R_ne HO486.out BK483.out (by decide))) | (dsimp only; exact Kd.own_blk (Kd.R_ne HO486.out BK483.out (by decide)))) _).trans (hHeld))) (fun hHeld => ?_)
    clear hK K
    refine done_ (done_of HT_.out (by kernel_rfl)) ?_
    have p488 : 0 ≤ (0 : Int) := (by omega)
    have q488 : 0 < (t484.length : Int) := od
    obtain ⟨ad488, e488, hx488_0⟩ := Kd.at_string (Kd.R_reads' HO486.out).2.2 0 p488 q488
    obtain rfl : ad487 = ad488 := (by injection e488)
    have qi488 : (0 < t484.length) = True := eq_true (by omega)
    (try rw [show ((0 : Int)).toNat = 0 from rfl] at hx488_0)
    (try rw [Addr.add_zero'] at hx488_0)
    have hn488_0 : ad487.block ≠ gb483 := Kd.own_blk (Kd.R_ne HO486.out BK483.out (by decide))
    have hn488_1 : ad487.block ≠ gb483 := Kd.own_blk (Kd.R_ne HO486.out BK483.out (by decide))
    replace hx488_0 := (cell_far (p := ⟨gb483, 4, none⟩) (by first | (rw [add_block]; exact hn488_0) | (show (Addr.add _ _).block ≠ _; rw [add_block]; exact hn488_0) | exact hn488_0) (.bool true)).trans hx488_0
    replace hx488_0 := (cell_far (p := ⟨gb483, 1, none⟩) (by first | (rw [add_block]; exact hn488_1) | (show (Addr.add _ _).block ≠ _; rw [add_block]; exact hn488_1) | exact hn488_1) (.string (rdOf ByteArray.empty t484 1))).trans hx488_0
    clear hn488_0
    clear hn488_1
    replace p488 := eq_true p488
    replace q488 := eq_true q488
    try go_wp2_with (first | (refine gL (some 22) rfl Tryz.func76 #[.string (rdOf ByteArray.empty t484 0)] ?_; (with_reducible refine (sat_Read.calls (hL := ld) (rdOf ByteArray.empty t484 0) t489 t490 _ A6.out).mono ?_); rintro e w46 ⟨rfl, hb⟩; refine ⟨_, rfl, ?_⟩; replace HO486 := Aside0.mk (Kd.R_below (by exact uR <| (Kd.R_mono (Kd.R_far (p := ⟨gb483, 1, none⟩) (Kd.R_far (p := ⟨gb483, 4, none⟩) (Kd.R_types HO486.out BK483.out (by decide)) (fun _ hk => hk.2) (.bool true)) (fun _ hk => hk.2) (.string (rdOf ByteArray.empty t484 1))) (fun _ h_ => h_.1))) hb); replace BK483 := Aside0.mk (blk_below (g := gb483) (o := .cells #[.int .i64 0, .string (rdOf ByteArray.empty t484 1), .int .i64 0, .bool false, .bool true] 48 (0, 0)) (by (with_reducible repeat (first | refine blk_drewN ?_ _ | refine blk_drew ?_ | refine blk_alloc ?_ _)); refine blk_put (cs := #[.int .i64 0, .string (⟨#[]⟩ : ByteArray), .int .i64 0, .bool false, .bool true]) ?_ 1 _ rfl; (with_reducible repeat (first | refine blk_drewN ?_ _ | refine blk_drew ?_ | refine blk_alloc ?_ _)); refine blk_put (cs := #[.int .i64 0, .string (⟨#[]⟩ : ByteArray), .int .i64 0, .bool false, .bool false]) ?_ 4 _ rfl; exact uB <| BK483.out) hb); replace HB := Aside0.mk (below_step bl hb); (try clear hb); obtain ⟨hcz47_0, hcz47_1, hcz47_2, hcz47_3, hcz47_4, hfz47_0, hfz47_1, hfz47_2, hfz47_3, hfz47_4⟩ := z5 BK483; have p491 : 0 ≤ (1 : Int) := (by omega); have q491 : 1 < (t484.length : Int) := od; obtain ⟨ad491, e491, hx491_0⟩ := Kd.at_string (Kd.R_reads' HO486.out).2.2 1 p491 q491; obtain rfl : ad487 = ad491 := (by injection e491); (try simp only [show (1 : Int).toNat = 1 from rfl, Nat.reduceMul, Nat.reduceEqDiff, Go.Addr.add, ↓reduceIte] at hx491_0); have qi491 : (1 < t484.length) = True := eq_true (by omega); (try rw [show ((1 : Int)).toNat = 1 from rfl] at hx491_0); have hn491_0 : ad487.block ≠ gb483 := Kd.own_blk (Kd.R_ne HO486.out BK483.out (by decide)); replace hx491_0 := (cell_far (p := ⟨gb483, 0, none⟩) (by first | (rw [add_block]; exact hn491_0) | (show (Addr.add _ _).block ≠ _; rw [add_block]; exact hn491_0) | exact hn491_0) (.int .i64 t489)).trans hx491_0; clear hn491_0; replace p491 := eq_true p491; replace q491 := eq_true q491) | (refine gL (some 35) rfl Tryz.func65 #[.string (rdOf ByteArray.empty t484 1)] ?_; (with_reducible refine (tag_Parse.calls (hL := ld) k (rdOf ByteArray.empty t484 1) t492 t493 _ A8.out).mono ?_); rintro e w48 ⟨v494, rfl, ho0, hb⟩; refine ⟨_, rfl, ?_⟩; replace HO486 := Aside0.mk (Kd.R_below (by exact uR <| (Kd.R_mono (Kd.R_far (p := ⟨gb483, 0, none⟩) (Kd.R_types HO486.out BK483.out (by decide)) (fun _ hk => hk.2) (.int .i64 t489)) (fun _ h_ => h_.1))) hb); have HO495 := Aside0.mk (Kd.R_lower ho0 (below_size bl)); replace BK483 := Aside0.mk (blk_below (g := gb483) (o := .cells #[.int .i64 t489, .string (rdOf ByteArray.empty t484 1), .int .i64 0, .bool false, .bool true] 48 (0, 0)) (by (with_reducible repeat (first | refine blk_drewN ?_ _ | refine blk_drew ?_ | refine blk_alloc ?_ _)); refine blk_put (cs := #[.int .i64 0, .string (rdOf ByteArray.empty t484 1), .int .i64 0, .bool false, .bool true]) ?_ 0 _ rfl; exact uB <| BK483.out) hb); replace HB := Aside0.mk (below_step bl hb); (try clear hb); (try clear ho0)))
    replace HO486 := Aside0.mk (Kd.R_drew HO486.out)
    replace HO495 := Aside0.mk (Kd.R_drew HO495.out)
    replace BK483 := Aside0.mk (blk_drew BK483.out)
    replace HB := Aside0.mk (below_drew1 HB.out)
    refine start_ (n := 10) (S := fun w' => True) (ds := []) _ (by kernel_rfl) rfl rfl trivial (fun hHeld => ?_); refine with_tabW diff_leaves.tab9 diff_leaves.bits9 (fun HT_ HW_ => ?_)
    generalize w48.drew = w49 at HO486 HO495 BK483 HB hHeld ⊢
    refine p1 0 (some 38) ?_
    refine p1 1 (some 39) ?_
    refine p1 2 (some 40) ?_
    refine p2 3 (some 41) ?_
    refine p2 4 (some 42) ?_
    refine p2 5 (some 43) ?_
    refine p2 6 (some 44) ?_
    refine p2 7 (some 45) ?_
    refine p2 8 (some 46) ?_
    refine p1 9 (some 47) ?_
    refine done_ (done_of HT_.out (by kernel_rfl)) ?_
    obtain ⟨hcz50_0, hcz50_1, hcz50_2, hcz50_3, hcz50_4, hfz50_0, hfz50_1, hfz50_2, hfz50_3, hfz50_4⟩ := z5 BK483
    try go_wp2_with (first | ((with_reducible refine gate_store (t := 48) (p := 2) rfl ?_); refine store_event (t := 48) (p := 2) (v := ?vo_w51) (w1 := (((((w49.setCell ⟨gb483, 0, none⟩ (.int .i64 t489)).setCell ⟨gb483, 1, none⟩ (.string (rdOf ByteArray.empty t484 1))).setCell ⟨gb483, 2, none⟩ (.int .i64 0)).setCell ⟨gb483, 3, none⟩ (.bool false)).setCell ⟨gb483, 4, none⟩ (.bool true))) ?hg ?ho ?hn ?hr ?_; (case ho => rfl); (case hg => rfl); (case hn => rfl); (case hr => first | (go_simp; done) | (go_simp; rfl)); intro w51 hw; have n0_ : Aside0 (Kd.R Kd.string 9 w51 w.heap.size (fun _ => True) (.slice (some ad487) t484.length co42) t484) := ⟨(by rw [hw]; exact (by exact uR <| Kd.R_mono (Kd.R_far (p := ⟨gb483, 4, none⟩) (Kd.R_far (p := ⟨gb483, 3, none⟩) (Kd.R_far (p := ⟨gb483, 2, none⟩) (Kd.R_far (p := ⟨gb483, 1, none⟩) (Kd.R_far (p := ⟨gb483, 0, none⟩) (Kd.R_types HO486.out BK483.out (by decide)) (fun _ hk => hk.2) (.int .i64 t489)) (fun _ hk => hk.2) (.string (rdOf ByteArray.empty t484 1))) (fun _ hk => hk.2) (.int .i64 0)) (fun _ hk => hk.2) (.bool false)) (fun _ hk => hk.2) (.bool true)) (fun _ hk => trivial)))⟩; have n1_ : Aside0 (Kd.R k98 98 w51 w.heap.size (fun _ => True) v494 t492) := ⟨(by rw [hw]; exact (by exact uR <| Kd.R_mono (Kd.R_far (p := ⟨gb483, 4, none⟩) (Kd.R_far (p := ⟨gb483, 3, none⟩) (Kd.R_far (p := ⟨gb483, 2, none⟩) (Kd.R_far (p := ⟨gb483, 1, none⟩) (Kd.R_far (p := ⟨gb483, 0, none⟩) (Kd.R_types HO495.out BK483.out (by decide)) (fun _ hk => hk.2) (.int .i64 t489)) (fun _ hk => hk.2) (.string (rdOf ByteArray.empty t484 1))) (fun _ hk => hk.2) (.int .i64 0)) (fun _ hk => hk.2) (.bool false)) (fun _ hk => hk.2) (.bool true)) (fun _ hk => trivial)))⟩; have n2_ : Aside0 (w51.heap[gb483]? = some (.cells #[.int .i64 t489, .string (rdOf ByteArray.empty t484 1), .int .i64 0, .bool false, .bool true] 48 (0, 0))) := ⟨(by rw [hw]; exact (by (with_reducible repeat (first | refine blk_drewN ?_ _ | refine blk_drew ?_ | refine blk_alloc ?_ _)); refine blk_put (cs := #[.int .i64 t489, .string (rdOf ByteArray.empty t484 1), .int .i64 0, .bool false, .bool true]) ?_ 4 _ rfl; (with_reducible repeat (first | refine blk_drewN ?_ _ | refine blk_drew ?_ | refine blk_alloc ?_ _)); refine blk_put (cs := #[.int .i64 t489, .string (rdOf ByteArray.empty t484 1), .int .i64 0, .bool false, .bool true]) ?_ 3 _ rfl; (with_reducible repeat (first | refine blk_drewN ?_ _ | refine blk_drew ?_ | refine blk_alloc ?_ _)); refine blk_put (cs := #[.int .i64 t489, .string (rdOf ByteArray.empty t484 1), .int .i64 0, .bool false, .bool true]) ?_ 2 _ rfl; (with_reducible repeat (first | refine blk_drewN ?_ _ | refine blk_drew ?_ | refine blk_alloc ?_ _)); refine blk_put (cs := #[.int .i64 t489, .string (rdOf ByteArray.empty t484 1), .int .i64 0, .bool false, .bool true]) ?_ 1 _ rfl; (with_reducible repeat (first | refine blk_drewN ?_ _ | refine blk_drew ?_ | refine blk_alloc ?_ _)); refine blk_put (cs := #[.int .i64 t489, .string (rdOf ByteArray.empty t484 1), .int .i64 0, .bool false, .bool true]) ?_ 0 _ rfl; exact uB <| BK483.out))⟩; have n3_ : Aside0 (Below w.heap.size w w51) := ⟨(by rw [hw]; exact bl)⟩; clear hw; clear HO486; clear HO495; clear BK483; clear HB; have HO486 := n0_; have HO495 := n1_; have BK483 := n2_; have HB := n3_; clear n0_ n1_ n2_ n3_))
    refine bodyPost_ret (results_ct rfl _ _ gb483 48 #[.int .i64 t489, .string (rdOf ByteArray.empty t484 1), .int .i64 0, .bool false, .bool true] (0, 0) _ rfl (uB BK483.out) Tryz.underlying48 rfl (by kernel_rfl)) rfl ?_
    exact ⟨re_, bl⟩
  ·
   rw [if_neg c7] at H
   have c7b0 : (t490 == 0) = false := beq_eq_false_iff_ne.mpr c7
   have c7b1 : (t490 != 0) = true := bne_iff_ne.mpr c7
   simp only [Option.some.injEq, Prod.mk.injEq] at H
   obtain ⟨rfl, rfl, rfl, rfl, rfl, rfl⟩ := H
   go_enter Tryz.func58, Tryz.ntmps58
   try go_wp2_with (first | ((with_reducible refine gate_dst (N := 2) rfl ?_); refine bx (N := 2) #[.int .i64 0, .string (⟨#[]⟩ : ByteArray), .int .i64 0, .bool false, .bool false] 48 ?_; intro gb483 hg w52 hbox hb; have BK483 := Aside0.mk (hbox); have GW483 := gw hg (uW HB.out); have GE483 := GW483; replace HB := cW HB hb; clear hb hbox hg) | (refine gL (some 7) rfl Tryz.func39 #[.string a0, .int .u8 124] ?_; (with_reducible refine (word_Split.calls k a0 124 t484 _ A2.out).mono ?_); rintro e w53 ⟨v485, rfl, ho0, hb⟩; refine ⟨_, rfl, ?_⟩; have HO486 := Aside0.mk (Kd.R_lower ho0 (below_size bl)); replace BK483 := cB BK483 hb; replace HB := Aside0.mk (below_step bl hb); (try clear hb); (try clear ho0); obtain ⟨Ao54, co54, eo54⟩ := Kd.R_slice HO486.out; subst eo54))
   replace HO486 := Aside0.mk (Kd.R_drew HO486.out)
   replace BK483 := Aside0.mk (blk_drew BK483.out)
   replace HB := Aside0.mk (below_drew1 HB.out)
   have p487 : 0 ≤ (1 : Int) := (by omega)
   have q487 : 1 < (t484.length : Int) := od
   obtain ⟨ad487, e487, hx487_0⟩ := Kd.at_string (Kd.R_reads' HO486.out).2.2 1 p487 q487
   cases e487
   (try simp only [show (1 : Int).toNat = 1 from rfl, Nat.reduceMul, Nat.reduceEqDiff, Go.Addr.add, ↓reduceIte] at hx487_0)
   have qi487 : (1 < t484.length) = True := eq_true (by omega)
   (try rw [show ((1 : Int)).toNat = 1 from rfl] at hx487_0)
   replace p487 := eq_true p487
   replace q487 := eq_true q487
   refine start_ (n := 8) (S := fun w' => w'.cell? ⟨ad487.block, ad487.off + 1, none⟩ = some (.string (rdOf ByteArray.empty t484 1))) (ds := []) _ (by kernel_rfl) rfl rfl (hx487_0) (fun hHeld => ?_); refine with_tabW diff_leaves.tab4 diff_leaves.bits4 (fun HT_ HW_ => ?_)
   generalize w53.drew = w55 at HO486 BK483 HB hx487_0 hHeld ⊢
   refine p1 0 (some 12) ?_
   refine p1 1 (some 13) ?_
   refine p1 3 (some 15) ?_
   refine t1 2 (some 14) rfl rfl hHeld (Or.inl ⟨by rfl, by intro w' s0; go_simp; with_reducible rfl⟩) ?_
   refine o1 4 none rfl rfl (fun K hK => ?_)
   have hs56 : w55.cell? ⟨gb483, 4, none⟩ = some (.bool false) := (blk_cell BK483.out 4).trans rfl
   have hfs56 := blk_frozen BK483.out 4
   refine skip_ (w1 := ?_) (by rfl) rfl ?_ ?_
   rotate_left
   ·
    go_simp
    rfl
   refine hK.out _ _ (((cell_far (p := ⟨gb483, _, none⟩) (by first | exact Kd.own_blk (Kd.R_ne HO486.out BK483.out (by decide)) | (rw [add_block]; exact Kd.own_blk (Kd.R_ne HO486.out BK483.out (by decide))) | (show (Addr.add _ _).block ≠ _; rw [add_block]; exact Kd.own_blk (Kd.R_ne HO486.out BK483.out (by decide))) | (dsimp only; exact Kd.own_blk (Kd.R_ne HO486.out BK483.out (by decide)))) _).trans (hHeld))) (fun hHeld => ?_)
   clear hK K
   refine p1 5 (some 16) ?_
   refine p1 6 (some 17) ?_
   refine o1 7 none rfl rfl (fun K hK => ?_)
   have hs57 : w55.cell? ⟨gb483, 1, none⟩ = some (.string (⟨#[]⟩ : ByteArray)) := (blk_cell BK483.out 1).trans rfl
   have hfs57 := blk_frozen BK483.out 1
   refine skip_ (w1 := ?_) (by rfl) rfl ?_ ?_
   rotate_left
   ·
    go_simp
    rfl
   refine hK.out _ _ (((cell_far (p := ⟨gb483, _, none⟩) (by first | exact Kd.own_blk (Kd.R_ne HO486.out BK483.out (by decide)) | (rw [add_block]; exact Kd.own_blk (Kd.R_ne HO486.out BK483.out (by decide))) | (show (Addr.add _ _).block ≠ _; rw [add_block]; exact Kd.own_blk (Kd.R_ne HO486.out BK483.out (by decide))) | (dsimp only; exact Kd.own_blk (Kd.R_ne HO486.out BK483.out (by decide)))) _).trans (hHeld))) (fun hHeld => ?_)
   clear hK K
   refine done_ (done_of HT_.out (by kernel_rfl)) ?_
   have p488 : 0 ≤ (0 : Int) := (by omega)
   have q488 : 0 < (t484.length : Int) := od
   obtain ⟨ad488, e488, hx488_0⟩ := Kd.at_string (Kd.R_reads' HO486.out).2.2 0 p488 q488
   obtain rfl : ad487 = ad488 := (by injection e488)
   have qi488 : (0 < t484.length) = True := eq_true (by omega)
   (try rw [show ((0 : Int)).toNat = 0 from rfl] at hx488_0)
   (try rw [Addr.add_zero'] at hx488_0)
   have hn488_0 : ad487.block ≠ gb483 := Kd.own_blk (Kd.R_ne HO486.out BK483.out (by decide))
   have hn488_1 : ad487.block ≠ gb483 := Kd.own_blk (Kd.R_ne HO486.out BK483.out (by decide))
   replace hx488_0 := (cell_far (p := ⟨gb483, 4, none⟩) (by first | (rw [add_block]; exact hn488_0) | (show (Addr.add _ _).block ≠ _; rw [add_block]; exact hn488_0) | exact hn488_0) (.bool true)).trans hx488_0
   replace hx488_0 := (cell_far (p := ⟨gb483, 1, none⟩) (by first | (rw [add_block]; exact hn488_1) | (show (Addr.add _ _).block ≠ _; rw [add_block]; exact hn488_1) | exact hn488_1) (.string (rdOf ByteArray.empty t484 1))).trans hx488_0
   clear hn488_0
   clear hn488_1
   replace p488 := eq_true p488
   replace q488 := eq_true q488
   try go_wp2_with (first | (refine gL (some 22) rfl Tryz.func76 #[.string (rdOf ByteArray.empty t484 0)] ?_; (with_reducible refine (sat_Read.calls (hL := ld) (rdOf ByteArray.empty t484 0) t489 t490 _ A6.out).mono ?_); rintro e w58 ⟨rfl, hb⟩; refine ⟨_, rfl, ?_⟩; replace HO486 := Aside0.mk (Kd.R_below (by exact uR <| (Kd.R_mono (Kd.R_far (p := ⟨gb483, 1, none⟩) (Kd.R_far (p := ⟨gb483, 4, none⟩) (Kd.R_types HO486.out BK483.out (by decide)) (fun _ hk => hk.2) (.bool true)) (fun _ hk => hk.2) (.string (rdOf ByteArray.empty t484 1))) (fun _ h_ => h_.1))) hb); replace BK483 := Aside0.mk (blk_below (g := gb483) (o := .cells #[.int .i64 0, .string (rdOf ByteArray.empty t484 1), .int .i64 0, .bool false, .bool true] 48 (0, 0)) (by (with_reducible repeat (first | refine blk_drewN ?_ _ | refine blk_drew ?_ | refine blk_alloc ?_ _)); refine blk_put (cs := #[.int .i64 0, .string (⟨#[]⟩ : ByteArray), .int .i64 0, .bool false, .bool true]) ?_ 1 _ rfl; (with_reducible repeat (first | refine blk_drewN ?_ _ | refine blk_drew ?_ | refine blk_alloc ?_ _)); refine blk_put (cs := #[.int .i64 0, .string (⟨#[]⟩ : ByteArray), .int .i64 0, .bool false, .bool false]) ?_ 4 _ rfl; exact uB <| BK483.out) hb); replace HB := Aside0.mk (below_step bl hb); (try clear hb); obtain ⟨hcz59_0, hcz59_1, hcz59_2, hcz59_3, hcz59_4, hfz59_0, hfz59_1, hfz59_2, hfz59_3, hfz59_4⟩ := z5 BK483) | ((with_reducible refine gate_store (t := 48) (p := 2) rfl ?_); refine store_event (t := 48) (p := 2) (v := ?vo_w60) (w1 := ((((((w58.setCell ⟨gb483, 0, none⟩ (.int .i64 t489)).setCell ⟨gb483, 0, none⟩ (.int .i64 t489)).setCell ⟨gb483, 1, none⟩ (.string (rdOf ByteArray.empty t484 1))).setCell ⟨gb483, 2, none⟩ (.int .i64 0)).setCell ⟨gb483, 3, none⟩ (.bool false)).setCell ⟨gb483, 4, none⟩ (.bool true))) ?hg ?ho ?hn ?hr ?_; (case ho => rfl); (case hg => rfl); (case hn => rfl); (case hr => first | (go_simp; done) | (go_simp; rfl)); intro w60 hw; have n0_ : Aside0 (Kd.R Kd.string 9 w60 w.heap.size (fun _ => True) (.slice (some ad487) t484.length co54) t484) := ⟨(by rw [hw]; exact (by exact uR <| Kd.R_mono (Kd.R_far (p := ⟨gb483, 4, none⟩) (Kd.R_far (p := ⟨gb483, 3, none⟩) (Kd.R_far (p := ⟨gb483, 2, none⟩) (Kd.R_far (p := ⟨gb483, 1, none⟩) (Kd.R_far (p := ⟨gb483, 0, none⟩) (Kd.R_far (p := ⟨gb483, 0, none⟩) (Kd.R_types HO486.out BK483.out (by decide)) (fun _ hk => hk.2) (.int .i64 t489)) (fun _ hk => hk.2) (.int .i64 t489)) (fun _ hk => hk.2) (.string (rdOf ByteArray.empty t484 1))) (fun _ hk => hk.2) (.int .i64 0)) (fun _ hk => hk.2) (.bool false)) (fun _ hk => hk.2) (.bool true)) (fun _ hk => trivial)))⟩; have n1_ : Aside0 (w60.heap[gb483]? = some (.cells #[.int .i64 t489, .string (rdOf ByteArray.empty t484 1), .int .i64 0, .bool false, .bool true] 48 (0, 0))) := ⟨(by rw [hw]; exact (by (with_reducible repeat (first | refine blk_drewN ?_ _ | refine blk_drew ?_ | refine blk_alloc ?_ _)); refine blk_put (cs := #[.int .i64 t489, .string (rdOf ByteArray.empty t484 1), .int .i64 0, .bool false, .bool true]) ?_ 4 _ rfl; (with_reducible repeat (first | refine blk_drewN ?_ _ | refine blk_drew ?_ | refine blk_alloc ?_ _)); refine blk_put (cs := #[.int .i64 t489, .string (rdOf ByteArray.empty t484 1), .int .i64 0, .bool false, .bool true]) ?_ 3 _ rfl; (with_reducible repeat (first | refine blk_drewN ?_ _ | refine blk_drew ?_ | refine blk_alloc ?_ _)); refine blk_put (cs := #[.int .i64 t489, .string (rdOf ByteArray.empty t484 1), .int .i64 0, .bool false, .bool true]) ?_ 2 _ rfl; (with_reducible repeat (first | refine blk_drewN ?_ _ | refine blk_drew ?_ | refine blk_alloc ?_ _)); refine blk_put (cs := #[.int .i64 t489, .string (rdOf ByteArray.empty t484 1), .int .i64 0, .bool false, .bool true]) ?_ 1 _ rfl; (with_reducible repeat (first | refine blk_drewN ?_ _ | refine blk_drew ?_ | refine blk_alloc ?_ _)); refine blk_put (cs := #[.int .i64 t489, .string (rdOf ByteArray.empty t484 1), .int .i64 0, .bool false, .bool true]) ?_ 0 _ rfl; (with_reducible repeat (first | refine blk_drewN ?_ _ | refine blk_drew ?_ | refine blk_alloc ?_ _)); refine blk_put (cs := #[.int .i64 0, .string (rdOf ByteArray.empty t484 1), .int .i64 0, .bool false, .bool true]) ?_ 0 _ rfl; exact uB <| BK483.out))⟩; have n2_ : Aside0 (Below w.heap.size w w60) := ⟨(by rw [hw]; exact bl)⟩; clear hw; clear HO486; clear BK483; clear HB; have HO486 := n0_; have BK483 := n1_; have HB := n2_; clear n0_ n1_ n2_))
   refine bodyPost_ret (results_ct rfl _ _ gb483 48 #[.int .i64 t489, .string (rdOf ByteArray.empty t484 1), .int .i64 0, .bool false, .bool true] (0, 0) _ rfl (uB BK483.out) Tryz.underlying48 rfl (by kernel_rfl)) rfl ?_
   exact ⟨re_, bl⟩
 ·
  rw [if_neg c3] at H
  have c3b0 : ((t484.length : Int) == 2) = false := beq_eq_false_iff_ne.mpr c3
  have c3b1 : ((t484.length : Int) != 2) = true := bne_iff_ne.mpr c3
  simp only [Option.some.injEq, Prod.mk.injEq] at H
  obtain ⟨rfl, rfl, rfl, rfl, rfl, rfl⟩ := H
  go_enter Tryz.func58, Tryz.ntmps58
  go_wp2_with (first | ((with_reducible refine gate_dst (N := 2) rfl ?_); refine bx (N := 2) #[.int .i64 0, .string (⟨#[]⟩ : ByteArray), .int .i64 0, .bool false, .bool false] 48 ?_; intro gb483 hg w61 hbox hb; have BK483 := Aside0.mk (hbox); have GW483 := gw hg (uW HB.out); have GE483 := GW483; replace HB := cW HB hb; clear hb hbox hg) | (refine gL (some 7) rfl Tryz.func39 #[.string a0, .int .u8 124] ?_; (with_reducible refine (word_Split.calls k a0 124 t484 _ A2.out).mono ?_); rintro e w62 ⟨v485, rfl, ho0, hb⟩; refine ⟨_, rfl, ?_⟩; have HO486 := Aside0.mk (Kd.R_lower ho0 (below_size bl)); replace BK483 := cB BK483 hb; replace HB := Aside0.mk (below_step bl hb); (try clear hb); (try clear ho0); obtain ⟨Ao63, co63, eo63⟩ := Kd.R_slice HO486.out; subst eo63; obtain ⟨hcz64_0, hcz64_1, hcz64_2, hcz64_3, hcz64_4, hfz64_0, hfz64_1, hfz64_2, hfz64_3, hfz64_4⟩ := z5 BK483) | ((with_reducible refine gate_store (t := 48) (p := 2) rfl ?_); refine store_event (t := 48) (p := 2) (v := ?vo_w65) (w1 := (((((w62.setCell ⟨gb483, 0, none⟩ (.int .i64 0)).setCell ⟨gb483, 1, none⟩ (.string (⟨#[]⟩ : ByteArray))).setCell ⟨gb483, 2, none⟩ (.int .i64 0)).setCell ⟨gb483, 3, none⟩ (.bool false)).setCell ⟨gb483, 4, none⟩ (.bool false))) ?hg ?ho ?hn ?hr ?_; (case ho => rfl); (case hg => rfl); (case hn => rfl); (case hr => first | (go_simp; done) | (go_simp; rfl)); intro w65 hw; have n0_ : Aside0 (Kd.R Kd.string 9 w65 w.heap.size (fun _ => True) (.slice Ao63 t484.length co63) t484) := ⟨(by rw [hw]; exact (by exact uR <| Kd.R_mono (Kd.R_far (p := ⟨gb483, 4, none⟩) (Kd.R_far (p := ⟨gb483, 3, none⟩) (Kd.R_far (p := ⟨gb483, 2, none⟩) (Kd.R_far (p := ⟨gb483, 1, none⟩) (Kd.R_far (p := ⟨gb483, 0, none⟩) (Kd.R_types HO486.out BK483.out (by decide)) (fun _ hk => hk.2) (.int .i64 0)) (fun _ hk => hk.2) (.string (⟨#[]⟩ : ByteArray))) (fun _ hk => hk.2) (.int .i64 0)) (fun _ hk => hk.2) (.bool false)) (fun _ hk => hk.2) (.bool false)) (fun _ hk => trivial)))⟩; have n1_ : Aside0 (w65.heap[gb483]? = some (.cells #[.int .i64 0, .string (⟨#[]⟩ : ByteArray), .int .i64 0, .bool false, .bool false] 48 (0, 0))) := ⟨(by rw [hw]; exact (by (with_reducible repeat (first | refine blk_drewN ?_ _ | refine blk_drew ?_ | refine blk_alloc ?_ _)); refine blk_put (cs := #[.int .i64 0, .string (⟨#[]⟩ : ByteArray), .int .i64 0, .bool false, .bool false]) ?_ 4 _ rfl; (with_reducible repeat (first | refine blk_drewN ?_ _ | refine blk_drew ?_ | refine blk_alloc ?_ _)); refine blk_put (cs := #[.int .i64 0, .string (⟨#[]⟩ : ByteArray), .int .i64 0, .bool false, .bool false]) ?_ 3 _ rfl; (with_reducible repeat (first | refine blk_drewN ?_ _ | refine blk_drew ?_ | refine blk_alloc ?_ _)); refine blk_put (cs := #[.int .i64 0, .string (⟨#[]⟩ : ByteArray), .int .i64 0, .bool false, .bool false]) ?_ 2 _ rfl; (with_reducible repeat (first | refine blk_drewN ?_ _ | refine blk_drew ?_ | refine blk_alloc ?_ _)); refine blk_put (cs := #[.int .i64 0, .string (⟨#[]⟩ : ByteArray), .int .i64 0, .bool false, .bool false]) ?_ 1 _ rfl; (with_reducible repeat (first | refine blk_drewN ?_ _ | refine blk_drew ?_ | refine blk_alloc ?_ _)); refine blk_put (cs := #[.int .i64 0, .string (⟨#[]⟩ : ByteArray), .int .i64 0, .bool false, .bool false]) ?_ 0 _ rfl; exact uB <| BK483.out))⟩; have n2_ : Aside0 (Below w.heap.size w w65) := ⟨(by rw [hw]; exact bl)⟩; clear hw; clear HO486; clear BK483; clear HB; have HO486 := n0_; have BK483 := n1_; have HB := n2_; clear n0_ n1_ n2_))
  refine bodyPost_ret (results_ct rfl _ _ gb483 48 #[.int .i64 0, .string (⟨#[]⟩ : ByteArray), .int .i64 0, .bool false, .bool false] (0, 0) _ rfl (uB BK483.out) Tryz.underlying48 rfl (by kernel_rfl)) rfl ?_
  exact ⟨re_, bl⟩
def stringslite_HasSuffix.f (a0 : ByteArray) (a1 : ByteArray) : Option (Bool) := if (a0.size : Int) ≥ (a1.size : Int) then (if 0 ≤ (wrap64 ((a0.size : Int) - (a1.size : Int))) then (if (wrap64 ((a0.size : Int) - (a1.size : Int))) ≤ (a0.size : Int) then (some ((a0.extract ((wrap64 ((a0.size : Int) - (a1.size : Int))) : Int).toNat a0.size).toList == a1.toList)) else (none)) else (none)) else (some false)
theorem stringslite_HasSuffix.calls (a0 : ByteArray) (a1 : ByteArray) (r : Bool) (w : World) (h : stringslite_HasSuffix.f a0 a1 = some r) :
 Calls Tryz.prog 163 #[.string a0, .string a1] w fun e w' => e = .returned (.bool r) ∧ Drawn0 w w' := by
 have H : (if (a0.size : Int) ≥ (a1.size : Int) then (if 0 ≤ (wrap64 ((a0.size : Int) - (a1.size : Int))) then (if (wrap64 ((a0.size : Int) - (a1.size : Int))) ≤ (a0.size : Int) then (some ((a0.extract ((wrap64 ((a0.size : Int) - (a1.size : Int))) : Int).toNat a0.size).toList == a1.toList)) else (none)) else (none)) else (some false)) = some r := h
 clear h
 by_cases c3 : (a0.size : Int) ≥ (a1.size : Int)
 ·
  rw [if_pos c3] at H
  have c3b0 : decide ((a1.size : Int) ≤ (a0.size : Int)) = true := decide_eq_true c3
  have c3b1 : decide (a1.size ≤ a0.size) = true := decide_eq_true (Int.ofNat_le.mp c3)
  clear c3
  obtain ⟨ji4, hji4⟩ : ∃ j_ : Int, (wrap64 ((a0.size : Int) - (a1.size : Int))) = j_ := ⟨_, rfl⟩
  (first | rw [hji4] at H | simp only [hji4] at H)
  have hji4w : (IntKind.i64.wrap ((a0.size : Int) - (a1.size : Int))) = ji4 := (i64_w _).trans hji4
  obtain ⟨c5, H⟩ := gd H
  have c5b0 := eq_true c5
  have c5b1 : decide (0 ≤ (ji4)) = true := decide_eq_true c5
  clear c5
  obtain ⟨c6, H⟩ := gd H
  have c6b0 := eq_true c6
  have c6b1 : decide ((ji4) ≤ (a0.size : Int)) = true := decide_eq_true c6
  clear c6
  obtain rfl := Option.some.inj H
  go_enter Tryz.func163, Tryz.ntmps163
  go_wp2
  go_ret
  exact ⟨by first | rfl | (simp; done) | (simp only [← hji4] <;> (first | rfl | simp)) | (simp [*]; done), dr_⟩
 ·
  rw [if_neg c3] at H
  have c3b0 : decide ((a1.size : Int) ≤ (a0.size : Int)) = false := decide_eq_false c3
  have c3b1 : decide (a1.size ≤ a0.size) = false := decide_eq_false (fun h => c3 (Int.ofNat_le.mpr h))
  clear c3
  obtain rfl := Option.some.inj H
  go_enter Tryz.func163, Tryz.ntmps163
  go_wp2
  go_ret
  exact ⟨rs_, dr_⟩
def stringslite_TrimSuffix.f (a0 : ByteArray) (a1 : ByteArray) : Option (ByteArray) := (stringslite_HasSuffix.f a0 a1).bind fun t498 => (if t498 = true then (if 0 ≤ (wrap64 ((a0.size : Int) - (a1.size : Int))) then (if (wrap64 ((a0.size : Int) - (a1.size : Int))) ≤ (a0.size : Int) then (some (a0.extract 0 ((wrap64 ((a0.size : Int) - (a1.size : Int))) : Int).toNat)) else (none)) else (none)) else (some a0))
theorem stringslite_TrimSuffix.calls (a0 : ByteArray) (a1 : ByteArray) (r : ByteArray) (w : World) (h : stringslite_TrimSuffix.f a0 a1 = some r) :
 Calls Tryz.prog 138 #[.string a0, .string a1] w fun e w' => e = .returned (.string r) ∧ Drawn0 w w' := by
 have H : ((stringslite_HasSuffix.f a0 a1).bind fun t498 => (if t498 = true then (if 0 ≤ (wrap64 ((a0.size : Int) - (a1.size : Int))) then (if (wrap64 ((a0.size : Int) - (a1.size : Int))) ≤ (a0.size : Int) then (some (a0.extract 0 ((wrap64 ((a0.size : Int) - (a1.size : Int))) : Int).toNat)) else (none)) else (none)) else (some a0))) = some r := h
 clear h
 obtain ⟨t498, A3, H⟩ := bs H
 try dsimp only at H
 by_cases c4 : t498 = true
 ·
  subst c4
  rw [if_pos rfl] at H
  obtain ⟨ji5, hji5⟩ : ∃ j_ : Int, (wrap64 ((a0.size : Int) - (a1.size : Int))) = j_ := ⟨_, rfl⟩
  (first | rw [hji5] at H | simp only [hji5] at H)
  (try rw [hji5] at A3)
  have hji5w : (IntKind.i64.wrap ((a0.size : Int) - (a1.size : Int))) = ji5 := (i64_w _).trans hji5
  obtain ⟨c6, H⟩ := gd H
  have c6b0 := eq_true c6
  have c6b1 : decide (0 ≤ (ji5)) = true := decide_eq_true c6
  clear c6
  obtain ⟨c7, H⟩ := gd H
  have c7b0 := eq_true c7
  have c7b1 : decide ((ji5) ≤ (a0.size : Int)) = true := decide_eq_true c7
  clear c7
  obtain rfl := Option.some.inj H
  go_enter Tryz.func138, Tryz.ntmps138
  go_wp2_with (first | (refine gL (some 7) rfl Tryz.func163 #[.string a0, .string a1] ?_; (with_reducible refine (stringslite_HasSuffix.calls a0 a1 true _ A3.out).mono ?_); rintro e w' ⟨rfl, ⟨nd, rfl⟩⟩; refine ⟨_, rfl, ?_⟩))
  go_ret
  exact ⟨by first | rfl | (simp; done) | (simp only [← hji5] <;> (first | rfl | simp)) | (simp [*]; done), dr_⟩
 ·
  replace c4 := Bool.eq_false_iff.mpr c4
  subst c4
  rw [if_neg (show ¬ (false = true) by decide)] at H
  obtain rfl := Option.some.inj H
  go_enter Tryz.func138, Tryz.ntmps138
  go_wp2_with (first | (refine gL (some 7) rfl Tryz.func163 #[.string a0, .string a1] ?_; (with_reducible refine (stringslite_HasSuffix.calls a0 a1 false _ A3.out).mono ?_); rintro e w' ⟨rfl, ⟨nd, rfl⟩⟩; refine ⟨_, rfl, ?_⟩))
  go_ret
  exact ⟨rs_, dr_⟩
def strings_TrimSuffix.f (a0 : ByteArray) (a1 : ByteArray) : Option (ByteArray) := (stringslite_TrimSuffix.f a0 a1).bind fun t499 => (some t499)
theorem strings_TrimSuffix.calls (a0 : ByteArray) (a1 : ByteArray) (r : ByteArray) (w : World) (h : strings_TrimSuffix.f a0 a1 = some r) :
 Calls Tryz.prog 115 #[.string a0, .string a1] w fun e w' => e = .returned (.string r) ∧ Drawn0 w w' := by
 have H : ((stringslite_TrimSuffix.f a0 a1).bind fun t499 => (some t499)) = some r := h
 clear h
 obtain ⟨t499, A3, H⟩ := bs H
 try dsimp only at H
 obtain rfl := Option.some.inj H
 go_enter Tryz.func115, Tryz.ntmps115
 go_wp2_with (first | (refine gL (some 7) rfl Tryz.func138 #[.string a0, .string a1] ?_; (with_reducible refine (stringslite_TrimSuffix.calls a0 a1 t499 _ A3.out).mono ?_); rintro e w' ⟨rfl, ⟨nd, rfl⟩⟩; refine ⟨_, rfl, ?_⟩))
 go_ret
 exact ⟨rs_, dr_⟩
def sat_Parse.f (a0 : ByteArray) : Option (Int × Bool × Int) := (strings_TrimSuffix.f a0 (⟨#[33]⟩ : ByteArray)).bind fun t501 => ((sat_Read.f t501).bind fun bt502 => (if bt502.2 = 0 then (some (bt502.1, (t501.toList != a0.toList), 0)) else (some (0, false, bt502.2))))
theorem sat_Parse.calls (a0 : ByteArray) (r1 : Int) (r2 : Bool) (r3 : Int) (w : World) (hL : LD w) (h : sat_Parse.f a0 = some (r1, r2, r3)) :
 Calls Tryz.prog 94 #[.string a0] w fun e w' => e = .returned (.tuple #[.agg #[.int .i64 r1, .bool r2], .int .i64 r3]) ∧ Below w.heap.size w w' := by
 have HL0 := Aside0.mk hL
 clear hL
 have hu43 := Tryz.underlying43
 have HB := Aside0.mk (Below.refl w.heap.size w)
 have H : ((strings_TrimSuffix.f a0 (⟨#[33]⟩ : ByteArray)).bind fun t501 => ((sat_Read.f t501).bind fun bt502 => (if bt502.2 = 0 then (some (bt502.1, (t501.toList != a0.toList), 0)) else (some (0, false, bt502.2))))) = some (r1, r2, r3) := h
 clear h
 obtain ⟨t501, A2, H⟩ := bs H
 try dsimp only at H
 obtain ⟨⟨t502, t503⟩, A3, H⟩ := bs H
 try dsimp only at H
 by_cases c4 : t503 = 0
 ·
  rw [if_pos c4] at H
  have c4b0 : (t503 == 0) = true := beq_iff_eq.mpr c4
  have c4b1 : (t503 != 0) = false := bne_eq_false_iff_eq.mpr c4
  clear c4
  simp only [Option.some.injEq, Prod.mk.injEq] at H
  obtain ⟨rfl, rfl, rfl⟩ := H
  go_enter Tryz.func94, Tryz.ntmps94
  go_wp2_with (first | ((with_reducible refine gate_dst (N := 2) rfl ?_); refine bx (N := 2) #[.int .i64 0, .bool false] 43 ?_; intro gb500 hg w5 hbox hb; have BK500 := Aside0.mk (hbox); have GW500 := gw hg (uW HB.out); have GE500 := GW500; replace HB := cW HB hb; clear hb hbox hg) | (refine gL (some 8) rfl Tryz.func115 #[.string a0, .string (⟨#[33]⟩ : ByteArray)] ?_; (with_reducible refine (strings_TrimSuffix.calls a0 (⟨#[33]⟩ : ByteArray) t501 _ A2.out).mono ?_); rintro e w' ⟨rfl, ⟨nd, rfl⟩⟩; refine ⟨_, rfl, ?_⟩; (try (rw [drewN_self w5]; generalize hq_ : World.drewN w5 _ = w5; have n0_ : Aside0 (w5.heap[gb500]? = some (.cells #[.int .i64 0, .bool false] 43 (0, 0))) := ⟨by rw [← hq_]; exact (uB BK500.out)⟩; have n1_ : Aside0 (Below w.heap.size w w5) := ⟨by rw [← hq_]; exact bl⟩; clear BK500 HB hq_; have BK500 := n0_; have HB := n1_; clear n0_ n1_))) | (refine gL (some 11) rfl Tryz.func76 #[.string t501] ?_; (with_reducible refine (sat_Read.calls (hL := ld) t501 t502 t503 _ A3.out).mono ?_); rintro e w6 ⟨rfl, hb⟩; refine ⟨_, rfl, ?_⟩; replace BK500 := cB BK500 hb; replace HB := Aside0.mk (below_step bl hb); (try clear hb); obtain ⟨hcz7_0, hcz7_1, hfz7_0, hfz7_1⟩ := z2 BK500))
  refine bodyPost_ret (results_ct rfl _ _ gb500 43 #[.int .i64 t502, .bool (t501.toList != a0.toList)] (0, 0) _ rfl (by (with_reducible repeat (first | refine blk_drewN ?_ _ | refine blk_drew ?_ | refine blk_alloc ?_ _)); refine blk_put (cs := #[.int .i64 t502, .bool false]) ?_ 1 _ rfl; (with_reducible repeat (first | refine blk_drewN ?_ _ | refine blk_drew ?_ | refine blk_alloc ?_ _)); refine blk_put (cs := #[.int .i64 0, .bool false]) ?_ 0 _ rfl; exact uB <| BK500.out) Tryz.underlying43 rfl (by kernel_rfl)) rfl ?_
  exact ⟨re_, bl⟩
 ·
  rw [if_neg c4] at H
  have c4b0 : (t503 == 0) = false := beq_eq_false_iff_ne.mpr c4
  have c4b1 : (t503 != 0) = true := bne_iff_ne.mpr c4
  simp only [Option.some.injEq, Prod.mk.injEq] at H
  obtain ⟨rfl, rfl, rfl⟩ := H
  go_enter Tryz.func94, Tryz.ntmps94
  go_wp2_with (first | ((with_reducible refine gate_dst (N := 2) rfl ?_); refine bx (N := 2) #[.int .i64 0, .bool false] 43 ?_; intro gb500 hg w8 hbox hb; have BK500 := Aside0.mk (hbox); have GW500 := gw hg (uW HB.out); have GE500 := GW500; replace HB := cW HB hb; clear hb hbox hg) | (refine gL (some 8) rfl Tryz.func115 #[.string a0, .string (⟨#[33]⟩ : ByteArray)] ?_; (with_reducible refine (strings_TrimSuffix.calls a0 (⟨#[33]⟩ : ByteArray) t501 _ A2.out).mono ?_); rintro e w' ⟨rfl, ⟨nd, rfl⟩⟩; refine ⟨_, rfl, ?_⟩; (try (rw [drewN_self w8]; generalize hq_ : World.drewN w8 _ = w8; have n0_ : Aside0 (w8.heap[gb500]? = some (.cells #[.int .i64 0, .bool false] 43 (0, 0))) := ⟨by rw [← hq_]; exact (uB BK500.out)⟩; have n1_ : Aside0 (Below w.heap.size w w8) := ⟨by rw [← hq_]; exact bl⟩; clear BK500 HB hq_; have BK500 := n0_; have HB := n1_; clear n0_ n1_))) | (refine gL (some 11) rfl Tryz.func76 #[.string t501] ?_; (with_reducible refine (sat_Read.calls (hL := ld) t501 t502 t503 _ A3.out).mono ?_); rintro e w9 ⟨rfl, hb⟩; refine ⟨_, rfl, ?_⟩; replace BK500 := cB BK500 hb; replace HB := Aside0.mk (below_step bl hb); (try clear hb); obtain ⟨hcz10_0, hcz10_1, hfz10_0, hfz10_1⟩ := z2 BK500))
  refine bodyPost_ret (results_ct rfl _ _ gb500 43 #[.int .i64 0, .bool false] (0, 0) _ rfl (by (with_reducible repeat (first | refine blk_drewN ?_ _ | refine blk_drew ?_ | refine blk_alloc ?_ _)); refine blk_put (cs := #[.int .i64 0, .bool false]) ?_ 1 _ rfl; (with_reducible repeat (first | refine blk_drewN ?_ _ | refine blk_drew ?_ | refine blk_alloc ?_ _)); refine blk_put (cs := #[.int .i64 0, .bool false]) ?_ 0 _ rfl; exact uB <| BK500.out) Tryz.underlying43 rfl (by kernel_rfl)) rfl ?_
  exact ⟨re_, bl⟩
def row_one.f (k : Nat) (a0 : ByteArray) : Option (Int × ByteArray × Int × Bool × Int) := (word_Split.f k a0 124).bind fun t505 => (if (t505.length : Int) = 3 then (if 0 < (t505.length : Int) then ((sat_Read.f (rdOf ByteArray.empty t505 0)).bind fun bt509 => (if bt509.2 = 0 then (if 1 < (t505.length : Int) then ((row_group.f k (rdOf ByteArray.empty t505 1)).bind fun t512 => (if t512 = 0 then (if 2 < (t505.length : Int) then ((sat_Parse.f (rdOf ByteArray.empty t505 2)).bind fun bt515 => (some (bt509.1, rdOf ByteArray.empty t505 1, bt515.1, bt515.2.1, bt515.2.2))) else (none)) else (some (bt509.1, (⟨#[]⟩ : ByteArray), 0, false, t512)))) else (none)) else (some (bt509.1, (⟨#[]⟩ : ByteArray), 0, false, bt509.2)))) else (none)) else (some (0, (⟨#[]⟩ : ByteArray), 0, false, 2)))
theorem row_one.mono : ∀ a0 k, LeO (row_one.f k a0) (row_one.f (k + 1) a0) := by
 intro a0 k
 unfold row_one.f
 exact lo
instance row_one.mI {a0 k} : LeC (row_one.f k a0) (row_one.f (k + 1) a0) := ⟨row_one.mono _ _⟩
theorem row_one.calls (k : Nat) (a0 : ByteArray) (r1 : Int) (r2 : ByteArray) (r3 : Int) (r4 : Bool) (r5 : Int) (w : World) (hL : LD w) (h : row_one.f k a0 = some (r1, r2, r3, r4, r5)) :
 Calls Tryz.prog 77 #[.string a0] w fun e w' => e = .returned (.tuple #[.agg #[.int .i64 r1, .string r2, .int .i64 r3, .bool r4], .int .i64 r5]) ∧ Below w.heap.size w w' := by
 have HL0 := Aside0.mk hL
 clear hL
 have hu45 := Tryz.underlying45
 have hu43 := Tryz.underlying43
 have HB := Aside0.mk (Below.refl w.heap.size w)
 have H : ((word_Split.f k a0 124).bind fun t505 => (if (t505.length : Int) = 3 then (if 0 < (t505.length : Int) then ((sat_Read.f (rdOf ByteArray.empty t505 0)).bind fun bt509 => (if bt509.2 = 0 then (if 1 < (t505.length : Int) then ((row_group.f k (rdOf ByteArray.empty t505 1)).bind fun t512 => (if t512 = 0 then (if 2 < (t505.length : Int) then ((sat_Parse.f (rdOf ByteArray.empty t505 2)).bind fun bt515 => (some (bt509.1, rdOf ByteArray.empty t505 1, bt515.1, bt515.2.1, bt515.2.2))) else (none)) else (some (bt509.1, (⟨#[]⟩ : ByteArray), 0, false, t512)))) else (none)) else (some (bt509.1, (⟨#[]⟩ : ByteArray), 0, false, bt509.2)))) else (none)) else (some (0, (⟨#[]⟩ : ByteArray), 0, false, 2)))) = some (r1, r2, r3, r4, r5) := h
 clear h
 obtain ⟨t505, A2, H⟩ := bs H
 try dsimp only at H
 by_cases c3 : (t505.length : Int) = 3
 ·
  rw [if_pos c3] at H
  have c3b0 : ((t505.length : Int) == 3) = true := beq_iff_eq.mpr c3
  have c3b1 : ((t505.length : Int) != 3) = false := bne_eq_false_iff_eq.mpr c3
  clear c3
  obtain ⟨c4, H⟩ := gd H
  have c4b0 : decide (0 < (t505.length : Int)) = true := decide_eq_true c4
  have c4b1 : decide (0 < t505.length) = true := decide_eq_true (by omega)
  clear c4
  obtain ⟨⟨t509, t510⟩, A5, H⟩ := bs H
  try dsimp only at H
  by_cases c6 : t510 = 0
  ·
   rw [if_pos c6] at H
   have c6b0 : (t510 == 0) = true := beq_iff_eq.mpr c6
   have c6b1 : (t510 != 0) = false := bne_eq_false_iff_eq.mpr c6
   clear c6
   obtain ⟨c7, H⟩ := gd H
   have c7b0 : decide (1 < (t505.length : Int)) = true := decide_eq_true c7
   have c7b1 : decide (1 < t505.length) = true := decide_eq_true (by omega)
   clear c7
   obtain ⟨t512, A8, H⟩ := bs H
   try dsimp only at H
   by_cases c9 : t512 = 0
   ·
    rw [if_pos c9] at H
    have c9b0 : (t512 == 0) = true := beq_iff_eq.mpr c9
    have c9b1 : (t512 != 0) = false := bne_eq_false_iff_eq.mpr c9
    clear c9
    obtain ⟨c10, H⟩ := gd H
    have c10b0 : decide (2 < (t505.length : Int)) = true := decide_eq_true c10
    have c10b1 : decide (2 < t505.length) = true := decide_eq_true (by omega)
    clear c10
    obtain ⟨⟨t515, t516, t517⟩, A11, H⟩ := bs H
    try dsimp only at H
    simp only [Option.some.injEq, Prod.mk.injEq] at H
    obtain ⟨rfl, rfl, rfl, rfl, rfl⟩ := H
    go_enter Tryz.func77, Tryz.ntmps77
    go_wp2_with (first | ((with_reducible refine gate_dst (N := 2) rfl ?_); refine bx (N := 2) #[.int .i64 0, .string (⟨#[]⟩ : ByteArray), .int .i64 0, .bool false] 45 ?_; intro gb504 hg w12 hbox hb; have BK504 := Aside0.mk (hbox); have GW504 := gw hg (uW HB.out); have GE504 := GW504; replace HB := cW HB hb; clear hb hbox hg) | (refine gL (some 6) rfl Tryz.func39 #[.string a0, .int .u8 124] ?_; (with_reducible refine (word_Split.calls k a0 124 t505 _ A2.out).mono ?_); rintro e w13 ⟨v506, rfl, ho0, hb⟩; refine ⟨_, rfl, ?_⟩; have HO507 := Aside0.mk (Kd.R_lower ho0 (below_size bl)); replace BK504 := cB BK504 hb; replace HB := Aside0.mk (below_step bl hb); (try clear hb); (try clear ho0); obtain ⟨Ao14, co14, eo14⟩ := Kd.R_slice HO507.out; subst eo14; have p508 : 0 ≤ (0 : Int) := (by omega); have q508 : 0 < (t505.length : Int) := od; obtain ⟨ad508, e508, hx508_0⟩ := Kd.at_string (Kd.R_reads' HO507.out).2.2 0 p508 q508; cases e508; have qi508 : (0 < t505.length) = True := eq_true (by omega); (try rw [show ((0 : Int)).toNat = 0 from rfl] at hx508_0); (try rw [Addr.add_zero'] at hx508_0); replace p508 := eq_true p508; replace q508 := eq_true q508) | (refine gL (some 15) rfl Tryz.func76 #[.string (rdOf ByteArray.empty t505 0)] ?_; (with_reducible refine (sat_Read.calls (hL := ld) (rdOf ByteArray.empty t505 0) t509 t510 _ A5.out).mono ?_); rintro e w15 ⟨rfl, hb⟩; refine ⟨_, rfl, ?_⟩; replace HO507 := cR HO507 hb; replace BK504 := cB BK504 hb; replace HB := Aside0.mk (below_step bl hb); (try clear hb); obtain ⟨hcz16_0, hcz16_1, hcz16_2, hcz16_3, hfz16_0, hfz16_1, hfz16_2, hfz16_3⟩ := z4 BK504; have p511 : 0 ≤ (1 : Int) := (by omega); have q511 : 1 < (t505.length : Int) := od; obtain ⟨ad511, e511, hx511_0⟩ := Kd.at_string (Kd.R_reads' HO507.out).2.2 1 p511 q511; obtain rfl : ad508 = ad511 := (by injection e511); (try simp only [show (1 : Int).toNat = 1 from rfl, Nat.reduceMul, Nat.reduceEqDiff, Go.Addr.add, ↓reduceIte] at hx511_0); have qi511 : (1 < t505.length) = True := eq_true (by omega); (try rw [show ((1 : Int)).toNat = 1 from rfl] at hx511_0); have hn511_0 : ad508.block ≠ gb504 := Kd.own_blk (Kd.R_ne HO507.out BK504.out (by decide)); replace hx511_0 := (cell_far (p := ⟨gb504, 0, none⟩) (by first | (rw [add_block]; exact hn511_0) | (show (Addr.add _ _).block ≠ _; rw [add_block]; exact hn511_0) | exact hn511_0) (.int .i64 t509)).trans hx511_0; clear hn511_0; replace p511 := eq_true p511; replace q511 := eq_true q511) | (refine gL (some 26) rfl Tryz.func48 #[.string (rdOf ByteArray.empty t505 1)] ?_; (with_reducible refine (row_group.calls (hL := ld) k (rdOf ByteArray.empty t505 1) t512 _ A8.out).mono ?_); rintro e w17 ⟨rfl, hb⟩; refine ⟨_, rfl, ?_⟩; replace HO507 := Aside0.mk (Kd.R_below (by exact uR <| (Kd.R_mono (Kd.R_far (p := ⟨gb504, 0, none⟩) (Kd.R_types HO507.out BK504.out (by decide)) (fun _ hk => hk.2) (.int .i64 t509)) (fun _ h_ => h_.1))) hb); replace BK504 := Aside0.mk (blk_below (g := gb504) (o := .cells #[.int .i64 t509, .string (⟨#[]⟩ : ByteArray), .int .i64 0, .bool false] 45 (0, 0)) (by (with_reducible repeat (first | refine blk_drewN ?_ _ | refine blk_drew ?_ | refine blk_alloc ?_ _)); refine blk_put (cs := #[.int .i64 0, .string (⟨#[]⟩ : ByteArray), .int .i64 0, .bool false]) ?_ 0 _ rfl; exact uB <| BK504.out) hb); replace HB := Aside0.mk (below_step bl hb); (try clear hb); have p513 : 0 ≤ (1 : Int) := (by omega); have q513 : 1 < (t505.length : Int) := od; obtain ⟨ad513, e513, hx513_0⟩ := Kd.at_string (Kd.R_reads' HO507.out).2.2 1 p513 q513; obtain rfl : ad508 = ad513 := (by injection e513); (try simp only [show (1 : Int).toNat = 1 from rfl, Nat.reduceMul, Nat.reduceEqDiff, Go.Addr.add, ↓reduceIte] at hx513_0); have qi513 : (1 < t505.length) = True := eq_true (by omega); (try rw [show ((1 : Int)).toNat = 1 from rfl] at hx513_0); replace p513 := eq_true p513; replace q513 := eq_true q513; obtain ⟨hcz18_0, hcz18_1, hcz18_2, hcz18_3, hfz18_0, hfz18_1, hfz18_2, hfz18_3⟩ := z4 BK504; have p514 : 0 ≤ (2 : Int) := (by omega); have q514 : 2 < (t505.length : Int) := od; obtain ⟨ad514, e514, hx514_0⟩ := Kd.at_string (Kd.R_reads' HO507.out).2.2 2 p514 q514; obtain rfl : ad508 = ad514 := (by injection e514); (try simp only [show (2 : Int).toNat = 2 from rfl, Nat.reduceMul, Nat.reduceEqDiff, Go.Addr.add, ↓reduceIte] at hx514_0); have qi514 : (2 < t505.length) = True := eq_true (by omega); (try rw [show ((2 : Int)).toNat = 2 from rfl] at hx514_0); have hn514_0 : ad508.block ≠ gb504 := Kd.own_blk (Kd.R_ne HO507.out BK504.out (by decide)); replace hx514_0 := (cell_far (p := ⟨gb504, 1, none⟩) (by first | (rw [add_block]; exact hn514_0) | (show (Addr.add _ _).block ≠ _; rw [add_block]; exact hn514_0) | exact hn514_0) (.string (rdOf ByteArray.empty t505 1))).trans hx514_0; clear hn514_0; replace p514 := eq_true p514; replace q514 := eq_true q514) | (refine gL (some 39) rfl Tryz.func94 #[.string (rdOf ByteArray.empty t505 2)] ?_; (with_reducible refine (sat_Parse.calls (hL := ld) (rdOf ByteArray.empty t505 2) t515 t516 t517 _ A11.out).mono ?_); rintro e w19 ⟨rfl, hb⟩; refine ⟨_, rfl, ?_⟩; replace HO507 := Aside0.mk (Kd.R_below (by exact uR <| (Kd.R_mono (Kd.R_far (p := ⟨gb504, 1, none⟩) (Kd.R_types HO507.out BK504.out (by decide)) (fun _ hk => hk.2) (.string (rdOf ByteArray.empty t505 1))) (fun _ h_ => h_.1))) hb); replace BK504 := Aside0.mk (blk_below (g := gb504) (o := .cells #[.int .i64 t509, .string (rdOf ByteArray.empty t505 1), .int .i64 0, .bool false] 45 (0, 0)) (by (with_reducible repeat (first | refine blk_drewN ?_ _ | refine blk_drew ?_ | refine blk_alloc ?_ _)); refine blk_put (cs := #[.int .i64 t509, .string (⟨#[]⟩ : ByteArray), .int .i64 0, .bool false]) ?_ 1 _ rfl; exact uB <| BK504.out) hb); replace HB := Aside0.mk (below_step bl hb); (try clear hb); obtain ⟨hcz20_0, hcz20_1, hcz20_2, hcz20_3, hfz20_0, hfz20_1, hfz20_2, hfz20_3⟩ := z4 BK504) | ((with_reducible refine gate_store (t := 45) (p := 2) rfl ?_); refine store_event (t := 45) (p := 2) (v := ?vo_w21) (w1 := ((((((w19.setCell ⟨gb504, 2, none⟩ (.int .i64 t515)).setCell ⟨gb504, 3, none⟩ (.bool t516)).setCell ⟨gb504, 0, none⟩ (.int .i64 t509)).setCell ⟨gb504, 1, none⟩ (.string (rdOf ByteArray.empty t505 1))).setCell ⟨gb504, 2, none⟩ (.int .i64 t515)).setCell ⟨gb504, 3, none⟩ (.bool t516))) ?hg ?ho ?hn ?hr ?_; (case ho => rfl); (case hg => rfl); (case hn => rfl); (case hr => first | (go_simp; done) | (go_simp; rfl)); intro w21 hw; have n0_ : Aside0 (Kd.R Kd.string 9 w21 w.heap.size (fun _ => True) (.slice (some ad508) t505.length co14) t505) := ⟨(by rw [hw]; exact (by exact uR <| Kd.R_mono (Kd.R_far (p := ⟨gb504, 3, none⟩) (Kd.R_far (p := ⟨gb504, 2, none⟩) (Kd.R_far (p := ⟨gb504, 1, none⟩) (Kd.R_far (p := ⟨gb504, 0, none⟩) (Kd.R_far (p := ⟨gb504, 3, none⟩) (Kd.R_far (p := ⟨gb504, 2, none⟩) (Kd.R_types HO507.out BK504.out (by decide)) (fun _ hk => hk.2) (.int .i64 t515)) (fun _ hk => hk.2) (.bool t516)) (fun _ hk => hk.2) (.int .i64 t509)) (fun _ hk => hk.2) (.string (rdOf ByteArray.empty t505 1))) (fun _ hk => hk.2) (.int .i64 t515)) (fun _ hk => hk.2) (.bool t516)) (fun _ hk => trivial)))⟩; have n1_ : Aside0 (w21.heap[gb504]? = some (.cells #[.int .i64 t509, .string (rdOf ByteArray.empty t505 1), .int .i64 t515, .bool t516] 45 (0, 0))) := ⟨(by rw [hw]; exact (by (with_reducible repeat (first | refine blk_drewN ?_ _ | refine blk_drew ?_ | refine blk_alloc ?_ _)); refine blk_put (cs := #[.int .i64 t509, .string (rdOf ByteArray.empty t505 1), .int .i64 t515, .bool t516]) ?_ 3 _ rfl; (with_reducible repeat (first | refine blk_drewN ?_ _ | refine blk_drew ?_ | refine blk_alloc ?_ _)); refine blk_put (cs := #[.int .i64 t509, .string (rdOf ByteArray.empty t505 1), .int .i64 t515, .bool t516]) ?_ 2 _ rfl; (with_reducible repeat (first | refine blk_drewN ?_ _ | refine blk_drew ?_ | refine blk_alloc ?_ _)); refine blk_put (cs := #[.int .i64 t509, .string (rdOf ByteArray.empty t505 1), .int .i64 t515, .bool t516]) ?_ 1 _ rfl; (with_reducible repeat (first | refine blk_drewN ?_ _ | refine blk_drew ?_ | refine blk_alloc ?_ _)); refine blk_put (cs := #[.int .i64 t509, .string (rdOf ByteArray.empty t505 1), .int .i64 t515, .bool t516]) ?_ 0 _ rfl; (with_reducible repeat (first | refine blk_drewN ?_ _ | refine blk_drew ?_ | refine blk_alloc ?_ _)); refine blk_put (cs := #[.int .i64 t509, .string (rdOf ByteArray.empty t505 1), .int .i64 t515, .bool false]) ?_ 3 _ rfl; (with_reducible repeat (first | refine blk_drewN ?_ _ | refine blk_drew ?_ | refine blk_alloc ?_ _)); refine blk_put (cs := #[.int .i64 t509, .string (rdOf ByteArray.empty t505 1), .int .i64 0, .bool false]) ?_ 2 _ rfl; exact uB <| BK504.out))⟩; have n2_ : Aside0 (Below w.heap.size w w21) := ⟨(by rw [hw]; exact bl)⟩; clear hw; clear HO507; clear BK504; clear HB; have HO507 := n0_; have BK504 := n1_; have HB := n2_; clear n0_ n1_ n2_))
    refine bodyPost_ret (results_ct rfl _ _ gb504 45 #[.int .i64 t509, .string (rdOf ByteArray.empty t505 1), .int .i64 t515, .bool t516] (0, 0) _ rfl (uB BK504.out) Tryz.underlying45 rfl (by kernel_rfl)) rfl ?_
    exact ⟨re_, bl⟩
   ·
    rw [if_neg c9] at H
    have c9b0 : (t512 == 0) = false := beq_eq_false_iff_ne.mpr c9
    have c9b1 : (t512 != 0) = true := bne_iff_ne.mpr c9
    simp only [Option.some.injEq, Prod.mk.injEq] at H
    obtain ⟨rfl, rfl, rfl, rfl, rfl⟩ := H
    go_enter Tryz.func77, Tryz.ntmps77
    go_wp2_with (first | ((with_reducible refine gate_dst (N := 2) rfl ?_); refine bx (N := 2) #[.int .i64 0, .string (⟨#[]⟩ : ByteArray), .int .i64 0, .bool false] 45 ?_; intro gb504 hg w22 hbox hb; have BK504 := Aside0.mk (hbox); have GW504 := gw hg (uW HB.out); have GE504 := GW504; replace HB := cW HB hb; clear hb hbox hg) | (refine gL (some 6) rfl Tryz.func39 #[.string a0, .int .u8 124] ?_; (with_reducible refine (word_Split.calls k a0 124 t505 _ A2.out).mono ?_); rintro e w23 ⟨v506, rfl, ho0, hb⟩; refine ⟨_, rfl, ?_⟩; have HO507 := Aside0.mk (Kd.R_lower ho0 (below_size bl)); replace BK504 := cB BK504 hb; replace HB := Aside0.mk (below_step bl hb); (try clear hb); (try clear ho0); obtain ⟨Ao24, co24, eo24⟩ := Kd.R_slice HO507.out; subst eo24; have p508 : 0 ≤ (0 : Int) := (by omega); have q508 : 0 < (t505.length : Int) := od; obtain ⟨ad508, e508, hx508_0⟩ := Kd.at_string (Kd.R_reads' HO507.out).2.2 0 p508 q508; cases e508; have qi508 : (0 < t505.length) = True := eq_true (by omega); (try rw [show ((0 : Int)).toNat = 0 from rfl] at hx508_0); (try rw [Addr.add_zero'] at hx508_0); replace p508 := eq_true p508; replace q508 := eq_true q508) | (refine gL (some 15) rfl Tryz.func76 #[.string (rdOf ByteArray.empty t505 0)] ?_; (with_reducible refine (sat_Read.calls (hL := ld) (rdOf ByteArray.empty t505 0) t509 t510 _ A5.out).mono ?_); rintro e w25 ⟨rfl, hb⟩; refine ⟨_, rfl, ?_⟩; replace HO507 := cR HO507 hb; replace BK504 := cB BK504 hb; replace HB := Aside0.mk (below_step bl hb); (try clear hb); obtain ⟨hcz26_0, hcz26_1, hcz26_2, hcz26_3, hfz26_0, hfz26_1, hfz26_2, hfz26_3⟩ := z4 BK504; have p511 : 0 ≤ (1 : Int) := (by omega); have q511 : 1 < (t505.length : Int) := od; obtain ⟨ad511, e511, hx511_0⟩ := Kd.at_string (Kd.R_reads' HO507.out).2.2 1 p511 q511; obtain rfl : ad508 = ad511 := (by injection e511); (try simp only [show (1 : Int).toNat = 1 from rfl, Nat.reduceMul, Nat.reduceEqDiff, Go.Addr.add, ↓reduceIte] at hx511_0); have qi511 : (1 < t505.length) = True := eq_true (by omega); (try rw [show ((1 : Int)).toNat = 1 from rfl] at hx511_0); have hn511_0 : ad508.block ≠ gb504 := Kd.own_blk (Kd.R_ne HO507.out BK504.out (by decide)); replace hx511_0 := (cell_far (p := ⟨gb504, 0, none⟩) (by first | (rw [add_block]; exact hn511_0) | (show (Addr.add _ _).block ≠ _; rw [add_block]; exact hn511_0) | exact hn511_0) (.int .i64 t509)).trans hx511_0; clear hn511_0; replace p511 := eq_true p511; replace q511 := eq_true q511) | (refine gL (some 26) rfl Tryz.func48 #[.string (rdOf ByteArray.empty t505 1)] ?_; (with_reducible refine (row_group.calls (hL := ld) k (rdOf ByteArray.empty t505 1) t512 _ A8.out).mono ?_); rintro e w27 ⟨rfl, hb⟩; refine ⟨_, rfl, ?_⟩; replace HO507 := Aside0.mk (Kd.R_below (by exact uR <| (Kd.R_mono (Kd.R_far (p := ⟨gb504, 0, none⟩) (Kd.R_types HO507.out BK504.out (by decide)) (fun _ hk => hk.2) (.int .i64 t509)) (fun _ h_ => h_.1))) hb); replace BK504 := Aside0.mk (blk_below (g := gb504) (o := .cells #[.int .i64 t509, .string (⟨#[]⟩ : ByteArray), .int .i64 0, .bool false] 45 (0, 0)) (by (with_reducible repeat (first | refine blk_drewN ?_ _ | refine blk_drew ?_ | refine blk_alloc ?_ _)); refine blk_put (cs := #[.int .i64 0, .string (⟨#[]⟩ : ByteArray), .int .i64 0, .bool false]) ?_ 0 _ rfl; exact uB <| BK504.out) hb); replace HB := Aside0.mk (below_step bl hb); (try clear hb); obtain ⟨hcz28_0, hcz28_1, hcz28_2, hcz28_3, hfz28_0, hfz28_1, hfz28_2, hfz28_3⟩ := z4 BK504))
    refine bodyPost_ret (results_ct rfl _ _ gb504 45 #[.int .i64 t509, .string (⟨#[]⟩ : ByteArray), .int .i64 0, .bool false] (0, 0) _ rfl (by (with_reducible repeat (first | refine blk_drewN ?_ _ | refine blk_drew ?_ | refine blk_alloc ?_ _)); refine blk_put (cs := #[.int .i64 t509, .string (⟨#[]⟩ : ByteArray), .int .i64 0, .bool false]) ?_ 3 _ rfl; (with_reducible repeat (first | refine blk_drewN ?_ _ | refine blk_drew ?_ | refine blk_alloc ?_ _)); refine blk_put (cs := #[.int .i64 t509, .string (⟨#[]⟩ : ByteArray), .int .i64 0, .bool false]) ?_ 2 _ rfl; (with_reducible repeat (first | refine blk_drewN ?_ _ | refine blk_drew ?_ | refine blk_alloc ?_ _)); refine blk_put (cs := #[.int .i64 t509, .string (⟨#[]⟩ : ByteArray), .int .i64 0, .bool false]) ?_ 1 _ rfl; (with_reducible repeat (first | refine blk_drewN ?_ _ | refine blk_drew ?_ | refine blk_alloc ?_ _)); refine blk_put (cs := #[.int .i64 t509, .string (⟨#[]⟩ : ByteArray), .int .i64 0, .bool false]) ?_ 0 _ rfl; exact uB <| BK504.out) Tryz.underlying45 rfl (by kernel_rfl)) rfl ?_
    exact ⟨re_, bl⟩
  ·
   rw [if_neg c6] at H
   have c6b0 : (t510 == 0) = false := beq_eq_false_iff_ne.mpr c6
   have c6b1 : (t510 != 0) = true := bne_iff_ne.mpr c6
   simp only [Option.some.injEq, Prod.mk.injEq] at H
   obtain ⟨rfl, rfl, rfl, rfl, rfl⟩ := H
   go_enter Tryz.func77, Tryz.ntmps77
   go_wp2_with (first | ((with_reducible refine gate_dst (N := 2) rfl ?_); refine bx (N := 2) #[.int .i64 0, .string (⟨#[]⟩ : ByteArray), .int .i64 0, .bool false] 45 ?_; intro gb504 hg w29 hbox hb; have BK504 := Aside0.mk (hbox); have GW504 := gw hg (uW HB.out); have GE504 := GW504; replace HB := cW HB hb; clear hb hbox hg) | (refine gL (some 6) rfl Tryz.func39 #[.string a0, .int .u8 124] ?_; (with_reducible refine (word_Split.calls k a0 124 t505 _ A2.out).mono ?_); rintro e w30 ⟨v506, rfl, ho0, hb⟩; refine ⟨_, rfl, ?_⟩; have HO507 := Aside0.mk (Kd.R_lower ho0 (below_size bl)); replace BK504 := cB BK504 hb; replace HB := Aside0.mk (below_step bl hb); (try clear hb); (try clear ho0); obtain ⟨Ao31, co31, eo31⟩ := Kd.R_slice HO507.out; subst eo31; have p508 : 0 ≤ (0 : Int) := (by omega); have q508 : 0 < (t505.length : Int) := od; obtain ⟨ad508, e508, hx508_0⟩ := Kd.at_string (Kd.R_reads' HO507.out).2.2 0 p508 q508; cases e508; have qi508 : (0 < t505.length) = True := eq_true (by omega); (try rw [show ((0 : Int)).toNat = 0 from rfl] at hx508_0); (try rw [Addr.add_zero'] at hx508_0); replace p508 := eq_true p508; replace q508 := eq_true q508) | (refine gL (some 15) rfl Tryz.func76 #[.string (rdOf ByteArray.empty t505 0)] ?_; (with_reducible refine (sat_Read.calls (hL := ld) (rdOf ByteArray.empty t505 0) t509 t510 _ A5.out).mono ?_); rintro e w32 ⟨rfl, hb⟩; refine ⟨_, rfl, ?_⟩; replace HO507 := cR HO507 hb; replace BK504 := cB BK504 hb; replace HB := Aside0.mk (below_step bl hb); (try clear hb); obtain ⟨hcz33_0, hcz33_1, hcz33_2, hcz33_3, hfz33_0, hfz33_1, hfz33_2, hfz33_3⟩ := z4 BK504) | ((with_reducible refine gate_store (t := 45) (p := 2) rfl ?_); refine store_event (t := 45) (p := 2) (v := ?vo_w34) (w1 := (((((w32.setCell ⟨gb504, 0, none⟩ (.int .i64 t509)).setCell ⟨gb504, 0, none⟩ (.int .i64 t509)).setCell ⟨gb504, 1, none⟩ (.string (⟨#[]⟩ : ByteArray))).setCell ⟨gb504, 2, none⟩ (.int .i64 0)).setCell ⟨gb504, 3, none⟩ (.bool false))) ?hg ?ho ?hn ?hr ?_; (case ho => rfl); (case hg => rfl); (case hn => rfl); (case hr => first | (go_simp; done) | (go_simp; rfl)); intro w34 hw; have n0_ : Aside0 (Kd.R Kd.string 9 w34 w.heap.size (fun _ => True) (.slice (some ad508) t505.length co31) t505) := ⟨(by rw [hw]; exact (by exact uR <| Kd.R_mono (Kd.R_far (p := ⟨gb504, 3, none⟩) (Kd.R_far (p := ⟨gb504, 2, none⟩) (Kd.R_far (p := ⟨gb504, 1, none⟩) (Kd.R_far (p := ⟨gb504, 0, none⟩) (Kd.R_far (p := ⟨gb504, 0, none⟩) (Kd.R_types HO507.out BK504.out (by decide)) (fun _ hk => hk.2) (.int .i64 t509)) (fun _ hk => hk.2) (.int .i64 t509)) (fun _ hk => hk.2) (.string (⟨#[]⟩ : ByteArray))) (fun _ hk => hk.2) (.int .i64 0)) (fun _ hk => hk.2) (.bool false)) (fun _ hk => trivial)))⟩; have n1_ : Aside0 (w34.heap[gb504]? = some (.cells #[.int .i64 t509, .string (⟨#[]⟩ : ByteArray), .int .i64 0, .bool false] 45 (0, 0))) := ⟨(by rw [hw]; exact (by (with_reducible repeat (first | refine blk_drewN ?_ _ | refine blk_drew ?_ | refine blk_alloc ?_ _)); refine blk_put (cs := #[.int .i64 t509, .string (⟨#[]⟩ : ByteArray), .int .i64 0, .bool false]) ?_ 3 _ rfl; (with_reducible repeat (first | refine blk_drewN ?_ _ | refine blk_drew ?_ | refine blk_alloc ?_ _)); refine blk_put (cs := #[.int .i64 t509, .string (⟨#[]⟩ : ByteArray), .int .i64 0, .bool false]) ?_ 2 _ rfl; (with_reducible repeat (first | refine blk_drewN ?_ _ | refine blk_drew ?_ | refine blk_alloc ?_ _)); refine blk_put (cs := #[.int .i64 t509, .string (⟨#[]⟩ : ByteArray), .int .i64 0, .bool false]) ?_ 1 _ rfl; (with_reducible repeat (first | refine blk_drewN ?_ _ | refine blk_drew ?_ | refine blk_alloc ?_ _)); refine blk_put (cs := #[.int .i64 t509, .string (⟨#[]⟩ : ByteArray), .int .i64 0, .bool false]) ?_ 0 _ rfl; (with_reducible repeat (first | refine blk_drewN ?_ _ | refine blk_drew ?_ | refine blk_alloc ?_ _)); refine blk_put (cs := #[.int .i64 0, .string (⟨#[]⟩ : ByteArray), .int .i64 0, .bool false]) ?_ 0 _ rfl; exact uB <| BK504.out))⟩; have n2_ : Aside0 (Below w.heap.size w w34) := ⟨(by rw [hw]; exact bl)⟩; clear hw; clear HO507; clear BK504; clear HB; have HO507 := n0_; have BK504 := n1_; have HB := n2_; clear n0_ n1_ n2_))
   refine bodyPost_ret (results_ct rfl _ _ gb504 45 #[.int .i64 t509, .string (⟨#[]⟩ : ByteArray), .int .i64 0, .bool false] (0, 0) _ rfl (uB BK504.out) Tryz.underlying45 rfl (by kernel_rfl)) rfl ?_
   exact ⟨re_, bl⟩
 ·
  rw [if_neg c3] at H
  have c3b0 : ((t505.length : Int) == 3) = false := beq_eq_false_iff_ne.mpr c3
  have c3b1 : ((t505.length : Int) != 3) = true := bne_iff_ne.mpr c3
  simp only [Option.some.injEq, Prod.mk.injEq] at H
  obtain ⟨rfl, rfl, rfl, rfl, rfl⟩ := H
  go_enter Tryz.func77, Tryz.ntmps77
  go_wp2_with (first | ((with_reducible refine gate_dst (N := 2) rfl ?_); refine bx (N := 2) #[.int .i64 0, .string (⟨#[]⟩ : ByteArray), .int .i64 0, .bool false] 45 ?_; intro gb504 hg w35 hbox hb; have BK504 := Aside0.mk (hbox); have GW504 := gw hg (uW HB.out); have GE504 := GW504; replace HB := cW HB hb; clear hb hbox hg) | (refine gL (some 6) rfl Tryz.func39 #[.string a0, .int .u8 124] ?_; (with_reducible refine (word_Split.calls k a0 124 t505 _ A2.out).mono ?_); rintro e w36 ⟨v506, rfl, ho0, hb⟩; refine ⟨_, rfl, ?_⟩; have HO507 := Aside0.mk (Kd.R_lower ho0 (below_size bl)); replace BK504 := cB BK504 hb; replace HB := Aside0.mk (below_step bl hb); (try clear hb); (try clear ho0); obtain ⟨Ao37, co37, eo37⟩ := Kd.R_slice HO507.out; subst eo37; obtain ⟨hcz38_0, hcz38_1, hcz38_2, hcz38_3, hfz38_0, hfz38_1, hfz38_2, hfz38_3⟩ := z4 BK504))
  refine bodyPost_ret (results_ct rfl _ _ gb504 45 #[.int .i64 0, .string (⟨#[]⟩ : ByteArray), .int .i64 0, .bool false] (0, 0) _ rfl (by (with_reducible repeat (first | refine blk_drewN ?_ _ | refine blk_drew ?_ | refine blk_alloc ?_ _)); refine blk_put (cs := #[.int .i64 0, .string (⟨#[]⟩ : ByteArray), .int .i64 0, .bool false]) ?_ 3 _ rfl; (with_reducible repeat (first | refine blk_drewN ?_ _ | refine blk_drew ?_ | refine blk_alloc ?_ _)); refine blk_put (cs := #[.int .i64 0, .string (⟨#[]⟩ : ByteArray), .int .i64 0, .bool false]) ?_ 2 _ rfl; (with_reducible repeat (first | refine blk_drewN ?_ _ | refine blk_drew ?_ | refine blk_alloc ?_ _)); refine blk_put (cs := #[.int .i64 0, .string (⟨#[]⟩ : ByteArray), .int .i64 0, .bool false]) ?_ 1 _ rfl; (with_reducible repeat (first | refine blk_drewN ?_ _ | refine blk_drew ?_ | refine blk_alloc ?_ _)); refine blk_put (cs := #[.int .i64 0, .string (⟨#[]⟩ : ByteArray), .int .i64 0, .bool false]) ?_ 0 _ rfl; exact uB <| BK504.out) Tryz.underlying45 rfl (by kernel_rfl)) rfl ?_
  exact ⟨re_, bl⟩
def row_Parse.l0 : Nat → List (S45) → List ByteArray → Int → Int → Option ((List (S45)) × Int)
 | 0, _, _, _, _ => none
 | k + 1, x2, x11, x12, x13 => if x13 < x12 then (if 0 ≤ x13 then (if x13 < (x11.length : Int) then ((row_one.f k (rdOf ByteArray.empty x11 x13)).bind fun bt522 => (if bt522.2.2.2.2 = 0 then (if x2.length < 3518437208883 then (row_Parse.l0 k (x2 ++ [(⟨bt522.1, bt522.2.1, (⟨bt522.2.2.1, bt522.2.2.2.1⟩ : S43)⟩ : S45)]) x11 x12 (wrap64 (x13 + 1))) else (none)) else (some (([] : List (S45)), bt522.2.2.2.2)))) else (none)) else (none)) else ((row_rise.f k x2).bind fun t531 => (if t531 = true then (some (x2, 0)) else (some (([] : List (S45)), 9))))
def row_Parse.f (k : Nat) (a0 : ByteArray) : Option ((List (S45)) × Int) := if a0.toList = ([45] : List UInt8) then (some (([] : List (S45)), 0)) else ((word_Split.f k a0 59).bind fun t518 => (row_Parse.l0 k ([] : List (S45)) t518 (t518.length : Int) 0))
theorem row_Parse.mono_l : ∀ k, (∀ y0 y1 y2 y3, LeC (row_Parse.l0 k y0 y1 y2 y3) (row_Parse.l0 (k + 1) y0 y1 y2 y3))
 | 0 => fun _ _ _ _ => ⟨fun r h => by simp [row_Parse.l0] at h⟩
 | k + 1 => by have ih0 := row_Parse.mono_l k; exact fun _ _ _ _ => by unfold row_Parse.l0; exact lm
theorem row_Parse.mono : ∀ a0 k, LeO (row_Parse.f k a0) (row_Parse.f (k + 1) a0) := by
 intro a0 k
 have ih0 := row_Parse.mono_l k
 unfold row_Parse.f
 exact lo
instance row_Parse.mI {a0 k} : LeC (row_Parse.f k a0) (row_Parse.f (k + 1) a0) := ⟨row_Parse.mono _ _⟩
theorem row_Parse.calls (k : Nat) (a0 : ByteArray) (r1 : List (S45)) (r2 : Int) (w : World) (hL : LD w) (h : row_Parse.f k a0 = some (r1, r2)) :
 Calls Tryz.prog 59 #[.string a0] w fun e w' => ∃ v0_ : Value, e = .returned (.tuple #[v0_, .int .i64 r2]) ∧ Kd.R k45 45 w' w.heap.size (fun _ => True) v0_ r1 ∧ Below w.heap.size w w' := by
 have HL0 := Aside0.mk hL
 clear hL
 have hu45 := Tryz.underlying45
 have HB := Aside0.mk (Below.refl w.heap.size w)
 have H : (if a0.toList = ([45] : List UInt8) then (some (([] : List (S45)), 0)) else ((word_Split.f k a0 59).bind fun t518 => (row_Parse.l0 k ([] : List (S45)) t518 (t518.length : Int) 0))) = some (r1, r2) := h
 clear h
 by_cases c2 : a0.toList = ([45] : List UInt8)
 ·
  rw [if_pos c2] at H
  have c2b0 : (a0.toList == ([45] : List UInt8)) = true := beq_iff_eq.mpr c2
  have c2b1 : (a0.toList != ([45] : List UInt8)) = false := bne_eq_false_iff_eq.mpr c2
  clear c2
  simp only [Option.some.injEq, Prod.mk.injEq] at H
  obtain ⟨rfl, rfl⟩ := H
  go_enter Tryz.func59, Tryz.ntmps59
  go_wp2
  go_ret2
  exact ⟨_, re_, nl_, uW HB.out⟩
 ·
  rw [if_neg c2] at H
  have c2b0 : (a0.toList == ([45] : List UInt8)) = false := beq_eq_false_iff_ne.mpr c2
  have c2b1 : (a0.toList != ([45] : List UInt8)) = true := bne_iff_ne.mpr c2
  obtain ⟨t518, A3, H⟩ := bs H
  try dsimp only at H
  have H' := Aside0.mk H
  clear H
  go_enter Tryz.func59, Tryz.ntmps59
  go_wp2_with (first | (refine gL (some 11) rfl Tryz.func39 #[.string a0, .int .u8 59] ?_; (with_reducible refine (word_Split.calls k a0 59 t518 _ A3.out).mono ?_); rintro e w4 ⟨v519, rfl, ho0, hb⟩; refine ⟨_, rfl, ?_⟩; have HO520 := Aside0.mk (Kd.R_lower ho0 (below_size (uW HB.out))); replace HB := cW HB hb; (try clear hb); (try clear ho0); obtain ⟨Ao5, co5, eo5⟩ := Kd.R_slice HO520.out; subst eo5))
  (try simp only [Act.put, List.setIfInBounds_toArray, List.set_cons_zero, List.set_cons_succ])
  go_loopg [2, 13] k (fun kq v2 v13 w' => ∃ (x2_1 : List (S45)) (x13_1 : Int), v13 = .int .i64 x13_1 ∧ Aside0 (row_Parse.l0 kq x2_1 t518 (t518.length : Int) x13_1 = some (r1, r2)) ∧ Aside0 (kq ≤ k) ∧ Aside0 (Kd.R k45 45 w' w.heap.size (fun _ => True) v2 x2_1) ∧ Aside0 (Kd.R Kd.string 9 w' w.heap.size (fun _ => True) (.slice Ao5 t518.length co5) t518) ∧ Aside0 (Below w.heap.size w w'))
  case atStart => exact ⟨(([] : List (S45))), (0), rs_, H', ⟨Nat.le_refl _⟩, ⟨nl_⟩, ⟨uR HO520.out⟩, ⟨uW HB.out⟩⟩
  case round =>
   clear H'
   try clear c2
   try clear c2b0
   try clear c2b1
   try clear p2
   try clear c3
   try clear c5
   obtain ⟨x2_1, x13_1, rfl, HA, HK1, HO_2, HO_11, HB⟩ := hrel
   cases gk with
   | zero => exact absurd HA.out (by simp [row_Parse.l0])
   | succ k1 =>
    have H := HA.out
    clear HA
    simp only [row_Parse.l0] at H
    by_cases c6 : x13_1 < (t518.length : Int)
    ·
     rw [if_pos c6] at H
     have c6b0 : decide (x13_1 < (t518.length : Int)) = true := decide_eq_true c6
     clear c6
     obtain ⟨c7b0, H⟩ := gdd H
     obtain ⟨c8b0, H⟩ := gdd H
     obtain ⟨⟨t522, t523, t524, t525, t526⟩, A9, H⟩ := bs H
     try dsimp only at H
     by_cases c10 : t526 = 0
     ·
      rw [if_pos c10] at H
      have c10b0 : (t526 == 0) = true := beq_iff_eq.mpr c10
      have c10b1 : (t526 != 0) = false := bne_eq_false_iff_eq.mpr c10
      clear c10
      obtain ⟨c11, H⟩ := gd H
      have LMc11 := Aside0.mk c11
      clear c11
      obtain ⟨y528, hy528⟩ : ∃ y_ : List (S45), y_ = (x2_1 ++ [(⟨t522, t523, (⟨t524, t525⟩ : S43)⟩ : S45)]) := ⟨_, rfl⟩
      replace H : (row_Parse.l0 k1 y528 t518 (t518.length : Int) (wrap64 (x13_1 + 1))) = some (r1, r2) := by first | (rw [hy528]; with_reducible exact H) | (have H2_ := (Option.bind_some _ _).symm.trans H; rw [hy528]; with_reducible exact H2_) | (have H2_ := (Option.bind_some _ _).symm.trans H; with_reducible exact H2_) | with_reducible exact H | (rw [hy528]; exact H) | exact H
      have Ny528 := Aside0.mk hy528
      clear hy528
      have H' := Aside0.mk H
      clear H
      have p521 : 0 ≤ (x13_1 : Int) := od
      have q521 : x13_1 < (t518.length : Int) := od
      obtain ⟨ad521, e521, hx521_0⟩ := Kd.at_string (Kd.R_reads' HO_11.out).2.2 x13_1 p521 q521
      cases e521
      replace p521 := eq_true p521
      replace q521 := eq_true q521
      go_wp2_with (first | (refine gL (some 19) rfl Tryz.func77 #[.string (rdOf ByteArray.empty t518 x13_1)] ?_; (with_reducible refine (row_one.calls (hL := ld) k1 (rdOf ByteArray.empty t518 x13_1) t522 t523 t524 t525 t526 _ A9.out).mono ?_); rintro e w12 ⟨rfl, hb⟩; refine ⟨_, rfl, ?_⟩; replace HO_2 := cR HO_2 hb; replace HO_11 := cR HO_11 hb; replace HB := cW HB hb; (try clear hb)) | ((with_reducible refine gate_dst (N := 6) rfl ?_); refine bx (N := 6) #[.int .i64 0, .string (⟨#[]⟩ : ByteArray), .int .i64 0, .bool false] 45 ?_; intro gb527 hg w13 hbox hb; replace HO_2 := Aside0.mk (Kd.R_below (Kd.R_elderB (uR HO_2.out) gb527 (Nat.le_of_eq hg.symm)) hb); replace HO_11 := cR HO_11 hb; have BK527 := Aside0.mk (hbox); have GW527 := gw hg (uW HB.out); have GE527 := GW527; replace HB := cW HB hb; clear hb hbox hg; obtain ⟨hcz14_0, hcz14_1, hcz14_2, hcz14_3, hfz14_0, hfz14_1, hfz14_2, hfz14_3⟩ := z4 BK527) | ((with_reducible refine gate_builtin (b := .append) (xs := #[.tmp 25, .tmp 27]) rfl ?_); at_builtin; refine Kd.R_append k45 (w0 := w) w.heap.size rfl (.tmp 25) (.tmp 27) 22 45 (.agg #[(.int .i64 0), (.string ⟨#[]⟩), (.int .i64 0), (.bool false)]) 40 rfl Tryz.underlying22 info45 rfl (by decide) (by omega) u2 x2_1 (⟨t522, t523, (⟨t524, t525⟩ : S43)⟩ : S45) [.int .i64 t522, .string t523, .int .i64 t524, .bool t525] (fun k_ => k_ ≠ gb527) (fun _ => False) rfl (by first | (go_simp; done) | (go_simp; rfl)) ?aP (fun _ hk => hk.elim) ?aF ?aO ?aB ?aS ?aL ?_; (case aP => exact k45_mkM _ _ _ (⟨t522, t523, (⟨t524, t525⟩ : S43)⟩ : S45)); (case aB => exact bl); (case aF => exact (fun k_ hk => Kd.freshB (g := gb527) (o := .cells #[.int .i64 t522, .string t523, .int .i64 t524, .bool t525] 45 (0, 0)) (by (with_reducible repeat (first | refine blk_drewN ?_ _ | refine blk_drew ?_ | refine blk_alloc ?_ _)); refine blk_put (cs := #[.int .i64 t522, .string t523, .int .i64 t524, .bool false]) ?_ 3 _ rfl; (with_reducible repeat (first | refine blk_drewN ?_ _ | refine blk_drew ?_ | refine blk_alloc ?_ _)); refine blk_put (cs := #[.int .i64 t522, .string t523, .int .i64 0, .bool false]) ?_ 2 _ rfl; (with_reducible repeat (first | refine blk_drewN ?_ _ | refine blk_drew ?_ | refine blk_alloc ?_ _)); refine blk_put (cs := #[.int .i64 t522, .string (⟨#[]⟩ : ByteArray), .int .i64 0, .bool false]) ?_ 1 _ rfl; (with_reducible repeat (first | refine blk_drewN ?_ _ | refine blk_drew ?_ | refine blk_alloc ?_ _)); refine blk_put (cs := #[.int .i64 0, .string (⟨#[]⟩ : ByteArray), .int .i64 0, .bool false]) ?_ 0 _ rfl; exact uB <| BK527.out) k_ hk)); (case aO => exact (by exact uR <| Kd.R_mono (Kd.R_far (p := ⟨gb527, 3, none⟩) (Kd.R_far (p := ⟨gb527, 2, none⟩) (Kd.R_far (p := ⟨gb527, 1, none⟩) (Kd.R_far (p := ⟨gb527, 0, none⟩) (Kd.R_mono HO_2.out (fun k_ hk => (⟨hk, hk.2⟩ : _ ∧ k_ ≠ gb527))) (fun _ hk => hk.2) (.int .i64 t522)) (fun _ hk => hk.2) (.string t523)) (fun _ hk => hk.2) (.int .i64 t524)) (fun _ hk => hk.2) (.bool t525)) (fun _ hk => hk.1.2))); (case aS => exact (below_size bl)); (case aL => have := LMc11.out; omega); intro v529 w15 ho hb hg hat; rw [← Ny528.out] at ho; replace HO_11 := Aside0.mk (Kd.R_over' (by exact uR <| (Kd.R_mono (Kd.R_far (p := ⟨gb527, 3, none⟩) (Kd.R_far (p := ⟨gb527, 2, none⟩) (Kd.R_far (p := ⟨gb527, 1, none⟩) (Kd.R_far (p := ⟨gb527, 0, none⟩) (Kd.R_types HO_11.out BK527.out (by decide)) (fun _ hk => hk.2) (.int .i64 t522)) (fun _ hk => hk.2) (.string t523)) (fun _ hk => hk.2) (.int .i64 t524)) (fun _ hk => hk.2) (.bool t525)) (fun _ h_ => h_.1))) (Kd.R_typed (by exact uR <| (Kd.R_mono (Kd.R_far (p := ⟨gb527, 3, none⟩) (Kd.R_far (p := ⟨gb527, 2, none⟩) (Kd.R_far (p := ⟨gb527, 1, none⟩) (Kd.R_far (p := ⟨gb527, 0, none⟩) (Kd.R_mono HO_2.out (fun k_ hk => (⟨hk, hk.2⟩ : _ ∧ k_ ≠ gb527))) (fun _ hk => hk.2) (.int .i64 t522)) (fun _ hk => hk.2) (.string t523)) (fun _ hk => hk.2) (.int .i64 t524)) (fun _ hk => hk.2) (.bool t525)) (fun _ h_ => h_.1)))) (by decide) hg); replace BK527 := Aside0.mk (blk_grown (g := gb527) (o := .cells #[.int .i64 t522, .string t523, .int .i64 t524, .bool t525] 45 (0, 0)) (by (with_reducible repeat (first | refine blk_drewN ?_ _ | refine blk_drew ?_ | refine blk_alloc ?_ _)); refine blk_put (cs := #[.int .i64 t522, .string t523, .int .i64 t524, .bool false]) ?_ 3 _ rfl; (with_reducible repeat (first | refine blk_drewN ?_ _ | refine blk_drew ?_ | refine blk_alloc ?_ _)); refine blk_put (cs := #[.int .i64 t522, .string t523, .int .i64 0, .bool false]) ?_ 2 _ rfl; (with_reducible repeat (first | refine blk_drewN ?_ _ | refine blk_drew ?_ | refine blk_alloc ?_ _)); refine blk_put (cs := #[.int .i64 t522, .string (⟨#[]⟩ : ByteArray), .int .i64 0, .bool false]) ?_ 1 _ rfl; (with_reducible repeat (first | refine blk_drewN ?_ _ | refine blk_drew ?_ | refine blk_alloc ?_ _)); refine blk_put (cs := #[.int .i64 0, .string (⟨#[]⟩ : ByteArray), .int .i64 0, .bool false]) ?_ 0 _ rfl; exact uB <| BK527.out) hg (Kd.R_away HO_2.out (fun _ hk => hk.2))); replace HB := Aside0.mk (hb); have HO530 := Aside0.mk (ho); clear HO_2; clear ho hb hg hat))
      go_roundg k1
      case measure => have := HK1.out; omega
      case rel => exact ⟨(y528), (wrap64 (x13_1 + 1)), rs_, H', ⟨by have := HK1.out; omega⟩, ⟨by exact uR <| Kd.R_mono HO530.out (fun _ hk => trivial)⟩, ⟨uR HO_11.out⟩, ⟨bl⟩⟩
     ·
      rw [if_neg c10] at H
      have c10b0 : (t526 == 0) = false := beq_eq_false_iff_ne.mpr c10
      have c10b1 : (t526 != 0) = true := bne_iff_ne.mpr c10
      simp only [Option.some.injEq, Prod.mk.injEq] at H
      obtain ⟨rfl, rfl⟩ := H
      have p521 : 0 ≤ (x13_1 : Int) := od
      have q521 : x13_1 < (t518.length : Int) := od
      obtain ⟨ad521, e521, hx521_0⟩ := Kd.at_string (Kd.R_reads' HO_11.out).2.2 x13_1 p521 q521
      cases e521
      replace p521 := eq_true p521
      replace q521 := eq_true q521
      go_wp2_with (first | (refine gL (some 19) rfl Tryz.func77 #[.string (rdOf ByteArray.empty t518 x13_1)] ?_; (with_reducible refine (row_one.calls (hL := ld) k1 (rdOf ByteArray.empty t518 x13_1) t522 t523 t524 t525 t526 _ A9.out).mono ?_); rintro e w16 ⟨rfl, hb⟩; refine ⟨_, rfl, ?_⟩; replace HO_2 := cR HO_2 hb; replace HO_11 := cR HO_11 hb; replace HB := cW HB hb; (try clear hb)) | ((with_reducible refine gate_dst (N := 6) rfl ?_); refine bx (N := 6) #[.int .i64 0, .string (⟨#[]⟩ : ByteArray), .int .i64 0, .bool false] 45 ?_; intro gb527 hg w17 hbox hb; replace HO_2 := Aside0.mk (Kd.R_below (Kd.R_elderB (uR HO_2.out) gb527 (Nat.le_of_eq hg.symm)) hb); replace HO_11 := cR HO_11 hb; have BK527 := Aside0.mk (hbox); have GW527 := gw hg (uW HB.out); have GE527 := GW527; replace HB := cW HB hb; clear hb hbox hg; obtain ⟨hcz18_0, hcz18_1, hcz18_2, hcz18_3, hfz18_0, hfz18_1, hfz18_2, hfz18_3⟩ := z4 BK527))
      go_ret2
      exact ⟨_, re_, nl_, bl⟩
    ·
     rw [if_neg c6] at H
     have c6b0 : decide (x13_1 < (t518.length : Int)) = false := decide_eq_false c6
     clear c6
     obtain ⟨t531, A19, H⟩ := bs H
     try dsimp only at H
     by_cases c20 : t531 = true
     ·
      subst c20
      rw [if_pos rfl] at H
      simp only [Option.some.injEq, Prod.mk.injEq] at H
      obtain ⟨rfl, rfl⟩ := H
      obtain ⟨Ao21, co21, eo21⟩ := Kd.R_slice HO_2.out
      subst eo21
      go_wp2_with (first | (refine gL (some 31) rfl Tryz.func45 #[.slice Ao21 x2_1.length co21] ?_; (with_reducible refine (row_rise.calls k1 _ _ x2_1 true _ ?side1 ?side2 A19.out).mono ?_); (case side1 => exact uC <| (Kd.R_reads' HO_2.out).2.2); (case side2 => exact (Kd.R_reads' HO_2.out).2.1); rintro e w22 ⟨rfl, hb⟩; refine ⟨_, rfl, ?_⟩; replace HO_2 := cR HO_2 hb; replace HO_11 := cR HO_11 hb; replace HB := cW HB hb; (try clear hb)))
      go_ret2
      exact ⟨_, re_, uR HO_2.out, uW HB.out⟩
     ·
      replace c20 := Bool.eq_false_iff.mpr c20
      subst c20
      rw [if_neg (show ¬ (false = true) by decide)] at H
      simp only [Option.some.injEq, Prod.mk.injEq] at H
      obtain ⟨rfl, rfl⟩ := H
      obtain ⟨Ao23, co23, eo23⟩ := Kd.R_slice HO_2.out
      subst eo23
      go_wp2_with (first | (refine gL (some 31) rfl Tryz.func45 #[.slice Ao23 x2_1.length co23] ?_; (with_reducible refine (row_rise.calls k1 _ _ x2_1 false _ ?side1 ?side2 A19.out).mono ?_); (case side1 => exact uC <| (Kd.R_reads' HO_2.out).2.2); (case side2 => exact (Kd.R_reads' HO_2.out).2.1); rintro e w24 ⟨rfl, hb⟩; refine ⟨_, rfl, ?_⟩; replace HO_2 := cR HO_2 hb; replace HO_11 := cR HO_11 hb; replace HB := cW HB hb; (try clear hb)))
      go_ret2
      exact ⟨_, re_, nl_, uW HB.out⟩
end Go.Proofs.YtgcbejidponoaaaGreatDoor.X
