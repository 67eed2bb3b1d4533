/- Printed by a program of this session's own: what functions of the program compute, and that the machine computes it. No condition of its own. -/
import Derived.Test.YtgcbejidponoaaaGreatDoorM3
import Derived.Test.YtgcbejidponoaaaGreatDoorM8
import Derived.Test.YtgcbejidponoaaaGreatDoorM10
import Derived.Test.YtgcbejidponoaaaGreatDoorM6
import Derived.Test.YtgcbejidponoaaaGreatDoorM7
import Derived.Test.YtgcbejidponoaaaGreatDoorM9
namespace Go.Proofs.YtgcbejidponoaaaGreatDoor.X
open Go.RowKit Go.Proofs.YtgcbejidponoaaaGreatDoorW.PrintWords Go.Proofs.YtgcbejidponoaaaGreatDoorW.PrintLast Go.Proofs.YtgcbejidponoaaaGreatDoorW.PrintMore
attribute [local go_sem] max2_int min2_int max_two min_two max_three min_three max_four min_four
set_option linter.unusedVariables false
set_option linter.unusedSimpArgs false
set_option maxHeartbeats 8000000
set_option maxRecDepth 100000
def ebbtideref08_one.f (k : Nat) (a0 : ByteArray) : Option (Int × ByteArray × Int × Bool × Int) := (ebbtideref02_Split.f k a0 124).bind fun t514 => (if (t514.length : Int) = 3 then (if 0 < (t514.length : Int) then ((ebbtideref01_Read.f k (rdOf ByteArray.empty t514 0)).bind fun bt518 => (if bt518.2 = 0 then (if 1 < (t514.length : Int) then ((ebbtideref08_group.f k (rdOf ByteArray.empty t514 1)).bind fun t521 => (if t521 = 0 then (if 2 < (t514.length : Int) then ((ebbtideref01_Parse.f k (rdOf ByteArray.empty t514 2)).bind fun bt523 => (if bt523.2.2 = 0 then (some (bt518.1, rdOf ByteArray.empty t514 1, bt523.1, bt523.2.1, 0)) else (none))) else (none)) else (none))) else (none)) else (none))) else (none)) else (none))
theorem ebbtideref08_one.mono : ∀ a0 k, LeO (ebbtideref08_one.f k a0) (ebbtideref08_one.f (k + 1) a0) := by
 intro a0 k
 unfold ebbtideref08_one.f
 exact lo
instance ebbtideref08_one.mI {a0 k} : LeC (ebbtideref08_one.f k a0) (ebbtideref08_one.f (k + 1) a0) := ⟨ebbtideref08_one.mono _ _⟩
def ebbtideref08_one.T13 : Bool × List (List Nat × List Nat) := (true, [([], []), ([], []), ([1], [1]), ([2], [2]), ([], []), ([0, 3, 4], [0, 3, 4]), ([5, 0, 1, 2, 3, 4, 5], [5]), ([6, 0, 1, 2, 3, 4, 5, 6], [])])
def ebbtideref08_one.B13 : List Nat := [0, 0, 2, 6, 0, 31, 63, 127]
theorem ebbtideref08_one.tab13 : rtab .any (opsOf Tryz.f43 13) = ebbtideref08_one.T13 := by kernel_rfl
theorem ebbtideref08_one.bits13 : waitsOk ebbtideref08_one.T13.2 ebbtideref08_one.B13 = true := by kernel_rfl
theorem ebbtideref08_one.calls (k : Nat) (a0 : ByteArray) (r1 : Int) (r2 : ByteArray) (r3 : Int) (r4 : Bool) (r5 : Int) (w : World) (h : ebbtideref08_one.f k a0 = some (r1, r2, r3, r4, r5)) :
 Calls Tryz.prog 43 #[.string a0] w fun e w' => e = .returned (.tuple #[.agg #[.int .i64 r1, .string r2, .int .i64 r3, .bool r4], .int .i64 r5]) ∧ Below w.heap.size w w' := by
 have hu45 := Tryz.underlying45
 have hu43 := Tryz.underlying43
 have HB := Aside0.mk (Below.refl w.heap.size w)
 have H : ((ebbtideref02_Split.f k a0 124).bind fun t514 => (if (t514.length : Int) = 3 then (if 0 < (t514.length : Int) then ((ebbtideref01_Read.f k (rdOf ByteArray.empty t514 0)).bind fun bt518 => (if bt518.2 = 0 then (if 1 < (t514.length : Int) then ((ebbtideref08_group.f k (rdOf ByteArray.empty t514 1)).bind fun t521 => (if t521 = 0 then (if 2 < (t514.length : Int) then ((ebbtideref01_Parse.f k (rdOf ByteArray.empty t514 2)).bind fun bt523 => (if bt523.2.2 = 0 then (some (bt518.1, rdOf ByteArray.empty t514 1, bt523.1, bt523.2.1, 0)) else (none))) else (none)) else (none))) else (none)) else (none))) else (none)) else (none))) = some (r1, r2, r3, r4, r5) := h
 clear h
 obtain ⟨t514, A2, H⟩ := bs H
 try dsimp only at H
 by_cases c3 : (t514.length : Int) = 3
 ·
  rw [if_pos c3] at H
  have c3b0 : ((t514.length : Int) == 3) = true := beq_iff_eq.mpr c3
  have c3b1 : ((t514.length : Int) != 3) = false := bne_eq_false_iff_eq.mpr c3
  clear c3
  obtain ⟨c4, H⟩ := gd H
  have c4b0 : decide (0 < (t514.length : Int)) = true := decide_eq_true c4
  have c4b1 : decide (0 < t514.length) = true := decide_eq_true (by omega)
  clear c4
  obtain ⟨⟨t518, t519⟩, A5, H⟩ := bs H
  try dsimp only at H
  obtain ⟨c6, H⟩ := gd H
  have c6b0 : (t519 == 0) = true := beq_iff_eq.mpr c6
  have c6b1 : (t519 != 0) = false := bne_eq_false_iff_eq.mpr c6
  clear c6
  obtain ⟨c7, H⟩ := gd H
  have c7b0 : decide (1 < (t514.length : Int)) = true := decide_eq_true c7
  have c7b1 : decide (1 < t514.length) = true := decide_eq_true (by omega)
  clear c7
  obtain ⟨t521, A8, H⟩ := bs H
  try dsimp only at H
  obtain ⟨c9, H⟩ := gd H
  have c9b0 : (t521 == 0) = true := beq_iff_eq.mpr c9
  have c9b1 : (t521 != 0) = false := bne_eq_false_iff_eq.mpr c9
  clear c9
  obtain ⟨c10, H⟩ := gd H
  have c10b0 : decide (2 < (t514.length : Int)) = true := decide_eq_true c10
  have c10b1 : decide (2 < t514.length) = true := decide_eq_true (by omega)
  clear c10
  obtain ⟨⟨t523, t524, t525⟩, A11, H⟩ := bs H
  try dsimp only at H
  obtain ⟨c12, H⟩ := gd H
  have c12b0 : (t525 == 0) = true := beq_iff_eq.mpr c12
  have c12b1 : (t525 != 0) = false := bne_eq_false_iff_eq.mpr c12
  clear c12
  simp only [Option.some.injEq, Prod.mk.injEq] at H
  obtain ⟨rfl, rfl, rfl, rfl, rfl⟩ := H
  go_enter Tryz.func43, Tryz.ntmps43
  try go_wp2_with (first | ((with_reducible refine gate_dst (N := 2) rfl ?_); refine bx (N := 2) #[.int .i64 0, .string (⟨#[]⟩ : ByteArray), .int .i64 0, .bool false] 45 ?_; intro gb513 hg w13 hbox hb; have BK513 := Aside0.mk (hbox); have GW513 := gw hg (uW HB.out); have GE513 := GW513; replace HB := cW HB hb; clear hb hbox hg) | (refine gL (some 9) rfl Tryz.func41 #[.string a0, .int .u8 124] ?_; (with_reducible refine (ebbtideref02_Split.calls k a0 124 t514 _ A2.out).mono ?_); rintro e w14 ⟨v515, rfl, ho0, hb⟩; refine ⟨_, rfl, ?_⟩; have HO516 := Aside0.mk (Kd.R_lower ho0 (below_size bl)); replace BK513 := cB BK513 hb; replace HB := Aside0.mk (below_step bl hb); (try clear hb); (try clear ho0); obtain ⟨Ao15, co15, eo15⟩ := Kd.R_slice HO516.out; subst eo15; have p517 : 0 ≤ (0 : Int) := (by omega); have q517 : 0 < (t514.length : Int) := od; obtain ⟨ad517, e517, hx517_0⟩ := Kd.at_string (Kd.R_reads' HO516.out).2.2 0 p517 q517; cases e517; have qi517 : (0 < t514.length) = True := eq_true (by omega); (try rw [show ((0 : Int)).toNat = 0 from rfl] at hx517_0); (try rw [Addr.add_zero'] at hx517_0); replace p517 := eq_true p517; replace q517 := eq_true q517) | (refine gL (some 18) rfl Tryz.func60 #[.string (rdOf ByteArray.empty t514 0)] ?_; (with_reducible refine (ebbtideref01_Read.calls k (rdOf ByteArray.empty t514 0) t518 t519 _ A5.out).mono ?_); rintro e w' ⟨rfl, ⟨nd, rfl⟩⟩; refine ⟨_, rfl, ?_⟩; (try (rw [drewN_self w14]; generalize hq_ : World.drewN w14 _ = w14; have n0_ : Aside0 (Kd.R Kd.string 9 w14 w.heap.size (fun _ => True) (.slice (some ad517) t514.length co15) t514) := ⟨by rw [← hq_]; exact (uR HO516.out)⟩; have n1_ : Aside0 (w14.heap[gb513]? = some (.cells #[.int .i64 0, .string (⟨#[]⟩ : ByteArray), .int .i64 0, .bool false] 45 (0, 0))) := ⟨by rw [← hq_]; exact (uB BK513.out)⟩; have n2_ : Aside0 (Below w.heap.size w w14) := ⟨by rw [← hq_]; exact bl⟩; clear HO516 BK513 HB hq_; have HO516 := n0_; have BK513 := n1_; have HB := n2_; clear n0_ n1_ n2_)); have p520 : 0 ≤ (1 : Int) := (by omega); have q520 : 1 < (t514.length : Int) := od; obtain ⟨ad520, e520, hx520_0⟩ := Kd.at_string (Kd.R_reads' HO516.out).2.2 1 p520 q520; obtain rfl : ad517 = ad520 := (by injection e520); (try simp only [show (1 : Int).toNat = 1 from rfl, Nat.reduceMul, Nat.reduceEqDiff, Go.Addr.add, ↓reduceIte] at hx520_0); have qi520 : (1 < t514.length) = True := eq_true (by omega); (try rw [show ((1 : Int)).toNat = 1 from rfl] at hx520_0); replace p520 := eq_true p520; replace q520 := eq_true q520) | (refine gL (some 28) rfl Tryz.func51 #[.string (rdOf ByteArray.empty t514 1)] ?_; (with_reducible refine (ebbtideref08_group.calls k (rdOf ByteArray.empty t514 1) t521 _ A8.out).mono ?_); rintro e w16 ⟨rfl, hb⟩; refine ⟨_, rfl, ?_⟩; replace HO516 := cR HO516 hb; replace BK513 := cB BK513 hb; replace HB := Aside0.mk (below_step bl hb); (try clear hb); have p522 : 0 ≤ (2 : Int) := (by omega); have q522 : 2 < (t514.length : Int) := od; obtain ⟨ad522, e522, hx522_0⟩ := Kd.at_string (Kd.R_reads' HO516.out).2.2 2 p522 q522; obtain rfl : ad517 = ad522 := (by injection e522); (try simp only [show (2 : Int).toNat = 2 from rfl, Nat.reduceMul, Nat.reduceEqDiff, Go.Addr.add, ↓reduceIte] at hx522_0); have qi522 : (2 < t514.length) = True := eq_true (by omega); (try rw [show ((2 : Int)).toNat = 2 from rfl] at hx522_0); replace p522 := eq_true p522; replace q522 := eq_true q522) | (refine gL (some 37) rfl Tryz.func63 #[.string (rdOf ByteArray.empty t514 2)] ?_; (with_reducible refine (ebbtideref01_Parse.calls k (rdOf ByteArray.empty t514 2) t523 t524 t525 _ A11.out).mono ?_); rintro e w17 ⟨rfl, hb⟩; refine ⟨_, rfl, ?_⟩; replace HO516 := cR HO516 hb; replace BK513 := cB BK513 hb; replace HB := Aside0.mk (below_step bl hb); (try clear hb)) | ((with_reducible refine gate_dst (N := 7) rfl ?_); refine bx (N := 7) #[.int .i64 0, .bool false] 43 ?_; intro gb526 hg w18 hbox hb; replace HO516 := cR HO516 hb; have BK526 := Aside0.mk (hbox); have GW526 := gw hg bl; have GE526 := GW526; replace HB := Aside0.mk (below_step bl hb); have NB513_526 := Aside0.mk ((by rw [hg]; exact Nat.ne_of_lt (blk_lt (g := gb513) (o := .cells #[.int .i64 0, .string (⟨#[]⟩ : ByteArray), .int .i64 0, .bool false] 45 (0, 0)) (uB BK513.out)) : gb513 ≠ gb526)); have NB526_513 := Aside0.mk ((by rw [hg]; exact Nat.ne_of_gt (blk_lt (g := gb513) (o := .cells #[.int .i64 0, .string (⟨#[]⟩ : ByteArray), .int .i64 0, .bool false] 45 (0, 0)) (uB BK513.out)) : gb526 ≠ gb513)); replace BK513 := cB BK513 hb; clear hb hbox hg; have hnb19 := NB526_513.out; have hnc19 := NB513_526.out; obtain ⟨hcz20_0, hcz20_1, hfz20_0, hfz20_1⟩ := z2 BK526))
  have n0_ : Aside0 (Kd.R Kd.string 9 ((w18.setCell ⟨gb526, 0, none⟩ (.int .i64 t523)).setCell ⟨gb526, 1, none⟩ (.bool t524)) w.heap.size (fun _ => True) (.slice (some ad517) t514.length co15) t514) := ⟨by exact uR <| Kd.R_mono (Kd.R_far (p := ⟨gb526, 1, none⟩) (Kd.R_far (p := ⟨gb526, 0, none⟩) (Kd.R_types HO516.out BK526.out (by decide)) (fun _ hk => hk.2) (.int .i64 t523)) (fun _ hk => hk.2) (.bool t524)) (fun _ hk => trivial)⟩
  have n1_ : Aside0 (((w18.setCell ⟨gb526, 0, none⟩ (.int .i64 t523)).setCell ⟨gb526, 1, none⟩ (.bool t524)).heap[gb513]? = some (.cells #[.int .i64 0, .string (⟨#[]⟩ : ByteArray), .int .i64 0, .bool false] 45 (0, 0))) := ⟨by (with_reducible repeat (first | refine blk_drewN ?_ _ | refine blk_drew ?_ | refine blk_alloc ?_ _)); refine blk_far ?_ NB513_526.out _; (with_reducible repeat (first | refine blk_drewN ?_ _ | refine blk_drew ?_ | refine blk_alloc ?_ _)); refine blk_far ?_ NB513_526.out _; exact uB <| BK513.out⟩
  have n2_ : Aside0 (((w18.setCell ⟨gb526, 0, none⟩ (.int .i64 t523)).setCell ⟨gb526, 1, none⟩ (.bool t524)).heap[gb526]? = some (.cells #[.int .i64 t523, .bool t524] 43 (0, 0))) := ⟨by (with_reducible repeat (first | refine blk_drewN ?_ _ | refine blk_drew ?_ | refine blk_alloc ?_ _)); refine blk_put (cs := #[.int .i64 t523, .bool false]) ?_ 1 _ rfl; (with_reducible repeat (first | refine blk_drewN ?_ _ | refine blk_drew ?_ | refine blk_alloc ?_ _)); refine blk_put (cs := #[.int .i64 0, .bool false]) ?_ 0 _ rfl; exact uB <| BK526.out⟩
  have n3_ : Aside0 (Below w.heap.size w ((w18.setCell ⟨gb526, 0, none⟩ (.int .i64 t523)).setCell ⟨gb526, 1, none⟩ (.bool t524))) := ⟨bl⟩
  (try clear HO516)
  (try clear BK513)
  (try clear BK526)
  (try clear HB)
  generalize ((w18.setCell ⟨gb526, 0, none⟩ (.int .i64 t523)).setCell ⟨gb526, 1, none⟩ (.bool t524)) = w21 at n0_ n1_ n2_ n3_ ⊢
  have HO516 := n0_
  have BK513 := n1_
  have BK526 := n2_
  have HB := n3_
  clear n0_ n1_ n2_ n3_
  have n0_ := Aside0.mk (Kd.R_drew HO516.out)
  have n1_ := Aside0.mk (blk_drew BK513.out)
  have n2_ := Aside0.mk (blk_drew BK526.out)
  have n3_ := Aside0.mk (below_drew1 HB.out)
  clear HO516
  clear BK513
  clear BK526
  clear HB
  have HO516 := n0_
  have BK513 := n1_
  have BK526 := n2_
  have HB := n3_
  clear n0_ n1_ n2_ n3_
  have p527 : 0 ≤ (1 : Int) := (by omega)
  have q527 : 1 < (t514.length : Int) := od
  obtain ⟨ad527, e527, hx527_0⟩ := Kd.at_string (Kd.R_reads' HO516.out).2.2 1 p527 q527
  obtain rfl : ad517 = ad527 := (by injection e527)
  (try simp only [show (1 : Int).toNat = 1 from rfl, Nat.reduceMul, Nat.reduceEqDiff, Go.Addr.add, ↓reduceIte] at hx527_0)
  have qi527 : (1 < t514.length) = True := eq_true (by omega)
  (try rw [show ((1 : Int)).toNat = 1 from rfl] at hx527_0)
  replace p527 := eq_true p527
  replace q527 := eq_true q527
  refine start_ (n := 8) (S := fun w' => w'.cell? ⟨gb526, 0, none⟩ = some (.int .i64 t523) ∧ w'.cell? ⟨gb526, 1, none⟩ = some (.bool t524) ∧ w'.cell? ⟨ad517.block, ad517.off + 1, none⟩ = some (.string (rdOf ByteArray.empty t514 1))) (ds := []) #[false, false, false, false, false, false, false, false] (by kernel_rfl) rfl rfl ⟨(blk_cell BK526.out 0).trans rfl, (blk_cell BK526.out 1).trans rfl, hx527_0⟩ (fun hHeld => ?_); refine with_tabW ebbtideref08_one.tab13 ebbtideref08_one.bits13 (fun HT_ HW_ => ?_)
  generalize w21.drew = w22 at HO516 BK513 BK526 HB hx527_0 hHeld ⊢
  refine p1 0 (some 44) ?_
  refine p1 1 (some 45) ?_
  refine p1 2 (some 46) ?_
  refine t1 3 (some 47) rfl rfl hHeld (Or.inl ⟨by rfl, by rintro w' ⟨s0, s1, s2⟩; go_simp; with_reducible rfl⟩) ?_
  refine t1 4 (some 48) rfl rfl hHeld (Or.inl ⟨by rfl, by rintro w' ⟨s0, s1, s2⟩; go_simp; with_reducible rfl⟩) ?_
  refine p1 5 (some 49) ?_
  refine one_ (i := 6) (N := none) #[true, true, true, true, true, true, true, false] rfl rfl (one_of HT_.out (by kernel_rfl)) (by decide) (fun K hK => ?_)
  have hs23 : w22.cell? ⟨gb513, 0, none⟩ = some (.int .i64 0) := (blk_cell BK513.out 0).trans rfl
  have hfs23 := blk_frozen BK513.out 0
  have hns23_1 := NB526_513.out
  have hms23_1 := NB513_526.out
  have hs24 : w22.cell? ⟨gb513, 1, none⟩ = some (.string (⟨#[]⟩ : ByteArray)) := (blk_cell BK513.out 1).trans rfl
  have hfs24 := blk_frozen BK513.out 1
  have hns24_1 := NB526_513.out
  have hms24_1 := NB513_526.out
  have hs25 : w22.cell? ⟨gb513, 2, none⟩ = some (.int .i64 0) := (blk_cell BK513.out 2).trans rfl
  have hfs25 := blk_frozen BK513.out 2
  have hns25_1 := NB526_513.out
  have hms25_1 := NB513_526.out
  have hs26 : w22.cell? ⟨gb513, 3, none⟩ = some (.bool false) := (blk_cell BK513.out 3).trans rfl
  have hfs26 := blk_frozen BK513.out 3
  have hns26_1 := NB526_513.out
  have hms26_1 := NB513_526.out
  refine skip_ (w1 := ?_) (by rfl) rfl ?_ ?_
  rotate_left
  ·
   go_simp
   rfl
  refine hK.out _ _ ⟨((cell_far (p := ⟨gb513, _, none⟩) NB526_513.out _).trans (((cell_far (p := ⟨gb513, _, none⟩) NB526_513.out _).trans (((cell_far (p := ⟨gb513, _, none⟩) NB526_513.out _).trans (((cell_far (p := ⟨gb513, _, none⟩) NB526_513.out _).trans (hHeld.1)))))))), ((cell_far (p := ⟨gb513, _, none⟩) NB526_513.out _).trans (((cell_far (p := ⟨gb513, _, none⟩) NB526_513.out _).trans (((cell_far (p := ⟨gb513, _, none⟩) NB526_513.out _).trans (((cell_far (p := ⟨gb513, _, none⟩) NB526_513.out _).trans (hHeld.2.1)))))))), ((cell_far (p := ⟨gb513, _, none⟩) (by first | exact Kd.own_blk (Kd.R_ne HO516.out BK513.out (by decide)) | (rw [add_block]; exact Kd.own_blk (Kd.R_ne HO516.out BK513.out (by decide))) | (show (Addr.add _ _).block ≠ _; rw [add_block]; exact Kd.own_blk (Kd.R_ne HO516.out BK513.out (by decide))) | (dsimp only; exact Kd.own_blk (Kd.R_ne HO516.out BK513.out (by decide)))) _).trans (((cell_far (p := ⟨gb513, _, none⟩) (by first | exact Kd.own_blk (Kd.R_ne HO516.out BK513.out (by decide)) | (rw [add_block]; exact Kd.own_blk (Kd.R_ne HO516.out BK513.out (by decide))) | (show (Addr.add _ _).block ≠ _; rw [add_block]; exact Kd.own_blk (Kd.R_ne HO516.out BK513.out (by decide))) | (dsimp only; exact Kd.own_blk (Kd.R_ne HO516.out BK513.out (by decide)))) _).trans (((cell_far (p := ⟨gb513, _, none⟩) (by first | exact Kd.own_blk (Kd.R_ne HO516.out BK513.out (by decide)) | (rw [add_block]; exact Kd.own_blk (Kd.R_ne HO516.out BK513.out (by decide))) | (show (Addr.add _ _).block ≠ _; rw [add_block]; exact Kd.own_blk (Kd.R_ne HO516.out BK513.out (by decide))) | (dsimp only; exact Kd.own_blk (Kd.R_ne HO516.out BK513.out (by decide)))) _).trans (((cell_far (p := ⟨gb513, _, none⟩) (by first | exact Kd.own_blk (Kd.R_ne HO516.out BK513.out (by decide)) | (rw [add_block]; exact Kd.own_blk (Kd.R_ne HO516.out BK513.out (by decide))) | (show (Addr.add _ _).block ≠ _; rw [add_block]; exact Kd.own_blk (Kd.R_ne HO516.out BK513.out (by decide))) | (dsimp only; exact Kd.own_blk (Kd.R_ne HO516.out BK513.out (by decide)))) _).trans (hHeld.2.2))))))))⟩ (fun hHeld => ?_)
  clear hK K
  refine p1 7 (some 3) ?_
  refine done_ (done_of HT_.out (by kernel_rfl)) ?_
  try go_wp2
  refine bodyPost_ret (results_ct rfl _ _ gb513 45 #[.int .i64 t518, .string (rdOf ByteArray.empty t514 1), .int .i64 t523, .bool t524] (0, 0) _ rfl (by (with_reducible repeat (first | refine blk_drewN ?_ _ | refine blk_drew ?_ | refine blk_alloc ?_ _)); refine blk_put (cs := #[.int .i64 t518, .string (rdOf ByteArray.empty t514 1), .int .i64 t523, .bool false]) ?_ 3 _ rfl; (with_reducible repeat (first | refine blk_drewN ?_ _ | refine blk_drew ?_ | refine blk_alloc ?_ _)); refine blk_put (cs := #[.int .i64 t518, .string (rdOf ByteArray.empty t514 1), .int .i64 0, .bool false]) ?_ 2 _ rfl; (with_reducible repeat (first | refine blk_drewN ?_ _ | refine blk_drew ?_ | refine blk_alloc ?_ _)); refine blk_put (cs := #[.int .i64 t518, .string (⟨#[]⟩ : ByteArray), .int .i64 0, .bool false]) ?_ 1 _ rfl; (with_reducible repeat (first | refine blk_drewN ?_ _ | refine blk_drew ?_ | refine blk_alloc ?_ _)); refine blk_put (cs := #[.int .i64 0, .string (⟨#[]⟩ : ByteArray), .int .i64 0, .bool false]) ?_ 0 _ rfl; exact uB <| BK513.out) Tryz.underlying45 rfl (by kernel_rfl)) rfl ?_
  exact ⟨re_, bl⟩
 ·
  rw [if_neg c3] at H
  exact absurd H (by simp)
def ebbtideref08_Before.f (a0_0 : Int) (a0_1 : ByteArray) (a0_2 : Int) (a0_3 : Bool) (a1_0 : Int) (a1_1 : ByteArray) (a1_2 : Int) (a1_3 : Bool) : Option (Bool) := if a0_0 < a1_0 then (some true) else (if a0_0 = a1_0 then (some (Op.bytesLess a0_1.toList a1_1.toList)) else (some false))
theorem ebbtideref08_Before.calls (a0_0 : Int) (a0_1 : ByteArray) (a0_2 : Int) (a0_3 : Bool) (a1_0 : Int) (a1_1 : ByteArray) (a1_2 : Int) (a1_3 : Bool) (r : Bool) (w : World) (h : ebbtideref08_Before.f a0_0 a0_1 a0_2 a0_3 a1_0 a1_1 a1_2 a1_3 = some r) :
 Calls Tryz.prog 37 #[.agg #[.int .i64 a0_0, .string a0_1, .int .i64 a0_2, .bool a0_3], .agg #[.int .i64 a1_0, .string a1_1, .int .i64 a1_2, .bool a1_3]] w fun e w' => e = .returned (.bool r) ∧ Below w.heap.size w w' := by
 have hu45 := Tryz.underlying45
 have HB := Aside0.mk (Below.refl w.heap.size w)
 have H : (if a0_0 < a1_0 then (some true) else (if a0_0 = a1_0 then (some (Op.bytesLess a0_1.toList a1_1.toList)) else (some false))) = some r := h
 clear h
 by_cases c3 : a0_0 < a1_0
 ·
  rw [if_pos c3] at H
  have c3b0 : decide (a0_0 < a1_0) = true := decide_eq_true c3
  clear c3
  obtain rfl := Option.some.inj H
  go_enter Tryz.func37, Tryz.ntmps37
  go_wp2_with (first | ((with_reducible refine gate_dst (N := 2) rfl ?_); refine bx (N := 2) #[.int .i64 a0_0, .string a0_1, .int .i64 a0_2, .bool a0_3] 45 ?_; intro gb528 hg w4 hbox hb; have BK528 := Aside0.mk (hbox); have GW528 := gw hg (uW HB.out); have GE528 := GW528; replace HB := cW HB hb; clear hb hbox hg) | ((with_reducible refine gate_dst (N := 3) rfl ?_); refine bx (N := 3) #[.int .i64 a1_0, .string a1_1, .int .i64 a1_2, .bool a1_3] 45 ?_; intro gb529 hg w5 hbox hb; have BK529 := Aside0.mk (hbox); have GW529 := gw hg bl; have GE529 := GW529; replace HB := Aside0.mk (below_step bl hb); have NB528_529 := Aside0.mk ((by rw [hg]; exact Nat.ne_of_lt (blk_lt (g := gb528) (o := .cells #[.int .i64 a0_0, .string a0_1, .int .i64 a0_2, .bool a0_3] 45 (0, 0)) (uB BK528.out)) : gb528 ≠ gb529)); have NB529_528 := Aside0.mk ((by rw [hg]; exact Nat.ne_of_gt (blk_lt (g := gb528) (o := .cells #[.int .i64 a0_0, .string a0_1, .int .i64 a0_2, .bool a0_3] 45 (0, 0)) (uB BK528.out)) : gb529 ≠ gb528)); replace BK528 := cB BK528 hb; clear hb hbox hg; have hnb6 := NB528_529.out; have hnc6 := NB529_528.out; obtain ⟨hcz7_0, hcz7_1, hcz7_2, hcz7_3, hfz7_0, hfz7_1, hfz7_2, hfz7_3⟩ := z4 BK528; obtain ⟨hcz8_0, hcz8_1, hcz8_2, hcz8_3, hfz8_0, hfz8_1, hfz8_2, hfz8_3⟩ := z4 BK529))
  go_ret
  exact ⟨re_, bl⟩
 ·
  rw [if_neg c3] at H
  have c3b0 : decide (a0_0 < a1_0) = false := decide_eq_false c3
  clear c3
  by_cases c9 : a0_0 = a1_0
  ·
   rw [if_pos c9] at H
   have c9b0 : (a0_0 == a1_0) = true := beq_iff_eq.mpr c9
   have c9b1 : (a0_0 != a1_0) = false := bne_eq_false_iff_eq.mpr c9
   clear c9
   obtain rfl := Option.some.inj H
   go_enter Tryz.func37, Tryz.ntmps37
   go_wp2_with (first | ((with_reducible refine gate_dst (N := 2) rfl ?_); refine bx (N := 2) #[.int .i64 a0_0, .string a0_1, .int .i64 a0_2, .bool a0_3] 45 ?_; intro gb528 hg w10 hbox hb; have BK528 := Aside0.mk (hbox); have GW528 := gw hg (uW HB.out); have GE528 := GW528; replace HB := cW HB hb; clear hb hbox hg) | ((with_reducible refine gate_dst (N := 3) rfl ?_); refine bx (N := 3) #[.int .i64 a1_0, .string a1_1, .int .i64 a1_2, .bool a1_3] 45 ?_; intro gb529 hg w11 hbox hb; have BK529 := Aside0.mk (hbox); have GW529 := gw hg bl; have GE529 := GW529; replace HB := Aside0.mk (below_step bl hb); have NB528_529 := Aside0.mk ((by rw [hg]; exact Nat.ne_of_lt (blk_lt (g := gb528) (o := .cells #[.int .i64 a0_0, .string a0_1, .int .i64 a0_2, .bool a0_3] 45 (0, 0)) (uB BK528.out)) : gb528 ≠ gb529)); have NB529_528 := Aside0.mk ((by rw [hg]; exact Nat.ne_of_gt (blk_lt (g := gb528) (o := .cells #[.int .i64 a0_0, .string a0_1, .int .i64 a0_2, .bool a0_3] 45 (0, 0)) (uB BK528.out)) : gb529 ≠ gb528)); replace BK528 := cB BK528 hb; clear hb hbox hg; have hnb12 := NB528_529.out; have hnc12 := NB529_528.out; obtain ⟨hcz13_0, hcz13_1, hcz13_2, hcz13_3, hfz13_0, hfz13_1, hfz13_2, hfz13_3⟩ := z4 BK528; obtain ⟨hcz14_0, hcz14_1, hcz14_2, hcz14_3, hfz14_0, hfz14_1, hfz14_2, hfz14_3⟩ := z4 BK529))
   go_ret
   exact ⟨re_, bl⟩
  ·
   rw [if_neg c9] at H
   have c9b0 : (a0_0 == a1_0) = false := beq_eq_false_iff_ne.mpr c9
   have c9b1 : (a0_0 != a1_0) = true := bne_iff_ne.mpr c9
   obtain rfl := Option.some.inj H
   go_enter Tryz.func37, Tryz.ntmps37
   go_wp2_with (first | ((with_reducible refine gate_dst (N := 2) rfl ?_); refine bx (N := 2) #[.int .i64 a0_0, .string a0_1, .int .i64 a0_2, .bool a0_3] 45 ?_; intro gb528 hg w15 hbox hb; have BK528 := Aside0.mk (hbox); have GW528 := gw hg (uW HB.out); have GE528 := GW528; replace HB := cW HB hb; clear hb hbox hg) | ((with_reducible refine gate_dst (N := 3) rfl ?_); refine bx (N := 3) #[.int .i64 a1_0, .string a1_1, .int .i64 a1_2, .bool a1_3] 45 ?_; intro gb529 hg w16 hbox hb; have BK529 := Aside0.mk (hbox); have GW529 := gw hg bl; have GE529 := GW529; replace HB := Aside0.mk (below_step bl hb); have NB528_529 := Aside0.mk ((by rw [hg]; exact Nat.ne_of_lt (blk_lt (g := gb528) (o := .cells #[.int .i64 a0_0, .string a0_1, .int .i64 a0_2, .bool a0_3] 45 (0, 0)) (uB BK528.out)) : gb528 ≠ gb529)); have NB529_528 := Aside0.mk ((by rw [hg]; exact Nat.ne_of_gt (blk_lt (g := gb528) (o := .cells #[.int .i64 a0_0, .string a0_1, .int .i64 a0_2, .bool a0_3] 45 (0, 0)) (uB BK528.out)) : gb529 ≠ gb528)); replace BK528 := cB BK528 hb; clear hb hbox hg; have hnb17 := NB528_529.out; have hnc17 := NB529_528.out; obtain ⟨hcz18_0, hcz18_1, hcz18_2, hcz18_3, hfz18_0, hfz18_1, hfz18_2, hfz18_3⟩ := z4 BK528; obtain ⟨hcz19_0, hcz19_1, hcz19_2, hcz19_3, hfz19_0, hfz19_1, hfz19_2, hfz19_3⟩ := z4 BK529))
   go_ret
   exact ⟨re_, bl⟩
def ebbtideref08_rise.l0 : Nat → List (S45) → Int → Option (Bool)
 | 0, _, _ => none
 | k + 1, x0, x3 => if x3 < (x0.length : Int) then (if 0 ≤ (wrap64 (x3 - 1)) then (if (wrap64 (x3 - 1)) < (x0.length : Int) then (if 0 ≤ x3 then ((ebbtideref08_Before.f ((rd_T45 x0 (wrap64 (x3 - 1))).f0) ((rd_T45 x0 (wrap64 (x3 - 1))).f1) ((rd_T45 x0 (wrap64 (x3 - 1))).f2.f0) ((rd_T45 x0 (wrap64 (x3 - 1))).f2.f1) ((rd_T45 x0 x3).f0) ((rd_T45 x0 x3).f1) ((rd_T45 x0 x3).f2.f0) ((rd_T45 x0 x3).f2.f1)).bind fun t532 => (if t532 = true then (ebbtideref08_rise.l0 k x0 (wrap64 (x3 + 1))) else (some false))) else (none)) else (none)) else (none)) else (some true)
def ebbtideref08_rise.f (k : Nat) (l0 : List (S45)) : Option (Bool) := ebbtideref08_rise.l0 k l0 1
theorem ebbtideref08_rise.mono_l : ∀ k, (∀ y0 y1, LeC (ebbtideref08_rise.l0 k y0 y1) (ebbtideref08_rise.l0 (k + 1) y0 y1))
 | 0 => fun _ _ => ⟨fun r h => by simp [ebbtideref08_rise.l0] at h⟩
 | k + 1 => by have ih0 := ebbtideref08_rise.mono_l k; exact fun _ _ => by unfold ebbtideref08_rise.l0; exact lm
theorem ebbtideref08_rise.mono : ∀ a0 k, LeO (ebbtideref08_rise.f k a0) (ebbtideref08_rise.f (k + 1) a0) := by
 intro a0 k
 have ih0 := ebbtideref08_rise.mono_l k
 unfold ebbtideref08_rise.f
 exact lo
instance ebbtideref08_rise.mI {a0 k} : LeC (ebbtideref08_rise.f k a0) (ebbtideref08_rise.f (k + 1) a0) := ⟨ebbtideref08_rise.mono _ _⟩
def ebbtideref08_rise.T4 : Bool × List (List Nat × List Nat) := (true, [([], []), ([], []), ([1], [1]), ([0, 2], [0, 2]), ([3], [3]), ([], []), ([], []), ([5, 6], [5, 6]), ([7], [7]), ([4, 8], [4, 8]), ([9], [9])])
def ebbtideref08_rise.B4 : List Nat := [0, 0, 2, 7, 15, 0, 0, 96, 224, 511, 1023]
theorem ebbtideref08_rise.tab4 : rtab .any (opsOf Tryz.f44 4) = ebbtideref08_rise.T4 := by kernel_rfl
theorem ebbtideref08_rise.bits4 : waitsOk ebbtideref08_rise.T4.2 ebbtideref08_rise.B4 = true := by kernel_rfl
theorem ebbtideref08_rise.calls (k : Nat) (A0 : Option Addr) (c0 : Nat) (l0 : List (S45)) (r : Bool) (w : World) (hr0 : Kd.C k45 w A0 l0.length l0) (hc0 : l0.length ≤ c0) (h : ebbtideref08_rise.f k l0 = some r) :
 Calls Tryz.prog 44 #[.slice A0 l0.length c0] w fun e w' => e = .returned (.bool r) ∧ Below w.heap.size w w' := by
 have hu45 := Tryz.underlying45
 have HR0 := Aside0.mk hr0
 have HC0 := Aside0.mk hc0
 clear hr0 hc0
 have HB := Aside0.mk (Below.refl w.heap.size w)
 have H : (ebbtideref08_rise.l0 k l0 1) = some r := h
 clear h
 have H' := Aside0.mk H
 clear H
 go_enter Tryz.func44, Tryz.ntmps44
 go_wp2
 go_loopg [3] k (fun kq v3 w' => ∃ (x3_1 : Int), v3 = .int .i64 x3_1 ∧ Aside0 (ebbtideref08_rise.l0 kq l0 x3_1 = some r) ∧ Aside0 (kq ≤ k) ∧ Aside0 (Below w.heap.size w w'))
 case atStart => exact ⟨(1), rs_, H', ⟨Nat.le_refl _⟩, ⟨uW HB.out⟩⟩
 case round =>
  clear H'
  obtain ⟨x3_1, rfl, HA, HK1, HB⟩ := hrel
  cases gk with
  | zero => exact absurd HA.out (by simp [ebbtideref08_rise.l0])
  | succ k1 =>
   have H := HA.out
   clear HA
   simp only [ebbtideref08_rise.l0] at H
   by_cases c2 : x3_1 < (l0.length : Int)
   ·
    rw [if_pos c2] at H
    have c2b0 : decide (x3_1 < (l0.length : Int)) = true := decide_eq_true c2
    clear c2
    obtain ⟨ji3, hji3⟩ : ∃ j_ : Int, (wrap64 (x3_1 - 1)) = j_ := ⟨_, rfl⟩
    (first | rw [hji3] at H | simp only [hji3] at H)
    have hji3w : (IntKind.i64.wrap (x3_1 - 1)) = ji3 := (i64_w _).trans hji3
    obtain ⟨c4b0, H⟩ := gdd H
    obtain ⟨c5b0, H⟩ := gdd H
    obtain ⟨c6b0, H⟩ := gdd H
    obtain ⟨t532, A7, H⟩ := bs H
    try dsimp only at H
    by_cases c8 : t532 = true
    ·
     subst c8
     rw [if_pos rfl] at H
     have H' := Aside0.mk H
     clear H
     try go_wp2
     have n0_ := Aside0.mk (below_drew1 HB.out)
     clear HB
     have HB := n0_
     clear n0_
     have p530 : 0 ≤ ((ji3) : Int) := od
     have q530 : (ji3) < (l0.length : Int) := od
     obtain ⟨ad530, e530, hx530_0, hx530_1, hx530_2, hx530_3⟩ := at_T45 HR0.out (ji3) p530 q530
     have hw530_3 := hx530_3
     have hw530_2 := hx530_2
     have hw530_1 := hx530_1
     have hw530_0 := hx530_0
     cases e530
     replace hx530_0 := kc HB hx530_0
     replace hx530_1 := kc HB hx530_1
     replace hx530_2 := kc HB hx530_2
     replace hx530_3 := kc HB hx530_3
     replace p530 := eq_true p530
     replace q530 := eq_true q530
     have p531 : 0 ≤ (x3_1 : Int) := od
     have q531 : x3_1 < (l0.length : Int) := od
     obtain ⟨ad531, e531, hx531_0, hx531_1, hx531_2, hx531_3⟩ := at_T45 HR0.out x3_1 p531 q531
     have hw531_3 := hx531_3
     have hw531_2 := hx531_2
     have hw531_1 := hx531_1
     have hw531_0 := hx531_0
     obtain rfl : ad530 = ad531 := (by injection e531)
     replace hx531_0 := kc HB hx531_0
     replace hx531_1 := kc HB hx531_1
     replace hx531_2 := kc HB hx531_2
     replace hx531_3 := kc HB hx531_3
     replace p531 := eq_true p531
     replace q531 := eq_true q531
     refine start_ (n := 11) (S := fun w' => w'.cell? (ad530.add (((ji3)).toNat * 4)) = some (.int .i64 ((rd_T45 l0 (ji3)).f0)) ∧ w'.cell? ⟨(ad530.add (((ji3)).toNat * 4)).block, (ad530.add (((ji3)).toNat * 4)).off + 1, none⟩ = some (.string ((rd_T45 l0 (ji3)).f1)) ∧ w'.cell? ⟨(ad530.add (((ji3)).toNat * 4)).block, (ad530.add (((ji3)).toNat * 4)).off + 2, none⟩ = some (.int .i64 ((rd_T45 l0 (ji3)).f2.f0)) ∧ w'.cell? ⟨(ad530.add (((ji3)).toNat * 4)).block, (ad530.add (((ji3)).toNat * 4)).off + 3, none⟩ = some (.bool ((rd_T45 l0 (ji3)).f2.f1)) ∧ w'.cell? (ad530.add ((x3_1).toNat * 4)) = some (.int .i64 ((rd_T45 l0 x3_1).f0)) ∧ w'.cell? ⟨(ad530.add ((x3_1).toNat * 4)).block, (ad530.add ((x3_1).toNat * 4)).off + 1, none⟩ = some (.string ((rd_T45 l0 x3_1).f1)) ∧ w'.cell? ⟨(ad530.add ((x3_1).toNat * 4)).block, (ad530.add ((x3_1).toNat * 4)).off + 2, none⟩ = some (.int .i64 ((rd_T45 l0 x3_1).f2.f0)) ∧ w'.cell? ⟨(ad530.add ((x3_1).toNat * 4)).block, (ad530.add ((x3_1).toNat * 4)).off + 3, none⟩ = some (.bool ((rd_T45 l0 x3_1).f2.f1))) (ds := []) #[false, false, false, false, false, false, false, false, false, false, false] (by kernel_rfl) rfl rfl ⟨(kc HB hw530_0), (kc HB hw530_1), (kc HB hw530_2), (kc HB hw530_3), (kc HB hw531_0), (kc HB hw531_1), (kc HB hw531_2), (kc HB hw531_3)⟩ (fun hHeld => ?_); refine with_tabW ebbtideref08_rise.tab4 ebbtideref08_rise.bits4 (fun HT_ HW_ => ?_)
     generalize wr.drew = w9 at HB hx530_0 hx530_1 hx530_2 hx530_3 hx531_0 hx531_1 hx531_2 hx531_3 hHeld ⊢
     refine p1 0 (some 10) ?_
     refine p1 1 (some 11) ?_
     refine p1 2 (some 12) ?_
     refine p1 3 (some 13) ?_
     refine p1 5 (some 15) ?_
     refine p1 6 (some 16) ?_
     refine p1 7 (some 17) ?_
     refine t1 4 (some 14) rfl rfl hHeld (Or.inl ⟨by rfl, by rintro w' ⟨s0, s1, s2, s3, s4, s5, s6, s7⟩; go_simp; with_reducible rfl⟩) ?_
     refine t1 8 (some 18) rfl rfl hHeld (Or.inl ⟨by rfl, by rintro w' ⟨s0, s1, s2, s3, s4, s5, s6, s7⟩; go_simp; with_reducible rfl⟩) ?_
     refine one_ (i := 9) (N := some 19) #[true, true, true, true, true, true, true, true, true, true, false] rfl rfl (one_of HT_.out (by kernel_rfl)) (by decide) (fun K hK => ?_)
     refine goes_ Tryz.func37 (by kernel_rfl) rfl #[.agg #[.int .i64 ((rd_T45 l0 (ji3)).f0), .string ((rd_T45 l0 (ji3)).f1), .int .i64 ((rd_T45 l0 (ji3)).f2.f0), .bool ((rd_T45 l0 (ji3)).f2.f1)], .agg #[.int .i64 ((rd_T45 l0 x3_1).f0), .string ((rd_T45 l0 x3_1).f1), .int .i64 ((rd_T45 l0 x3_1).f2.f0), .bool ((rd_T45 l0 x3_1).f2.f1)]] (by rfl) rfl rfl (by (try simp only [List.map_toArray, List.map_cons, List.map_nil]); first | done | (simp only [hji3]; rfl) | rfl | (simp only [List.length_drop, List.length_take]; rfl)) ?_
     with_reducible refine (ebbtideref08_Before.calls ((rd_T45 l0 (ji3)).f0) ((rd_T45 l0 (ji3)).f1) ((rd_T45 l0 (ji3)).f2.f0) ((rd_T45 l0 (ji3)).f2.f1) ((rd_T45 l0 x3_1).f0) ((rd_T45 l0 x3_1).f1) ((rd_T45 l0 x3_1).f2.f0) ((rd_T45 l0 x3_1).f2.f1) true _ A7.out).mono ?_
     rintro e w10 ⟨rfl, hb⟩
     refine ⟨_, rfl, ?_⟩
     have n0_ := cW HB hb
     clear HB
     have HB := n0_
     clear n0_
     (try clear hb)
     (try clear hb2)
     (try clear hk)
     (try clear hi)
     refine hK.out _ _ ⟨(kc HB hw530_0), (kc HB hw530_1), (kc HB hw530_2), (kc HB hw530_3), (kc HB hw531_0), (kc HB hw531_1), (kc HB hw531_2), (kc HB hw531_3)⟩ (fun hHeld => ?_)
     clear hK K
     refine norm_ (a' := ?_) ?_ ?_
     rotate_left
     ·
      show Act.put _ (some 19) _ = _
      simp only [Act.put, List.setIfInBounds_toArray, List.set_cons_zero, List.set_cons_succ, i64_w, i32_w]
      rfl
     refine p1 10 (some 20) ?_
     refine done_ (done_of HT_.out (by kernel_rfl)) ?_
     try go_wp2
     go_roundg k1
     case measure => have := HK1.out; omega
     case rel => exact ⟨(wrap64 (x3_1 + 1)), rs_, H', ⟨by have := HK1.out; omega⟩, ⟨uW HB.out⟩⟩
    ·
     replace c8 := Bool.eq_false_iff.mpr c8
     subst c8
     rw [if_neg (show ¬ (false = true) by decide)] at H
     obtain rfl := Option.some.inj H
     try go_wp2
     have n0_ := Aside0.mk (below_drew1 HB.out)
     clear HB
     have HB := n0_
     clear n0_
     have p530 : 0 ≤ ((ji3) : Int) := od
     have q530 : (ji3) < (l0.length : Int) := od
     obtain ⟨ad530, e530, hx530_0, hx530_1, hx530_2, hx530_3⟩ := at_T45 HR0.out (ji3) p530 q530
     have hw530_3 := hx530_3
     have hw530_2 := hx530_2
     have hw530_1 := hx530_1
     have hw530_0 := hx530_0
     cases e530
     replace hx530_0 := kc HB hx530_0
     replace hx530_1 := kc HB hx530_1
     replace hx530_2 := kc HB hx530_2
     replace hx530_3 := kc HB hx530_3
     replace p530 := eq_true p530
     replace q530 := eq_true q530
     have p531 : 0 ≤ (x3_1 : Int) := od
     have q531 : x3_1 < (l0.length : Int) := od
     obtain ⟨ad531, e531, hx531_0, hx531_1, hx531_2, hx531_3⟩ := at_T45 HR0.out x3_1 p531 q531
     have hw531_3 := hx531_3
     have hw531_2 := hx531_2
     have hw531_1 := hx531_1
     have hw531_0 := hx531_0
     obtain rfl : ad530 = ad531 := (by injection e531)
     replace hx531_0 := kc HB hx531_0
     replace hx531_1 := kc HB hx531_1
     replace hx531_2 := kc HB hx531_2
     replace hx531_3 := kc HB hx531_3
     replace p531 := eq_true p531
     replace q531 := eq_true q531
     refine start_ (n := 11) (S := fun w' => w'.cell? (ad530.add (((ji3)).toNat * 4)) = some (.int .i64 ((rd_T45 l0 (ji3)).f0)) ∧ w'.cell? ⟨(ad530.add (((ji3)).toNat * 4)).block, (ad530.add (((ji3)).toNat * 4)).off + 1, none⟩ = some (.string ((rd_T45 l0 (ji3)).f1)) ∧ w'.cell? ⟨(ad530.add (((ji3)).toNat * 4)).block, (ad530.add (((ji3)).toNat * 4)).off + 2, none⟩ = some (.int .i64 ((rd_T45 l0 (ji3)).f2.f0)) ∧ w'.cell? ⟨(ad530.add (((ji3)).toNat * 4)).block, (ad530.add (((ji3)).toNat * 4)).off + 3, none⟩ = some (.bool ((rd_T45 l0 (ji3)).f2.f1)) ∧ w'.cell? (ad530.add ((x3_1).toNat * 4)) = some (.int .i64 ((rd_T45 l0 x3_1).f0)) ∧ w'.cell? ⟨(ad530.add ((x3_1).toNat * 4)).block, (ad530.add ((x3_1).toNat * 4)).off + 1, none⟩ = some (.string ((rd_T45 l0 x3_1).f1)) ∧ w'.cell? ⟨(ad530.add ((x3_1).toNat * 4)).block, (ad530.add ((x3_1).toNat * 4)).off + 2, none⟩ = some (.int .i64 ((rd_T45 l0 x3_1).f2.f0)) ∧ w'.cell? ⟨(ad530.add ((x3_1).toNat * 4)).block, (ad530.add ((x3_1).toNat * 4)).off + 3, none⟩ = some (.bool ((rd_T45 l0 x3_1).f2.f1))) (ds := []) #[false, false, false, false, false, false, false, false, false, false, false] (by kernel_rfl) rfl rfl ⟨(kc HB hw530_0), (kc HB hw530_1), (kc HB hw530_2), (kc HB hw530_3), (kc HB hw531_0), (kc HB hw531_1), (kc HB hw531_2), (kc HB hw531_3)⟩ (fun hHeld => ?_); refine with_tabW ebbtideref08_rise.tab4 ebbtideref08_rise.bits4 (fun HT_ HW_ => ?_)
     generalize wr.drew = w11 at HB hx530_0 hx530_1 hx530_2 hx530_3 hx531_0 hx531_1 hx531_2 hx531_3 hHeld ⊢
     refine p1 0 (some 10) ?_
     refine p1 1 (some 11) ?_
     refine p1 2 (some 12) ?_
     refine p1 3 (some 13) ?_
     refine p1 5 (some 15) ?_
     refine p1 6 (some 16) ?_
     refine p1 7 (some 17) ?_
     refine t1 4 (some 14) rfl rfl hHeld (Or.inl ⟨by rfl, by rintro w' ⟨s0, s1, s2, s3, s4, s5, s6, s7⟩; go_simp; with_reducible rfl⟩) ?_
     refine t1 8 (some 18) rfl rfl hHeld (Or.inl ⟨by rfl, by rintro w' ⟨s0, s1, s2, s3, s4, s5, s6, s7⟩; go_simp; with_reducible rfl⟩) ?_
     refine one_ (i := 9) (N := some 19) #[true, true, true, true, true, true, true, true, true, true, false] rfl rfl (one_of HT_.out (by kernel_rfl)) (by decide) (fun K hK => ?_)
     refine goes_ Tryz.func37 (by kernel_rfl) rfl #[.agg #[.int .i64 ((rd_T45 l0 (ji3)).f0), .string ((rd_T45 l0 (ji3)).f1), .int .i64 ((rd_T45 l0 (ji3)).f2.f0), .bool ((rd_T45 l0 (ji3)).f2.f1)], .agg #[.int .i64 ((rd_T45 l0 x3_1).f0), .string ((rd_T45 l0 x3_1).f1), .int .i64 ((rd_T45 l0 x3_1).f2.f0), .bool ((rd_T45 l0 x3_1).f2.f1)]] (by rfl) rfl rfl (by (try simp only [List.map_toArray, List.map_cons, List.map_nil]); first | done | (simp only [hji3]; rfl) | rfl | (simp only [List.length_drop, List.length_take]; rfl)) ?_
     with_reducible refine (ebbtideref08_Before.calls ((rd_T45 l0 (ji3)).f0) ((rd_T45 l0 (ji3)).f1) ((rd_T45 l0 (ji3)).f2.f0) ((rd_T45 l0 (ji3)).f2.f1) ((rd_T45 l0 x3_1).f0) ((rd_T45 l0 x3_1).f1) ((rd_T45 l0 x3_1).f2.f0) ((rd_T45 l0 x3_1).f2.f1) false _ A7.out).mono ?_
     rintro e w12 ⟨rfl, hb⟩
     refine ⟨_, rfl, ?_⟩
     have n0_ := cW HB hb
     clear HB
     have HB := n0_
     clear n0_
     (try clear hb)
     (try clear hb2)
     (try clear hk)
     (try clear hi)
     refine hK.out _ _ ⟨(kc HB hw530_0), (kc HB hw530_1), (kc HB hw530_2), (kc HB hw530_3), (kc HB hw531_0), (kc HB hw531_1), (kc HB hw531_2), (kc HB hw531_3)⟩ (fun hHeld => ?_)
     clear hK K
     refine norm_ (a' := ?_) ?_ ?_
     rotate_left
     ·
      show Act.put _ (some 19) _ = _
      simp only [Act.put, List.setIfInBounds_toArray, List.set_cons_zero, List.set_cons_succ, i64_w, i32_w]
      rfl
     refine p1 10 (some 20) ?_
     refine done_ (done_of HT_.out (by kernel_rfl)) ?_
     try go_wp2
     go_ret
     exact ⟨by first | rfl | (simp [errW_none, errW_some] <;> rfl) | (simp only [← hji3]; first | rfl | (simp [errW_none, errW_some] <;> rfl)) | (simp [*, errW_none, errW_some] <;> rfl), uW HB.out⟩
   ·
    rw [if_neg c2] at H
    have c2b0 : decide (x3_1 < (l0.length : Int)) = false := decide_eq_false c2
    clear c2
    obtain rfl := Option.some.inj H
    go_wp2
    go_ret
    exact ⟨re_, uW HB.out⟩
def ebbtideref08_Parse.l0 : Nat → List (S45) → List ByteArray → Int → Option ((List (S45)) × Int)
 | 0, _, _, _ => none
 | k + 1, x4, x5, x6 => if x6 < (x5.length : Int) then (if 0 ≤ x6 then ((ebbtideref08_one.f k (rdOf ByteArray.empty x5 x6)).bind fun bt537 => (if bt537.2.2.2.2 = 0 then (if x4.length < 3518437208883 then (ebbtideref08_Parse.l0 k (x4 ++ [(⟨bt537.1, bt537.2.1, (⟨bt537.2.2.1, bt537.2.2.2.1⟩ : S43)⟩ : S45)]) x5 (wrap64 (x6 + 1))) else (none)) else (none))) else (none)) else ((ebbtideref08_rise.f k x4).bind fun t546 => (if t546 = true then (some (x4, 0)) else (none)))
def ebbtideref08_Parse.f (k : Nat) (a0 : ByteArray) : Option ((List (S45)) × Int) := if a0.toList = ([45] : List UInt8) then (none) else ((ebbtideref02_Split.f k a0 59).bind fun t533 => (ebbtideref08_Parse.l0 k ([] : List (S45)) t533 0))
theorem ebbtideref08_Parse.mono_l : ∀ k, (∀ y0 y1 y2, LeC (ebbtideref08_Parse.l0 k y0 y1 y2) (ebbtideref08_Parse.l0 (k + 1) y0 y1 y2))
 | 0 => fun _ _ _ => ⟨fun r h => by simp [ebbtideref08_Parse.l0] at h⟩
 | k + 1 => by have ih0 := ebbtideref08_Parse.mono_l k; exact fun _ _ _ => by unfold ebbtideref08_Parse.l0; exact lm
theorem ebbtideref08_Parse.mono : ∀ a0 k, LeO (ebbtideref08_Parse.f k a0) (ebbtideref08_Parse.f (k + 1) a0) := by
 intro a0 k
 have ih0 := ebbtideref08_Parse.mono_l k
 unfold ebbtideref08_Parse.f
 exact lo
instance ebbtideref08_Parse.mI {a0 k} : LeC (ebbtideref08_Parse.f k a0) (ebbtideref08_Parse.f (k + 1) a0) := ⟨ebbtideref08_Parse.mono _ _⟩
theorem ebbtideref08_Parse.calls (k : Nat) (a0 : ByteArray) (r1 : List (S45)) (r2 : Int) (w : World) (h : ebbtideref08_Parse.f k a0 = some (r1, r2)) :
 Calls Tryz.prog 23 #[.string a0] w fun e w' => ∃ v0_ : Value, e = .returned (.tuple #[v0_, .int .i64 r2]) ∧ Kd.R k45 45 w' w.heap.size (fun _ => True) v0_ r1 ∧ Below w.heap.size w w' := by
 have hu45 := Tryz.underlying45
 have HB := Aside0.mk (Below.refl w.heap.size w)
 have H : (if a0.toList = ([45] : List UInt8) then (none) else ((ebbtideref02_Split.f k a0 59).bind fun t533 => (ebbtideref08_Parse.l0 k ([] : List (S45)) t533 0))) = some (r1, r2) := h
 clear h
 obtain ⟨c2, H⟩ := gn H
 have c2b0 : (a0.toList == ([45] : List UInt8)) = false := beq_eq_false_iff_ne.mpr c2
 have c2b1 : (a0.toList != ([45] : List UInt8)) = true := bne_iff_ne.mpr c2
 obtain ⟨t533, A3, H⟩ := bs H
 try dsimp only at H
 have H' := Aside0.mk H
 clear H
 go_enter Tryz.func23, Tryz.ntmps23
 go_wp2_with (first | (refine gL (some 12) rfl Tryz.func41 #[.string a0, .int .u8 59] ?_; (with_reducible refine (ebbtideref02_Split.calls k a0 59 t533 _ A3.out).mono ?_); rintro e w4 ⟨v534, rfl, ho0, hb⟩; refine ⟨_, rfl, ?_⟩; have HO535 := Aside0.mk (Kd.R_lower ho0 (below_size (uW HB.out))); replace HB := cW HB hb; (try clear hb); (try clear ho0)))
 (try simp only [Act.put, List.setIfInBounds_toArray, List.set_cons_zero, List.set_cons_succ])
 go_loopg [4, 6] k (fun kq v4 v6 w' => ∃ (x4_1 : List (S45)) (x6_1 : Int), v6 = .int .i64 x6_1 ∧ Aside0 (ebbtideref08_Parse.l0 kq x4_1 t533 x6_1 = some (r1, r2)) ∧ Aside0 (kq ≤ k) ∧ Aside0 (Kd.R k45 45 w' w.heap.size (fun _ => True) v4 x4_1) ∧ Aside0 (Kd.R Kd.string 9 w' w.heap.size (fun _ => True) v534 t533) ∧ Aside0 (Below w.heap.size w w'))
 case atStart => exact ⟨(([] : List (S45))), (0), rs_, H', ⟨Nat.le_refl _⟩, ⟨nl_⟩, ⟨uR HO535.out⟩, ⟨uW HB.out⟩⟩
 case round =>
  clear H'
  try clear c2
  try clear c2b0
  try clear c2b1
  try clear p2
  try clear c4
  obtain ⟨x4_1, x6_1, rfl, HA, HK1, HO_4, HO_5, HB⟩ := hrel
  cases gk with
  | zero => exact absurd HA.out (by simp [ebbtideref08_Parse.l0])
  | succ k1 =>
   have H := HA.out
   clear HA
   simp only [ebbtideref08_Parse.l0] at H
   by_cases c5 : x6_1 < (t533.length : Int)
   ·
    rw [if_pos c5] at H
    have c5b0 : decide (x6_1 < (t533.length : Int)) = true := decide_eq_true c5
    clear c5
    obtain ⟨c6b0, H⟩ := gdd H
    obtain ⟨⟨t537, t538, t539, t540, t541⟩, A7, H⟩ := bs H
    try dsimp only at H
    obtain ⟨c8, H⟩ := gd H
    have c8b0 : (t541 == 0) = true := beq_iff_eq.mpr c8
    have c8b1 : (t541 != 0) = false := bne_eq_false_iff_eq.mpr c8
    clear c8
    obtain ⟨c9, H⟩ := gd H
    have LMc9 := Aside0.mk c9
    clear c9
    obtain ⟨y543, hy543⟩ : ∃ y_ : List (S45), y_ = (x4_1 ++ [(⟨t537, t538, (⟨t539, t540⟩ : S43)⟩ : S45)]) := ⟨_, rfl⟩
    replace H : (ebbtideref08_Parse.l0 k1 y543 t533 (wrap64 (x6_1 + 1))) = some (r1, r2) := by first | (rw [hy543]; with_reducible exact H) | (have H2_ := (Option.bind_some _ _).symm.trans H; rw [hy543]; with_reducible exact H2_) | (have H2_ := (Option.bind_some _ _).symm.trans H; with_reducible exact H2_) | with_reducible exact H | (rw [hy543]; exact H) | exact H
    have Ny543 := Aside0.mk hy543
    clear hy543
    have H' := Aside0.mk H
    clear H
    obtain ⟨Ao10, co10, eo10⟩ := Kd.R_slice HO_5.out
    subst eo10
    have p536 : 0 ≤ (x6_1 : Int) := od
    have q536 : x6_1 < (t533.length : Int) := od
    obtain ⟨ad536, e536, hx536_0⟩ := Kd.at_string (Kd.R_reads' HO_5.out).2.2 x6_1 p536 q536
    cases e536
    replace p536 := eq_true p536
    replace q536 := eq_true q536
    go_wp2_with (first | (refine gL (some 24) rfl Tryz.func43 #[.string (rdOf ByteArray.empty t533 x6_1)] ?_; (with_reducible refine (ebbtideref08_one.calls k1 (rdOf ByteArray.empty t533 x6_1) t537 t538 t539 t540 t541 _ A7.out).mono ?_); rintro e w11 ⟨rfl, hb⟩; refine ⟨_, rfl, ?_⟩; replace HO_4 := cR HO_4 hb; replace HO_5 := cR HO_5 hb; replace HB := cW HB hb; (try clear hb)) | ((with_reducible refine gate_dst (N := 7) rfl ?_); refine bx (N := 7) #[.int .i64 0, .string (⟨#[]⟩ : ByteArray), .int .i64 0, .bool false] 45 ?_; intro gb542 hg w12 hbox hb; replace HO_4 := Aside0.mk (Kd.R_below (Kd.R_elderB (uR HO_4.out) gb542 (Nat.le_of_eq hg.symm)) hb); replace HO_5 := cR HO_5 hb; have BK542 := Aside0.mk (hbox); have GW542 := gw hg (uW HB.out); have GE542 := GW542; replace HB := cW HB hb; clear hb hbox hg; obtain ⟨hcz13_0, hcz13_1, hcz13_2, hcz13_3, hfz13_0, hfz13_1, hfz13_2, hfz13_3⟩ := z4 BK542) | ((with_reducible refine gate_builtin (b := .append) (xs := #[.tmp 30, .tmp 32]) rfl ?_); at_builtin; refine Kd.R_append k45 (w0 := w) w.heap.size rfl (.tmp 30) (.tmp 32) 22 45 (.agg #[(.int .i64 0), (.string ⟨#[]⟩), (.int .i64 0), (.bool false)]) 40 rfl Tryz.underlying22 info45 rfl (by decide) (by omega) u4 x4_1 (⟨t537, t538, (⟨t539, t540⟩ : S43)⟩ : S45) [.int .i64 t537, .string t538, .int .i64 t539, .bool t540] (fun k_ => k_ ≠ gb542) (fun _ => False) rfl (by first | (go_simp; done) | (go_simp; rfl)) ?aP (fun _ hk => hk.elim) ?aF ?aO ?aB ?aS ?aL ?_; (case aP => exact k45_mkM _ _ _ (⟨t537, t538, (⟨t539, t540⟩ : S43)⟩ : S45)); (case aB => exact bl); (case aF => exact (fun k_ hk => Kd.freshB (g := gb542) (o := .cells #[.int .i64 t537, .string t538, .int .i64 t539, .bool t540] 45 (0, 0)) (by (with_reducible repeat (first | refine blk_drewN ?_ _ | refine blk_drew ?_ | refine blk_alloc ?_ _)); refine blk_put (cs := #[.int .i64 t537, .string t538, .int .i64 t539, .bool false]) ?_ 3 _ rfl; (with_reducible repeat (first | refine blk_drewN ?_ _ | refine blk_drew ?_ | refine blk_alloc ?_ _)); refine blk_put (cs := #[.int .i64 t537, .string t538, .int .i64 0, .bool false]) ?_ 2 _ rfl; (with_reducible repeat (first | refine blk_drewN ?_ _ | refine blk_drew ?_ | refine blk_alloc ?_ _)); refine blk_put (cs := #[.int .i64 t537, .string (⟨#[]⟩ : ByteArray), .int .i64 0, .bool false]) ?_ 1 _ rfl; (with_reducible repeat (first | refine blk_drewN ?_ _ | refine blk_drew ?_ | refine blk_alloc ?_ _)); refine blk_put (cs := #[.int .i64 0, .string (⟨#[]⟩ : ByteArray), .int .i64 0, .bool false]) ?_ 0 _ rfl; exact uB <| BK542.out) k_ hk)); (case aO => exact (by exact uR <| Kd.R_mono (Kd.R_far (p := ⟨gb542, 3, none⟩) (Kd.R_far (p := ⟨gb542, 2, none⟩) (Kd.R_far (p := ⟨gb542, 1, none⟩) (Kd.R_far (p := ⟨gb542, 0, none⟩) (Kd.R_mono HO_4.out (fun k_ hk => (⟨hk, hk.2⟩ : _ ∧ k_ ≠ gb542))) (fun _ hk => hk.2) (.int .i64 t537)) (fun _ hk => hk.2) (.string t538)) (fun _ hk => hk.2) (.int .i64 t539)) (fun _ hk => hk.2) (.bool t540)) (fun _ hk => hk.1.2))); (case aS => exact (below_size bl)); (case aL => have := LMc9.out; omega); intro v544 w14 ho hb hg hat; rw [← Ny543.out] at ho; replace HO_5 := Aside0.mk (Kd.R_over' (by exact uR <| (Kd.R_mono (Kd.R_far (p := ⟨gb542, 3, none⟩) (Kd.R_far (p := ⟨gb542, 2, none⟩) (Kd.R_far (p := ⟨gb542, 1, none⟩) (Kd.R_far (p := ⟨gb542, 0, none⟩) (Kd.R_types HO_5.out BK542.out (by decide)) (fun _ hk => hk.2) (.int .i64 t537)) (fun _ hk => hk.2) (.string t538)) (fun _ hk => hk.2) (.int .i64 t539)) (fun _ hk => hk.2) (.bool t540)) (fun _ h_ => h_.1))) (Kd.R_typed (by exact uR <| (Kd.R_mono (Kd.R_far (p := ⟨gb542, 3, none⟩) (Kd.R_far (p := ⟨gb542, 2, none⟩) (Kd.R_far (p := ⟨gb542, 1, none⟩) (Kd.R_far (p := ⟨gb542, 0, none⟩) (Kd.R_mono HO_4.out (fun k_ hk => (⟨hk, hk.2⟩ : _ ∧ k_ ≠ gb542))) (fun _ hk => hk.2) (.int .i64 t537)) (fun _ hk => hk.2) (.string t538)) (fun _ hk => hk.2) (.int .i64 t539)) (fun _ hk => hk.2) (.bool t540)) (fun _ h_ => h_.1)))) (by decide) hg); replace BK542 := Aside0.mk (blk_grown (g := gb542) (o := .cells #[.int .i64 t537, .string t538, .int .i64 t539, .bool t540] 45 (0, 0)) (by (with_reducible repeat (first | refine blk_drewN ?_ _ | refine blk_drew ?_ | refine blk_alloc ?_ _)); refine blk_put (cs := #[.int .i64 t537, .string t538, .int .i64 t539, .bool false]) ?_ 3 _ rfl; (with_reducible repeat (first | refine blk_drewN ?_ _ | refine blk_drew ?_ | refine blk_alloc ?_ _)); refine blk_put (cs := #[.int .i64 t537, .string t538, .int .i64 0, .bool false]) ?_ 2 _ rfl; (with_reducible repeat (first | refine blk_drewN ?_ _ | refine blk_drew ?_ | refine blk_alloc ?_ _)); refine blk_put (cs := #[.int .i64 t537, .string (⟨#[]⟩ : ByteArray), .int .i64 0, .bool false]) ?_ 1 _ rfl; (with_reducible repeat (first | refine blk_drewN ?_ _ | refine blk_drew ?_ | refine blk_alloc ?_ _)); refine blk_put (cs := #[.int .i64 0, .string (⟨#[]⟩ : ByteArray), .int .i64 0, .bool false]) ?_ 0 _ rfl; exact uB <| BK542.out) hg (Kd.R_away HO_4.out (fun _ hk => hk.2))); replace HB := Aside0.mk (hb); have HO545 := Aside0.mk (ho); clear HO_4; clear ho hb hg hat))
    go_roundg k1
    case measure => have := HK1.out; omega
    case rel => exact ⟨(y543), (wrap64 (x6_1 + 1)), rs_, H', ⟨by have := HK1.out; omega⟩, ⟨by exact uR <| Kd.R_mono HO545.out (fun _ hk => trivial)⟩, ⟨uR HO_5.out⟩, ⟨bl⟩⟩
   ·
    rw [if_neg c5] at H
    have c5b0 : decide (x6_1 < (t533.length : Int)) = false := decide_eq_false c5
    clear c5
    obtain ⟨t546, A15, H⟩ := bs H
    try dsimp only at H
    by_cases c16 : t546 = true
    ·
     subst c16
     rw [if_pos rfl] at H
     simp only [Option.some.injEq, Prod.mk.injEq] at H
     obtain ⟨rfl, rfl⟩ := H
     obtain ⟨Ao17, co17, eo17⟩ := Kd.R_slice HO_5.out
     subst eo17
     obtain ⟨Ao18, co18, eo18⟩ := Kd.R_slice HO_4.out
     subst eo18
     go_wp2_with (first | (refine gL (some 35) rfl Tryz.func44 #[.slice Ao18 x4_1.length co18] ?_; (with_reducible refine (ebbtideref08_rise.calls k1 _ _ x4_1 true _ ?side1 ?side2 A15.out).mono ?_); (case side1 => exact uC <| (Kd.R_reads' HO_4.out).2.2); (case side2 => exact (Kd.R_reads' HO_4.out).2.1); rintro e w19 ⟨rfl, hb⟩; refine ⟨_, rfl, ?_⟩; replace HO_4 := cR HO_4 hb; replace HO_5 := cR HO_5 hb; replace HB := cW HB hb; (try clear hb)))
     go_ret2
     exact ⟨_, re_, uR HO_4.out, uW HB.out⟩
    ·
     replace c16 := Bool.eq_false_iff.mpr c16
     subst c16
     rw [if_neg (show ¬ (false = true) by decide)] at H
     exact absurd H (by simp)
def ebbtidelaw09_alive.f (k : Nat)  : Option (Bool) := (ebbtideref08_Parse.f k (⟨#[51, 124, 124, 53, 59, 52, 124, 124, 55]⟩ : ByteArray)).bind fun bt547 => ((ebbtideref08_Parse.f k (⟨#[52, 124, 124, 56, 59, 53, 124, 124, 49]⟩ : ByteArray)).bind fun bt551 => ((diff_Of.f k bt547.1 bt551.1).bind fun bt555 => ((diff_Apply.f k bt547.1 bt555.1).bind fun bt559 => ((diff_Parse.f k (⟨#[33, 51, 124, 59, 52, 124, 124, 56, 59, 53, 124, 124, 49]⟩ : ByteArray)).bind fun bt563 => ((diff_Apply.f k bt551.1 bt555.1).bind fun bt567 => ((diff_Of.f k (([(⟨0, (⟨#[]⟩ : ByteArray), (⟨0, false⟩ : S43)⟩ : S45), (⟨0, (⟨#[]⟩ : ByteArray), (⟨0, false⟩ : S43)⟩ : S45)] : List (S45))) bt551.1).bind fun bt574 => (if bt555.2 = 0 then (if bt559.2 = 0 then (if bt563.2 = 0 then (if bt567.2 = 6 then (if bt574.2 = 9 then ((diff_Text.f k bt555.1).bind fun t578 => (if t578.toList = ([33, 51, 124, 59, 52, 124, 124, 56, 59, 53, 124, 124, 49] : List UInt8) then ((ebbtideref08_Same.f k bt559.1 bt551.1).bind fun t579 => (if t579 = true then ((diff_Same.f k bt555.1 bt563.1).bind fun t580 => (if t580 = true then ((diff_Same.f k bt555.1 ([] : List (S48))).bind fun t581 => (if t581 = true then (none) else ((diff_Text.f k ([] : List (S48))).bind fun t582 => (some (t582.toList == ([45] : List UInt8)))))) else (none))) else (none))) else (none))) else (none)) else (none)) else (none)) else (none)) else (none))))))))
theorem ebbtidelaw09_alive.mono : ∀ k, LeO (ebbtidelaw09_alive.f k ) (ebbtidelaw09_alive.f (k + 1) ) := by
 intro k
 unfold ebbtidelaw09_alive.f
 exact lo
instance ebbtidelaw09_alive.mI {k} : LeC (ebbtidelaw09_alive.f k) (ebbtidelaw09_alive.f (k + 1)) := ⟨ebbtidelaw09_alive.mono _⟩
theorem ebbtidelaw09_alive.calls (k : Nat)  (r : Bool) (w : World) (hL : LD w) (h : ebbtidelaw09_alive.f k  = some r) :
 Calls Tryz.prog 8 #[] w fun e w' => e = .returned (.bool r) ∧ Below w.heap.size w w' := by
 have HL0 := Aside0.mk hL
 clear hL
 have hu45 := Tryz.underlying45
 have HB := Aside0.mk (Below.refl w.heap.size w)
 have H : ((ebbtideref08_Parse.f k (⟨#[51, 124, 124, 53, 59, 52, 124, 124, 55]⟩ : ByteArray)).bind fun bt547 => ((ebbtideref08_Parse.f k (⟨#[52, 124, 124, 56, 59, 53, 124, 124, 49]⟩ : ByteArray)).bind fun bt551 => ((diff_Of.f k bt547.1 bt551.1).bind fun bt555 => ((diff_Apply.f k bt547.1 bt555.1).bind fun bt559 => ((diff_Parse.f k (⟨#[33, 51, 124, 59, 52, 124, 124, 56, 59, 53, 124, 124, 49]⟩ : ByteArray)).bind fun bt563 => ((diff_Apply.f k bt551.1 bt555.1).bind fun bt567 => ((diff_Of.f k (([(⟨0, (⟨#[]⟩ : ByteArray), (⟨0, false⟩ : S43)⟩ : S45), (⟨0, (⟨#[]⟩ : ByteArray), (⟨0, false⟩ : S43)⟩ : S45)] : List (S45))) bt551.1).bind fun bt574 => (if bt555.2 = 0 then (if bt559.2 = 0 then (if bt563.2 = 0 then (if bt567.2 = 6 then (if bt574.2 = 9 then ((diff_Text.f k bt555.1).bind fun t578 => (if t578.toList = ([33, 51, 124, 59, 52, 124, 124, 56, 59, 53, 124, 124, 49] : List UInt8) then ((ebbtideref08_Same.f k bt559.1 bt551.1).bind fun t579 => (if t579 = true then ((diff_Same.f k bt555.1 bt563.1).bind fun t580 => (if t580 = true then ((diff_Same.f k bt555.1 ([] : List (S48))).bind fun t581 => (if t581 = true then (none) else ((diff_Text.f k ([] : List (S48))).bind fun t582 => (some (t582.toList == ([45] : List UInt8)))))) else (none))) else (none))) else (none))) else (none)) else (none)) else (none)) else (none)) else (none))))))))) = some r := h
 clear h
 obtain ⟨⟨t547, t548⟩, A1, H⟩ := bs H
 try dsimp only at H
 obtain ⟨⟨t551, t552⟩, A2, H⟩ := bs H
 try dsimp only at H
 obtain ⟨⟨t555, t558⟩, A3, H⟩ := bs H
 try dsimp only at H
 obtain ⟨⟨t559, t562⟩, A4, H⟩ := bs H
 try dsimp only at H
 obtain ⟨⟨t563, t564⟩, A5, H⟩ := bs H
 try dsimp only at H
 obtain ⟨⟨t567, t570⟩, A6, H⟩ := bs H
 try dsimp only at H
 obtain ⟨y571, hy571⟩ : ∃ y_ : List (S45), y_ = (([(⟨0, (⟨#[]⟩ : ByteArray), (⟨0, false⟩ : S43)⟩ : S45), (⟨0, (⟨#[]⟩ : ByteArray), (⟨0, false⟩ : S43)⟩ : S45)] : List (S45))) := ⟨_, rfl⟩
 replace H : ((diff_Of.f k y571 t551).bind fun bt574 => (if t558 = 0 then (if t562 = 0 then (if t564 = 0 then (if t570 = 6 then (if bt574.2 = 9 then ((diff_Text.f k t555).bind fun t578 => (if t578.toList = ([33, 51, 124, 59, 52, 124, 124, 56, 59, 53, 124, 124, 49] : List UInt8) then ((ebbtideref08_Same.f k t559 t551).bind fun t579 => (if t579 = true then ((diff_Same.f k t555 t563).bind fun t580 => (if t580 = true then ((diff_Same.f k t555 ([] : List (S48))).bind fun t581 => (if t581 = true then (none) else ((diff_Text.f k ([] : List (S48))).bind fun t582 => (some (t582.toList == ([45] : List UInt8)))))) else (none))) else (none))) else (none))) else (none)) else (none)) else (none)) else (none)) else (none))) = some r := by first | (rw [hy571]; with_reducible exact H) | (have H2_ := (Option.bind_some _ _).symm.trans H; rw [hy571]; with_reducible exact H2_) | (have H2_ := (Option.bind_some _ _).symm.trans H; with_reducible exact H2_) | with_reducible exact H | (rw [hy571]; exact H) | exact H
 have Ny571 := Aside0.mk hy571
 clear hy571
 obtain ⟨⟨t574, t577⟩, A7, H⟩ := bs H
 try dsimp only at H
 by_cases c8 : t558 = 0
 ·
  rw [if_pos c8] at H
  have c8b0 : (t558 == 0) = true := beq_iff_eq.mpr c8
  have c8b1 : (t558 != 0) = false := bne_eq_false_iff_eq.mpr c8
  clear c8
  obtain ⟨c9, H⟩ := gd H
  have c9b0 : (t562 == 0) = true := beq_iff_eq.mpr c9
  have c9b1 : (t562 != 0) = false := bne_eq_false_iff_eq.mpr c9
  clear c9
  obtain ⟨c10, H⟩ := gd H
  have c10b0 : (t564 == 0) = true := beq_iff_eq.mpr c10
  have c10b1 : (t564 != 0) = false := bne_eq_false_iff_eq.mpr c10
  clear c10
  obtain ⟨c11, H⟩ := gd H
  have c11b0 : (t570 == 6) = true := beq_iff_eq.mpr c11
  have c11b1 : (t570 != 6) = false := bne_eq_false_iff_eq.mpr c11
  clear c11
  obtain ⟨c12, H⟩ := gd H
  have c12b0 : (t577 == 9) = true := beq_iff_eq.mpr c12
  have c12b1 : (t577 != 9) = false := bne_eq_false_iff_eq.mpr c12
  clear c12
  obtain ⟨t578, A13, H⟩ := bs H
  try dsimp only at H
  obtain ⟨c14, H⟩ := gd H
  have c14b0 : (t578.toList == ([33, 51, 124, 59, 52, 124, 124, 56, 59, 53, 124, 124, 49] : List UInt8)) = true := beq_iff_eq.mpr c14
  have c14b1 : (t578.toList != ([33, 51, 124, 59, 52, 124, 124, 56, 59, 53, 124, 124, 49] : List UInt8)) = false := bne_eq_false_iff_eq.mpr c14
  clear c14
  obtain ⟨t579, A15, H⟩ := bs H
  try dsimp only at H
  by_cases c16 : t579 = true
  ·
   subst c16
   rw [if_pos rfl] at H
   obtain ⟨t580, A17, H⟩ := bs H
   try dsimp only at H
   by_cases c18 : t580 = true
   ·
    subst c18
    rw [if_pos rfl] at H
    obtain ⟨t581, A19, H⟩ := bs H
    try dsimp only at H
    by_cases c20 : t581 = true
    ·
     subst c20
     rw [if_pos rfl] at H
     exact absurd H (by simp)
    ·
     replace c20 := Bool.eq_false_iff.mpr c20
     subst c20
     rw [if_neg (show ¬ (false = true) by decide)] at H
     obtain ⟨t582, A21, H⟩ := bs H
     try dsimp only at H
     obtain rfl := Option.some.inj H
     go_enter Tryz.func8, Tryz.ntmps8
     go_wp2_with (first | (refine gL (some 16) rfl Tryz.func23 #[.string (⟨#[51, 124, 124, 53, 59, 52, 124, 124, 55]⟩ : ByteArray)] ?_; (with_reducible refine (ebbtideref08_Parse.calls k (⟨#[51, 124, 124, 53, 59, 52, 124, 124, 55]⟩ : ByteArray) t547 t548 _ A1.out).mono ?_); rintro e w22 ⟨v549, rfl, ho0, hb⟩; refine ⟨_, rfl, ?_⟩; have HO550 := Aside0.mk (Kd.R_lower ho0 (below_size (uW HB.out))); replace HB := cW HB hb; (try clear hb); (try clear ho0)) | (refine gL (some 20) rfl Tryz.func23 #[.string (⟨#[52, 124, 124, 56, 59, 53, 124, 124, 49]⟩ : ByteArray)] ?_; (with_reducible refine (ebbtideref08_Parse.calls k (⟨#[52, 124, 124, 56, 59, 53, 124, 124, 49]⟩ : ByteArray) t551 t552 _ A2.out).mono ?_); rintro e w23 ⟨v553, rfl, ho0, hb⟩; refine ⟨_, rfl, ?_⟩; have HO554 := Aside0.mk (Kd.R_lower (Kd.R_new' ho0 (Kd.R_lt (uR HO550.out))) (below_size (uW HB.out))); replace HO550 := Aside0.mk (Kd.R_elder' (uR HO550.out) (Kd.R_base ho0) hb); replace HB := cW HB hb; (try clear hb); (try clear ho0); obtain ⟨Ao24, co24, eo24⟩ := Kd.R_slice HO550.out; subst eo24; obtain ⟨Ao25, co25, eo25⟩ := Kd.R_slice HO554.out; subst eo25) | (refine gL (some 26) rfl Tryz.func10 #[.slice Ao24 t547.length co24, .slice Ao25 t551.length co25] ?_; (with_reducible refine (diff_Of.calls (hL := (by first | exact HL0.out | exact LD.below HL0.out (uW HB.out))) k (fun k_ => some k_ = (.slice Ao24 t547.length co24 : Value).ownBlock) _ _ t547 (fun k_ => some k_ = (.slice Ao25 t551.length co25 : Value).ownBlock) _ _ t551 t555 t558 _ ?side1 ?side2 A3.out).mono ?_); (case side1 => exact Kd.R_V (Kd.R_tight rfl (HO550.out))); (case side2 => exact Kd.R_V (Kd.R_tight rfl (HO554.out))); rintro e w26 ⟨v556, rfl, ho0, hb⟩; refine ⟨_, rfl, ?_⟩; replace HO550 := cR HO550 hb; replace HO554 := cR HO554 hb; have HO557 := Aside0.mk (Kd.R_lower (Kd.R_mono (ok' := fun k_ => True) ho0 (fun _ hk_ => trivial)) (below_size (uW HB.out))); replace HB := cW HB hb; (try clear hb); (try clear ho0); obtain ⟨Ao27, co27, eo27⟩ := Kd.R_slice HO557.out; subst eo27) | (refine gL (some 32) rfl Tryz.func17 #[.slice Ao24 t547.length co24, .slice Ao27 t555.length co27] ?_; (with_reducible refine (diff_Apply.calls (hL := (by first | exact HL0.out | exact LD.below HL0.out (uW HB.out))) k (fun k_ => some k_ = (.slice Ao24 t547.length co24 : Value).ownBlock) _ _ t547 _ _ t555 t559 t562 _ ?side1 ?side2 ?side3 A4.out).mono ?_); (case side1 => exact Kd.R_V (Kd.R_tight rfl (Kd.R_apart' (HO550.out) (Kd.R_typed HO557.out) (by decide)))); (case side2 => exact uC <| (Kd.R_reads' HO557.out).2.2); (case side3 => exact (Kd.R_reads' HO557.out).2.1); rintro e w28 ⟨v560, rfl, ho0, hb⟩; refine ⟨_, rfl, ?_⟩; replace HO557 := cR HO557 hb; have HO561 := Aside0.mk (Kd.R_lower (Kd.R_new' (Kd.R_new' (Kd.R_mono (ok' := fun k_ => True) ho0 (fun _ hk_ => trivial)) (Kd.R_lt (uR HO550.out))) (Kd.R_lt (uR HO554.out))) (below_size (uW HB.out))); replace HO550 := Aside0.mk (Kd.R_elder' (uR HO550.out) (Kd.R_base ho0) hb); replace HO554 := Aside0.mk (Kd.R_elder' (uR HO554.out) (Kd.R_base ho0) hb); replace HB := cW HB hb; (try clear hb); (try clear ho0)) | (refine gL (some 36) rfl Tryz.func20 #[.string (⟨#[33, 51, 124, 59, 52, 124, 124, 56, 59, 53, 124, 124, 49]⟩ : ByteArray)] ?_; (with_reducible refine (diff_Parse.calls (hL := (by first | exact HL0.out | exact LD.below HL0.out (uW HB.out))) k (⟨#[33, 51, 124, 59, 52, 124, 124, 56, 59, 53, 124, 124, 49]⟩ : ByteArray) t563 t564 _ A5.out).mono ?_); rintro e w29 ⟨v565, rfl, ho0, hb⟩; refine ⟨_, rfl, ?_⟩; replace HO550 := cR HO550 hb; replace HO554 := cR HO554 hb; replace HO561 := cR HO561 hb; have HO566 := Aside0.mk (Kd.R_lower (Kd.R_new' ho0 (Kd.R_lt (uR HO557.out))) (below_size (uW HB.out))); replace HO557 := Aside0.mk (Kd.R_elder' (uR HO557.out) (Kd.R_base ho0) hb); replace HB := cW HB hb; (try clear hb); (try clear ho0)) | (refine gL (some 42) rfl Tryz.func17 #[.slice Ao25 t551.length co25, .slice Ao27 t555.length co27] ?_; (with_reducible refine (diff_Apply.calls (hL := (by first | exact HL0.out | exact LD.below HL0.out (uW HB.out))) k (fun k_ => some k_ = (.slice Ao25 t551.length co25 : Value).ownBlock) _ _ t551 _ _ t555 t567 t570 _ ?side1 ?side2 ?side3 A6.out).mono ?_); (case side1 => exact Kd.R_V (Kd.R_tight rfl (Kd.R_apart' (Kd.R_apart' (HO554.out) (Kd.R_typed HO557.out) (by decide)) (Kd.R_typed HO566.out) (by decide)))); (case side2 => exact uC <| (Kd.R_reads' HO557.out).2.2); (case side3 => exact (Kd.R_reads' HO557.out).2.1); rintro e w30 ⟨v568, rfl, ho0, hb⟩; refine ⟨_, rfl, ?_⟩; replace HO557 := cR HO557 hb; replace HO566 := cR HO566 hb; have HO569 := Aside0.mk (Kd.R_lower (Kd.R_new' (Kd.R_new' (Kd.R_new' (Kd.R_mono (ok' := fun k_ => True) ho0 (fun _ hk_ => trivial)) (Kd.R_lt (uR HO550.out))) (Kd.R_lt (uR HO554.out))) (Kd.R_lt (uR HO561.out))) (below_size (uW HB.out))); replace HO550 := Aside0.mk (Kd.R_elder' (uR HO550.out) (Kd.R_base ho0) hb); replace HO554 := Aside0.mk (Kd.R_elder' (uR HO554.out) (Kd.R_base ho0) hb); replace HO561 := Aside0.mk (Kd.R_elder' (uR HO561.out) (Kd.R_base ho0) hb); replace HB := cW HB hb; (try clear hb); (try clear ho0)) | ((with_reducible refine gate_dst (N := 48) rfl ?_); refine Kd.R_lit k45 _ 45 ?hg (N := 48) ?hd (xs := ([(⟨0, (⟨#[]⟩ : ByteArray), (⟨0, false⟩ : S43)⟩ : S45), (⟨0, (⟨#[]⟩ : ByteArray), (⟨0, false⟩ : S43)⟩ : S45)] : List (S45))) (inner := [.int .i64 0, .string (⟨#[]⟩ : ByteArray), .int .i64 0, .bool false, .int .i64 0, .string (⟨#[]⟩ : ByteArray), .int .i64 0, .bool false]) (ok := fun _ => True) (okp := fun _ => True) ?hr ?hp (fun _ hk => hk) trivial (Below.refl _ _) (Nat.le_refl _) (by simp) ?_; (case hd => rfl); (case hg => rfl); (case hr => first | (go_simp; done) | (go_simp; rfl)); (case hp => exact (Reps.c4 (show Kd.M k45 _ _ _ (⟨0, (⟨#[]⟩ : ByteArray), (⟨0, false⟩ : S43)⟩ : S45) [.int .i64 0, .string (⟨#[]⟩ : ByteArray), .int .i64 0, .bool false] from (k45_mkM _ _ _ (⟨0, (⟨#[]⟩ : ByteArray), (⟨0, false⟩ : S43)⟩ : S45) )) (Reps.c4 (show Kd.M k45 _ _ _ (⟨0, (⟨#[]⟩ : ByteArray), (⟨0, false⟩ : S43)⟩ : S45) [.int .i64 0, .string (⟨#[]⟩ : ByteArray), .int .i64 0, .bool false] from (k45_mkM _ _ _ (⟨0, (⟨#[]⟩ : ByteArray), (⟨0, false⟩ : S43)⟩ : S45) )) (Reps.none _ _)))); intro v572 w31 ho32 hb hg_ hnew_; clear hg_ hnew_; (first | rw [← Ny571.out] at ho32 | (simp only [Int.reduceToNat] at ho32; rw [← Ny571.out] at ho32)); replace HO557 := cR HO557 hb; replace HO566 := cR HO566 hb; have HO573 := Aside0.mk (Kd.R_lower (Kd.R_new' (Kd.R_new' (Kd.R_new' (Kd.R_new' ho32 (Kd.R_lt (uR HO550.out))) (Kd.R_lt (uR HO554.out))) (Kd.R_lt (uR HO561.out))) (Kd.R_lt (uR HO569.out))) (below_size (uW HB.out))); replace HO550 := Aside0.mk (Kd.R_elder' (uR HO550.out) (Kd.R_base ho32) hb); replace HO554 := Aside0.mk (Kd.R_elder' (uR HO554.out) (Kd.R_base ho32) hb); replace HO561 := Aside0.mk (Kd.R_elder' (uR HO561.out) (Kd.R_base ho32) hb); replace HO569 := Aside0.mk (Kd.R_elder' (uR HO569.out) (Kd.R_base ho32) hb); replace HB := cW HB hb; clear hb ho32; obtain ⟨Ao33, co33, eo33⟩ := Kd.R_slice HO573.out; subst eo33) | (refine gL (some 50) rfl Tryz.func10 #[.slice Ao33 y571.length co33, .slice Ao25 t551.length co25] ?_; (with_reducible refine (diff_Of.calls (hL := (by first | exact HL0.out | exact LD.below HL0.out (uW HB.out))) k (fun k_ => some k_ = (.slice Ao33 y571.length co33 : Value).ownBlock) _ _ y571 (fun k_ => some k_ = (.slice Ao25 t551.length co25 : Value).ownBlock) _ _ t551 t574 t577 _ ?side1 ?side2 A7.out).mono ?_); (case side1 => exact Kd.R_V (Kd.R_tight rfl (Kd.R_apart' (Kd.R_apart' (HO573.out) (Kd.R_typed HO557.out) (by decide)) (Kd.R_typed HO566.out) (by decide)))); (case side2 => exact Kd.R_V (Kd.R_tight rfl (Kd.R_apart' (Kd.R_apart' (HO554.out) (Kd.R_typed HO557.out) (by decide)) (Kd.R_typed HO566.out) (by decide)))); rintro e w34 ⟨v575, rfl, ho0, hb⟩; refine ⟨_, rfl, ?_⟩; replace HO550 := cR HO550 hb; replace HO554 := cR HO554 hb; replace HO561 := cR HO561 hb; replace HO569 := cR HO569 hb; replace HO573 := cR HO573 hb; have HO576 := Aside0.mk (Kd.R_lower (Kd.R_new' (Kd.R_new' (Kd.R_mono (ok' := fun k_ => True) ho0 (fun _ hk_ => trivial)) (Kd.R_lt (uR HO557.out))) (Kd.R_lt (uR HO566.out))) (below_size (uW HB.out))); replace HO557 := Aside0.mk (Kd.R_elder' (uR HO557.out) (Kd.R_base ho0) hb); replace HO566 := Aside0.mk (Kd.R_elder' (uR HO566.out) (Kd.R_base ho0) hb); replace HB := cW HB hb; (try clear hb); (try clear ho0)) | (go_at_call 14; (with_reducible refine (diff_Text.calls (hL := (by first | exact HL0.out | exact LD.below HL0.out (uW HB.out))) k _ _ t555 t578 _ ?side1 ?side2 A13.out).mono ?_); (case side1 => exact uC <| (Kd.R_reads' HO557.out).2.2); (case side2 => exact (Kd.R_reads' HO557.out).2.1); rintro e w35 ⟨rfl, hb⟩; replace HO550 := cR HO550 hb; replace HO554 := cR HO554 hb; replace HO557 := cR HO557 hb; replace HO561 := cR HO561 hb; replace HO566 := cR HO566 hb; replace HO569 := cR HO569 hb; replace HO573 := cR HO573 hb; replace HO576 := cR HO576 hb; replace HB := cW HB hb; (try clear hb); obtain ⟨Ao36, co36, eo36⟩ := Kd.R_slice HO561.out; subst eo36) | (go_at_call 13; (with_reducible refine (ebbtideref08_Same.calls k _ _ t559 _ _ t551 true _ ?side1 ?side2 ?side3 ?side4 A15.out).mono ?_); (case side1 => exact uC <| (Kd.R_reads' HO561.out).2.2); (case side2 => exact (Kd.R_reads' HO561.out).2.1); (case side3 => exact uC <| (Kd.R_reads' HO554.out).2.2); (case side4 => exact (Kd.R_reads' HO554.out).2.1); rintro e w' ⟨rfl, ⟨nd, rfl⟩⟩; obtain ⟨Ao37, co37, eo37⟩ := Kd.R_slice HO566.out; subst eo37) | (go_at_call 19; (with_reducible refine (diff_Same.calls k _ _ t555 _ _ t563 true _ ?side1 ?side2 ?side3 ?side4 A17.out).mono ?_); (case side1 => exact uC <| (Kd.R_reads' HO557.out).2.2); (case side2 => exact (Kd.R_reads' HO557.out).2.1); (case side3 => exact uC <| (Kd.R_reads' HO566.out).2.2); (case side4 => exact (Kd.R_reads' HO566.out).2.1); rintro e w' ⟨rfl, ⟨nd, rfl⟩⟩) | (go_at_call 19; (refine (diff_Same.calls k _ _ t555 _ _ ([] : List (S48)) false _ ?side1 ?side2 ?side3 ?side4 A19.out).mono ?_); (case side1 => exact uC <| (Kd.R_reads' HO557.out).2.2); (case side2 => exact (Kd.R_reads' HO557.out).2.1); (case side3 => exact Kd.C_nil _ _); (case side4 => exact Nat.le_refl _); rintro e w' ⟨rfl, ⟨nd, rfl⟩⟩) | (go_at_call 14; (refine (diff_Text.calls (hL := (by first | exact HL0.out | exact LD.below HL0.out (uW HB.out))) k _ _ ([] : List (S48)) t582 _ ?side1 ?side2 A21.out).mono ?_); (case side1 => exact Kd.C_nil _ _); (case side2 => exact Nat.le_refl _); rintro e w38 ⟨rfl, hb⟩; replace HO550 := cR HO550 hb; replace HO554 := cR HO554 hb; replace HO557 := cR HO557 hb; replace HO561 := cR HO561 hb; replace HO566 := cR HO566 hb; replace HO569 := cR HO569 hb; replace HO573 := cR HO573 hb; replace HO576 := cR HO576 hb; replace HB := cW HB hb; (try clear hb)))
     go_ret
     exact ⟨re_, uW HB.out⟩
   ·
    replace c18 := Bool.eq_false_iff.mpr c18
    subst c18
    rw [if_neg (show ¬ (false = true) by decide)] at H
    exact absurd H (by simp)
  ·
   replace c16 := Bool.eq_false_iff.mpr c16
   subst c16
   rw [if_neg (show ¬ (false = true) by decide)] at H
   exact absurd H (by simp)
 ·
  rw [if_neg c8] at H
  exact absurd H (by simp)
def ebbtideref08_Great.l0 : Nat → List (S45) → Int → Option (Bool)
 | 0, _, _ => none
 | k + 1, x0, x3 => if x3 < (x0.length : Int) then (if 0 ≤ x3 then (if (((rd_T45 x0 x3).f1).size : Int) > 300 then (some true) else (ebbtideref08_Great.l0 k x0 (wrap64 (x3 + 1)))) else (none)) else (some false)
def ebbtideref08_Great.f (k : Nat) (l0 : List (S45)) : Option (Bool) := if (l0.length : Int) > 100 then (some true) else (ebbtideref08_Great.l0 k l0 0)
theorem ebbtideref08_Great.mono_l : ∀ k, (∀ y0 y1, LeC (ebbtideref08_Great.l0 k y0 y1) (ebbtideref08_Great.l0 (k + 1) y0 y1))
 | 0 => fun _ _ => ⟨fun r h => by simp [ebbtideref08_Great.l0] at h⟩
 | k + 1 => by have ih0 := ebbtideref08_Great.mono_l k; exact fun _ _ => by unfold ebbtideref08_Great.l0; exact lm
theorem ebbtideref08_Great.mono : ∀ a0 k, LeO (ebbtideref08_Great.f k a0) (ebbtideref08_Great.f (k + 1) a0) := by
 intro a0 k
 have ih0 := ebbtideref08_Great.mono_l k
 unfold ebbtideref08_Great.f
 exact lo
instance ebbtideref08_Great.mI {a0 k} : LeC (ebbtideref08_Great.f k a0) (ebbtideref08_Great.f (k + 1) a0) := ⟨ebbtideref08_Great.mono _ _⟩
theorem ebbtideref08_Great.calls (k : Nat) (A0 : Option Addr) (c0 : Nat) (l0 : List (S45)) (r : Bool) (w : World) (hr0 : Kd.C k45 w A0 l0.length l0) (hc0 : l0.length ≤ c0) (h : ebbtideref08_Great.f k l0 = some r) :
 Calls Tryz.prog 9 #[.slice A0 l0.length c0] w fun e w' => e = .returned (.bool r) ∧ Drawn0 w w' := by
 have HR0 := Aside0.mk hr0
 have HC0 := Aside0.mk hc0
 clear hr0 hc0
 have H : (if (l0.length : Int) > 100 then (some true) else (ebbtideref08_Great.l0 k l0 0)) = some r := h
 clear h
 by_cases c2 : (l0.length : Int) > 100
 ·
  rw [if_pos c2] at H
  have c2b0 : decide (100 < (l0.length : Int)) = true := decide_eq_true c2
  have c2b1 : decide (100 < l0.length) = true := decide_eq_true (by omega)
  clear c2
  obtain rfl := Option.some.inj H
  go_enter Tryz.func9, Tryz.ntmps9
  go_wp2
  go_ret
  exact ⟨rs_, dr_⟩
 ·
  rw [if_neg c2] at H
  have c2b0 : decide (100 < (l0.length : Int)) = false := decide_eq_false c2
  have c2b1 : decide (100 < l0.length) = false := decide_eq_false (by omega)
  clear c2
  have H' := Aside0.mk H
  clear H
  go_enter Tryz.func9, Tryz.ntmps9
  go_wp2
  go_loopg [3] k (fun kq v3 w' => ∃ (x3_1 : Int), v3 = .int .i64 x3_1 ∧ Aside0 (ebbtideref08_Great.l0 kq l0 x3_1 = some r) ∧ Aside0 (kq ≤ k) ∧ Drawn0 w w')
  case atStart => exact ⟨(0), rs_, H', ⟨Nat.le_refl _⟩, dr_⟩
  case round =>
   clear H'
   try clear c2
   try clear c2b0
   try clear c2b1
   try clear p2
   obtain ⟨x3_1, rfl, HA, HK1, ⟨m1, rfl⟩⟩ := hrel
   cases gk with
   | zero => exact absurd HA.out (by simp [ebbtideref08_Great.l0])
   | succ k1 =>
    have H := HA.out
    clear HA
    simp only [ebbtideref08_Great.l0] at H
    by_cases c3 : x3_1 < (l0.length : Int)
    ·
     rw [if_pos c3] at H
     have c3b0 : decide (x3_1 < (l0.length : Int)) = true := decide_eq_true c3
     clear c3
     obtain ⟨c4b0, H⟩ := gdd H
     by_cases c5 : (((rd_T45 l0 x3_1).f1).size : Int) > 300
     ·
      rw [if_pos c5] at H
      have c5b0 : decide (300 < (((rd_T45 l0 x3_1).f1).size : Int)) = true := decide_eq_true c5
      have c5b1 : decide (300 < ((rd_T45 l0 x3_1).f1).size) = true := decide_eq_true (by omega)
      clear c5
      obtain rfl := Option.some.inj H
      have p583 : 0 ≤ (x3_1 : Int) := od
      have q583 : x3_1 < (l0.length : Int) := od
      obtain ⟨ad583, e583, hx583_0, hx583_1, hx583_2, hx583_3⟩ := at_T45 HR0.out x3_1 p583 q583
      cases e583
      replace p583 := eq_true p583
      replace q583 := eq_true q583
      go_wp2
      go_ret
      exact ⟨rs_, dr_⟩
     ·
      rw [if_neg c5] at H
      have c5b0 : decide (300 < (((rd_T45 l0 x3_1).f1).size : Int)) = false := decide_eq_false c5
      have c5b1 : decide (300 < ((rd_T45 l0 x3_1).f1).size) = false := decide_eq_false (by omega)
      clear c5
      have H' := Aside0.mk H
      clear H
      have p583 : 0 ≤ (x3_1 : Int) := od
      have q583 : x3_1 < (l0.length : Int) := od
      obtain ⟨ad583, e583, hx583_0, hx583_1, hx583_2, hx583_3⟩ := at_T45 HR0.out x3_1 p583 q583
      cases e583
      replace p583 := eq_true p583
      replace q583 := eq_true q583
      go_wp2
      go_roundg k1
      case measure => have := HK1.out; omega
      case rel => exact ⟨(wrap64 (x3_1 + 1)), rs_, H', ⟨by have := HK1.out; omega⟩, dr_⟩
    ·
     rw [if_neg c3] at H
     have c3b0 : decide (x3_1 < (l0.length : Int)) = false := decide_eq_false c3
     clear c3
     obtain rfl := Option.some.inj H
     go_wp2
     go_ret
     exact ⟨rs_, dr_⟩
def ebbtideref08_Right.l0 : Nat → List (S45) → Int → Option (Bool)
 | 0, _, _ => none
 | k + 1, x0, x3 => if x3 < (x0.length : Int) then (if 0 ≤ x3 then ((ebbtideref08_group.f k ((rd_T45 x0 x3).f1)).bind fun t585 => (if t585 = 0 then (ebbtideref08_Right.l0 k x0 (wrap64 (x3 + 1))) else (some false))) else (none)) else ((ebbtideref08_rise.f k x0).bind fun t586 => (some t586))
def ebbtideref08_Right.f (k : Nat) (l0 : List (S45)) : Option (Bool) := ebbtideref08_Right.l0 k l0 0
theorem ebbtideref08_Right.mono_l : ∀ k, (∀ y0 y1, LeC (ebbtideref08_Right.l0 k y0 y1) (ebbtideref08_Right.l0 (k + 1) y0 y1))
 | 0 => fun _ _ => ⟨fun r h => by simp [ebbtideref08_Right.l0] at h⟩
 | k + 1 => by have ih0 := ebbtideref08_Right.mono_l k; exact fun _ _ => by unfold ebbtideref08_Right.l0; exact lm
theorem ebbtideref08_Right.mono : ∀ a0 k, LeO (ebbtideref08_Right.f k a0) (ebbtideref08_Right.f (k + 1) a0) := by
 intro a0 k
 have ih0 := ebbtideref08_Right.mono_l k
 unfold ebbtideref08_Right.f
 exact lo
instance ebbtideref08_Right.mI {a0 k} : LeC (ebbtideref08_Right.f k a0) (ebbtideref08_Right.f (k + 1) a0) := ⟨ebbtideref08_Right.mono _ _⟩
theorem ebbtideref08_Right.calls (k : Nat) (A0 : Option Addr) (c0 : Nat) (l0 : List (S45)) (r : Bool) (w : World) (hr0 : Kd.C k45 w A0 l0.length l0) (hc0 : l0.length ≤ c0) (h : ebbtideref08_Right.f k l0 = some r) :
 Calls Tryz.prog 27 #[.slice A0 l0.length c0] w fun e w' => e = .returned (.bool r) ∧ Below w.heap.size w w' := by
 have HR0 := Aside0.mk hr0
 have HC0 := Aside0.mk hc0
 clear hr0 hc0
 have HB := Aside0.mk (Below.refl w.heap.size w)
 have H : (ebbtideref08_Right.l0 k l0 0) = some r := h
 clear h
 have H' := Aside0.mk H
 clear H
 go_enter Tryz.func27, Tryz.ntmps27
 go_wp2
 go_loopg [3] k (fun kq v3 w' => ∃ (x3_1 : Int), v3 = .int .i64 x3_1 ∧ Aside0 (ebbtideref08_Right.l0 kq l0 x3_1 = some r) ∧ Aside0 (kq ≤ k) ∧ Aside0 (Below w.heap.size w w'))
 case atStart => exact ⟨(0), rs_, H', ⟨Nat.le_refl _⟩, ⟨uW HB.out⟩⟩
 case round =>
  clear H'
  obtain ⟨x3_1, rfl, HA, HK1, HB⟩ := hrel
  cases gk with
  | zero => exact absurd HA.out (by simp [ebbtideref08_Right.l0])
  | succ k1 =>
   have H := HA.out
   clear HA
   simp only [ebbtideref08_Right.l0] at H
   by_cases c2 : x3_1 < (l0.length : Int)
   ·
    rw [if_pos c2] at H
    have c2b0 : decide (x3_1 < (l0.length : Int)) = true := decide_eq_true c2
    clear c2
    obtain ⟨c3b0, H⟩ := gdd H
    obtain ⟨t585, A4, H⟩ := bs H
    try dsimp only at H
    by_cases c5 : t585 = 0
    ·
     rw [if_pos c5] at H
     have c5b0 : (t585 == 0) = true := beq_iff_eq.mpr c5
     have c5b1 : (t585 != 0) = false := bne_eq_false_iff_eq.mpr c5
     clear c5
     have H' := Aside0.mk H
     clear H
     have p584 : 0 ≤ (x3_1 : Int) := od
     have q584 : x3_1 < (l0.length : Int) := od
     obtain ⟨ad584, e584, hx584_0, hx584_1, hx584_2, hx584_3⟩ := at_T45 HR0.out x3_1 p584 q584
     cases e584
     replace hx584_0 := kc HB hx584_0
     replace hx584_1 := kc HB hx584_1
     replace hx584_2 := kc HB hx584_2
     replace hx584_3 := kc HB hx584_3
     replace p584 := eq_true p584
     replace q584 := eq_true q584
     go_wp2_with (first | (refine gL (some 15) rfl Tryz.func51 #[.string ((rd_T45 l0 x3_1).f1)] ?_; (with_reducible refine (ebbtideref08_group.calls k1 ((rd_T45 l0 x3_1).f1) t585 _ A4.out).mono ?_); rintro e w6 ⟨rfl, hb⟩; refine ⟨_, rfl, ?_⟩; replace HB := cW HB hb; (try clear hb)))
     go_roundg k1
     case measure => have := HK1.out; omega
     case rel => exact ⟨(wrap64 (x3_1 + 1)), rs_, H', ⟨by have := HK1.out; omega⟩, ⟨uW HB.out⟩⟩
    ·
     rw [if_neg c5] at H
     have c5b0 : (t585 == 0) = false := beq_eq_false_iff_ne.mpr c5
     have c5b1 : (t585 != 0) = true := bne_iff_ne.mpr c5
     obtain rfl := Option.some.inj H
     have p584 : 0 ≤ (x3_1 : Int) := od
     have q584 : x3_1 < (l0.length : Int) := od
     obtain ⟨ad584, e584, hx584_0, hx584_1, hx584_2, hx584_3⟩ := at_T45 HR0.out x3_1 p584 q584
     cases e584
     replace hx584_0 := kc HB hx584_0
     replace hx584_1 := kc HB hx584_1
     replace hx584_2 := kc HB hx584_2
     replace hx584_3 := kc HB hx584_3
     replace p584 := eq_true p584
     replace q584 := eq_true q584
     go_wp2_with (first | (refine gL (some 15) rfl Tryz.func51 #[.string ((rd_T45 l0 x3_1).f1)] ?_; (with_reducible refine (ebbtideref08_group.calls k1 ((rd_T45 l0 x3_1).f1) t585 _ A4.out).mono ?_); rintro e w7 ⟨rfl, hb⟩; refine ⟨_, rfl, ?_⟩; replace HB := cW HB hb; (try clear hb)))
     go_ret
     exact ⟨re_, uW HB.out⟩
   ·
    rw [if_neg c2] at H
    have c2b0 : decide (x3_1 < (l0.length : Int)) = false := decide_eq_false c2
    clear c2
    obtain ⟨t586, A8, H⟩ := bs H
    try dsimp only at H
    obtain rfl := Option.some.inj H
    go_wp2_with (first | (refine gL (some 18) rfl Tryz.func44 #[.slice A0 l0.length c0] ?_; (with_reducible refine (ebbtideref08_rise.calls k1 _ _ l0 t586 _ ?side1 ?side2 A8.out).mono ?_); (case side1 => exact uC <| (Kd.C_below HR0.out HB.out)); (case side2 => exact HC0.out); rintro e w9 ⟨rfl, hb⟩; refine ⟨_, rfl, ?_⟩; replace HB := cW HB hb; (try clear hb)))
    go_ret
    exact ⟨re_, uW HB.out⟩
def ebbtideref09_find.l0 : Nat → List (S45) → Int → Int → ByteArray → Int → Bool → Option (Int)
 | 0, _, _, _, _, _, _ => none
 | k + 1, x0, x5, x588000, x588001, x588002, x588003 => if x5 < (x0.length : Int) then (if 0 ≤ x5 then (if ((rd_T45 x0 x5).f0) = x588000 then (if ((rd_T45 x0 x5).f1).toList = x588001.toList then (some x5) else (ebbtideref09_find.l0 k x0 (wrap64 (x5 + 1)) x588000 x588001 x588002 x588003)) else (ebbtideref09_find.l0 k x0 (wrap64 (x5 + 1)) x588000 x588001 x588002 x588003)) else (none)) else (some (-1))
def ebbtideref09_find.f (k : Nat) (l0 : List (S45)) (a1_0 : Int) (a1_1 : ByteArray) (a1_2 : Int) (a1_3 : Bool) : Option (Int) := ebbtideref09_find.l0 k l0 0 a1_0 a1_1 a1_2 a1_3
theorem ebbtideref09_find.mono_l : ∀ k, (∀ y0 y1 y2 y3 y4 y5, LeC (ebbtideref09_find.l0 k y0 y1 y2 y3 y4 y5) (ebbtideref09_find.l0 (k + 1) y0 y1 y2 y3 y4 y5))
 | 0 => fun _ _ _ _ _ _ => ⟨fun r h => by simp [ebbtideref09_find.l0] at h⟩
 | k + 1 => by have ih0 := ebbtideref09_find.mono_l k; exact fun _ _ _ _ _ _ => by unfold ebbtideref09_find.l0; exact lm
theorem ebbtideref09_find.mono : ∀ a0 a1 a2 a3 a4 k, LeO (ebbtideref09_find.f k a0 a1 a2 a3 a4) (ebbtideref09_find.f (k + 1) a0 a1 a2 a3 a4) := by
 intro a0 a1 a2 a3 a4 k
 have ih0 := ebbtideref09_find.mono_l k
 unfold ebbtideref09_find.f
 exact lo
instance ebbtideref09_find.mI {a0 a1 a2 a3 a4 k} : LeC (ebbtideref09_find.f k a0 a1 a2 a3 a4) (ebbtideref09_find.f (k + 1) a0 a1 a2 a3 a4) := ⟨ebbtideref09_find.mono _ _ _ _ _ _⟩
theorem ebbtideref09_find.calls (k : Nat) (A0 : Option Addr) (c0 : Nat) (l0 : List (S45)) (a1_0 : Int) (a1_1 : ByteArray) (a1_2 : Int) (a1_3 : Bool) (r : Int) (w : World) (hr0 : Kd.C k45 w A0 l0.length l0) (hc0 : l0.length ≤ c0) (h : ebbtideref09_find.f k l0 a1_0 a1_1 a1_2 a1_3 = some r) :
 Calls Tryz.prog 28 #[.slice A0 l0.length c0, .agg #[.int .i64 a1_0, .string a1_1, .int .i64 a1_2, .bool a1_3]] w fun e w' => e = .returned (.int .i64 r) ∧ Below w.heap.size w w' := by
 have hu45 := Tryz.underlying45
 have HR0 := Aside0.mk hr0
 have HC0 := Aside0.mk hc0
 clear hr0 hc0
 have HB := Aside0.mk (Below.refl w.heap.size w)
 have H : (ebbtideref09_find.l0 k l0 0 a1_0 a1_1 a1_2 a1_3) = some r := h
 clear h
 have H' := Aside0.mk H
 clear H
 go_enter Tryz.func28, Tryz.ntmps28
 go_wp2_with (first | ((with_reducible refine gate_dst (N := 3) rfl ?_); refine bx (N := 3) #[.int .i64 a1_0, .string a1_1, .int .i64 a1_2, .bool a1_3] 45 ?_; intro gb587 hg w3 hbox hb; have BK587 := Aside0.mk (hbox); have GW587 := gw hg (uW HB.out); have GE587 := GW587; replace HB := cW HB hb; clear hb hbox hg))
 repeat (go_quiet (first | ((with_reducible refine gate_dst (N := 3) rfl ?_); refine bx (N := 3) #[.int .i64 a1_0, .string a1_1, .int .i64 a1_2, .bool a1_3] 45 ?_; intro gb587 hg w3 hbox hb; have BK587 := Aside0.mk (hbox); have GW587 := gw hg (uW HB.out); have GE587 := GW587; replace HB := cW HB hb; clear hb hbox hg)); try go_wp2_with (first | ((with_reducible refine gate_dst (N := 3) rfl ?_); refine bx (N := 3) #[.int .i64 a1_0, .string a1_1, .int .i64 a1_2, .bool a1_3] 45 ?_; intro gb587 hg w3 hbox hb; have BK587 := Aside0.mk (hbox); have GW587 := gw hg (uW HB.out); have GE587 := GW587; replace HB := cW HB hb; clear hb hbox hg)))
 go_loopg [5] k (fun kq v5 w' => ∃ (x5_1 : Int), v5 = .int .i64 x5_1 ∧ Aside0 (ebbtideref09_find.l0 kq l0 x5_1 a1_0 a1_1 a1_2 a1_3 = some r) ∧ Aside0 (kq ≤ k) ∧ Aside0 (w'.heap[gb587]? = some (.cells #[.int .i64 a1_0, .string a1_1, .int .i64 a1_2, .bool a1_3] 45 (0, 0))) ∧ Aside0 (Below w.heap.size w w'))
 case atStart => exact ⟨(0), rs_, H', ⟨Nat.le_refl _⟩, ⟨uB BK587.out⟩, ⟨bl⟩⟩
 case round =>
  clear H'
  try clear c2
  try clear p2
  obtain ⟨x5_1, rfl, HA, HK1, BK587, HB⟩ := hrel
  cases gk with
  | zero => exact absurd HA.out (by simp [ebbtideref09_find.l0])
  | succ k1 =>
   have H := HA.out
   clear HA
   simp only [ebbtideref09_find.l0] at H
   by_cases c4 : x5_1 < (l0.length : Int)
   ·
    rw [if_pos c4] at H
    have c4b0 : decide (x5_1 < (l0.length : Int)) = true := decide_eq_true c4
    clear c4
    obtain ⟨c5b0, H⟩ := gdd H
    by_cases c6 : ((rd_T45 l0 x5_1).f0) = a1_0
    ·
     rw [if_pos c6] at H
     have c6b0 : (((rd_T45 l0 x5_1).f0) == a1_0) = true := beq_iff_eq.mpr c6
     have c6b1 : (((rd_T45 l0 x5_1).f0) != a1_0) = false := bne_eq_false_iff_eq.mpr c6
     clear c6
     by_cases c7 : ((rd_T45 l0 x5_1).f1).toList = a1_1.toList
     ·
      rw [if_pos c7] at H
      have c7b0 : (((rd_T45 l0 x5_1).f1).toList == a1_1.toList) = true := beq_iff_eq.mpr c7
      have c7b1 : (((rd_T45 l0 x5_1).f1).toList != a1_1.toList) = false := bne_eq_false_iff_eq.mpr c7
      clear c7
      obtain rfl := Option.some.inj H
      have p588 : 0 ≤ (x5_1 : Int) := od
      have q588 : x5_1 < (l0.length : Int) := od
      obtain ⟨ad588, e588, hx588_0, hx588_1, hx588_2, hx588_3⟩ := at_T45 HR0.out x5_1 p588 q588
      cases e588
      replace hx588_0 := kc HB hx588_0
      replace hx588_1 := kc HB hx588_1
      replace hx588_2 := kc HB hx588_2
      replace hx588_3 := kc HB hx588_3
      replace p588 := eq_true p588
      replace q588 := eq_true q588
      obtain ⟨hcz8_0, hcz8_1, hcz8_2, hcz8_3, hfz8_0, hfz8_1, hfz8_2, hfz8_3⟩ := z4 BK587
      have p589 : 0 ≤ (x5_1 : Int) := od
      have q589 : x5_1 < (l0.length : Int) := od
      obtain ⟨ad589, e589, hx589_0, hx589_1, hx589_2, hx589_3⟩ := at_T45 HR0.out x5_1 p589 q589
      obtain rfl : ad588 = ad589 := (by injection e589)
      replace hx589_0 := kc HB hx589_0
      replace hx589_1 := kc HB hx589_1
      replace hx589_2 := kc HB hx589_2
      replace hx589_3 := kc HB hx589_3
      replace p589 := eq_true p589
      replace q589 := eq_true q589
      go_wp2
      repeat (go_quiet (fail); try go_wp2)
      go_ret
      exact ⟨re_, bl⟩
     ·
      rw [if_neg c7] at H
      have c7b0 : (((rd_T45 l0 x5_1).f1).toList == a1_1.toList) = false := beq_eq_false_iff_ne.mpr c7
      have c7b1 : (((rd_T45 l0 x5_1).f1).toList != a1_1.toList) = true := bne_iff_ne.mpr c7
      have H' := Aside0.mk H
      clear H
      have p588 : 0 ≤ (x5_1 : Int) := od
      have q588 : x5_1 < (l0.length : Int) := od
      obtain ⟨ad588, e588, hx588_0, hx588_1, hx588_2, hx588_3⟩ := at_T45 HR0.out x5_1 p588 q588
      cases e588
      replace hx588_0 := kc HB hx588_0
      replace hx588_1 := kc HB hx588_1
      replace hx588_2 := kc HB hx588_2
      replace hx588_3 := kc HB hx588_3
      replace p588 := eq_true p588
      replace q588 := eq_true q588
      obtain ⟨hcz9_0, hcz9_1, hcz9_2, hcz9_3, hfz9_0, hfz9_1, hfz9_2, hfz9_3⟩ := z4 BK587
      have p589 : 0 ≤ (x5_1 : Int) := od
      have q589 : x5_1 < (l0.length : Int) := od
      obtain ⟨ad589, e589, hx589_0, hx589_1, hx589_2, hx589_3⟩ := at_T45 HR0.out x5_1 p589 q589
      obtain rfl : ad588 = ad589 := (by injection e589)
      replace hx589_0 := kc HB hx589_0
      replace hx589_1 := kc HB hx589_1
      replace hx589_2 := kc HB hx589_2
      replace hx589_3 := kc HB hx589_3
      replace p589 := eq_true p589
      replace q589 := eq_true q589
      go_wp2
      repeat (go_quiet (fail); try go_wp2)
      go_roundg k1
      case measure => have := HK1.out; omega
      case rel => exact ⟨(wrap64 (x5_1 + 1)), rs_, H', ⟨by have := HK1.out; omega⟩, ⟨uB BK587.out⟩, ⟨bl⟩⟩
    ·
     rw [if_neg c6] at H
     have c6b0 : (((rd_T45 l0 x5_1).f0) == a1_0) = false := beq_eq_false_iff_ne.mpr c6
     have c6b1 : (((rd_T45 l0 x5_1).f0) != a1_0) = true := bne_iff_ne.mpr c6
     have H' := Aside0.mk H
     clear H
     have p588 : 0 ≤ (x5_1 : Int) := od
     have q588 : x5_1 < (l0.length : Int) := od
     obtain ⟨ad588, e588, hx588_0, hx588_1, hx588_2, hx588_3⟩ := at_T45 HR0.out x5_1 p588 q588
     cases e588
     replace hx588_0 := kc HB hx588_0
     replace hx588_1 := kc HB hx588_1
     replace hx588_2 := kc HB hx588_2
     replace hx588_3 := kc HB hx588_3
     replace p588 := eq_true p588
     replace q588 := eq_true q588
     obtain ⟨hcz10_0, hcz10_1, hcz10_2, hcz10_3, hfz10_0, hfz10_1, hfz10_2, hfz10_3⟩ := z4 BK587
     go_wp2
     repeat (go_quiet (fail); try go_wp2)
     go_roundg k1
     case measure => have := HK1.out; omega
     case rel => exact ⟨(wrap64 (x5_1 + 1)), rs_, H', ⟨by have := HK1.out; omega⟩, ⟨uB BK587.out⟩, ⟨bl⟩⟩
   ·
    rw [if_neg c4] at H
    have c4b0 : decide (x5_1 < (l0.length : Int)) = false := decide_eq_false c4
    clear c4
    obtain rfl := Option.some.inj H
    go_wp2
    repeat (go_quiet (fail); try go_wp2)
    go_ret
    exact ⟨re_, bl⟩
end Go.Proofs.YtgcbejidponoaaaGreatDoor.X
