/- Printed by a program of this session's own: what functions of the program compute, and that the machine computes it. No condition of its own. -/
import Derived.Test.YtgcbejidponoaaaGreatDoorM3
import Derived.Test.YtgcbejidponoaaaGreatDoorM8
import Derived.Test.YtgcbejidponoaaaGreatDoorM11
import Derived.Test.YtgcbejidponoaaaGreatDoorM9
import Derived.Test.YtgcbejidponoaaaGreatDoorM5
import Derived.Test.YtgcbejidponoaaaGreatDoorM10
import Derived.Test.YtgcbejidponoaaaGreatDoorM6
namespace Go.Proofs.YtgcbejidponoaaaGreatDoor.X
open Go.RowKit Go.Proofs.YtgcbejidponoaaaGreatDoorW.PrintWords Go.Proofs.YtgcbejidponoaaaGreatDoorW.PrintLast Go.Proofs.YtgcbejidponoaaaGreatDoorW.PrintMore
attribute [local go_sem] max2_int min2_int max_two min_two max_three min_three max_four min_four
set_option linter.unusedVariables false
set_option linter.unusedSimpArgs false
set_option maxHeartbeats 8000000
set_option maxRecDepth 100000
def r08_one.f (k : Nat) (a0 : ByteArray) : Option (Int × ByteArray × Int × Bool × Int) := (r02_Split.f k a0 124).bind fun t516 => (if (t516.length : Int) = 3 then (if 0 < (t516.length : Int) then ((r01_Read.f k (rdOf ByteArray.empty t516 0)).bind fun bt520 => (if bt520.2 = 0 then (if 1 < (t516.length : Int) then ((r08_group.f k (rdOf ByteArray.empty t516 1)).bind fun t523 => (if t523 = 0 then (if 2 < (t516.length : Int) then ((r01_Parse.f k (rdOf ByteArray.empty t516 2)).bind fun bt525 => (if bt525.2.2 = 0 then (some (bt520.1, rdOf ByteArray.empty t516 1, bt525.1, bt525.2.1, 0)) else (some (0, (⟨#[]⟩ : ByteArray), 0, false, bt525.2.2)))) else (none)) else (some (0, (⟨#[]⟩ : ByteArray), 0, false, t523)))) else (none)) else (some (0, (⟨#[]⟩ : ByteArray), 0, false, bt520.2)))) else (none)) else (some (0, (⟨#[]⟩ : ByteArray), 0, false, 2)))
theorem r08_one.mono : ∀ a0 k, LeO (r08_one.f k a0) (r08_one.f (k + 1) a0) := by
 intro a0 k
 unfold r08_one.f
 exact lo
instance r08_one.mI {a0 k} : LeC (r08_one.f k a0) (r08_one.f (k + 1) a0) := ⟨r08_one.mono _ _⟩
def r08_one.T13 : Bool × List (List Nat × List Nat) := (true, [([], []), ([], []), ([1], [1]), ([2], [2]), ([], []), ([0, 3, 4], [0, 3, 4]), ([5, 0, 1, 2, 3, 4, 5], [5]), ([6, 0, 1, 2, 3, 4, 5, 6], [])])
def r08_one.B13 : List Nat := [0, 0, 2, 6, 0, 31, 63, 127]
theorem r08_one.tab13 : rtab .any (opsOf Tryz.f43 13) = r08_one.T13 := by kernel_rfl
theorem r08_one.bits13 : waitsOk r08_one.T13.2 r08_one.B13 = true := by kernel_rfl
theorem r08_one.calls (k : Nat) (a0 : ByteArray) (r1 : Int) (r2 : ByteArray) (r3 : Int) (r4 : Bool) (r5 : Int) (w : World) (h : r08_one.f k a0 = some (r1, r2, r3, r4, r5)) :
 Calls Tryz.prog 43 #[.string a0] w fun e w' => e = .returned (.tuple #[.agg #[.int .i64 r1, .string r2, .int .i64 r3, .bool r4], .int .i64 r5]) ∧ Below w.heap.size w w' := by
 have hu45 := Tryz.underlying45
 have hu43 := Tryz.underlying43
 have HB := Aside0.mk (Below.refl w.heap.size w)
 have H : ((r02_Split.f k a0 124).bind fun t516 => (if (t516.length : Int) = 3 then (if 0 < (t516.length : Int) then ((r01_Read.f k (rdOf ByteArray.empty t516 0)).bind fun bt520 => (if bt520.2 = 0 then (if 1 < (t516.length : Int) then ((r08_group.f k (rdOf ByteArray.empty t516 1)).bind fun t523 => (if t523 = 0 then (if 2 < (t516.length : Int) then ((r01_Parse.f k (rdOf ByteArray.empty t516 2)).bind fun bt525 => (if bt525.2.2 = 0 then (some (bt520.1, rdOf ByteArray.empty t516 1, bt525.1, bt525.2.1, 0)) else (some (0, (⟨#[]⟩ : ByteArray), 0, false, bt525.2.2)))) else (none)) else (some (0, (⟨#[]⟩ : ByteArray), 0, false, t523)))) else (none)) else (some (0, (⟨#[]⟩ : ByteArray), 0, false, bt520.2)))) else (none)) else (some (0, (⟨#[]⟩ : ByteArray), 0, false, 2)))) = some (r1, r2, r3, r4, r5) := h
 clear h
 obtain ⟨t516, A2, H⟩ := bs H
 try dsimp only at H
 by_cases c3 : (t516.length : Int) = 3
 ·
  rw [if_pos c3] at H
  have c3b0 : ((t516.length : Int) == 3) = true := beq_iff_eq.mpr c3
  have c3b1 : ((t516.length : Int) != 3) = false := bne_eq_false_iff_eq.mpr c3
  clear c3
  obtain ⟨c4, H⟩ := gd H
  have c4b0 : decide (0 < (t516.length : Int)) = true := decide_eq_true c4
  have c4b1 : decide (0 < t516.length) = true := decide_eq_true (by omega)
  clear c4
  obtain ⟨⟨t520, t521⟩, A5, H⟩ := bs H
  try dsimp only at H
  by_cases c6 : t521 = 0
  ·
   rw [if_pos c6] at H
   have c6b0 : (t521 == 0) = true := beq_iff_eq.mpr c6
   have c6b1 : (t521 != 0) = false := bne_eq_false_iff_eq.mpr c6
   clear c6
   obtain ⟨c7, H⟩ := gd H
   have c7b0 : decide (1 < (t516.length : Int)) = true := decide_eq_true c7
   have c7b1 : decide (1 < t516.length) = true := decide_eq_true (by omega)
   clear c7
   obtain ⟨t523, A8, H⟩ := bs H
   try dsimp only at H
   by_cases c9 : t523 = 0
   ·
    rw [if_pos c9] at H
    have c9b0 : (t523 == 0) = true := beq_iff_eq.mpr c9
    have c9b1 : (t523 != 0) = false := bne_eq_false_iff_eq.mpr c9
    clear c9
    obtain ⟨c10, H⟩ := gd H
    have c10b0 : decide (2 < (t516.length : Int)) = true := decide_eq_true c10
    have c10b1 : decide (2 < t516.length) = true := decide_eq_true (by omega)
    clear c10
    obtain ⟨⟨t525, t526, t527⟩, A11, H⟩ := bs H
    try dsimp only at H
    by_cases c12 : t527 = 0
    ·
     rw [if_pos c12] at H
     have c12b0 : (t527 == 0) = true := beq_iff_eq.mpr c12
     have c12b1 : (t527 != 0) = false := bne_eq_false_iff_eq.mpr c12
     clear c12
     simp only [Option.some.injEq, Prod.mk.injEq] at H
     obtain ⟨rfl, rfl, rfl, rfl, rfl⟩ := H
     go_enter Tryz.func43, Tryz.ntmps43
     try go_wp2_with (first | ((with_reducible refine gate_dst (N := 2) rfl ?_); refine bx (N := 2) #[.int .i64 0, .string (⟨#[]⟩ : ByteArray), .int .i64 0, .bool false] 45 ?_; intro gb515 hg w13 hbox hb; have BK515 := Aside0.mk (hbox); have GW515 := gw hg (uW HB.out); have GE515 := GW515; replace HB := cW HB hb; clear hb hbox hg) | (refine gL (some 9) rfl Tryz.func41 #[.string a0, .int .u8 124] ?_; (with_reducible refine (r02_Split.calls k a0 124 t516 _ A2.out).mono ?_); rintro e w14 ⟨v517, rfl, ho0, hb⟩; refine ⟨_, rfl, ?_⟩; have HO518 := Aside0.mk (Kd.R_lower ho0 (below_size bl)); replace BK515 := cB BK515 hb; replace HB := Aside0.mk (below_step bl hb); (try clear hb); (try clear ho0); obtain ⟨Ao15, co15, eo15⟩ := Kd.R_slice HO518.out; subst eo15; have p519 : 0 ≤ (0 : Int) := (by omega); have q519 : 0 < (t516.length : Int) := od; obtain ⟨ad519, e519, hx519_0⟩ := Kd.at_string (Kd.R_reads' HO518.out).2.2 0 p519 q519; cases e519; have qi519 : (0 < t516.length) = True := eq_true (by omega); (try rw [show ((0 : Int)).toNat = 0 from rfl] at hx519_0); (try rw [Addr.add_zero'] at hx519_0); replace p519 := eq_true p519; replace q519 := eq_true q519) | (refine gL (some 18) rfl Tryz.func60 #[.string (rdOf ByteArray.empty t516 0)] ?_; (with_reducible refine (r01_Read.calls k (rdOf ByteArray.empty t516 0) t520 t521 _ A5.out).mono ?_); rintro e w' ⟨rfl, ⟨nd, rfl⟩⟩; refine ⟨_, rfl, ?_⟩; (try (rw [drewN_self w14]; generalize hq_ : World.drewN w14 _ = w14; have n0_ : Aside0 (Kd.R Kd.string 9 w14 w.heap.size (fun _ => True) (.slice (some ad519) t516.length co15) t516) := ⟨by rw [← hq_]; exact (uR HO518.out)⟩; have n1_ : Aside0 (w14.heap[gb515]? = some (.cells #[.int .i64 0, .string (⟨#[]⟩ : ByteArray), .int .i64 0, .bool false] 45 (0, 0))) := ⟨by rw [← hq_]; exact (uB BK515.out)⟩; have n2_ : Aside0 (Below w.heap.size w w14) := ⟨by rw [← hq_]; exact bl⟩; clear HO518 BK515 HB hq_; have HO518 := n0_; have BK515 := n1_; have HB := n2_; clear n0_ n1_ n2_)); have p522 : 0 ≤ (1 : Int) := (by omega); have q522 : 1 < (t516.length : Int) := od; obtain ⟨ad522, e522, hx522_0⟩ := Kd.at_string (Kd.R_reads' HO518.out).2.2 1 p522 q522; obtain rfl : ad519 = ad522 := (by injection e522); (try simp only [show (1 : Int).toNat = 1 from rfl, Nat.reduceMul, Nat.reduceEqDiff, Go.Addr.add, ↓reduceIte] at hx522_0); have qi522 : (1 < t516.length) = True := eq_true (by omega); (try rw [show ((1 : Int)).toNat = 1 from rfl] at hx522_0); replace p522 := eq_true p522; replace q522 := eq_true q522) | (refine gL (some 28) rfl Tryz.func51 #[.string (rdOf ByteArray.empty t516 1)] ?_; (with_reducible refine (r08_group.calls k (rdOf ByteArray.empty t516 1) t523 _ A8.out).mono ?_); rintro e w16 ⟨rfl, hb⟩; refine ⟨_, rfl, ?_⟩; replace HO518 := cR HO518 hb; replace BK515 := cB BK515 hb; replace HB := Aside0.mk (below_step bl hb); (try clear hb); have p524 : 0 ≤ (2 : Int) := (by omega); have q524 : 2 < (t516.length : Int) := od; obtain ⟨ad524, e524, hx524_0⟩ := Kd.at_string (Kd.R_reads' HO518.out).2.2 2 p524 q524; obtain rfl : ad519 = ad524 := (by injection e524); (try simp only [show (2 : Int).toNat = 2 from rfl, Nat.reduceMul, Nat.reduceEqDiff, Go.Addr.add, ↓reduceIte] at hx524_0); have qi524 : (2 < t516.length) = True := eq_true (by omega); (try rw [show ((2 : Int)).toNat = 2 from rfl] at hx524_0); replace p524 := eq_true p524; replace q524 := eq_true q524) | (refine gL (some 37) rfl Tryz.func63 #[.string (rdOf ByteArray.empty t516 2)] ?_; (with_reducible refine (r01_Parse.calls k (rdOf ByteArray.empty t516 2) t525 t526 t527 _ A11.out).mono ?_); rintro e w17 ⟨rfl, hb⟩; refine ⟨_, rfl, ?_⟩; replace HO518 := cR HO518 hb; replace BK515 := cB BK515 hb; replace HB := Aside0.mk (below_step bl hb); (try clear hb)) | ((with_reducible refine gate_dst (N := 7) rfl ?_); refine bx (N := 7) #[.int .i64 0, .bool false] 43 ?_; intro gb528 hg w18 hbox hb; replace HO518 := cR HO518 hb; have BK528 := Aside0.mk (hbox); have GW528 := gw hg bl; have GE528 := GW528; replace HB := Aside0.mk (below_step bl hb); have NB515_528 := Aside0.mk ((by rw [hg]; exact Nat.ne_of_lt (blk_lt (g := gb515) (o := .cells #[.int .i64 0, .string (⟨#[]⟩ : ByteArray), .int .i64 0, .bool false] 45 (0, 0)) (uB BK515.out)) : gb515 ≠ gb528)); have NB528_515 := Aside0.mk ((by rw [hg]; exact Nat.ne_of_gt (blk_lt (g := gb515) (o := .cells #[.int .i64 0, .string (⟨#[]⟩ : ByteArray), .int .i64 0, .bool false] 45 (0, 0)) (uB BK515.out)) : gb528 ≠ gb515)); replace BK515 := cB BK515 hb; clear hb hbox hg; have hnb19 := NB528_515.out; have hnc19 := NB515_528.out; obtain ⟨hcz20_0, hcz20_1, hfz20_0, hfz20_1⟩ := z2 BK528))
     have n0_ : Aside0 (Kd.R Kd.string 9 ((w18.setCell ⟨gb528, 0, none⟩ (.int .i64 t525)).setCell ⟨gb528, 1, none⟩ (.bool t526)) w.heap.size (fun _ => True) (.slice (some ad519) t516.length co15) t516) := ⟨by exact uR <| Kd.R_mono (Kd.R_far (p := ⟨gb528, 1, none⟩) (Kd.R_far (p := ⟨gb528, 0, none⟩) (Kd.R_types HO518.out BK528.out (by decide)) (fun _ hk => hk.2) (.int .i64 t525)) (fun _ hk => hk.2) (.bool t526)) (fun _ hk => trivial)⟩
     have n1_ : Aside0 (((w18.setCell ⟨gb528, 0, none⟩ (.int .i64 t525)).setCell ⟨gb528, 1, none⟩ (.bool t526)).heap[gb515]? = some (.cells #[.int .i64 0, .string (⟨#[]⟩ : ByteArray), .int .i64 0, .bool false] 45 (0, 0))) := ⟨by (with_reducible repeat (first | refine blk_drewN ?_ _ | refine blk_drew ?_ | refine blk_alloc ?_ _)); refine blk_far ?_ NB515_528.out _; (with_reducible repeat (first | refine blk_drewN ?_ _ | refine blk_drew ?_ | refine blk_alloc ?_ _)); refine blk_far ?_ NB515_528.out _; exact uB <| BK515.out⟩
     have n2_ : Aside0 (((w18.setCell ⟨gb528, 0, none⟩ (.int .i64 t525)).setCell ⟨gb528, 1, none⟩ (.bool t526)).heap[gb528]? = some (.cells #[.int .i64 t525, .bool t526] 43 (0, 0))) := ⟨by (with_reducible repeat (first | refine blk_drewN ?_ _ | refine blk_drew ?_ | refine blk_alloc ?_ _)); refine blk_put (cs := #[.int .i64 t525, .bool false]) ?_ 1 _ rfl; (with_reducible repeat (first | refine blk_drewN ?_ _ | refine blk_drew ?_ | refine blk_alloc ?_ _)); refine blk_put (cs := #[.int .i64 0, .bool false]) ?_ 0 _ rfl; exact uB <| BK528.out⟩
     have n3_ : Aside0 (Below w.heap.size w ((w18.setCell ⟨gb528, 0, none⟩ (.int .i64 t525)).setCell ⟨gb528, 1, none⟩ (.bool t526))) := ⟨bl⟩
     (try clear HO518)
     (try clear BK515)
     (try clear BK528)
     (try clear HB)
     generalize ((w18.setCell ⟨gb528, 0, none⟩ (.int .i64 t525)).setCell ⟨gb528, 1, none⟩ (.bool t526)) = w21 at n0_ n1_ n2_ n3_ ⊢
     have HO518 := n0_
     have BK515 := n1_
     have BK528 := n2_
     have HB := n3_
     clear n0_ n1_ n2_ n3_
     replace HO518 := Aside0.mk (Kd.R_drew HO518.out)
     replace BK515 := Aside0.mk (blk_drew BK515.out)
     replace BK528 := Aside0.mk (blk_drew BK528.out)
     replace HB := Aside0.mk (below_drew1 HB.out)
     have p529 : 0 ≤ (1 : Int) := (by omega)
     have q529 : 1 < (t516.length : Int) := od
     obtain ⟨ad529, e529, hx529_0⟩ := Kd.at_string (Kd.R_reads' HO518.out).2.2 1 p529 q529
     obtain rfl : ad519 = ad529 := (by injection e529)
     (try simp only [show (1 : Int).toNat = 1 from rfl, Nat.reduceMul, Nat.reduceEqDiff, Go.Addr.add, ↓reduceIte] at hx529_0)
     have qi529 : (1 < t516.length) = True := eq_true (by omega)
     (try rw [show ((1 : Int)).toNat = 1 from rfl] at hx529_0)
     replace p529 := eq_true p529
     replace q529 := eq_true q529
     refine start_ (n := 8) (S := fun w' => w'.cell? ⟨gb528, 0, none⟩ = some (.int .i64 t525) ∧ w'.cell? ⟨gb528, 1, none⟩ = some (.bool t526) ∧ w'.cell? ⟨ad519.block, ad519.off + 1, none⟩ = some (.string (rdOf ByteArray.empty t516 1))) (ds := []) _ (by kernel_rfl) rfl rfl ⟨(blk_cell BK528.out 0).trans rfl, (blk_cell BK528.out 1).trans rfl, hx529_0⟩ (fun hHeld => ?_); refine with_tabW r08_one.tab13 r08_one.bits13 (fun HT_ HW_ => ?_)
     generalize w21.drew = w22 at HO518 BK515 BK528 HB hx529_0 hHeld ⊢
     refine p1 0 (some 44) ?_
     refine p1 1 (some 45) ?_
     refine p1 2 (some 46) ?_
     refine t1 3 (some 47) rfl rfl hHeld (Or.inl ⟨by rfl, by rintro w' ⟨s0, s1, s2⟩; go_simp; with_reducible rfl⟩) ?_
     refine t1 4 (some 48) rfl rfl hHeld (Or.inl ⟨by rfl, by rintro w' ⟨s0, s1, s2⟩; go_simp; with_reducible rfl⟩) ?_
     refine p1 5 (some 49) ?_
     refine o1 6 none rfl rfl (fun K hK => ?_)
     have hs23 : w22.cell? ⟨gb515, 0, none⟩ = some (.int .i64 0) := (blk_cell BK515.out 0).trans rfl
     have hfs23 := blk_frozen BK515.out 0
     have hns23_1 := NB528_515.out
     have hms23_1 := NB515_528.out
     have hs24 : w22.cell? ⟨gb515, 1, none⟩ = some (.string (⟨#[]⟩ : ByteArray)) := (blk_cell BK515.out 1).trans rfl
     have hfs24 := blk_frozen BK515.out 1
     have hns24_1 := NB528_515.out
     have hms24_1 := NB515_528.out
     have hs25 : w22.cell? ⟨gb515, 2, none⟩ = some (.int .i64 0) := (blk_cell BK515.out 2).trans rfl
     have hfs25 := blk_frozen BK515.out 2
     have hns25_1 := NB528_515.out
     have hms25_1 := NB515_528.out
     have hs26 : w22.cell? ⟨gb515, 3, none⟩ = some (.bool false) := (blk_cell BK515.out 3).trans rfl
     have hfs26 := blk_frozen BK515.out 3
     have hns26_1 := NB528_515.out
     have hms26_1 := NB515_528.out
     refine skip_ (w1 := ?_) (by rfl) rfl ?_ ?_
     rotate_left
     ·
      go_simp
      rfl
     refine hK.out _ _ ⟨((cell_far (p := ⟨gb515, _, none⟩) NB528_515.out _).trans (((cell_far (p := ⟨gb515, _, none⟩) NB528_515.out _).trans (((cell_far (p := ⟨gb515, _, none⟩) NB528_515.out _).trans (((cell_far (p := ⟨gb515, _, none⟩) NB528_515.out _).trans (hHeld.1)))))))), ((cell_far (p := ⟨gb515, _, none⟩) NB528_515.out _).trans (((cell_far (p := ⟨gb515, _, none⟩) NB528_515.out _).trans (((cell_far (p := ⟨gb515, _, none⟩) NB528_515.out _).trans (((cell_far (p := ⟨gb515, _, none⟩) NB528_515.out _).trans (hHeld.2.1)))))))), ((cell_far (p := ⟨gb515, _, none⟩) (by first | exact Kd.own_blk (Kd.R_ne HO518.out BK515.out (by decide)) | (rw [add_block]; exact Kd.own_blk (Kd.R_ne HO518.out BK515.out (by decide))) | (show (Addr.add _ _).block ≠ _; rw [add_block]; exact Kd.own_blk (Kd.R_ne HO518.out BK515.out (by decide))) | (dsimp only; exact Kd.own_blk (Kd.R_ne HO518.out BK515.out (by decide)))) _).trans (((cell_far (p := ⟨gb515, _, none⟩) (by first | exact Kd.own_blk (Kd.R_ne HO518.out BK515.out (by decide)) | (rw [add_block]; exact Kd.own_blk (Kd.R_ne HO518.out BK515.out (by decide))) | (show (Addr.add _ _).block ≠ _; rw [add_block]; exact Kd.own_blk (Kd.R_ne HO518.out BK515.out (by decide))) | (dsimp only; exact Kd.own_blk (Kd.R_ne HO518.out BK515.out (by decide)))) _).trans (((cell_far (p := ⟨gb515, _, none⟩) (by first | exact Kd.own_blk (Kd.R_ne HO518.out BK515.out (by decide)) | (rw [add_block]; exact Kd.own_blk (Kd.R_ne HO518.out BK515.out (by decide))) | (show (Addr.add _ _).block ≠ _; rw [add_block]; exact Kd.own_blk (Kd.R_ne HO518.out BK515.out (by decide))) | (dsimp only; exact Kd.own_blk (Kd.R_ne HO518.out BK515.out (by decide)))) _).trans (((cell_far (p := ⟨gb515, _, none⟩) (by first | exact Kd.own_blk (Kd.R_ne HO518.out BK515.out (by decide)) | (rw [add_block]; exact Kd.own_blk (Kd.R_ne HO518.out BK515.out (by decide))) | (show (Addr.add _ _).block ≠ _; rw [add_block]; exact Kd.own_blk (Kd.R_ne HO518.out BK515.out (by decide))) | (dsimp only; exact Kd.own_blk (Kd.R_ne HO518.out BK515.out (by decide)))) _).trans (hHeld.2.2))))))))⟩ (fun hHeld => ?_)
     clear hK K
     refine p1 7 (some 3) ?_
     refine done_ (done_of HT_.out (by kernel_rfl)) ?_
     try go_wp2
     refine bodyPost_ret (results_ct rfl _ _ gb515 45 #[.int .i64 t520, .string (rdOf ByteArray.empty t516 1), .int .i64 t525, .bool t526] (0, 0) _ rfl (by (with_reducible repeat (first | refine blk_drewN ?_ _ | refine blk_drew ?_ | refine blk_alloc ?_ _)); refine blk_put (cs := #[.int .i64 t520, .string (rdOf ByteArray.empty t516 1), .int .i64 t525, .bool false]) ?_ 3 _ rfl; (with_reducible repeat (first | refine blk_drewN ?_ _ | refine blk_drew ?_ | refine blk_alloc ?_ _)); refine blk_put (cs := #[.int .i64 t520, .string (rdOf ByteArray.empty t516 1), .int .i64 0, .bool false]) ?_ 2 _ rfl; (with_reducible repeat (first | refine blk_drewN ?_ _ | refine blk_drew ?_ | refine blk_alloc ?_ _)); refine blk_put (cs := #[.int .i64 t520, .string (⟨#[]⟩ : ByteArray), .int .i64 0, .bool false]) ?_ 1 _ rfl; (with_reducible repeat (first | refine blk_drewN ?_ _ | refine blk_drew ?_ | refine blk_alloc ?_ _)); refine blk_put (cs := #[.int .i64 0, .string (⟨#[]⟩ : ByteArray), .int .i64 0, .bool false]) ?_ 0 _ rfl; exact uB <| BK515.out) Tryz.underlying45 rfl (by kernel_rfl)) rfl ?_
     exact ⟨re_, bl⟩
    ·
     rw [if_neg c12] at H
     have c12b0 : (t527 == 0) = false := beq_eq_false_iff_ne.mpr c12
     have c12b1 : (t527 != 0) = true := bne_iff_ne.mpr c12
     simp only [Option.some.injEq, Prod.mk.injEq] at H
     obtain ⟨rfl, rfl, rfl, rfl, rfl⟩ := H
     go_enter Tryz.func43, Tryz.ntmps43
     go_wp2_with (first | ((with_reducible refine gate_dst (N := 2) rfl ?_); refine bx (N := 2) #[.int .i64 0, .string (⟨#[]⟩ : ByteArray), .int .i64 0, .bool false] 45 ?_; intro gb515 hg w27 hbox hb; have BK515 := Aside0.mk (hbox); have GW515 := gw hg (uW HB.out); have GE515 := GW515; replace HB := cW HB hb; clear hb hbox hg) | (refine gL (some 9) rfl Tryz.func41 #[.string a0, .int .u8 124] ?_; (with_reducible refine (r02_Split.calls k a0 124 t516 _ A2.out).mono ?_); rintro e w28 ⟨v517, rfl, ho0, hb⟩; refine ⟨_, rfl, ?_⟩; have HO518 := Aside0.mk (Kd.R_lower ho0 (below_size bl)); replace BK515 := cB BK515 hb; replace HB := Aside0.mk (below_step bl hb); (try clear hb); (try clear ho0); obtain ⟨Ao29, co29, eo29⟩ := Kd.R_slice HO518.out; subst eo29; have p519 : 0 ≤ (0 : Int) := (by omega); have q519 : 0 < (t516.length : Int) := od; obtain ⟨ad519, e519, hx519_0⟩ := Kd.at_string (Kd.R_reads' HO518.out).2.2 0 p519 q519; cases e519; have qi519 : (0 < t516.length) = True := eq_true (by omega); (try rw [show ((0 : Int)).toNat = 0 from rfl] at hx519_0); (try rw [Addr.add_zero'] at hx519_0); replace p519 := eq_true p519; replace q519 := eq_true q519) | (refine gL (some 18) rfl Tryz.func60 #[.string (rdOf ByteArray.empty t516 0)] ?_; (with_reducible refine (r01_Read.calls k (rdOf ByteArray.empty t516 0) t520 t521 _ A5.out).mono ?_); rintro e w' ⟨rfl, ⟨nd, rfl⟩⟩; refine ⟨_, rfl, ?_⟩; (try (rw [drewN_self w28]; generalize hq_ : World.drewN w28 _ = w28; have n0_ : Aside0 (Kd.R Kd.string 9 w28 w.heap.size (fun _ => True) (.slice (some ad519) t516.length co29) t516) := ⟨by rw [← hq_]; exact (uR HO518.out)⟩; have n1_ : Aside0 (w28.heap[gb515]? = some (.cells #[.int .i64 0, .string (⟨#[]⟩ : ByteArray), .int .i64 0, .bool false] 45 (0, 0))) := ⟨by rw [← hq_]; exact (uB BK515.out)⟩; have n2_ : Aside0 (Below w.heap.size w w28) := ⟨by rw [← hq_]; exact bl⟩; clear HO518 BK515 HB hq_; have HO518 := n0_; have BK515 := n1_; have HB := n2_; clear n0_ n1_ n2_)); have p522 : 0 ≤ (1 : Int) := (by omega); have q522 : 1 < (t516.length : Int) := od; obtain ⟨ad522, e522, hx522_0⟩ := Kd.at_string (Kd.R_reads' HO518.out).2.2 1 p522 q522; obtain rfl : ad519 = ad522 := (by injection e522); (try simp only [show (1 : Int).toNat = 1 from rfl, Nat.reduceMul, Nat.reduceEqDiff, Go.Addr.add, ↓reduceIte] at hx522_0); have qi522 : (1 < t516.length) = True := eq_true (by omega); (try rw [show ((1 : Int)).toNat = 1 from rfl] at hx522_0); replace p522 := eq_true p522; replace q522 := eq_true q522) | (refine gL (some 28) rfl Tryz.func51 #[.string (rdOf ByteArray.empty t516 1)] ?_; (with_reducible refine (r08_group.calls k (rdOf ByteArray.empty t516 1) t523 _ A8.out).mono ?_); rintro e w30 ⟨rfl, hb⟩; refine ⟨_, rfl, ?_⟩; replace HO518 := cR HO518 hb; replace BK515 := cB BK515 hb; replace HB := Aside0.mk (below_step bl hb); (try clear hb); have p524 : 0 ≤ (2 : Int) := (by omega); have q524 : 2 < (t516.length : Int) := od; obtain ⟨ad524, e524, hx524_0⟩ := Kd.at_string (Kd.R_reads' HO518.out).2.2 2 p524 q524; obtain rfl : ad519 = ad524 := (by injection e524); (try simp only [show (2 : Int).toNat = 2 from rfl, Nat.reduceMul, Nat.reduceEqDiff, Go.Addr.add, ↓reduceIte] at hx524_0); have qi524 : (2 < t516.length) = True := eq_true (by omega); (try rw [show ((2 : Int)).toNat = 2 from rfl] at hx524_0); replace p524 := eq_true p524; replace q524 := eq_true q524) | (refine gL (some 37) rfl Tryz.func63 #[.string (rdOf ByteArray.empty t516 2)] ?_; (with_reducible refine (r01_Parse.calls k (rdOf ByteArray.empty t516 2) t525 t526 t527 _ A11.out).mono ?_); rintro e w31 ⟨rfl, hb⟩; refine ⟨_, rfl, ?_⟩; replace HO518 := cR HO518 hb; replace BK515 := cB BK515 hb; replace HB := Aside0.mk (below_step bl hb); (try clear hb)) | ((with_reducible refine gate_dst (N := 7) rfl ?_); refine bx (N := 7) #[.int .i64 0, .bool false] 43 ?_; intro gb528 hg w32 hbox hb; replace HO518 := cR HO518 hb; have BK528 := Aside0.mk (hbox); have GW528 := gw hg bl; have GE528 := GW528; replace HB := Aside0.mk (below_step bl hb); have NB515_528 := Aside0.mk ((by rw [hg]; exact Nat.ne_of_lt (blk_lt (g := gb515) (o := .cells #[.int .i64 0, .string (⟨#[]⟩ : ByteArray), .int .i64 0, .bool false] 45 (0, 0)) (uB BK515.out)) : gb515 ≠ gb528)); have NB528_515 := Aside0.mk ((by rw [hg]; exact Nat.ne_of_gt (blk_lt (g := gb515) (o := .cells #[.int .i64 0, .string (⟨#[]⟩ : ByteArray), .int .i64 0, .bool false] 45 (0, 0)) (uB BK515.out)) : gb528 ≠ gb515)); replace BK515 := cB BK515 hb; clear hb hbox hg; have hnb33 := NB528_515.out; have hnc33 := NB515_528.out; obtain ⟨hcz34_0, hcz34_1, hfz34_0, hfz34_1⟩ := z2 BK528; obtain ⟨hcz35_0, hcz35_1, hcz35_2, hcz35_3, hfz35_0, hfz35_1, hfz35_2, hfz35_3⟩ := z4 BK515) | ((with_reducible refine gate_store (t := 45) (p := 2) rfl ?_); refine store_event (t := 45) (p := 2) (v := ?vo_w36) (w1 := ((((((w32.setCell ⟨gb528, 0, none⟩ (.int .i64 t525)).setCell ⟨gb528, 1, none⟩ (.bool t526)).setCell ⟨gb515, 0, none⟩ (.int .i64 0)).setCell ⟨gb515, 1, none⟩ (.string (⟨#[]⟩ : ByteArray))).setCell ⟨gb515, 2, none⟩ (.int .i64 0)).setCell ⟨gb515, 3, none⟩ (.bool false))) ?hg ?ho ?hn ?hr ?_; (case ho => rfl); (case hg => rfl); (case hn => rfl); (case hr => first | (go_simp; done) | (go_simp; rfl)); intro w36 hw; have n0_ : Aside0 (Kd.R Kd.string 9 w36 w.heap.size (fun _ => True) (.slice (some ad519) t516.length co29) t516) := ⟨(by rw [hw]; exact (by exact uR <| Kd.R_mono (Kd.R_far (p := ⟨gb515, 3, none⟩) (Kd.R_far (p := ⟨gb515, 2, none⟩) (Kd.R_far (p := ⟨gb515, 1, none⟩) (Kd.R_far (p := ⟨gb515, 0, none⟩) (Kd.R_far (p := ⟨gb528, 1, none⟩) (Kd.R_far (p := ⟨gb528, 0, none⟩) (Kd.R_types (Kd.R_types HO518.out BK528.out (by decide)) BK515.out (by decide)) (fun _ hk => hk.1.2) (.int .i64 t525)) (fun _ hk => hk.1.2) (.bool t526)) (fun _ hk => hk.2) (.int .i64 0)) (fun _ hk => hk.2) (.string (⟨#[]⟩ : ByteArray))) (fun _ hk => hk.2) (.int .i64 0)) (fun _ hk => hk.2) (.bool false)) (fun _ hk => trivial)))⟩; have n1_ : Aside0 (w36.heap[gb515]? = some (.cells #[.int .i64 0, .string (⟨#[]⟩ : ByteArray), .int .i64 0, .bool false] 45 (0, 0))) := ⟨(by rw [hw]; exact (by (with_reducible repeat (first | refine blk_drewN ?_ _ | refine blk_drew ?_ | refine blk_alloc ?_ _)); refine blk_put (cs := #[.int .i64 0, .string (⟨#[]⟩ : ByteArray), .int .i64 0, .bool false]) ?_ 3 _ rfl; (with_reducible repeat (first | refine blk_drewN ?_ _ | refine blk_drew ?_ | refine blk_alloc ?_ _)); refine blk_put (cs := #[.int .i64 0, .string (⟨#[]⟩ : ByteArray), .int .i64 0, .bool false]) ?_ 2 _ rfl; (with_reducible repeat (first | refine blk_drewN ?_ _ | refine blk_drew ?_ | refine blk_alloc ?_ _)); refine blk_put (cs := #[.int .i64 0, .string (⟨#[]⟩ : ByteArray), .int .i64 0, .bool false]) ?_ 1 _ rfl; (with_reducible repeat (first | refine blk_drewN ?_ _ | refine blk_drew ?_ | refine blk_alloc ?_ _)); refine blk_put (cs := #[.int .i64 0, .string (⟨#[]⟩ : ByteArray), .int .i64 0, .bool false]) ?_ 0 _ rfl; (with_reducible repeat (first | refine blk_drewN ?_ _ | refine blk_drew ?_ | refine blk_alloc ?_ _)); refine blk_far ?_ NB515_528.out _; (with_reducible repeat (first | refine blk_drewN ?_ _ | refine blk_drew ?_ | refine blk_alloc ?_ _)); refine blk_far ?_ NB515_528.out _; exact uB <| BK515.out))⟩; have n2_ : Aside0 (w36.heap[gb528]? = some (.cells #[.int .i64 t525, .bool t526] 43 (0, 0))) := ⟨(by rw [hw]; exact (by (with_reducible repeat (first | refine blk_drewN ?_ _ | refine blk_drew ?_ | refine blk_alloc ?_ _)); refine blk_far ?_ NB528_515.out _; (with_reducible repeat (first | refine blk_drewN ?_ _ | refine blk_drew ?_ | refine blk_alloc ?_ _)); refine blk_far ?_ NB528_515.out _; (with_reducible repeat (first | refine blk_drewN ?_ _ | refine blk_drew ?_ | refine blk_alloc ?_ _)); refine blk_far ?_ NB528_515.out _; (with_reducible repeat (first | refine blk_drewN ?_ _ | refine blk_drew ?_ | refine blk_alloc ?_ _)); refine blk_far ?_ NB528_515.out _; (with_reducible repeat (first | refine blk_drewN ?_ _ | refine blk_drew ?_ | refine blk_alloc ?_ _)); refine blk_put (cs := #[.int .i64 t525, .bool false]) ?_ 1 _ rfl; (with_reducible repeat (first | refine blk_drewN ?_ _ | refine blk_drew ?_ | refine blk_alloc ?_ _)); refine blk_put (cs := #[.int .i64 0, .bool false]) ?_ 0 _ rfl; exact uB <| BK528.out))⟩; have n3_ : Aside0 (Below w.heap.size w w36) := ⟨(by rw [hw]; exact bl)⟩; clear hw; clear HO518; clear BK515; clear BK528; clear HB; have HO518 := n0_; have BK515 := n1_; have BK528 := n2_; have HB := n3_; clear n0_ n1_ n2_ n3_))
     refine bodyPost_ret (results_ct rfl _ _ gb515 45 #[.int .i64 0, .string (⟨#[]⟩ : ByteArray), .int .i64 0, .bool false] (0, 0) _ rfl (uB BK515.out) Tryz.underlying45 rfl (by kernel_rfl)) rfl ?_
     exact ⟨re_, bl⟩
   ·
    rw [if_neg c9] at H
    have c9b0 : (t523 == 0) = false := beq_eq_false_iff_ne.mpr c9
    have c9b1 : (t523 != 0) = true := bne_iff_ne.mpr c9
    simp only [Option.some.injEq, Prod.mk.injEq] at H
    obtain ⟨rfl, rfl, rfl, rfl, rfl⟩ := H
    go_enter Tryz.func43, Tryz.ntmps43
    go_wp2_with (first | ((with_reducible refine gate_dst (N := 2) rfl ?_); refine bx (N := 2) #[.int .i64 0, .string (⟨#[]⟩ : ByteArray), .int .i64 0, .bool false] 45 ?_; intro gb515 hg w37 hbox hb; have BK515 := Aside0.mk (hbox); have GW515 := gw hg (uW HB.out); have GE515 := GW515; replace HB := cW HB hb; clear hb hbox hg) | (refine gL (some 9) rfl Tryz.func41 #[.string a0, .int .u8 124] ?_; (with_reducible refine (r02_Split.calls k a0 124 t516 _ A2.out).mono ?_); rintro e w38 ⟨v517, rfl, ho0, hb⟩; refine ⟨_, rfl, ?_⟩; have HO518 := Aside0.mk (Kd.R_lower ho0 (below_size bl)); replace BK515 := cB BK515 hb; replace HB := Aside0.mk (below_step bl hb); (try clear hb); (try clear ho0); obtain ⟨Ao39, co39, eo39⟩ := Kd.R_slice HO518.out; subst eo39; have p519 : 0 ≤ (0 : Int) := (by omega); have q519 : 0 < (t516.length : Int) := od; obtain ⟨ad519, e519, hx519_0⟩ := Kd.at_string (Kd.R_reads' HO518.out).2.2 0 p519 q519; cases e519; have qi519 : (0 < t516.length) = True := eq_true (by omega); (try rw [show ((0 : Int)).toNat = 0 from rfl] at hx519_0); (try rw [Addr.add_zero'] at hx519_0); replace p519 := eq_true p519; replace q519 := eq_true q519) | (refine gL (some 18) rfl Tryz.func60 #[.string (rdOf ByteArray.empty t516 0)] ?_; (with_reducible refine (r01_Read.calls k (rdOf ByteArray.empty t516 0) t520 t521 _ A5.out).mono ?_); rintro e w' ⟨rfl, ⟨nd, rfl⟩⟩; refine ⟨_, rfl, ?_⟩; (try (rw [drewN_self w38]; generalize hq_ : World.drewN w38 _ = w38; have n0_ : Aside0 (Kd.R Kd.string 9 w38 w.heap.size (fun _ => True) (.slice (some ad519) t516.length co39) t516) := ⟨by rw [← hq_]; exact (uR HO518.out)⟩; have n1_ : Aside0 (w38.heap[gb515]? = some (.cells #[.int .i64 0, .string (⟨#[]⟩ : ByteArray), .int .i64 0, .bool false] 45 (0, 0))) := ⟨by rw [← hq_]; exact (uB BK515.out)⟩; have n2_ : Aside0 (Below w.heap.size w w38) := ⟨by rw [← hq_]; exact bl⟩; clear HO518 BK515 HB hq_; have HO518 := n0_; have BK515 := n1_; have HB := n2_; clear n0_ n1_ n2_)); have p522 : 0 ≤ (1 : Int) := (by omega); have q522 : 1 < (t516.length : Int) := od; obtain ⟨ad522, e522, hx522_0⟩ := Kd.at_string (Kd.R_reads' HO518.out).2.2 1 p522 q522; obtain rfl : ad519 = ad522 := (by injection e522); (try simp only [show (1 : Int).toNat = 1 from rfl, Nat.reduceMul, Nat.reduceEqDiff, Go.Addr.add, ↓reduceIte] at hx522_0); have qi522 : (1 < t516.length) = True := eq_true (by omega); (try rw [show ((1 : Int)).toNat = 1 from rfl] at hx522_0); replace p522 := eq_true p522; replace q522 := eq_true q522) | (refine gL (some 28) rfl Tryz.func51 #[.string (rdOf ByteArray.empty t516 1)] ?_; (with_reducible refine (r08_group.calls k (rdOf ByteArray.empty t516 1) t523 _ A8.out).mono ?_); rintro e w40 ⟨rfl, hb⟩; refine ⟨_, rfl, ?_⟩; replace HO518 := cR HO518 hb; replace BK515 := cB BK515 hb; replace HB := Aside0.mk (below_step bl hb); (try clear hb); obtain ⟨hcz41_0, hcz41_1, hcz41_2, hcz41_3, hfz41_0, hfz41_1, hfz41_2, hfz41_3⟩ := z4 BK515))
    refine bodyPost_ret (results_ct rfl _ _ gb515 45 #[.int .i64 0, .string (⟨#[]⟩ : ByteArray), .int .i64 0, .bool false] (0, 0) _ rfl (by (with_reducible repeat (first | refine blk_drewN ?_ _ | refine blk_drew ?_ | refine blk_alloc ?_ _)); refine blk_put (cs := #[.int .i64 0, .string (⟨#[]⟩ : ByteArray), .int .i64 0, .bool false]) ?_ 3 _ rfl; (with_reducible repeat (first | refine blk_drewN ?_ _ | refine blk_drew ?_ | refine blk_alloc ?_ _)); refine blk_put (cs := #[.int .i64 0, .string (⟨#[]⟩ : ByteArray), .int .i64 0, .bool false]) ?_ 2 _ rfl; (with_reducible repeat (first | refine blk_drewN ?_ _ | refine blk_drew ?_ | refine blk_alloc ?_ _)); refine blk_put (cs := #[.int .i64 0, .string (⟨#[]⟩ : ByteArray), .int .i64 0, .bool false]) ?_ 1 _ rfl; (with_reducible repeat (first | refine blk_drewN ?_ _ | refine blk_drew ?_ | refine blk_alloc ?_ _)); refine blk_put (cs := #[.int .i64 0, .string (⟨#[]⟩ : ByteArray), .int .i64 0, .bool false]) ?_ 0 _ rfl; exact uB <| BK515.out) Tryz.underlying45 rfl (by kernel_rfl)) rfl ?_
    exact ⟨re_, bl⟩
  ·
   rw [if_neg c6] at H
   have c6b0 : (t521 == 0) = false := beq_eq_false_iff_ne.mpr c6
   have c6b1 : (t521 != 0) = true := bne_iff_ne.mpr c6
   simp only [Option.some.injEq, Prod.mk.injEq] at H
   obtain ⟨rfl, rfl, rfl, rfl, rfl⟩ := H
   go_enter Tryz.func43, Tryz.ntmps43
   go_wp2_with (first | ((with_reducible refine gate_dst (N := 2) rfl ?_); refine bx (N := 2) #[.int .i64 0, .string (⟨#[]⟩ : ByteArray), .int .i64 0, .bool false] 45 ?_; intro gb515 hg w42 hbox hb; have BK515 := Aside0.mk (hbox); have GW515 := gw hg (uW HB.out); have GE515 := GW515; replace HB := cW HB hb; clear hb hbox hg) | (refine gL (some 9) rfl Tryz.func41 #[.string a0, .int .u8 124] ?_; (with_reducible refine (r02_Split.calls k a0 124 t516 _ A2.out).mono ?_); rintro e w43 ⟨v517, rfl, ho0, hb⟩; refine ⟨_, rfl, ?_⟩; have HO518 := Aside0.mk (Kd.R_lower ho0 (below_size bl)); replace BK515 := cB BK515 hb; replace HB := Aside0.mk (below_step bl hb); (try clear hb); (try clear ho0); obtain ⟨Ao44, co44, eo44⟩ := Kd.R_slice HO518.out; subst eo44; have p519 : 0 ≤ (0 : Int) := (by omega); have q519 : 0 < (t516.length : Int) := od; obtain ⟨ad519, e519, hx519_0⟩ := Kd.at_string (Kd.R_reads' HO518.out).2.2 0 p519 q519; cases e519; have qi519 : (0 < t516.length) = True := eq_true (by omega); (try rw [show ((0 : Int)).toNat = 0 from rfl] at hx519_0); (try rw [Addr.add_zero'] at hx519_0); replace p519 := eq_true p519; replace q519 := eq_true q519) | (refine gL (some 18) rfl Tryz.func60 #[.string (rdOf ByteArray.empty t516 0)] ?_; (with_reducible refine (r01_Read.calls k (rdOf ByteArray.empty t516 0) t520 t521 _ A5.out).mono ?_); rintro e w' ⟨rfl, ⟨nd, rfl⟩⟩; refine ⟨_, rfl, ?_⟩; (try (rw [drewN_self w43]; generalize hq_ : World.drewN w43 _ = w43; have n0_ : Aside0 (Kd.R Kd.string 9 w43 w.heap.size (fun _ => True) (.slice (some ad519) t516.length co44) t516) := ⟨by rw [← hq_]; exact (uR HO518.out)⟩; have n1_ : Aside0 (w43.heap[gb515]? = some (.cells #[.int .i64 0, .string (⟨#[]⟩ : ByteArray), .int .i64 0, .bool false] 45 (0, 0))) := ⟨by rw [← hq_]; exact (uB BK515.out)⟩; have n2_ : Aside0 (Below w.heap.size w w43) := ⟨by rw [← hq_]; exact bl⟩; clear HO518 BK515 HB hq_; have HO518 := n0_; have BK515 := n1_; have HB := n2_; clear n0_ n1_ n2_)); obtain ⟨hcz45_0, hcz45_1, hcz45_2, hcz45_3, hfz45_0, hfz45_1, hfz45_2, hfz45_3⟩ := z4 BK515))
   refine bodyPost_ret (results_ct rfl _ _ gb515 45 #[.int .i64 0, .string (⟨#[]⟩ : ByteArray), .int .i64 0, .bool false] (0, 0) _ rfl (by (with_reducible repeat (first | refine blk_drewN ?_ _ | refine blk_drew ?_ | refine blk_alloc ?_ _)); refine blk_put (cs := #[.int .i64 0, .string (⟨#[]⟩ : ByteArray), .int .i64 0, .bool false]) ?_ 3 _ rfl; (with_reducible repeat (first | refine blk_drewN ?_ _ | refine blk_drew ?_ | refine blk_alloc ?_ _)); refine blk_put (cs := #[.int .i64 0, .string (⟨#[]⟩ : ByteArray), .int .i64 0, .bool false]) ?_ 2 _ rfl; (with_reducible repeat (first | refine blk_drewN ?_ _ | refine blk_drew ?_ | refine blk_alloc ?_ _)); refine blk_put (cs := #[.int .i64 0, .string (⟨#[]⟩ : ByteArray), .int .i64 0, .bool false]) ?_ 1 _ rfl; (with_reducible repeat (first | refine blk_drewN ?_ _ | refine blk_drew ?_ | refine blk_alloc ?_ _)); refine blk_put (cs := #[.int .i64 0, .string (⟨#[]⟩ : ByteArray), .int .i64 0, .bool false]) ?_ 0 _ rfl; exact uB <| BK515.out) Tryz.underlying45 rfl (by kernel_rfl)) rfl ?_
   exact ⟨re_, bl⟩
 ·
  rw [if_neg c3] at H
  have c3b0 : ((t516.length : Int) == 3) = false := beq_eq_false_iff_ne.mpr c3
  have c3b1 : ((t516.length : Int) != 3) = true := bne_iff_ne.mpr c3
  simp only [Option.some.injEq, Prod.mk.injEq] at H
  obtain ⟨rfl, rfl, rfl, rfl, rfl⟩ := H
  go_enter Tryz.func43, Tryz.ntmps43
  go_wp2_with (first | ((with_reducible refine gate_dst (N := 2) rfl ?_); refine bx (N := 2) #[.int .i64 0, .string (⟨#[]⟩ : ByteArray), .int .i64 0, .bool false] 45 ?_; intro gb515 hg w46 hbox hb; have BK515 := Aside0.mk (hbox); have GW515 := gw hg (uW HB.out); have GE515 := GW515; replace HB := cW HB hb; clear hb hbox hg) | (refine gL (some 9) rfl Tryz.func41 #[.string a0, .int .u8 124] ?_; (with_reducible refine (r02_Split.calls k a0 124 t516 _ A2.out).mono ?_); rintro e w47 ⟨v517, rfl, ho0, hb⟩; refine ⟨_, rfl, ?_⟩; have HO518 := Aside0.mk (Kd.R_lower ho0 (below_size bl)); replace BK515 := cB BK515 hb; replace HB := Aside0.mk (below_step bl hb); (try clear hb); (try clear ho0); obtain ⟨Ao48, co48, eo48⟩ := Kd.R_slice HO518.out; subst eo48; obtain ⟨hcz49_0, hcz49_1, hcz49_2, hcz49_3, hfz49_0, hfz49_1, hfz49_2, hfz49_3⟩ := z4 BK515))
  refine bodyPost_ret (results_ct rfl _ _ gb515 45 #[.int .i64 0, .string (⟨#[]⟩ : ByteArray), .int .i64 0, .bool false] (0, 0) _ rfl (by (with_reducible repeat (first | refine blk_drewN ?_ _ | refine blk_drew ?_ | refine blk_alloc ?_ _)); refine blk_put (cs := #[.int .i64 0, .string (⟨#[]⟩ : ByteArray), .int .i64 0, .bool false]) ?_ 3 _ rfl; (with_reducible repeat (first | refine blk_drewN ?_ _ | refine blk_drew ?_ | refine blk_alloc ?_ _)); refine blk_put (cs := #[.int .i64 0, .string (⟨#[]⟩ : ByteArray), .int .i64 0, .bool false]) ?_ 2 _ rfl; (with_reducible repeat (first | refine blk_drewN ?_ _ | refine blk_drew ?_ | refine blk_alloc ?_ _)); refine blk_put (cs := #[.int .i64 0, .string (⟨#[]⟩ : ByteArray), .int .i64 0, .bool false]) ?_ 1 _ rfl; (with_reducible repeat (first | refine blk_drewN ?_ _ | refine blk_drew ?_ | refine blk_alloc ?_ _)); refine blk_put (cs := #[.int .i64 0, .string (⟨#[]⟩ : ByteArray), .int .i64 0, .bool false]) ?_ 0 _ rfl; exact uB <| BK515.out) Tryz.underlying45 rfl (by kernel_rfl)) rfl ?_
  exact ⟨re_, bl⟩
def r08_Before.f (a0_0 : Int) (a0_1 : ByteArray) (a0_2 : Int) (a0_3 : Bool) (a1_0 : Int) (a1_1 : ByteArray) (a1_2 : Int) (a1_3 : Bool) : Option (Bool) := if a0_0 < a1_0 then (some true) else (if a0_0 = a1_0 then (some (Op.bytesLess a0_1.toList a1_1.toList)) else (some false))
theorem r08_Before.calls (a0_0 : Int) (a0_1 : ByteArray) (a0_2 : Int) (a0_3 : Bool) (a1_0 : Int) (a1_1 : ByteArray) (a1_2 : Int) (a1_3 : Bool) (r : Bool) (w : World) (h : r08_Before.f a0_0 a0_1 a0_2 a0_3 a1_0 a1_1 a1_2 a1_3 = some r) :
 Calls Tryz.prog 37 #[.agg #[.int .i64 a0_0, .string a0_1, .int .i64 a0_2, .bool a0_3], .agg #[.int .i64 a1_0, .string a1_1, .int .i64 a1_2, .bool a1_3]] w fun e w' => e = .returned (.bool r) ∧ Below w.heap.size w w' := by
 have hu45 := Tryz.underlying45
 have HB := Aside0.mk (Below.refl w.heap.size w)
 have H : (if a0_0 < a1_0 then (some true) else (if a0_0 = a1_0 then (some (Op.bytesLess a0_1.toList a1_1.toList)) else (some false))) = some r := h
 clear h
 by_cases c3 : a0_0 < a1_0
 ·
  rw [if_pos c3] at H
  have c3b0 : decide (a0_0 < a1_0) = true := decide_eq_true c3
  clear c3
  obtain rfl := Option.some.inj H
  go_enter Tryz.func37, Tryz.ntmps37
  go_wp2_with (first | ((with_reducible refine gate_dst (N := 2) rfl ?_); refine bx (N := 2) #[.int .i64 a0_0, .string a0_1, .int .i64 a0_2, .bool a0_3] 45 ?_; intro gb530 hg w4 hbox hb; have BK530 := Aside0.mk (hbox); have GW530 := gw hg (uW HB.out); have GE530 := GW530; replace HB := cW HB hb; clear hb hbox hg) | ((with_reducible refine gate_dst (N := 3) rfl ?_); refine bx (N := 3) #[.int .i64 a1_0, .string a1_1, .int .i64 a1_2, .bool a1_3] 45 ?_; intro gb531 hg w5 hbox hb; have BK531 := Aside0.mk (hbox); have GW531 := gw hg bl; have GE531 := GW531; replace HB := Aside0.mk (below_step bl hb); have NB530_531 := Aside0.mk ((by rw [hg]; exact Nat.ne_of_lt (blk_lt (g := gb530) (o := .cells #[.int .i64 a0_0, .string a0_1, .int .i64 a0_2, .bool a0_3] 45 (0, 0)) (uB BK530.out)) : gb530 ≠ gb531)); have NB531_530 := Aside0.mk ((by rw [hg]; exact Nat.ne_of_gt (blk_lt (g := gb530) (o := .cells #[.int .i64 a0_0, .string a0_1, .int .i64 a0_2, .bool a0_3] 45 (0, 0)) (uB BK530.out)) : gb531 ≠ gb530)); replace BK530 := cB BK530 hb; clear hb hbox hg; have hnb6 := NB530_531.out; have hnc6 := NB531_530.out; obtain ⟨hcz7_0, hcz7_1, hcz7_2, hcz7_3, hfz7_0, hfz7_1, hfz7_2, hfz7_3⟩ := z4 BK530; obtain ⟨hcz8_0, hcz8_1, hcz8_2, hcz8_3, hfz8_0, hfz8_1, hfz8_2, hfz8_3⟩ := z4 BK531))
  go_ret
  exact ⟨re_, bl⟩
 ·
  rw [if_neg c3] at H
  have c3b0 : decide (a0_0 < a1_0) = false := decide_eq_false c3
  clear c3
  by_cases c9 : a0_0 = a1_0
  ·
   rw [if_pos c9] at H
   have c9b0 : (a0_0 == a1_0) = true := beq_iff_eq.mpr c9
   have c9b1 : (a0_0 != a1_0) = false := bne_eq_false_iff_eq.mpr c9
   clear c9
   obtain rfl := Option.some.inj H
   go_enter Tryz.func37, Tryz.ntmps37
   go_wp2_with (first | ((with_reducible refine gate_dst (N := 2) rfl ?_); refine bx (N := 2) #[.int .i64 a0_0, .string a0_1, .int .i64 a0_2, .bool a0_3] 45 ?_; intro gb530 hg w10 hbox hb; have BK530 := Aside0.mk (hbox); have GW530 := gw hg (uW HB.out); have GE530 := GW530; replace HB := cW HB hb; clear hb hbox hg) | ((with_reducible refine gate_dst (N := 3) rfl ?_); refine bx (N := 3) #[.int .i64 a1_0, .string a1_1, .int .i64 a1_2, .bool a1_3] 45 ?_; intro gb531 hg w11 hbox hb; have BK531 := Aside0.mk (hbox); have GW531 := gw hg bl; have GE531 := GW531; replace HB := Aside0.mk (below_step bl hb); have NB530_531 := Aside0.mk ((by rw [hg]; exact Nat.ne_of_lt (blk_lt (g := gb530) (o := .cells #[.int .i64 a0_0, .string a0_1, .int .i64 a0_2, .bool a0_3] 45 (0, 0)) (uB BK530.out)) : gb530 ≠ gb531)); have NB531_530 := Aside0.mk ((by rw [hg]; exact Nat.ne_of_gt (blk_lt (g := gb530) (o := .cells #[.int .i64 a0_0, .string a0_1, .int .i64 a0_2, .bool a0_3] 45 (0, 0)) (uB BK530.out)) : gb531 ≠ gb530)); replace BK530 := cB BK530 hb; clear hb hbox hg; have hnb12 := NB530_531.out; have hnc12 := NB531_530.out; obtain ⟨hcz13_0, hcz13_1, hcz13_2, hcz13_3, hfz13_0, hfz13_1, hfz13_2, hfz13_3⟩ := z4 BK530; obtain ⟨hcz14_0, hcz14_1, hcz14_2, hcz14_3, hfz14_0, hfz14_1, hfz14_2, hfz14_3⟩ := z4 BK531))
   go_ret
   exact ⟨re_, bl⟩
  ·
   rw [if_neg c9] at H
   have c9b0 : (a0_0 == a1_0) = false := beq_eq_false_iff_ne.mpr c9
   have c9b1 : (a0_0 != a1_0) = true := bne_iff_ne.mpr c9
   obtain rfl := Option.some.inj H
   go_enter Tryz.func37, Tryz.ntmps37
   go_wp2_with (first | ((with_reducible refine gate_dst (N := 2) rfl ?_); refine bx (N := 2) #[.int .i64 a0_0, .string a0_1, .int .i64 a0_2, .bool a0_3] 45 ?_; intro gb530 hg w15 hbox hb; have BK530 := Aside0.mk (hbox); have GW530 := gw hg (uW HB.out); have GE530 := GW530; replace HB := cW HB hb; clear hb hbox hg) | ((with_reducible refine gate_dst (N := 3) rfl ?_); refine bx (N := 3) #[.int .i64 a1_0, .string a1_1, .int .i64 a1_2, .bool a1_3] 45 ?_; intro gb531 hg w16 hbox hb; have BK531 := Aside0.mk (hbox); have GW531 := gw hg bl; have GE531 := GW531; replace HB := Aside0.mk (below_step bl hb); have NB530_531 := Aside0.mk ((by rw [hg]; exact Nat.ne_of_lt (blk_lt (g := gb530) (o := .cells #[.int .i64 a0_0, .string a0_1, .int .i64 a0_2, .bool a0_3] 45 (0, 0)) (uB BK530.out)) : gb530 ≠ gb531)); have NB531_530 := Aside0.mk ((by rw [hg]; exact Nat.ne_of_gt (blk_lt (g := gb530) (o := .cells #[.int .i64 a0_0, .string a0_1, .int .i64 a0_2, .bool a0_3] 45 (0, 0)) (uB BK530.out)) : gb531 ≠ gb530)); replace BK530 := cB BK530 hb; clear hb hbox hg; have hnb17 := NB530_531.out; have hnc17 := NB531_530.out; obtain ⟨hcz18_0, hcz18_1, hcz18_2, hcz18_3, hfz18_0, hfz18_1, hfz18_2, hfz18_3⟩ := z4 BK530; obtain ⟨hcz19_0, hcz19_1, hcz19_2, hcz19_3, hfz19_0, hfz19_1, hfz19_2, hfz19_3⟩ := z4 BK531))
   go_ret
   exact ⟨re_, bl⟩
def r08_rise.l0 : Nat → List (S45) → Int → Option (Bool)
 | 0, _, _ => none
 | k + 1, x0, x3 => if x3 < (x0.length : Int) then (if 0 ≤ (wrap64 (x3 - 1)) then (if (wrap64 (x3 - 1)) < (x0.length : Int) then (if 0 ≤ x3 then ((r08_Before.f ((rd_T45 x0 (wrap64 (x3 - 1))).f0) ((rd_T45 x0 (wrap64 (x3 - 1))).f1) ((rd_T45 x0 (wrap64 (x3 - 1))).f2.f0) ((rd_T45 x0 (wrap64 (x3 - 1))).f2.f1) ((rd_T45 x0 x3).f0) ((rd_T45 x0 x3).f1) ((rd_T45 x0 x3).f2.f0) ((rd_T45 x0 x3).f2.f1)).bind fun t534 => (if t534 = true then (r08_rise.l0 k x0 (wrap64 (x3 + 1))) else (some false))) else (none)) else (none)) else (none)) else (some true)
def r08_rise.f (k : Nat) (l0 : List (S45)) : Option (Bool) := r08_rise.l0 k l0 1
theorem r08_rise.mono_l : ∀ k, (∀ y0 y1, LeC (r08_rise.l0 k y0 y1) (r08_rise.l0 (k + 1) y0 y1))
 | 0 => fun _ _ => ⟨fun r h => by simp [r08_rise.l0] at h⟩
 | k + 1 => by have ih0 := r08_rise.mono_l k; exact fun _ _ => by unfold r08_rise.l0; exact lm
theorem r08_rise.mono : ∀ a0 k, LeO (r08_rise.f k a0) (r08_rise.f (k + 1) a0) := by
 intro a0 k
 have ih0 := r08_rise.mono_l k
 unfold r08_rise.f
 exact lo
instance r08_rise.mI {a0 k} : LeC (r08_rise.f k a0) (r08_rise.f (k + 1) a0) := ⟨r08_rise.mono _ _⟩
def r08_rise.T4 : Bool × List (List Nat × List Nat) := (true, [([], []), ([], []), ([1], [1]), ([0, 2], [0, 2]), ([3], [3]), ([], []), ([], []), ([5, 6], [5, 6]), ([7], [7]), ([4, 8], [4, 8]), ([9], [9])])
def r08_rise.B4 : List Nat := [0, 0, 2, 7, 15, 0, 0, 96, 224, 511, 1023]
theorem r08_rise.tab4 : rtab .any (opsOf Tryz.f44 4) = r08_rise.T4 := by kernel_rfl
theorem r08_rise.bits4 : waitsOk r08_rise.T4.2 r08_rise.B4 = true := by kernel_rfl
theorem r08_rise.calls (k : Nat) (A0 : Option Addr) (c0 : Nat) (l0 : List (S45)) (r : Bool) (w : World) (hr0 : Kd.C k45 w A0 l0.length l0) (hc0 : l0.length ≤ c0) (h : r08_rise.f k l0 = some r) :
 Calls Tryz.prog 44 #[.slice A0 l0.length c0] w fun e w' => e = .returned (.bool r) ∧ Below w.heap.size w w' := by
 have hu45 := Tryz.underlying45
 have HR0 := Aside0.mk hr0
 have HC0 := Aside0.mk hc0
 clear hr0 hc0
 have HB := Aside0.mk (Below.refl w.heap.size w)
 have H : (r08_rise.l0 k l0 1) = some r := h
 clear h
 have H' := Aside0.mk H
 clear H
 go_enter Tryz.func44, Tryz.ntmps44
 go_wp2
 go_loopg [3] k (fun kq v3 w' => ∃ (x3_1 : Int), v3 = .int .i64 x3_1 ∧ Aside0 (r08_rise.l0 kq l0 x3_1 = some r) ∧ Aside0 (kq ≤ k) ∧ Aside0 (Below w.heap.size w w'))
 case atStart => exact ⟨(1), rs_, H', ⟨Nat.le_refl _⟩, ⟨uW HB.out⟩⟩
 case round =>
  clear H'
  obtain ⟨x3_1, rfl, HA, HK1, HB⟩ := hrel
  cases gk with
  | zero => exact absurd HA.out (by simp [r08_rise.l0])
  | succ k1 =>
   have H := HA.out
   clear HA
   simp only [r08_rise.l0] at H
   by_cases c2 : x3_1 < (l0.length : Int)
   ·
    rw [if_pos c2] at H
    have c2b0 : decide (x3_1 < (l0.length : Int)) = true := decide_eq_true c2
    clear c2
    obtain ⟨ji3, hji3⟩ : ∃ j_ : Int, (wrap64 (x3_1 - 1)) = j_ := ⟨_, rfl⟩
    (first | rw [hji3] at H | simp only [hji3] at H)
    have hji3w : (IntKind.i64.wrap (x3_1 - 1)) = ji3 := (i64_w _).trans hji3
    obtain ⟨c4b0, H⟩ := gdd H
    obtain ⟨c5b0, H⟩ := gdd H
    obtain ⟨c6b0, H⟩ := gdd H
    obtain ⟨t534, A7, H⟩ := bs H
    try dsimp only at H
    by_cases c8 : t534 = true
    ·
     subst c8
     rw [if_pos rfl] at H
     have H' := Aside0.mk H
     clear H
     try go_wp2
     replace HB := Aside0.mk (below_drew1 HB.out)
     have p532 : 0 ≤ ((ji3) : Int) := od
     have q532 : (ji3) < (l0.length : Int) := od
     obtain ⟨ad532, e532, hx532_0, hx532_1, hx532_2, hx532_3⟩ := at_T45 HR0.out (ji3) p532 q532
     have hw532_3 := hx532_3
     have hw532_2 := hx532_2
     have hw532_1 := hx532_1
     have hw532_0 := hx532_0
     cases e532
     replace hx532_0 := kc HB hx532_0
     replace hx532_1 := kc HB hx532_1
     replace hx532_2 := kc HB hx532_2
     replace hx532_3 := kc HB hx532_3
     replace p532 := eq_true p532
     replace q532 := eq_true q532
     have p533 : 0 ≤ (x3_1 : Int) := od
     have q533 : x3_1 < (l0.length : Int) := od
     obtain ⟨ad533, e533, hx533_0, hx533_1, hx533_2, hx533_3⟩ := at_T45 HR0.out x3_1 p533 q533
     have hw533_3 := hx533_3
     have hw533_2 := hx533_2
     have hw533_1 := hx533_1
     have hw533_0 := hx533_0
     obtain rfl : ad532 = ad533 := (by injection e533)
     replace hx533_0 := kc HB hx533_0
     replace hx533_1 := kc HB hx533_1
     replace hx533_2 := kc HB hx533_2
     replace hx533_3 := kc HB hx533_3
     replace p533 := eq_true p533
     replace q533 := eq_true q533
     refine start_ (n := 11) (S := fun w' => w'.cell? (ad532.add (((ji3)).toNat * 4)) = some (.int .i64 ((rd_T45 l0 (ji3)).f0)) ∧ w'.cell? ⟨(ad532.add (((ji3)).toNat * 4)).block, (ad532.add (((ji3)).toNat * 4)).off + 1, none⟩ = some (.string ((rd_T45 l0 (ji3)).f1)) ∧ w'.cell? ⟨(ad532.add (((ji3)).toNat * 4)).block, (ad532.add (((ji3)).toNat * 4)).off + 2, none⟩ = some (.int .i64 ((rd_T45 l0 (ji3)).f2.f0)) ∧ w'.cell? ⟨(ad532.add (((ji3)).toNat * 4)).block, (ad532.add (((ji3)).toNat * 4)).off + 3, none⟩ = some (.bool ((rd_T45 l0 (ji3)).f2.f1)) ∧ w'.cell? (ad532.add ((x3_1).toNat * 4)) = some (.int .i64 ((rd_T45 l0 x3_1).f0)) ∧ w'.cell? ⟨(ad532.add ((x3_1).toNat * 4)).block, (ad532.add ((x3_1).toNat * 4)).off + 1, none⟩ = some (.string ((rd_T45 l0 x3_1).f1)) ∧ w'.cell? ⟨(ad532.add ((x3_1).toNat * 4)).block, (ad532.add ((x3_1).toNat * 4)).off + 2, none⟩ = some (.int .i64 ((rd_T45 l0 x3_1).f2.f0)) ∧ w'.cell? ⟨(ad532.add ((x3_1).toNat * 4)).block, (ad532.add ((x3_1).toNat * 4)).off + 3, none⟩ = some (.bool ((rd_T45 l0 x3_1).f2.f1))) (ds := []) _ (by kernel_rfl) rfl rfl ⟨(kc HB hw532_0), (kc HB hw532_1), (kc HB hw532_2), (kc HB hw532_3), (kc HB hw533_0), (kc HB hw533_1), (kc HB hw533_2), (kc HB hw533_3)⟩ (fun hHeld => ?_); refine with_tabW r08_rise.tab4 r08_rise.bits4 (fun HT_ HW_ => ?_)
     generalize wr.drew = w9 at HB hx532_0 hx532_1 hx532_2 hx532_3 hx533_0 hx533_1 hx533_2 hx533_3 hHeld ⊢
     refine p1 0 (some 10) ?_
     refine p1 1 (some 11) ?_
     refine p1 2 (some 12) ?_
     refine p1 3 (some 13) ?_
     refine p1 5 (some 15) ?_
     refine p1 6 (some 16) ?_
     refine p1 7 (some 17) ?_
     refine t1 4 (some 14) rfl rfl hHeld (Or.inl ⟨by rfl, by rintro w' ⟨s0, s1, s2, s3, s4, s5, s6, s7⟩; go_simp; with_reducible rfl⟩) ?_
     refine t1 8 (some 18) rfl rfl hHeld (Or.inl ⟨by rfl, by rintro w' ⟨s0, s1, s2, s3, s4, s5, s6, s7⟩; go_simp; with_reducible rfl⟩) ?_
     refine o1 9 (some 19) rfl rfl (fun K hK => ?_)
     refine goes_ Tryz.func37 (by kernel_rfl) rfl #[.agg #[.int .i64 ((rd_T45 l0 (ji3)).f0), .string ((rd_T45 l0 (ji3)).f1), .int .i64 ((rd_T45 l0 (ji3)).f2.f0), .bool ((rd_T45 l0 (ji3)).f2.f1)], .agg #[.int .i64 ((rd_T45 l0 x3_1).f0), .string ((rd_T45 l0 x3_1).f1), .int .i64 ((rd_T45 l0 x3_1).f2.f0), .bool ((rd_T45 l0 x3_1).f2.f1)]] (by rfl) rfl rfl (by (try simp only [List.map_toArray, List.map_cons, List.map_nil]); first | done | (simp only [hji3]; rfl) | rfl | (simp only [List.length_drop, List.length_take]; rfl)) ?_
     with_reducible refine (r08_Before.calls ((rd_T45 l0 (ji3)).f0) ((rd_T45 l0 (ji3)).f1) ((rd_T45 l0 (ji3)).f2.f0) ((rd_T45 l0 (ji3)).f2.f1) ((rd_T45 l0 x3_1).f0) ((rd_T45 l0 x3_1).f1) ((rd_T45 l0 x3_1).f2.f0) ((rd_T45 l0 x3_1).f2.f1) true _ A7.out).mono ?_
     rintro e w10 ⟨rfl, hb⟩
     refine ⟨_, rfl, ?_⟩
     replace HB := cW HB hb
     (try clear hb)
     refine hK.out _ _ ⟨(kc HB hw532_0), (kc HB hw532_1), (kc HB hw532_2), (kc HB hw532_3), (kc HB hw533_0), (kc HB hw533_1), (kc HB hw533_2), (kc HB hw533_3)⟩ (fun hHeld => ?_)
     clear hK K
     refine norm_ (a' := ?_) ?_ ?_
     rotate_left
     ·
      show Act.put _ (some 19) _ = _
      simp only [Act.put, List.setIfInBounds_toArray, List.set_cons_zero, List.set_cons_succ, i64_w, i32_w]
      rfl
     refine p1 10 (some 20) ?_
     refine done_ (done_of HT_.out (by kernel_rfl)) ?_
     try go_wp2
     go_roundg k1
     case measure => have := HK1.out; omega
     case rel => exact ⟨(wrap64 (x3_1 + 1)), rs_, H', ⟨by have := HK1.out; omega⟩, ⟨uW HB.out⟩⟩
    ·
     replace c8 := Bool.eq_false_iff.mpr c8
     subst c8
     rw [if_neg (show ¬ (false = true) by decide)] at H
     obtain rfl := Option.some.inj H
     try go_wp2
     replace HB := Aside0.mk (below_drew1 HB.out)
     have p532 : 0 ≤ ((ji3) : Int) := od
     have q532 : (ji3) < (l0.length : Int) := od
     obtain ⟨ad532, e532, hx532_0, hx532_1, hx532_2, hx532_3⟩ := at_T45 HR0.out (ji3) p532 q532
     have hw532_3 := hx532_3
     have hw532_2 := hx532_2
     have hw532_1 := hx532_1
     have hw532_0 := hx532_0
     cases e532
     replace hx532_0 := kc HB hx532_0
     replace hx532_1 := kc HB hx532_1
     replace hx532_2 := kc HB hx532_2
     replace hx532_3 := kc HB hx532_3
     replace p532 := eq_true p532
     replace q532 := eq_true q532
     have p533 : 0 ≤ (x3_1 : Int) := od
     have q533 : x3_1 < (l0.length : Int) := od
     obtain ⟨ad533, e533, hx533_0, hx533_1, hx533_2, hx533_3⟩ := at_T45 HR0.out x3_1 p533 q533
     have hw533_3 := hx533_3
     have hw533_2 := hx533_2
     have hw533_1 := hx533_1
     have hw533_0 := hx533_0
     obtain rfl : ad532 = ad533 := (by injection e533)
     replace hx533_0 := kc HB hx533_0
     replace hx533_1 := kc HB hx533_1
     replace hx533_2 := kc HB hx533_2
     replace hx533_3 := kc HB hx533_3
     replace p533 := eq_true p533
     replace q533 := eq_true q533
     refine start_ (n := 11) (S := fun w' => w'.cell? (ad532.add (((ji3)).toNat * 4)) = some (.int .i64 ((rd_T45 l0 (ji3)).f0)) ∧ w'.cell? ⟨(ad532.add (((ji3)).toNat * 4)).block, (ad532.add (((ji3)).toNat * 4)).off + 1, none⟩ = some (.string ((rd_T45 l0 (ji3)).f1)) ∧ w'.cell? ⟨(ad532.add (((ji3)).toNat * 4)).block, (ad532.add (((ji3)).toNat * 4)).off + 2, none⟩ = some (.int .i64 ((rd_T45 l0 (ji3)).f2.f0)) ∧ w'.cell? ⟨(ad532.add (((ji3)).toNat * 4)).block, (ad532.add (((ji3)).toNat * 4)).off + 3, none⟩ = some (.bool ((rd_T45 l0 (ji3)).f2.f1)) ∧ w'.cell? (ad532.add ((x3_1).toNat * 4)) = some (.int .i64 ((rd_T45 l0 x3_1).f0)) ∧ w'.cell? ⟨(ad532.add ((x3_1).toNat * 4)).block, (ad532.add ((x3_1).toNat * 4)).off + 1, none⟩ = some (.string ((rd_T45 l0 x3_1).f1)) ∧ w'.cell? ⟨(ad532.add ((x3_1).toNat * 4)).block, (ad532.add ((x3_1).toNat * 4)).off + 2, none⟩ = some (.int .i64 ((rd_T45 l0 x3_1).f2.f0)) ∧ w'.cell? ⟨(ad532.add ((x3_1).toNat * 4)).block, (ad532.add ((x3_1).toNat * 4)).off + 3, none⟩ = some (.bool ((rd_T45 l0 x3_1).f2.f1))) (ds := []) _ (by kernel_rfl) rfl rfl ⟨(kc HB hw532_0), (kc HB hw532_1), (kc HB hw532_2), (kc HB hw532_3), (kc HB hw533_0), (kc HB hw533_1), (kc HB hw533_2), (kc HB hw533_3)⟩ (fun hHeld => ?_); refine with_tabW r08_rise.tab4 r08_rise.bits4 (fun HT_ HW_ => ?_)
     generalize wr.drew = w11 at HB hx532_0 hx532_1 hx532_2 hx532_3 hx533_0 hx533_1 hx533_2 hx533_3 hHeld ⊢
     refine p1 0 (some 10) ?_
     refine p1 1 (some 11) ?_
     refine p1 2 (some 12) ?_
     refine p1 3 (some 13) ?_
     refine p1 5 (some 15) ?_
     refine p1 6 (some 16) ?_
     refine p1 7 (some 17) ?_
     refine t1 4 (some 14) rfl rfl hHeld (Or.inl ⟨by rfl, by rintro w' ⟨s0, s1, s2, s3, s4, s5, s6, s7⟩; go_simp; with_reducible rfl⟩) ?_
     refine t1 8 (some 18) rfl rfl hHeld (Or.inl ⟨by rfl, by rintro w' ⟨s0, s1, s2, s3, s4, s5, s6, s7⟩; go_simp; with_reducible rfl⟩) ?_
     refine o1 9 (some 19) rfl rfl (fun K hK => ?_)
     refine goes_ Tryz.func37 (by kernel_rfl) rfl #[.agg #[.int .i64 ((rd_T45 l0 (ji3)).f0), .string ((rd_T45 l0 (ji3)).f1), .int .i64 ((rd_T45 l0 (ji3)).f2.f0), .bool ((rd_T45 l0 (ji3)).f2.f1)], .agg #[.int .i64 ((rd_T45 l0 x3_1).f0), .string ((rd_T45 l0 x3_1).f1), .int .i64 ((rd_T45 l0 x3_1).f2.f0), .bool ((rd_T45 l0 x3_1).f2.f1)]] (by rfl) rfl rfl (by (try simp only [List.map_toArray, List.map_cons, List.map_nil]); first | done | (simp only [hji3]; rfl) | rfl | (simp only [List.length_drop, List.length_take]; rfl)) ?_
     with_reducible refine (r08_Before.calls ((rd_T45 l0 (ji3)).f0) ((rd_T45 l0 (ji3)).f1) ((rd_T45 l0 (ji3)).f2.f0) ((rd_T45 l0 (ji3)).f2.f1) ((rd_T45 l0 x3_1).f0) ((rd_T45 l0 x3_1).f1) ((rd_T45 l0 x3_1).f2.f0) ((rd_T45 l0 x3_1).f2.f1) false _ A7.out).mono ?_
     rintro e w12 ⟨rfl, hb⟩
     refine ⟨_, rfl, ?_⟩
     replace HB := cW HB hb
     (try clear hb)
     refine hK.out _ _ ⟨(kc HB hw532_0), (kc HB hw532_1), (kc HB hw532_2), (kc HB hw532_3), (kc HB hw533_0), (kc HB hw533_1), (kc HB hw533_2), (kc HB hw533_3)⟩ (fun hHeld => ?_)
     clear hK K
     refine norm_ (a' := ?_) ?_ ?_
     rotate_left
     ·
      show Act.put _ (some 19) _ = _
      simp only [Act.put, List.setIfInBounds_toArray, List.set_cons_zero, List.set_cons_succ, i64_w, i32_w]
      rfl
     refine p1 10 (some 20) ?_
     refine done_ (done_of HT_.out (by kernel_rfl)) ?_
     try go_wp2
     go_ret
     exact ⟨by first | rfl | (simp [errW_none, errW_some] <;> rfl) | (simp only [← hji3]; first | rfl | (simp [errW_none, errW_some] <;> rfl)) | (simp [*, errW_none, errW_some] <;> rfl), uW HB.out⟩
   ·
    rw [if_neg c2] at H
    have c2b0 : decide (x3_1 < (l0.length : Int)) = false := decide_eq_false c2
    clear c2
    obtain rfl := Option.some.inj H
    go_wp2
    go_ret
    exact ⟨re_, uW HB.out⟩
def r08_Parse.l0 : Nat → List (S45) → List ByteArray → Int → Option ((List (S45)) × Int)
 | 0, _, _, _ => none
 | k + 1, x4, x5, x6 => if x6 < (x5.length : Int) then (if 0 ≤ x6 then ((r08_one.f k (rdOf ByteArray.empty x5 x6)).bind fun bt539 => (if bt539.2.2.2.2 = 0 then (if x4.length < 3518437208883 then (r08_Parse.l0 k (x4 ++ [(⟨bt539.1, bt539.2.1, (⟨bt539.2.2.1, bt539.2.2.2.1⟩ : S43)⟩ : S45)]) x5 (wrap64 (x6 + 1))) else (none)) else (some (([] : List (S45)), bt539.2.2.2.2)))) else (none)) else ((r08_rise.f k x4).bind fun t548 => (if t548 = true then (some (x4, 0)) else (some (([] : List (S45)), 9))))
def r08_Parse.f (k : Nat) (a0 : ByteArray) : Option ((List (S45)) × Int) := if a0.toList = ([45] : List UInt8) then (some (([] : List (S45)), 0)) else ((r02_Split.f k a0 59).bind fun t535 => (r08_Parse.l0 k ([] : List (S45)) t535 0))
theorem r08_Parse.mono_l : ∀ k, (∀ y0 y1 y2, LeC (r08_Parse.l0 k y0 y1 y2) (r08_Parse.l0 (k + 1) y0 y1 y2))
 | 0 => fun _ _ _ => ⟨fun r h => by simp [r08_Parse.l0] at h⟩
 | k + 1 => by have ih0 := r08_Parse.mono_l k; exact fun _ _ _ => by unfold r08_Parse.l0; exact lm
theorem r08_Parse.mono : ∀ a0 k, LeO (r08_Parse.f k a0) (r08_Parse.f (k + 1) a0) := by
 intro a0 k
 have ih0 := r08_Parse.mono_l k
 unfold r08_Parse.f
 exact lo
instance r08_Parse.mI {a0 k} : LeC (r08_Parse.f k a0) (r08_Parse.f (k + 1) a0) := ⟨r08_Parse.mono _ _⟩
theorem r08_Parse.calls (k : Nat) (a0 : ByteArray) (r1 : List (S45)) (r2 : Int) (w : World) (h : r08_Parse.f k a0 = some (r1, r2)) :
 Calls Tryz.prog 23 #[.string a0] w fun e w' => ∃ v0_ : Value, e = .returned (.tuple #[v0_, .int .i64 r2]) ∧ Kd.R k45 45 w' w.heap.size (fun _ => True) v0_ r1 ∧ Below w.heap.size w w' := by
 have hu45 := Tryz.underlying45
 have HB := Aside0.mk (Below.refl w.heap.size w)
 have H : (if a0.toList = ([45] : List UInt8) then (some (([] : List (S45)), 0)) else ((r02_Split.f k a0 59).bind fun t535 => (r08_Parse.l0 k ([] : List (S45)) t535 0))) = some (r1, r2) := h
 clear h
 by_cases c2 : a0.toList = ([45] : List UInt8)
 ·
  rw [if_pos c2] at H
  have c2b0 : (a0.toList == ([45] : List UInt8)) = true := beq_iff_eq.mpr c2
  have c2b1 : (a0.toList != ([45] : List UInt8)) = false := bne_eq_false_iff_eq.mpr c2
  clear c2
  simp only [Option.some.injEq, Prod.mk.injEq] at H
  obtain ⟨rfl, rfl⟩ := H
  go_enter Tryz.func23, Tryz.ntmps23
  go_wp2
  go_ret2
  exact ⟨_, re_, nl_, uW HB.out⟩
 ·
  rw [if_neg c2] at H
  have c2b0 : (a0.toList == ([45] : List UInt8)) = false := beq_eq_false_iff_ne.mpr c2
  have c2b1 : (a0.toList != ([45] : List UInt8)) = true := bne_iff_ne.mpr c2
  obtain ⟨t535, A3, H⟩ := bs H
  try dsimp only at H
  have H' := Aside0.mk H
  clear H
  go_enter Tryz.func23, Tryz.ntmps23
  go_wp2_with (first | (refine gL (some 12) rfl Tryz.func41 #[.string a0, .int .u8 59] ?_; (with_reducible refine (r02_Split.calls k a0 59 t535 _ A3.out).mono ?_); rintro e w4 ⟨v536, rfl, ho0, hb⟩; refine ⟨_, rfl, ?_⟩; have HO537 := Aside0.mk (Kd.R_lower ho0 (below_size (uW HB.out))); replace HB := cW HB hb; (try clear hb); (try clear ho0)))
  (try simp only [Act.put, List.setIfInBounds_toArray, List.set_cons_zero, List.set_cons_succ])
  go_loopg [4, 6] k (fun kq v4 v6 w' => ∃ (x4_1 : List (S45)) (x6_1 : Int), v6 = .int .i64 x6_1 ∧ Aside0 (r08_Parse.l0 kq x4_1 t535 x6_1 = some (r1, r2)) ∧ Aside0 (kq ≤ k) ∧ Aside0 (Kd.R k45 45 w' w.heap.size (fun _ => True) v4 x4_1) ∧ Aside0 (Kd.R Kd.string 9 w' w.heap.size (fun _ => True) v536 t535) ∧ Aside0 (Below w.heap.size w w'))
  case atStart => exact ⟨(([] : List (S45))), (0), rs_, H', ⟨Nat.le_refl _⟩, ⟨nl_⟩, ⟨uR HO537.out⟩, ⟨uW HB.out⟩⟩
  case round =>
   clear H'
   try clear c2
   try clear c2b0
   try clear c2b1
   try clear p2
   try clear c4
   obtain ⟨x4_1, x6_1, rfl, HA, HK1, HO_4, HO_5, HB⟩ := hrel
   cases gk with
   | zero => exact absurd HA.out (by simp [r08_Parse.l0])
   | succ k1 =>
    have H := HA.out
    clear HA
    simp only [r08_Parse.l0] at H
    by_cases c5 : x6_1 < (t535.length : Int)
    ·
     rw [if_pos c5] at H
     have c5b0 : decide (x6_1 < (t535.length : Int)) = true := decide_eq_true c5
     clear c5
     obtain ⟨c6b0, H⟩ := gdd H
     obtain ⟨⟨t539, t540, t541, t542, t543⟩, A7, H⟩ := bs H
     try dsimp only at H
     by_cases c8 : t543 = 0
     ·
      rw [if_pos c8] at H
      have c8b0 : (t543 == 0) = true := beq_iff_eq.mpr c8
      have c8b1 : (t543 != 0) = false := bne_eq_false_iff_eq.mpr c8
      clear c8
      obtain ⟨c9, H⟩ := gd H
      have LMc9 := Aside0.mk c9
      clear c9
      obtain ⟨y545, hy545⟩ : ∃ y_ : List (S45), y_ = (x4_1 ++ [(⟨t539, t540, (⟨t541, t542⟩ : S43)⟩ : S45)]) := ⟨_, rfl⟩
      replace H : (r08_Parse.l0 k1 y545 t535 (wrap64 (x6_1 + 1))) = some (r1, r2) := by first | (rw [hy545]; with_reducible exact H) | (have H2_ := (Option.bind_some _ _).symm.trans H; rw [hy545]; with_reducible exact H2_) | (have H2_ := (Option.bind_some _ _).symm.trans H; with_reducible exact H2_) | with_reducible exact H | (rw [hy545]; exact H) | exact H
      have Ny545 := Aside0.mk hy545
      clear hy545
      have H' := Aside0.mk H
      clear H
      obtain ⟨Ao10, co10, eo10⟩ := Kd.R_slice HO_5.out
      subst eo10
      have p538 : 0 ≤ (x6_1 : Int) := od
      have q538 : x6_1 < (t535.length : Int) := od
      obtain ⟨ad538, e538, hx538_0⟩ := Kd.at_string (Kd.R_reads' HO_5.out).2.2 x6_1 p538 q538
      cases e538
      replace p538 := eq_true p538
      replace q538 := eq_true q538
      go_wp2_with (first | (refine gL (some 24) rfl Tryz.func43 #[.string (rdOf ByteArray.empty t535 x6_1)] ?_; (with_reducible refine (r08_one.calls k1 (rdOf ByteArray.empty t535 x6_1) t539 t540 t541 t542 t543 _ A7.out).mono ?_); rintro e w11 ⟨rfl, hb⟩; refine ⟨_, rfl, ?_⟩; replace HO_4 := cR HO_4 hb; replace HO_5 := cR HO_5 hb; replace HB := cW HB hb; (try clear hb)) | ((with_reducible refine gate_dst (N := 7) rfl ?_); refine bx (N := 7) #[.int .i64 0, .string (⟨#[]⟩ : ByteArray), .int .i64 0, .bool false] 45 ?_; intro gb544 hg w12 hbox hb; replace HO_4 := Aside0.mk (Kd.R_below (Kd.R_elderB (uR HO_4.out) gb544 (Nat.le_of_eq hg.symm)) hb); replace HO_5 := cR HO_5 hb; have BK544 := Aside0.mk (hbox); have GW544 := gw hg (uW HB.out); have GE544 := GW544; replace HB := cW HB hb; clear hb hbox hg; obtain ⟨hcz13_0, hcz13_1, hcz13_2, hcz13_3, hfz13_0, hfz13_1, hfz13_2, hfz13_3⟩ := z4 BK544) | ((with_reducible refine gate_builtin (b := .append) (xs := #[.tmp 30, .tmp 32]) rfl ?_); at_builtin; refine Kd.R_append k45 (w0 := w) w.heap.size rfl (.tmp 30) (.tmp 32) 22 45 (.agg #[(.int .i64 0), (.string ⟨#[]⟩), (.int .i64 0), (.bool false)]) 40 rfl Tryz.underlying22 info45 rfl (by decide) (by omega) u4 x4_1 (⟨t539, t540, (⟨t541, t542⟩ : S43)⟩ : S45) [.int .i64 t539, .string t540, .int .i64 t541, .bool t542] (fun k_ => k_ ≠ gb544) (fun _ => False) rfl (by first | (go_simp; done) | (go_simp; rfl)) ?aP (fun _ hk => hk.elim) ?aF ?aO ?aB ?aS ?aL ?_; (case aP => exact k45_mkM _ _ _ (⟨t539, t540, (⟨t541, t542⟩ : S43)⟩ : S45)); (case aB => exact bl); (case aF => exact (fun k_ hk => Kd.freshB (g := gb544) (o := .cells #[.int .i64 t539, .string t540, .int .i64 t541, .bool t542] 45 (0, 0)) (by (with_reducible repeat (first | refine blk_drewN ?_ _ | refine blk_drew ?_ | refine blk_alloc ?_ _)); refine blk_put (cs := #[.int .i64 t539, .string t540, .int .i64 t541, .bool false]) ?_ 3 _ rfl; (with_reducible repeat (first | refine blk_drewN ?_ _ | refine blk_drew ?_ | refine blk_alloc ?_ _)); refine blk_put (cs := #[.int .i64 t539, .string t540, .int .i64 0, .bool false]) ?_ 2 _ rfl; (with_reducible repeat (first | refine blk_drewN ?_ _ | refine blk_drew ?_ | refine blk_alloc ?_ _)); refine blk_put (cs := #[.int .i64 t539, .string (⟨#[]⟩ : ByteArray), .int .i64 0, .bool false]) ?_ 1 _ rfl; (with_reducible repeat (first | refine blk_drewN ?_ _ | refine blk_drew ?_ | refine blk_alloc ?_ _)); refine blk_put (cs := #[.int .i64 0, .string (⟨#[]⟩ : ByteArray), .int .i64 0, .bool false]) ?_ 0 _ rfl; exact uB <| BK544.out) k_ hk)); (case aO => exact (by exact uR <| Kd.R_mono (Kd.R_far (p := ⟨gb544, 3, none⟩) (Kd.R_far (p := ⟨gb544, 2, none⟩) (Kd.R_far (p := ⟨gb544, 1, none⟩) (Kd.R_far (p := ⟨gb544, 0, none⟩) (Kd.R_mono HO_4.out (fun k_ hk => (⟨hk, hk.2⟩ : _ ∧ k_ ≠ gb544))) (fun _ hk => hk.2) (.int .i64 t539)) (fun _ hk => hk.2) (.string t540)) (fun _ hk => hk.2) (.int .i64 t541)) (fun _ hk => hk.2) (.bool t542)) (fun _ hk => hk.1.2))); (case aS => exact (below_size bl)); (case aL => have := LMc9.out; omega); intro v546 w14 ho hb hg hat; rw [← Ny545.out] at ho; replace HO_5 := Aside0.mk (Kd.R_over' (by exact uR <| (Kd.R_mono (Kd.R_far (p := ⟨gb544, 3, none⟩) (Kd.R_far (p := ⟨gb544, 2, none⟩) (Kd.R_far (p := ⟨gb544, 1, none⟩) (Kd.R_far (p := ⟨gb544, 0, none⟩) (Kd.R_types HO_5.out BK544.out (by decide)) (fun _ hk => hk.2) (.int .i64 t539)) (fun _ hk => hk.2) (.string t540)) (fun _ hk => hk.2) (.int .i64 t541)) (fun _ hk => hk.2) (.bool t542)) (fun _ h_ => h_.1))) (Kd.R_typed (by exact uR <| (Kd.R_mono (Kd.R_far (p := ⟨gb544, 3, none⟩) (Kd.R_far (p := ⟨gb544, 2, none⟩) (Kd.R_far (p := ⟨gb544, 1, none⟩) (Kd.R_far (p := ⟨gb544, 0, none⟩) (Kd.R_mono HO_4.out (fun k_ hk => (⟨hk, hk.2⟩ : _ ∧ k_ ≠ gb544))) (fun _ hk => hk.2) (.int .i64 t539)) (fun _ hk => hk.2) (.string t540)) (fun _ hk => hk.2) (.int .i64 t541)) (fun _ hk => hk.2) (.bool t542)) (fun _ h_ => h_.1)))) (by decide) hg); replace BK544 := Aside0.mk (blk_grown (g := gb544) (o := .cells #[.int .i64 t539, .string t540, .int .i64 t541, .bool t542] 45 (0, 0)) (by (with_reducible repeat (first | refine blk_drewN ?_ _ | refine blk_drew ?_ | refine blk_alloc ?_ _)); refine blk_put (cs := #[.int .i64 t539, .string t540, .int .i64 t541, .bool false]) ?_ 3 _ rfl; (with_reducible repeat (first | refine blk_drewN ?_ _ | refine blk_drew ?_ | refine blk_alloc ?_ _)); refine blk_put (cs := #[.int .i64 t539, .string t540, .int .i64 0, .bool false]) ?_ 2 _ rfl; (with_reducible repeat (first | refine blk_drewN ?_ _ | refine blk_drew ?_ | refine blk_alloc ?_ _)); refine blk_put (cs := #[.int .i64 t539, .string (⟨#[]⟩ : ByteArray), .int .i64 0, .bool false]) ?_ 1 _ rfl; (with_reducible repeat (first | refine blk_drewN ?_ _ | refine blk_drew ?_ | refine blk_alloc ?_ _)); refine blk_put (cs := #[.int .i64 0, .string (⟨#[]⟩ : ByteArray), .int .i64 0, .bool false]) ?_ 0 _ rfl; exact uB <| BK544.out) hg (Kd.R_away HO_4.out (fun _ hk => hk.2))); replace HB := Aside0.mk (hb); have HO547 := Aside0.mk (ho); clear HO_4; clear ho hb hg hat))
      go_roundg k1
      case measure => have := HK1.out; omega
      case rel => exact ⟨(y545), (wrap64 (x6_1 + 1)), rs_, H', ⟨by have := HK1.out; omega⟩, ⟨by exact uR <| Kd.R_mono HO547.out (fun _ hk => trivial)⟩, ⟨uR HO_5.out⟩, ⟨bl⟩⟩
     ·
      rw [if_neg c8] at H
      have c8b0 : (t543 == 0) = false := beq_eq_false_iff_ne.mpr c8
      have c8b1 : (t543 != 0) = true := bne_iff_ne.mpr c8
      simp only [Option.some.injEq, Prod.mk.injEq] at H
      obtain ⟨rfl, rfl⟩ := H
      obtain ⟨Ao15, co15, eo15⟩ := Kd.R_slice HO_5.out
      subst eo15
      have p538 : 0 ≤ (x6_1 : Int) := od
      have q538 : x6_1 < (t535.length : Int) := od
      obtain ⟨ad538, e538, hx538_0⟩ := Kd.at_string (Kd.R_reads' HO_5.out).2.2 x6_1 p538 q538
      cases e538
      replace p538 := eq_true p538
      replace q538 := eq_true q538
      go_wp2_with (first | (refine gL (some 24) rfl Tryz.func43 #[.string (rdOf ByteArray.empty t535 x6_1)] ?_; (with_reducible refine (r08_one.calls k1 (rdOf ByteArray.empty t535 x6_1) t539 t540 t541 t542 t543 _ A7.out).mono ?_); rintro e w16 ⟨rfl, hb⟩; refine ⟨_, rfl, ?_⟩; replace HO_4 := cR HO_4 hb; replace HO_5 := cR HO_5 hb; replace HB := cW HB hb; (try clear hb)) | ((with_reducible refine gate_dst (N := 7) rfl ?_); refine bx (N := 7) #[.int .i64 0, .string (⟨#[]⟩ : ByteArray), .int .i64 0, .bool false] 45 ?_; intro gb544 hg w17 hbox hb; replace HO_4 := Aside0.mk (Kd.R_below (Kd.R_elderB (uR HO_4.out) gb544 (Nat.le_of_eq hg.symm)) hb); replace HO_5 := cR HO_5 hb; have BK544 := Aside0.mk (hbox); have GW544 := gw hg (uW HB.out); have GE544 := GW544; replace HB := cW HB hb; clear hb hbox hg; obtain ⟨hcz18_0, hcz18_1, hcz18_2, hcz18_3, hfz18_0, hfz18_1, hfz18_2, hfz18_3⟩ := z4 BK544))
      go_ret2
      exact ⟨_, re_, nl_, bl⟩
    ·
     rw [if_neg c5] at H
     have c5b0 : decide (x6_1 < (t535.length : Int)) = false := decide_eq_false c5
     clear c5
     obtain ⟨t548, A19, H⟩ := bs H
     try dsimp only at H
     by_cases c20 : t548 = true
     ·
      subst c20
      rw [if_pos rfl] at H
      simp only [Option.some.injEq, Prod.mk.injEq] at H
      obtain ⟨rfl, rfl⟩ := H
      obtain ⟨Ao21, co21, eo21⟩ := Kd.R_slice HO_5.out
      subst eo21
      obtain ⟨Ao22, co22, eo22⟩ := Kd.R_slice HO_4.out
      subst eo22
      go_wp2_with (first | (refine gL (some 35) rfl Tryz.func44 #[.slice Ao22 x4_1.length co22] ?_; (with_reducible refine (r08_rise.calls k1 _ _ x4_1 true _ ?side1 ?side2 A19.out).mono ?_); (case side1 => exact uC <| (Kd.R_reads' HO_4.out).2.2); (case side2 => exact (Kd.R_reads' HO_4.out).2.1); rintro e w23 ⟨rfl, hb⟩; refine ⟨_, rfl, ?_⟩; replace HO_4 := cR HO_4 hb; replace HO_5 := cR HO_5 hb; replace HB := cW HB hb; (try clear hb)))
      go_ret2
      exact ⟨_, re_, uR HO_4.out, uW HB.out⟩
     ·
      replace c20 := Bool.eq_false_iff.mpr c20
      subst c20
      rw [if_neg (show ¬ (false = true) by decide)] at H
      simp only [Option.some.injEq, Prod.mk.injEq] at H
      obtain ⟨rfl, rfl⟩ := H
      obtain ⟨Ao24, co24, eo24⟩ := Kd.R_slice HO_5.out
      subst eo24
      obtain ⟨Ao25, co25, eo25⟩ := Kd.R_slice HO_4.out
      subst eo25
      go_wp2_with (first | (refine gL (some 35) rfl Tryz.func44 #[.slice Ao25 x4_1.length co25] ?_; (with_reducible refine (r08_rise.calls k1 _ _ x4_1 false _ ?side1 ?side2 A19.out).mono ?_); (case side1 => exact uC <| (Kd.R_reads' HO_4.out).2.2); (case side2 => exact (Kd.R_reads' HO_4.out).2.1); rintro e w26 ⟨rfl, hb⟩; refine ⟨_, rfl, ?_⟩; replace HO_4 := cR HO_4 hb; replace HO_5 := cR HO_5 hb; replace HB := cW HB hb; (try clear hb)))
      go_ret2
      exact ⟨_, re_, nl_, uW HB.out⟩
def w09_alive.f (k : Nat)  : Option (Bool) := (r08_Parse.f k (⟨#[51, 124, 124, 53, 59, 52, 124, 124, 55]⟩ : ByteArray)).bind fun bt549 => ((r08_Parse.f k (⟨#[52, 124, 124, 56, 59, 53, 124, 124, 49]⟩ : ByteArray)).bind fun bt553 => ((diff_Of.f k bt549.1 bt553.1).bind fun bt557 => ((diff_Apply.f k bt549.1 bt557.1).bind fun bt561 => ((diff_Parse.f k (⟨#[33, 51, 124, 59, 52, 124, 124, 56, 59, 53, 124, 124, 49]⟩ : ByteArray)).bind fun bt565 => ((diff_Apply.f k bt553.1 bt557.1).bind fun bt569 => ((diff_Of.f k (([(⟨0, (⟨#[]⟩ : ByteArray), (⟨0, false⟩ : S43)⟩ : S45), (⟨0, (⟨#[]⟩ : ByteArray), (⟨0, false⟩ : S43)⟩ : S45)] : List (S45))) bt553.1).bind fun bt576 => (if bt557.2 = 0 then (if bt561.2 = 0 then (if bt565.2 = 0 then (if bt569.2 = 6 then (if bt576.2 = 9 then ((diff_Text.f k bt557.1).bind fun t580 => (if t580.toList = ([33, 51, 124, 59, 52, 124, 124, 56, 59, 53, 124, 124, 49] : List UInt8) then ((r08_Same.f k bt561.1 bt553.1).bind fun t581 => (if t581 = true then ((diff_Same.f k bt557.1 bt565.1).bind fun t582 => (if t582 = true then ((diff_Same.f k bt557.1 ([] : List (S48))).bind fun t583 => (if t583 = true then (none) else ((diff_Text.f k ([] : List (S48))).bind fun t584 => (some (t584.toList == ([45] : List UInt8)))))) else (none))) else (none))) else (none))) else (none)) else (none)) else (none)) else (none)) else (none))))))))
theorem w09_alive.mono : ∀ k, LeO (w09_alive.f k ) (w09_alive.f (k + 1) ) := by
 intro k
 unfold w09_alive.f
 exact lo
instance w09_alive.mI {k} : LeC (w09_alive.f k) (w09_alive.f (k + 1)) := ⟨w09_alive.mono _⟩
theorem w09_alive.calls (k : Nat)  (r : Bool) (w : World) (hL : LD w) (h : w09_alive.f k  = some r) :
 Calls Tryz.prog 8 #[] w fun e w' => e = .returned (.bool r) ∧ Below w.heap.size w w' := by
 have HL0 := Aside0.mk hL
 clear hL
 have hu45 := Tryz.underlying45
 have HB := Aside0.mk (Below.refl w.heap.size w)
 have H : ((r08_Parse.f k (⟨#[51, 124, 124, 53, 59, 52, 124, 124, 55]⟩ : ByteArray)).bind fun bt549 => ((r08_Parse.f k (⟨#[52, 124, 124, 56, 59, 53, 124, 124, 49]⟩ : ByteArray)).bind fun bt553 => ((diff_Of.f k bt549.1 bt553.1).bind fun bt557 => ((diff_Apply.f k bt549.1 bt557.1).bind fun bt561 => ((diff_Parse.f k (⟨#[33, 51, 124, 59, 52, 124, 124, 56, 59, 53, 124, 124, 49]⟩ : ByteArray)).bind fun bt565 => ((diff_Apply.f k bt553.1 bt557.1).bind fun bt569 => ((diff_Of.f k (([(⟨0, (⟨#[]⟩ : ByteArray), (⟨0, false⟩ : S43)⟩ : S45), (⟨0, (⟨#[]⟩ : ByteArray), (⟨0, false⟩ : S43)⟩ : S45)] : List (S45))) bt553.1).bind fun bt576 => (if bt557.2 = 0 then (if bt561.2 = 0 then (if bt565.2 = 0 then (if bt569.2 = 6 then (if bt576.2 = 9 then ((diff_Text.f k bt557.1).bind fun t580 => (if t580.toList = ([33, 51, 124, 59, 52, 124, 124, 56, 59, 53, 124, 124, 49] : List UInt8) then ((r08_Same.f k bt561.1 bt553.1).bind fun t581 => (if t581 = true then ((diff_Same.f k bt557.1 bt565.1).bind fun t582 => (if t582 = true then ((diff_Same.f k bt557.1 ([] : List (S48))).bind fun t583 => (if t583 = true then (none) else ((diff_Text.f k ([] : List (S48))).bind fun t584 => (some (t584.toList == ([45] : List UInt8)))))) else (none))) else (none))) else (none))) else (none)) else (none)) else (none)) else (none)) else (none))))))))) = some r := h
 clear h
 obtain ⟨⟨t549, t550⟩, A1, H⟩ := bs H
 try dsimp only at H
 obtain ⟨⟨t553, t554⟩, A2, H⟩ := bs H
 try dsimp only at H
 obtain ⟨⟨t557, t560⟩, A3, H⟩ := bs H
 try dsimp only at H
 obtain ⟨⟨t561, t564⟩, A4, H⟩ := bs H
 try dsimp only at H
 obtain ⟨⟨t565, t566⟩, A5, H⟩ := bs H
 try dsimp only at H
 obtain ⟨⟨t569, t572⟩, A6, H⟩ := bs H
 try dsimp only at H
 obtain ⟨y573, hy573⟩ : ∃ y_ : List (S45), y_ = (([(⟨0, (⟨#[]⟩ : ByteArray), (⟨0, false⟩ : S43)⟩ : S45), (⟨0, (⟨#[]⟩ : ByteArray), (⟨0, false⟩ : S43)⟩ : S45)] : List (S45))) := ⟨_, rfl⟩
 replace H : ((diff_Of.f k y573 t553).bind fun bt576 => (if t560 = 0 then (if t564 = 0 then (if t566 = 0 then (if t572 = 6 then (if bt576.2 = 9 then ((diff_Text.f k t557).bind fun t580 => (if t580.toList = ([33, 51, 124, 59, 52, 124, 124, 56, 59, 53, 124, 124, 49] : List UInt8) then ((r08_Same.f k t561 t553).bind fun t581 => (if t581 = true then ((diff_Same.f k t557 t565).bind fun t582 => (if t582 = true then ((diff_Same.f k t557 ([] : List (S48))).bind fun t583 => (if t583 = true then (none) else ((diff_Text.f k ([] : List (S48))).bind fun t584 => (some (t584.toList == ([45] : List UInt8)))))) else (none))) else (none))) else (none))) else (none)) else (none)) else (none)) else (none)) else (none))) = some r := by first | (rw [hy573]; with_reducible exact H) | (have H2_ := (Option.bind_some _ _).symm.trans H; rw [hy573]; with_reducible exact H2_) | (have H2_ := (Option.bind_some _ _).symm.trans H; with_reducible exact H2_) | with_reducible exact H | (rw [hy573]; exact H) | exact H
 have Ny573 := Aside0.mk hy573
 clear hy573
 obtain ⟨⟨t576, t579⟩, A7, H⟩ := bs H
 try dsimp only at H
 by_cases c8 : t560 = 0
 ·
  rw [if_pos c8] at H
  have c8b0 : (t560 == 0) = true := beq_iff_eq.mpr c8
  have c8b1 : (t560 != 0) = false := bne_eq_false_iff_eq.mpr c8
  clear c8
  obtain ⟨c9, H⟩ := gd H
  have c9b0 : (t564 == 0) = true := beq_iff_eq.mpr c9
  have c9b1 : (t564 != 0) = false := bne_eq_false_iff_eq.mpr c9
  clear c9
  obtain ⟨c10, H⟩ := gd H
  have c10b0 : (t566 == 0) = true := beq_iff_eq.mpr c10
  have c10b1 : (t566 != 0) = false := bne_eq_false_iff_eq.mpr c10
  clear c10
  obtain ⟨c11, H⟩ := gd H
  have c11b0 : (t572 == 6) = true := beq_iff_eq.mpr c11
  have c11b1 : (t572 != 6) = false := bne_eq_false_iff_eq.mpr c11
  clear c11
  obtain ⟨c12, H⟩ := gd H
  have c12b0 : (t579 == 9) = true := beq_iff_eq.mpr c12
  have c12b1 : (t579 != 9) = false := bne_eq_false_iff_eq.mpr c12
  clear c12
  obtain ⟨t580, A13, H⟩ := bs H
  try dsimp only at H
  obtain ⟨c14, H⟩ := gd H
  have c14b0 : (t580.toList == ([33, 51, 124, 59, 52, 124, 124, 56, 59, 53, 124, 124, 49] : List UInt8)) = true := beq_iff_eq.mpr c14
  have c14b1 : (t580.toList != ([33, 51, 124, 59, 52, 124, 124, 56, 59, 53, 124, 124, 49] : List UInt8)) = false := bne_eq_false_iff_eq.mpr c14
  clear c14
  obtain ⟨t581, A15, H⟩ := bs H
  try dsimp only at H
  by_cases c16 : t581 = true
  ·
   subst c16
   rw [if_pos rfl] at H
   obtain ⟨t582, A17, H⟩ := bs H
   try dsimp only at H
   by_cases c18 : t582 = true
   ·
    subst c18
    rw [if_pos rfl] at H
    obtain ⟨t583, A19, H⟩ := bs H
    try dsimp only at H
    by_cases c20 : t583 = true
    ·
     subst c20
     rw [if_pos rfl] at H
     exact absurd H (by simp)
    ·
     replace c20 := Bool.eq_false_iff.mpr c20
     subst c20
     rw [if_neg (show ¬ (false = true) by decide)] at H
     obtain ⟨t584, A21, H⟩ := bs H
     try dsimp only at H
     obtain rfl := Option.some.inj H
     go_enter Tryz.func8, Tryz.ntmps8
     go_wp2_with (first | (refine gL (some 16) rfl Tryz.func23 #[.string (⟨#[51, 124, 124, 53, 59, 52, 124, 124, 55]⟩ : ByteArray)] ?_; (with_reducible refine (r08_Parse.calls k (⟨#[51, 124, 124, 53, 59, 52, 124, 124, 55]⟩ : ByteArray) t549 t550 _ A1.out).mono ?_); rintro e w22 ⟨v551, rfl, ho0, hb⟩; refine ⟨_, rfl, ?_⟩; have HO552 := Aside0.mk (Kd.R_lower ho0 (below_size (uW HB.out))); replace HB := cW HB hb; (try clear hb); (try clear ho0)) | (refine gL (some 20) rfl Tryz.func23 #[.string (⟨#[52, 124, 124, 56, 59, 53, 124, 124, 49]⟩ : ByteArray)] ?_; (with_reducible refine (r08_Parse.calls k (⟨#[52, 124, 124, 56, 59, 53, 124, 124, 49]⟩ : ByteArray) t553 t554 _ A2.out).mono ?_); rintro e w23 ⟨v555, rfl, ho0, hb⟩; refine ⟨_, rfl, ?_⟩; have HO556 := Aside0.mk (Kd.R_lower (Kd.R_new' ho0 (Kd.R_lt (uR HO552.out))) (below_size (uW HB.out))); replace HO552 := Aside0.mk (Kd.R_elder' (uR HO552.out) (Kd.R_base ho0) hb); replace HB := cW HB hb; (try clear hb); (try clear ho0); obtain ⟨Ao24, co24, eo24⟩ := Kd.R_slice HO552.out; subst eo24; obtain ⟨Ao25, co25, eo25⟩ := Kd.R_slice HO556.out; subst eo25) | (refine gL (some 26) rfl Tryz.func10 #[.slice Ao24 t549.length co24, .slice Ao25 t553.length co25] ?_; (with_reducible refine (diff_Of.calls (hL := ld) k (fun k_ => some k_ = (.slice Ao24 t549.length co24 : Value).ownBlock) _ _ t549 (fun k_ => some k_ = (.slice Ao25 t553.length co25 : Value).ownBlock) _ _ t553 t557 t560 _ ?side1 ?side2 A3.out).mono ?_); (case side1 => exact Kd.R_V (Kd.R_tight rfl (HO552.out))); (case side2 => exact Kd.R_V (Kd.R_tight rfl (HO556.out))); rintro e w26 ⟨v558, rfl, ho0, hb⟩; refine ⟨_, rfl, ?_⟩; replace HO552 := cR HO552 hb; replace HO556 := cR HO556 hb; have HO559 := Aside0.mk (Kd.R_lower (Kd.R_mono (ok' := fun k_ => True) ho0 (fun _ hk_ => trivial)) (below_size (uW HB.out))); replace HB := cW HB hb; (try clear hb); (try clear ho0); obtain ⟨Ao27, co27, eo27⟩ := Kd.R_slice HO559.out; subst eo27) | (refine gL (some 32) rfl Tryz.func17 #[.slice Ao24 t549.length co24, .slice Ao27 t557.length co27] ?_; (with_reducible refine (diff_Apply.calls (hL := ld) k (fun k_ => some k_ = (.slice Ao24 t549.length co24 : Value).ownBlock) _ _ t549 _ _ t557 t561 t564 _ ?side1 ?side2 ?side3 A4.out).mono ?_); (case side1 => exact Kd.R_V (Kd.R_tight rfl (Kd.R_apart' (HO552.out) (Kd.R_typed HO559.out) (by decide)))); (case side2 => exact uC <| (Kd.R_reads' HO559.out).2.2); (case side3 => exact (Kd.R_reads' HO559.out).2.1); rintro e w28 ⟨v562, rfl, ho0, hb⟩; refine ⟨_, rfl, ?_⟩; replace HO559 := cR HO559 hb; have HO563 := Aside0.mk (Kd.R_lower (Kd.R_new' (Kd.R_new' (Kd.R_mono (ok' := fun k_ => True) ho0 (fun _ hk_ => trivial)) (Kd.R_lt (uR HO552.out))) (Kd.R_lt (uR HO556.out))) (below_size (uW HB.out))); replace HO552 := Aside0.mk (Kd.R_elder' (uR HO552.out) (Kd.R_base ho0) hb); replace HO556 := Aside0.mk (Kd.R_elder' (uR HO556.out) (Kd.R_base ho0) hb); replace HB := cW HB hb; (try clear hb); (try clear ho0)) | (refine gL (some 36) rfl Tryz.func20 #[.string (⟨#[33, 51, 124, 59, 52, 124, 124, 56, 59, 53, 124, 124, 49]⟩ : ByteArray)] ?_; (with_reducible refine (diff_Parse.calls (hL := ld) k (⟨#[33, 51, 124, 59, 52, 124, 124, 56, 59, 53, 124, 124, 49]⟩ : ByteArray) t565 t566 _ A5.out).mono ?_); rintro e w29 ⟨v567, rfl, ho0, hb⟩; refine ⟨_, rfl, ?_⟩; replace HO552 := cR HO552 hb; replace HO556 := cR HO556 hb; replace HO563 := cR HO563 hb; have HO568 := Aside0.mk (Kd.R_lower (Kd.R_new' ho0 (Kd.R_lt (uR HO559.out))) (below_size (uW HB.out))); replace HO559 := Aside0.mk (Kd.R_elder' (uR HO559.out) (Kd.R_base ho0) hb); replace HB := cW HB hb; (try clear hb); (try clear ho0)) | (refine gL (some 42) rfl Tryz.func17 #[.slice Ao25 t553.length co25, .slice Ao27 t557.length co27] ?_; (with_reducible refine (diff_Apply.calls (hL := ld) k (fun k_ => some k_ = (.slice Ao25 t553.length co25 : Value).ownBlock) _ _ t553 _ _ t557 t569 t572 _ ?side1 ?side2 ?side3 A6.out).mono ?_); (case side1 => exact Kd.R_V (Kd.R_tight rfl (Kd.R_apart' (Kd.R_apart' (HO556.out) (Kd.R_typed HO559.out) (by decide)) (Kd.R_typed HO568.out) (by decide)))); (case side2 => exact uC <| (Kd.R_reads' HO559.out).2.2); (case side3 => exact (Kd.R_reads' HO559.out).2.1); rintro e w30 ⟨v570, rfl, ho0, hb⟩; refine ⟨_, rfl, ?_⟩; replace HO559 := cR HO559 hb; replace HO568 := cR HO568 hb; have HO571 := Aside0.mk (Kd.R_lower (Kd.R_new' (Kd.R_new' (Kd.R_new' (Kd.R_mono (ok' := fun k_ => True) ho0 (fun _ hk_ => trivial)) (Kd.R_lt (uR HO552.out))) (Kd.R_lt (uR HO556.out))) (Kd.R_lt (uR HO563.out))) (below_size (uW HB.out))); replace HO552 := Aside0.mk (Kd.R_elder' (uR HO552.out) (Kd.R_base ho0) hb); replace HO556 := Aside0.mk (Kd.R_elder' (uR HO556.out) (Kd.R_base ho0) hb); replace HO563 := Aside0.mk (Kd.R_elder' (uR HO563.out) (Kd.R_base ho0) hb); replace HB := cW HB hb; (try clear hb); (try clear ho0)) | ((with_reducible refine gate_dst (N := 48) rfl ?_); refine Kd.R_lit k45 _ 45 ?hg (N := 48) ?hd (xs := ([(⟨0, (⟨#[]⟩ : ByteArray), (⟨0, false⟩ : S43)⟩ : S45), (⟨0, (⟨#[]⟩ : ByteArray), (⟨0, false⟩ : S43)⟩ : S45)] : List (S45))) (inner := [.int .i64 0, .string (⟨#[]⟩ : ByteArray), .int .i64 0, .bool false, .int .i64 0, .string (⟨#[]⟩ : ByteArray), .int .i64 0, .bool false]) (ok := fun _ => True) (okp := fun _ => True) ?hr ?hp (fun _ hk => hk) trivial (Below.refl _ _) (Nat.le_refl _) (by simp) ?_; (case hd => rfl); (case hg => rfl); (case hr => first | (go_simp; done) | (go_simp; rfl)); (case hp => exact (Reps.c4 (show Kd.M k45 _ _ _ (⟨0, (⟨#[]⟩ : ByteArray), (⟨0, false⟩ : S43)⟩ : S45) [.int .i64 0, .string (⟨#[]⟩ : ByteArray), .int .i64 0, .bool false] from (k45_mkM _ _ _ (⟨0, (⟨#[]⟩ : ByteArray), (⟨0, false⟩ : S43)⟩ : S45) )) (Reps.c4 (show Kd.M k45 _ _ _ (⟨0, (⟨#[]⟩ : ByteArray), (⟨0, false⟩ : S43)⟩ : S45) [.int .i64 0, .string (⟨#[]⟩ : ByteArray), .int .i64 0, .bool false] from (k45_mkM _ _ _ (⟨0, (⟨#[]⟩ : ByteArray), (⟨0, false⟩ : S43)⟩ : S45) )) (Reps.none _ _)))); intro v574 w31 ho32 hb hg_ hnew_; clear hg_ hnew_; (first | rw [← Ny573.out] at ho32 | (simp only [Int.reduceToNat] at ho32; rw [← Ny573.out] at ho32)); replace HO559 := cR HO559 hb; replace HO568 := cR HO568 hb; have HO575 := Aside0.mk (Kd.R_lower (Kd.R_new' (Kd.R_new' (Kd.R_new' (Kd.R_new' ho32 (Kd.R_lt (uR HO552.out))) (Kd.R_lt (uR HO556.out))) (Kd.R_lt (uR HO563.out))) (Kd.R_lt (uR HO571.out))) (below_size (uW HB.out))); replace HO552 := Aside0.mk (Kd.R_elder' (uR HO552.out) (Kd.R_base ho32) hb); replace HO556 := Aside0.mk (Kd.R_elder' (uR HO556.out) (Kd.R_base ho32) hb); replace HO563 := Aside0.mk (Kd.R_elder' (uR HO563.out) (Kd.R_base ho32) hb); replace HO571 := Aside0.mk (Kd.R_elder' (uR HO571.out) (Kd.R_base ho32) hb); replace HB := cW HB hb; clear hb ho32; obtain ⟨Ao33, co33, eo33⟩ := Kd.R_slice HO575.out; subst eo33) | (refine gL (some 50) rfl Tryz.func10 #[.slice Ao33 y573.length co33, .slice Ao25 t553.length co25] ?_; (with_reducible refine (diff_Of.calls (hL := ld) k (fun k_ => some k_ = (.slice Ao33 y573.length co33 : Value).ownBlock) _ _ y573 (fun k_ => some k_ = (.slice Ao25 t553.length co25 : Value).ownBlock) _ _ t553 t576 t579 _ ?side1 ?side2 A7.out).mono ?_); (case side1 => exact Kd.R_V (Kd.R_tight rfl (Kd.R_apart' (Kd.R_apart' (HO575.out) (Kd.R_typed HO559.out) (by decide)) (Kd.R_typed HO568.out) (by decide)))); (case side2 => exact Kd.R_V (Kd.R_tight rfl (Kd.R_apart' (Kd.R_apart' (HO556.out) (Kd.R_typed HO559.out) (by decide)) (Kd.R_typed HO568.out) (by decide)))); rintro e w34 ⟨v577, rfl, ho0, hb⟩; refine ⟨_, rfl, ?_⟩; replace HO552 := cR HO552 hb; replace HO556 := cR HO556 hb; replace HO563 := cR HO563 hb; replace HO571 := cR HO571 hb; replace HO575 := cR HO575 hb; have HO578 := Aside0.mk (Kd.R_lower (Kd.R_new' (Kd.R_new' (Kd.R_mono (ok' := fun k_ => True) ho0 (fun _ hk_ => trivial)) (Kd.R_lt (uR HO559.out))) (Kd.R_lt (uR HO568.out))) (below_size (uW HB.out))); replace HO559 := Aside0.mk (Kd.R_elder' (uR HO559.out) (Kd.R_base ho0) hb); replace HO568 := Aside0.mk (Kd.R_elder' (uR HO568.out) (Kd.R_base ho0) hb); replace HB := cW HB hb; (try clear hb); (try clear ho0)) | (go_at_call 14; (with_reducible refine (diff_Text.calls (hL := ld) k _ _ t557 t580 _ ?side1 ?side2 A13.out).mono ?_); (case side1 => exact uC <| (Kd.R_reads' HO559.out).2.2); (case side2 => exact (Kd.R_reads' HO559.out).2.1); rintro e w35 ⟨rfl, hb⟩; replace HO552 := cR HO552 hb; replace HO556 := cR HO556 hb; replace HO559 := cR HO559 hb; replace HO563 := cR HO563 hb; replace HO568 := cR HO568 hb; replace HO571 := cR HO571 hb; replace HO575 := cR HO575 hb; replace HO578 := cR HO578 hb; replace HB := cW HB hb; (try clear hb); obtain ⟨Ao36, co36, eo36⟩ := Kd.R_slice HO563.out; subst eo36) | (go_at_call 13; (with_reducible refine (r08_Same.calls k _ _ t561 _ _ t553 true _ ?side1 ?side2 ?side3 ?side4 A15.out).mono ?_); (case side1 => exact uC <| (Kd.R_reads' HO563.out).2.2); (case side2 => exact (Kd.R_reads' HO563.out).2.1); (case side3 => exact uC <| (Kd.R_reads' HO556.out).2.2); (case side4 => exact (Kd.R_reads' HO556.out).2.1); rintro e w' ⟨rfl, ⟨nd, rfl⟩⟩; obtain ⟨Ao37, co37, eo37⟩ := Kd.R_slice HO568.out; subst eo37) | (go_at_call 19; (with_reducible refine (diff_Same.calls k _ _ t557 _ _ t565 true _ ?side1 ?side2 ?side3 ?side4 A17.out).mono ?_); (case side1 => exact uC <| (Kd.R_reads' HO559.out).2.2); (case side2 => exact (Kd.R_reads' HO559.out).2.1); (case side3 => exact uC <| (Kd.R_reads' HO568.out).2.2); (case side4 => exact (Kd.R_reads' HO568.out).2.1); rintro e w' ⟨rfl, ⟨nd, rfl⟩⟩) | (go_at_call 19; (refine (diff_Same.calls k _ _ t557 _ _ ([] : List (S48)) false _ ?side1 ?side2 ?side3 ?side4 A19.out).mono ?_); (case side1 => exact uC <| (Kd.R_reads' HO559.out).2.2); (case side2 => exact (Kd.R_reads' HO559.out).2.1); (case side3 => exact Kd.C_nil _ _); (case side4 => exact Nat.le_refl _); rintro e w' ⟨rfl, ⟨nd, rfl⟩⟩) | (go_at_call 14; (refine (diff_Text.calls (hL := ld) k _ _ ([] : List (S48)) t584 _ ?side1 ?side2 A21.out).mono ?_); (case side1 => exact Kd.C_nil _ _); (case side2 => exact Nat.le_refl _); rintro e w38 ⟨rfl, hb⟩; replace HO552 := cR HO552 hb; replace HO556 := cR HO556 hb; replace HO559 := cR HO559 hb; replace HO563 := cR HO563 hb; replace HO568 := cR HO568 hb; replace HO571 := cR HO571 hb; replace HO575 := cR HO575 hb; replace HO578 := cR HO578 hb; replace HB := cW HB hb; (try clear hb)))
     go_ret
     exact ⟨re_, uW HB.out⟩
   ·
    replace c18 := Bool.eq_false_iff.mpr c18
    subst c18
    rw [if_neg (show ¬ (false = true) by decide)] at H
    exact absurd H (by simp)
  ·
   replace c16 := Bool.eq_false_iff.mpr c16
   subst c16
   rw [if_neg (show ¬ (false = true) by decide)] at H
   exact absurd H (by simp)
 ·
  rw [if_neg c8] at H
  exact absurd H (by simp)
attribute [local go_sem high] eqA43 eqA48
def r09_Same.l0 : Nat → List (S48) → List (S48) → Int → Option (Bool)
 | 0, _, _, _ => none
 | k + 1, x0, x1, x5 => if x5 < (x0.length : Int) then (if 0 ≤ x5 then (if x5 < (x1.length : Int) then (if ((!(((rd_T48 x0 x5).f0.f0) == ((rd_T48 x1 x5).f0.f0)) || (!((((rd_T48 x0 x5).f0.f1).toList) == (((rd_T48 x1 x5).f0.f1).toList)) || ((!(((rd_T48 x0 x5).f0.f2.f0) == ((rd_T48 x1 x5).f0.f2.f0)) || (!(((rd_T48 x0 x5).f0.f2.f1) == ((rd_T48 x1 x5).f0.f2.f1))))))) || (!(((rd_T48 x0 x5).f1) == ((rd_T48 x1 x5).f1)))) = true then (some false) else (r09_Same.l0 k x0 x1 (wrap64 (x5 + 1)))) else (none)) else (none)) else (some true)
def r09_Same.f (k : Nat) (l0 : List (S48)) (l1 : List (S48)) : Option (Bool) := if (l0.length : Int) = (l1.length : Int) then (r09_Same.l0 k l0 l1 0) else (some false)
theorem r09_Same.mono_l : ∀ k, (∀ y0 y1 y2, LeC (r09_Same.l0 k y0 y1 y2) (r09_Same.l0 (k + 1) y0 y1 y2))
 | 0 => fun _ _ _ => ⟨fun r h => by simp [r09_Same.l0] at h⟩
 | k + 1 => by have ih0 := r09_Same.mono_l k; exact fun _ _ _ => by unfold r09_Same.l0; exact lm
theorem r09_Same.mono : ∀ a0 a1 k, LeO (r09_Same.f k a0 a1) (r09_Same.f (k + 1) a0 a1) := by
 intro a0 a1 k
 have ih0 := r09_Same.mono_l k
 unfold r09_Same.f
 exact lo
instance r09_Same.mI {a0 a1 k} : LeC (r09_Same.f k a0 a1) (r09_Same.f (k + 1) a0 a1) := ⟨r09_Same.mono _ _ _⟩
theorem r09_Same.calls (k : Nat) (A0 : Option Addr) (c0 : Nat) (l0 : List (S48)) (A1 : Option Addr) (c1 : Nat) (l1 : List (S48)) (r : Bool) (w : World) (hr0 : Kd.C k48 w A0 l0.length l0) (hc0 : l0.length ≤ c0) (hr1 : Kd.C k48 w A1 l1.length l1) (hc1 : l1.length ≤ c1) (h : r09_Same.f k l0 l1 = some r) :
 Calls Tryz.prog 12 #[.slice A0 l0.length c0, .slice A1 l1.length c1] w fun e w' => e = .returned (.bool r) ∧ Drawn0 w w' := by
 have hu48 := Tryz.underlying48
 have HR0 := Aside0.mk hr0
 have HC0 := Aside0.mk hc0
 clear hr0 hc0
 have HR1 := Aside0.mk hr1
 have HC1 := Aside0.mk hc1
 clear hr1 hc1
 have H : (if (l0.length : Int) = (l1.length : Int) then (r09_Same.l0 k l0 l1 0) else (some false)) = some r := h
 clear h
 by_cases c3 : (l0.length : Int) = (l1.length : Int)
 ·
  rw [if_pos c3] at H
  have c3b0 : ((l0.length : Int) == (l1.length : Int)) = true := beq_iff_eq.mpr c3
  have c3b1 : ((l0.length : Int) != (l1.length : Int)) = false := bne_eq_false_iff_eq.mpr c3
  have c3b2 : (l0.length == l1.length) = true := by first | simpa using c3 | (simp at c3 ⊢; omega)
  clear c3
  have H' := Aside0.mk H
  clear H
  go_enter Tryz.func12, Tryz.ntmps12
  go_wp2
  repeat (go_quiet (fail); try go_wp2)
  go_loopg [5] k (fun kq v5 w' => ∃ (x5_1 : Int), v5 = .int .i64 x5_1 ∧ Aside0 (r09_Same.l0 kq l0 l1 x5_1 = some r) ∧ Aside0 (kq ≤ k) ∧ Drawn0 w w')
  case atStart => exact ⟨(0), rs_, H', ⟨Nat.le_refl _⟩, dr_⟩
  case round =>
   clear H'
   try clear c1
   try clear p2
   try clear c3
   try clear c3b0
   try clear c3b1
   try clear c3b2
   obtain ⟨x5_1, rfl, HA, HK1, ⟨m1, rfl⟩⟩ := hrel
   cases gk with
   | zero => exact absurd HA.out (by simp [r09_Same.l0])
   | succ k1 =>
    have H := HA.out
    clear HA
    simp only [r09_Same.l0] at H
    by_cases c4 : x5_1 < (l0.length : Int)
    ·
     rw [if_pos c4] at H
     have c4b0 : decide (x5_1 < (l0.length : Int)) = true := decide_eq_true c4
     clear c4
     obtain ⟨c5b0, H⟩ := gdd H
     obtain ⟨c6b0, H⟩ := gdd H
     by_cases c7 : ((!(((rd_T48 l0 x5_1).f0.f0) == ((rd_T48 l1 x5_1).f0.f0)) || (!((((rd_T48 l0 x5_1).f0.f1).toList) == (((rd_T48 l1 x5_1).f0.f1).toList)) || ((!(((rd_T48 l0 x5_1).f0.f2.f0) == ((rd_T48 l1 x5_1).f0.f2.f0)) || (!(((rd_T48 l0 x5_1).f0.f2.f1) == ((rd_T48 l1 x5_1).f0.f2.f1))))))) || (!(((rd_T48 l0 x5_1).f1) == ((rd_T48 l1 x5_1).f1)))) = true
     ·
      rw [if_pos c7] at H
      have c7b0 : ((!(((rd_T48 l0 x5_1).f0.f0) == ((rd_T48 l1 x5_1).f0.f0)) || (!((((rd_T48 l0 x5_1).f0.f1).toList) == (((rd_T48 l1 x5_1).f0.f1).toList)) || ((!(((rd_T48 l0 x5_1).f0.f2.f0) == ((rd_T48 l1 x5_1).f0.f2.f0)) || (!(((rd_T48 l0 x5_1).f0.f2.f1) == ((rd_T48 l1 x5_1).f0.f2.f1))))))) || (!(((rd_T48 l0 x5_1).f1) == ((rd_T48 l1 x5_1).f1)))) = true := c7
      clear c7
      obtain rfl := Option.some.inj H
      have p585 : 0 ≤ (x5_1 : Int) := od
      have q585 : x5_1 < (l0.length : Int) := od
      obtain ⟨ad585, e585, hx585_0, hx585_1, hx585_2, hx585_3, hx585_4⟩ := at_T48 HR0.out x5_1 p585 q585
      cases e585
      replace p585 := eq_true p585
      replace q585 := eq_true q585
      have p586 : 0 ≤ (x5_1 : Int) := od
      have q586 : x5_1 < (l1.length : Int) := od
      obtain ⟨ad586, e586, hx586_0, hx586_1, hx586_2, hx586_3, hx586_4⟩ := at_T48 HR1.out x5_1 p586 q586
      cases e586
      replace p586 := eq_true p586
      replace q586 := eq_true q586
      go_wp2
      repeat (go_quiet (fail); try go_wp2)
      go_ret
      exact ⟨rs_, dr_⟩
     ·
      rw [if_neg c7] at H
      have c7b0 : ((!(((rd_T48 l0 x5_1).f0.f0) == ((rd_T48 l1 x5_1).f0.f0)) || (!((((rd_T48 l0 x5_1).f0.f1).toList) == (((rd_T48 l1 x5_1).f0.f1).toList)) || ((!(((rd_T48 l0 x5_1).f0.f2.f0) == ((rd_T48 l1 x5_1).f0.f2.f0)) || (!(((rd_T48 l0 x5_1).f0.f2.f1) == ((rd_T48 l1 x5_1).f0.f2.f1))))))) || (!(((rd_T48 l0 x5_1).f1) == ((rd_T48 l1 x5_1).f1)))) = false := by simpa using c7
      clear c7
      have H' := Aside0.mk H
      clear H
      have p585 : 0 ≤ (x5_1 : Int) := od
      have q585 : x5_1 < (l0.length : Int) := od
      obtain ⟨ad585, e585, hx585_0, hx585_1, hx585_2, hx585_3, hx585_4⟩ := at_T48 HR0.out x5_1 p585 q585
      cases e585
      replace p585 := eq_true p585
      replace q585 := eq_true q585
      have p586 : 0 ≤ (x5_1 : Int) := od
      have q586 : x5_1 < (l1.length : Int) := od
      obtain ⟨ad586, e586, hx586_0, hx586_1, hx586_2, hx586_3, hx586_4⟩ := at_T48 HR1.out x5_1 p586 q586
      cases e586
      replace p586 := eq_true p586
      replace q586 := eq_true q586
      go_wp2
      repeat (go_quiet (fail); try go_wp2)
      go_roundg k1
      case measure => have := HK1.out; omega
      case rel => exact ⟨(wrap64 (x5_1 + 1)), rs_, H', ⟨by have := HK1.out; omega⟩, dr_⟩
    ·
     rw [if_neg c4] at H
     have c4b0 : decide (x5_1 < (l0.length : Int)) = false := decide_eq_false c4
     clear c4
     obtain rfl := Option.some.inj H
     go_wp2
     repeat (go_quiet (fail); try go_wp2)
     go_ret
     exact ⟨rs_, dr_⟩
 ·
  rw [if_neg c3] at H
  have c3b0 : ((l0.length : Int) == (l1.length : Int)) = false := beq_eq_false_iff_ne.mpr c3
  have c3b1 : ((l0.length : Int) != (l1.length : Int)) = true := bne_iff_ne.mpr c3
  have c3b2 : (l0.length == l1.length) = false := by first | simpa using c3 | (simp at c3 ⊢; omega)
  obtain rfl := Option.some.inj H
  go_enter Tryz.func12, Tryz.ntmps12
  go_wp2
  repeat (go_quiet (fail); try go_wp2)
  go_ret
  exact ⟨rs_, dr_⟩
def r08_Right.l0 : Nat → List (S45) → Int → Option (Bool)
 | 0, _, _ => none
 | k + 1, x0, x3 => if x3 < (x0.length : Int) then (if 0 ≤ x3 then ((r08_group.f k ((rd_T45 x0 x3).f1)).bind fun t588 => (if t588 = 0 then (r08_Right.l0 k x0 (wrap64 (x3 + 1))) else (some false))) else (none)) else ((r08_rise.f k x0).bind fun t589 => (some t589))
def r08_Right.f (k : Nat) (l0 : List (S45)) : Option (Bool) := r08_Right.l0 k l0 0
theorem r08_Right.mono_l : ∀ k, (∀ y0 y1, LeC (r08_Right.l0 k y0 y1) (r08_Right.l0 (k + 1) y0 y1))
 | 0 => fun _ _ => ⟨fun r h => by simp [r08_Right.l0] at h⟩
 | k + 1 => by have ih0 := r08_Right.mono_l k; exact fun _ _ => by unfold r08_Right.l0; exact lm
theorem r08_Right.mono : ∀ a0 k, LeO (r08_Right.f k a0) (r08_Right.f (k + 1) a0) := by
 intro a0 k
 have ih0 := r08_Right.mono_l k
 unfold r08_Right.f
 exact lo
instance r08_Right.mI {a0 k} : LeC (r08_Right.f k a0) (r08_Right.f (k + 1) a0) := ⟨r08_Right.mono _ _⟩
theorem r08_Right.calls (k : Nat) (A0 : Option Addr) (c0 : Nat) (l0 : List (S45)) (r : Bool) (w : World) (hr0 : Kd.C k45 w A0 l0.length l0) (hc0 : l0.length ≤ c0) (h : r08_Right.f k l0 = some r) :
 Calls Tryz.prog 27 #[.slice A0 l0.length c0] w fun e w' => e = .returned (.bool r) ∧ Below w.heap.size w w' := by
 have HR0 := Aside0.mk hr0
 have HC0 := Aside0.mk hc0
 clear hr0 hc0
 have HB := Aside0.mk (Below.refl w.heap.size w)
 have H : (r08_Right.l0 k l0 0) = some r := h
 clear h
 have H' := Aside0.mk H
 clear H
 go_enter Tryz.func27, Tryz.ntmps27
 go_wp2
 go_loopg [3] k (fun kq v3 w' => ∃ (x3_1 : Int), v3 = .int .i64 x3_1 ∧ Aside0 (r08_Right.l0 kq l0 x3_1 = some r) ∧ Aside0 (kq ≤ k) ∧ Aside0 (Below w.heap.size w w'))
 case atStart => exact ⟨(0), rs_, H', ⟨Nat.le_refl _⟩, ⟨uW HB.out⟩⟩
 case round =>
  clear H'
  obtain ⟨x3_1, rfl, HA, HK1, HB⟩ := hrel
  cases gk with
  | zero => exact absurd HA.out (by simp [r08_Right.l0])
  | succ k1 =>
   have H := HA.out
   clear HA
   simp only [r08_Right.l0] at H
   by_cases c2 : x3_1 < (l0.length : Int)
   ·
    rw [if_pos c2] at H
    have c2b0 : decide (x3_1 < (l0.length : Int)) = true := decide_eq_true c2
    clear c2
    obtain ⟨c3b0, H⟩ := gdd H
    obtain ⟨t588, A4, H⟩ := bs H
    try dsimp only at H
    by_cases c5 : t588 = 0
    ·
     rw [if_pos c5] at H
     have c5b0 : (t588 == 0) = true := beq_iff_eq.mpr c5
     have c5b1 : (t588 != 0) = false := bne_eq_false_iff_eq.mpr c5
     clear c5
     have H' := Aside0.mk H
     clear H
     have p587 : 0 ≤ (x3_1 : Int) := od
     have q587 : x3_1 < (l0.length : Int) := od
     obtain ⟨ad587, e587, hx587_0, hx587_1, hx587_2, hx587_3⟩ := at_T45 HR0.out x3_1 p587 q587
     cases e587
     replace hx587_0 := kc HB hx587_0
     replace hx587_1 := kc HB hx587_1
     replace hx587_2 := kc HB hx587_2
     replace hx587_3 := kc HB hx587_3
     replace p587 := eq_true p587
     replace q587 := eq_true q587
     go_wp2_with (first | (refine gL (some 15) rfl Tryz.func51 #[.string ((rd_T45 l0 x3_1).f1)] ?_; (with_reducible refine (r08_group.calls k1 ((rd_T45 l0 x3_1).f1) t588 _ A4.out).mono ?_); rintro e w6 ⟨rfl, hb⟩; refine ⟨_, rfl, ?_⟩; replace HB := cW HB hb; (try clear hb)))
     go_roundg k1
     case measure => have := HK1.out; omega
     case rel => exact ⟨(wrap64 (x3_1 + 1)), rs_, H', ⟨by have := HK1.out; omega⟩, ⟨uW HB.out⟩⟩
    ·
     rw [if_neg c5] at H
     have c5b0 : (t588 == 0) = false := beq_eq_false_iff_ne.mpr c5
     have c5b1 : (t588 != 0) = true := bne_iff_ne.mpr c5
     obtain rfl := Option.some.inj H
     have p587 : 0 ≤ (x3_1 : Int) := od
     have q587 : x3_1 < (l0.length : Int) := od
     obtain ⟨ad587, e587, hx587_0, hx587_1, hx587_2, hx587_3⟩ := at_T45 HR0.out x3_1 p587 q587
     cases e587
     replace hx587_0 := kc HB hx587_0
     replace hx587_1 := kc HB hx587_1
     replace hx587_2 := kc HB hx587_2
     replace hx587_3 := kc HB hx587_3
     replace p587 := eq_true p587
     replace q587 := eq_true q587
     go_wp2_with (first | (refine gL (some 15) rfl Tryz.func51 #[.string ((rd_T45 l0 x3_1).f1)] ?_; (with_reducible refine (r08_group.calls k1 ((rd_T45 l0 x3_1).f1) t588 _ A4.out).mono ?_); rintro e w7 ⟨rfl, hb⟩; refine ⟨_, rfl, ?_⟩; replace HB := cW HB hb; (try clear hb)))
     go_ret
     exact ⟨re_, uW HB.out⟩
   ·
    rw [if_neg c2] at H
    have c2b0 : decide (x3_1 < (l0.length : Int)) = false := decide_eq_false c2
    clear c2
    obtain ⟨t589, A8, H⟩ := bs H
    try dsimp only at H
    obtain rfl := Option.some.inj H
    go_wp2_with (first | (refine gL (some 18) rfl Tryz.func44 #[.slice A0 l0.length c0] ?_; (with_reducible refine (r08_rise.calls k1 _ _ l0 t589 _ ?side1 ?side2 A8.out).mono ?_); (case side1 => exact uC <| (Kd.C_below HR0.out HB.out)); (case side2 => exact HC0.out); rintro e w9 ⟨rfl, hb⟩; refine ⟨_, rfl, ?_⟩; replace HB := cW HB hb; (try clear hb)))
    go_ret
    exact ⟨re_, uW HB.out⟩
def r09_Right.l0 : Nat → List (S48) → List (S45) → Int → Option (Bool)
 | 0, _, _, _ => none
 | k + 1, x0, x3, x4 => if x4 < (x0.length : Int) then (if 0 ≤ x4 then (if (rd_T48 x0 x4).f1 = true then (if (!(((rd_T48 x0 x4).f0.f2.f0) == 0) || (((rd_T48 x0 x4).f0.f2.f1))) = true then (some false) else (if x3.length < 3518437208883 then (r09_Right.l0 k x0 (x3 ++ [(⟨(rd_T48 x0 x4).f0.f0, (rd_T48 x0 x4).f0.f1, (⟨(rd_T48 x0 x4).f0.f2.f0, (rd_T48 x0 x4).f0.f2.f1⟩ : S43)⟩ : S45)]) (wrap64 (x4 + 1))) else (none))) else (if x3.length < 3518437208883 then (r09_Right.l0 k x0 (x3 ++ [(⟨(rd_T48 x0 x4).f0.f0, (rd_T48 x0 x4).f0.f1, (⟨(rd_T48 x0 x4).f0.f2.f0, (rd_T48 x0 x4).f0.f2.f1⟩ : S43)⟩ : S45)]) (wrap64 (x4 + 1))) else (none))) else (none)) else ((r08_Right.f k x3).bind fun t600 => (some t600))
def r09_Right.f (k : Nat) (l0 : List (S48)) : Option (Bool) := r09_Right.l0 k l0 ([] : List (S45)) 0
theorem r09_Right.mono_l : ∀ k, (∀ y0 y1 y2, LeC (r09_Right.l0 k y0 y1 y2) (r09_Right.l0 (k + 1) y0 y1 y2))
 | 0 => fun _ _ _ => ⟨fun r h => by simp [r09_Right.l0] at h⟩
 | k + 1 => by have ih0 := r09_Right.mono_l k; exact fun _ _ _ => by unfold r09_Right.l0; exact lm
theorem r09_Right.mono : ∀ a0 k, LeO (r09_Right.f k a0) (r09_Right.f (k + 1) a0) := by
 intro a0 k
 have ih0 := r09_Right.mono_l k
 unfold r09_Right.f
 exact lo
instance r09_Right.mI {a0 k} : LeC (r09_Right.f k a0) (r09_Right.f (k + 1) a0) := ⟨r09_Right.mono _ _⟩
theorem r09_Right.calls (k : Nat) (A0 : Option Addr) (c0 : Nat) (l0 : List (S48)) (r : Bool) (w : World) (hr0 : Kd.C k48 w A0 l0.length l0) (hc0 : l0.length ≤ c0) (h : r09_Right.f k l0 = some r) :
 Calls Tryz.prog 22 #[.slice A0 l0.length c0] w fun e w' => e = .returned (.bool r) ∧ Below w.heap.size w w' := by
 have hu43 := Tryz.underlying43
 have hu45 := Tryz.underlying45
 have HR0 := Aside0.mk hr0
 have HC0 := Aside0.mk hc0
 clear hr0 hc0
 have HB := Aside0.mk (Below.refl w.heap.size w)
 have H : (r09_Right.l0 k l0 ([] : List (S45)) 0) = some r := h
 clear h
 have H' := Aside0.mk H
 clear H
 go_enter Tryz.func22, Tryz.ntmps22
 go_wp2
 go_loopg [3, 4] k (fun kq v3 v4 w' => ∃ (x3_1 : List (S45)) (x4_1 : Int), v4 = .int .i64 x4_1 ∧ Aside0 (r09_Right.l0 kq l0 x3_1 x4_1 = some r) ∧ Aside0 (kq ≤ k) ∧ Aside0 (Kd.R k45 45 w' w.heap.size (fun _ => True) v3 x3_1) ∧ Aside0 (Below w.heap.size w w'))
 case atStart => exact ⟨(([] : List (S45))), (0), rs_, H', ⟨Nat.le_refl _⟩, ⟨nl_⟩, ⟨uW HB.out⟩⟩
 case round =>
  clear H'
  obtain ⟨x3_1, x4_1, rfl, HA, HK1, HO_3, HB⟩ := hrel
  cases gk with
  | zero => exact absurd HA.out (by simp [r09_Right.l0])
  | succ k1 =>
   have H := HA.out
   clear HA
   simp only [r09_Right.l0] at H
   by_cases c2 : x4_1 < (l0.length : Int)
   ·
    rw [if_pos c2] at H
    have c2b0 : decide (x4_1 < (l0.length : Int)) = true := decide_eq_true c2
    clear c2
    obtain ⟨c3b0, H⟩ := gdd H
    obtain ⟨bq4, hbq4⟩ : ∃ b_ : Bool, b_ = ((rd_T48 l0 x4_1).f1) := ⟨_, rfl⟩
    replace H : (if bq4 = true then (if (!(((rd_T48 l0 x4_1).f0.f2.f0) == 0) || (((rd_T48 l0 x4_1).f0.f2.f1))) = true then (some false) else (if x3_1.length < 3518437208883 then (r09_Right.l0 k1 l0 (x3_1 ++ [(⟨(rd_T48 l0 x4_1).f0.f0, (rd_T48 l0 x4_1).f0.f1, (⟨(rd_T48 l0 x4_1).f0.f2.f0, (rd_T48 l0 x4_1).f0.f2.f1⟩ : S43)⟩ : S45)]) (wrap64 (x4_1 + 1))) else (none))) else (if x3_1.length < 3518437208883 then (r09_Right.l0 k1 l0 (x3_1 ++ [(⟨(rd_T48 l0 x4_1).f0.f0, (rd_T48 l0 x4_1).f0.f1, (⟨(rd_T48 l0 x4_1).f0.f2.f0, (rd_T48 l0 x4_1).f0.f2.f1⟩ : S43)⟩ : S45)]) (wrap64 (x4_1 + 1))) else (none))) = some r := by rw [← hbq4] at H; exact H
    have Nbq4 := Aside0.mk hbq4
    clear hbq4
    by_cases c5 : bq4 = true
    ·
     subst c5
     rw [if_pos rfl] at H
     by_cases c6 : (!(((rd_T48 l0 x4_1).f0.f2.f0) == 0) || (((rd_T48 l0 x4_1).f0.f2.f1))) = true
     ·
      rw [if_pos c6] at H
      have c6b0 : (!(((rd_T48 l0 x4_1).f0.f2.f0) == 0) || (((rd_T48 l0 x4_1).f0.f2.f1))) = true := c6
      clear c6
      obtain rfl := Option.some.inj H
      have p590 : 0 ≤ (x4_1 : Int) := od
      have q590 : x4_1 < (l0.length : Int) := od
      obtain ⟨ad590, e590, hx590_0, hx590_1, hx590_2, hx590_3, hx590_4⟩ := at_T48 HR0.out x4_1 p590 q590
      (try rw [← Nbq4.out] at hx590_3)
      (try rw [← Nbq4.out] at hx590_4)
      cases e590
      replace hx590_0 := kc HB hx590_0
      replace hx590_1 := kc HB hx590_1
      replace hx590_2 := kc HB hx590_2
      replace hx590_3 := kc HB hx590_3
      replace hx590_4 := kc HB hx590_4
      replace p590 := eq_true p590
      replace q590 := eq_true q590
      have p591 : 0 ≤ (x4_1 : Int) := od
      have q591 : x4_1 < (l0.length : Int) := od
      obtain ⟨ad591, e591, hx591_0, hx591_1, hx591_2, hx591_3, hx591_4⟩ := at_T48 HR0.out x4_1 p591 q591
      (try rw [← Nbq4.out] at hx591_3)
      (try rw [← Nbq4.out] at hx591_4)
      obtain rfl : ad590 = ad591 := (by injection e591)
      replace hx591_0 := kc HB hx591_0
      replace hx591_1 := kc HB hx591_1
      replace hx591_2 := kc HB hx591_2
      replace hx591_3 := kc HB hx591_3
      replace hx591_4 := kc HB hx591_4
      replace p591 := eq_true p591
      replace q591 := eq_true q591
      go_wp2
      go_ret
      exact ⟨re_, uW HB.out⟩
     ·
      rw [if_neg c6] at H
      have c6b0 : (!(((rd_T48 l0 x4_1).f0.f2.f0) == 0) || (((rd_T48 l0 x4_1).f0.f2.f1))) = false := by simpa using c6
      clear c6
      obtain ⟨c7, H⟩ := gd H
      have LMc7 := Aside0.mk c7
      clear c7
      obtain ⟨y593, hy593⟩ : ∃ y_ : List (S45), y_ = (x3_1 ++ [(⟨(rd_T48 l0 x4_1).f0.f0, (rd_T48 l0 x4_1).f0.f1, (⟨(rd_T48 l0 x4_1).f0.f2.f0, (rd_T48 l0 x4_1).f0.f2.f1⟩ : S43)⟩ : S45)]) := ⟨_, rfl⟩
      replace H : (r09_Right.l0 k1 l0 y593 (wrap64 (x4_1 + 1))) = some r := by first | (rw [hy593]; with_reducible exact H) | (have H2_ := (Option.bind_some _ _).symm.trans H; rw [hy593]; with_reducible exact H2_) | (have H2_ := (Option.bind_some _ _).symm.trans H; with_reducible exact H2_) | with_reducible exact H | (rw [hy593]; exact H) | exact H
      have Ny593 := Aside0.mk hy593
      clear hy593
      have H' := Aside0.mk H
      clear H
      have p590 : 0 ≤ (x4_1 : Int) := od
      have q590 : x4_1 < (l0.length : Int) := od
      obtain ⟨ad590, e590, hx590_0, hx590_1, hx590_2, hx590_3, hx590_4⟩ := at_T48 HR0.out x4_1 p590 q590
      (try rw [← Nbq4.out] at hx590_3)
      (try rw [← Nbq4.out] at hx590_4)
      cases e590
      replace hx590_0 := kc HB hx590_0
      replace hx590_1 := kc HB hx590_1
      replace hx590_2 := kc HB hx590_2
      replace hx590_3 := kc HB hx590_3
      replace hx590_4 := kc HB hx590_4
      replace p590 := eq_true p590
      replace q590 := eq_true q590
      have p591 : 0 ≤ (x4_1 : Int) := od
      have q591 : x4_1 < (l0.length : Int) := od
      obtain ⟨ad591, e591, hx591_0, hx591_1, hx591_2, hx591_3, hx591_4⟩ := at_T48 HR0.out x4_1 p591 q591
      (try rw [← Nbq4.out] at hx591_3)
      (try rw [← Nbq4.out] at hx591_4)
      obtain rfl : ad590 = ad591 := (by injection e591)
      replace hx591_0 := kc HB hx591_0
      replace hx591_1 := kc HB hx591_1
      replace hx591_2 := kc HB hx591_2
      replace hx591_3 := kc HB hx591_3
      replace hx591_4 := kc HB hx591_4
      replace p591 := eq_true p591
      replace q591 := eq_true q591
      have p592 : 0 ≤ (x4_1 : Int) := od
      have q592 : x4_1 < (l0.length : Int) := od
      obtain ⟨ad592, e592, hx592_0, hx592_1, hx592_2, hx592_3, hx592_4⟩ := at_T48 HR0.out x4_1 p592 q592
      (try rw [← Nbq4.out] at hx592_3)
      (try rw [← Nbq4.out] at hx592_4)
      obtain rfl : ad590 = ad592 := (by injection e592)
      replace hx592_0 := kc HB hx592_0
      replace hx592_1 := kc HB hx592_1
      replace hx592_2 := kc HB hx592_2
      replace hx592_3 := kc HB hx592_3
      replace hx592_4 := kc HB hx592_4
      replace p592 := eq_true p592
      replace q592 := eq_true q592
      go_wp2_with (first | ((with_reducible refine gate_builtin (b := .append) (xs := #[.tmp 26, .tmp 32]) rfl ?_); at_builtin; refine Kd.R_append k45 (w0 := w) w.heap.size rfl (.tmp 26) (.tmp 32) 22 45 (.agg #[(.int .i64 0), (.string ⟨#[]⟩), (.int .i64 0), (.bool false)]) 40 rfl Tryz.underlying22 info45 rfl (by decide) (by omega) u3 x3_1 (⟨(rd_T48 l0 x4_1).f0.f0, (rd_T48 l0 x4_1).f0.f1, (⟨(rd_T48 l0 x4_1).f0.f2.f0, (rd_T48 l0 x4_1).f0.f2.f1⟩ : S43)⟩ : S45) [.int .i64 ((rd_T48 l0 x4_1).f0.f0), .string ((rd_T48 l0 x4_1).f0.f1), .int .i64 ((rd_T48 l0 x4_1).f0.f2.f0), .bool ((rd_T48 l0 x4_1).f0.f2.f1)] (fun _ => True) (fun _ => False) rfl rfl ?aP (fun _ hk => hk.elim) ?aF ?aO ?aB ?aS ?aL ?_; (case aP => exact k45_mkM _ _ _ (⟨(rd_T48 l0 x4_1).f0.f0, (rd_T48 l0 x4_1).f0.f1, (⟨(rd_T48 l0 x4_1).f0.f2.f0, (rd_T48 l0 x4_1).f0.f2.f1⟩ : S43)⟩ : S45)); (case aB => exact (uW HB.out)); (case aF => exact (fun _ _ => trivial)); (case aO => exact (uR HO_3.out)); (case aS => exact (below_size (uW HB.out))); (case aL => have := LMc7.out; omega); intro v594 w8 ho hb hg hat; rw [← Ny593.out] at ho; replace HB := Aside0.mk (hb); have HO595 := Aside0.mk (ho); clear HO_3; clear ho hb hg hat))
      go_roundg k1
      case measure => have := HK1.out; omega
      case rel => exact ⟨(y593), (wrap64 (x4_1 + 1)), rs_, (by first | exact H' | (rw [← Nbq4.out]; exact H')), ⟨by have := HK1.out; omega⟩, ⟨uR HO595.out⟩, ⟨uW HB.out⟩⟩
    ·
     replace c5 := Bool.eq_false_iff.mpr c5
     subst c5
     rw [if_neg (show ¬ (false = true) by decide)] at H
     obtain ⟨c9, H⟩ := gd H
     have LMc9 := Aside0.mk c9
     clear c9
     obtain ⟨y597, hy597⟩ : ∃ y_ : List (S45), y_ = (x3_1 ++ [(⟨(rd_T48 l0 x4_1).f0.f0, (rd_T48 l0 x4_1).f0.f1, (⟨(rd_T48 l0 x4_1).f0.f2.f0, (rd_T48 l0 x4_1).f0.f2.f1⟩ : S43)⟩ : S45)]) := ⟨_, rfl⟩
     replace H : (r09_Right.l0 k1 l0 y597 (wrap64 (x4_1 + 1))) = some r := by first | (rw [hy597]; with_reducible exact H) | (have H2_ := (Option.bind_some _ _).symm.trans H; rw [hy597]; with_reducible exact H2_) | (have H2_ := (Option.bind_some _ _).symm.trans H; with_reducible exact H2_) | with_reducible exact H | (rw [hy597]; exact H) | exact H
     have Ny597 := Aside0.mk hy597
     clear hy597
     have H' := Aside0.mk H
     clear H
     have p590 : 0 ≤ (x4_1 : Int) := od
     have q590 : x4_1 < (l0.length : Int) := od
     obtain ⟨ad590, e590, hx590_0, hx590_1, hx590_2, hx590_3, hx590_4⟩ := at_T48 HR0.out x4_1 p590 q590
     (try rw [← Nbq4.out] at hx590_3)
     (try rw [← Nbq4.out] at hx590_4)
     cases e590
     replace hx590_0 := kc HB hx590_0
     replace hx590_1 := kc HB hx590_1
     replace hx590_2 := kc HB hx590_2
     replace hx590_3 := kc HB hx590_3
     replace hx590_4 := kc HB hx590_4
     replace p590 := eq_true p590
     replace q590 := eq_true q590
     have p596 : 0 ≤ (x4_1 : Int) := od
     have q596 : x4_1 < (l0.length : Int) := od
     obtain ⟨ad596, e596, hx596_0, hx596_1, hx596_2, hx596_3, hx596_4⟩ := at_T48 HR0.out x4_1 p596 q596
     (try rw [← Nbq4.out] at hx596_3)
     (try rw [← Nbq4.out] at hx596_4)
     obtain rfl : ad590 = ad596 := (by injection e596)
     replace hx596_0 := kc HB hx596_0
     replace hx596_1 := kc HB hx596_1
     replace hx596_2 := kc HB hx596_2
     replace hx596_3 := kc HB hx596_3
     replace hx596_4 := kc HB hx596_4
     replace p596 := eq_true p596
     replace q596 := eq_true q596
     go_wp2_with (first | ((with_reducible refine gate_builtin (b := .append) (xs := #[.tmp 26, .tmp 32]) rfl ?_); at_builtin; refine Kd.R_append k45 (w0 := w) w.heap.size rfl (.tmp 26) (.tmp 32) 22 45 (.agg #[(.int .i64 0), (.string ⟨#[]⟩), (.int .i64 0), (.bool false)]) 40 rfl Tryz.underlying22 info45 rfl (by decide) (by omega) u3 x3_1 (⟨(rd_T48 l0 x4_1).f0.f0, (rd_T48 l0 x4_1).f0.f1, (⟨(rd_T48 l0 x4_1).f0.f2.f0, (rd_T48 l0 x4_1).f0.f2.f1⟩ : S43)⟩ : S45) [.int .i64 ((rd_T48 l0 x4_1).f0.f0), .string ((rd_T48 l0 x4_1).f0.f1), .int .i64 ((rd_T48 l0 x4_1).f0.f2.f0), .bool ((rd_T48 l0 x4_1).f0.f2.f1)] (fun _ => True) (fun _ => False) rfl rfl ?aP (fun _ hk => hk.elim) ?aF ?aO ?aB ?aS ?aL ?_; (case aP => exact k45_mkM _ _ _ (⟨(rd_T48 l0 x4_1).f0.f0, (rd_T48 l0 x4_1).f0.f1, (⟨(rd_T48 l0 x4_1).f0.f2.f0, (rd_T48 l0 x4_1).f0.f2.f1⟩ : S43)⟩ : S45)); (case aB => exact (uW HB.out)); (case aF => exact (fun _ _ => trivial)); (case aO => exact (uR HO_3.out)); (case aS => exact (below_size (uW HB.out))); (case aL => have := LMc9.out; omega); intro v598 w10 ho hb hg hat; rw [← Ny597.out] at ho; replace HB := Aside0.mk (hb); have HO599 := Aside0.mk (ho); clear HO_3; clear ho hb hg hat))
     go_roundg k1
     case measure => have := HK1.out; omega
     case rel => exact ⟨(y597), (wrap64 (x4_1 + 1)), rs_, (by first | exact H' | (rw [← Nbq4.out]; exact H')), ⟨by have := HK1.out; omega⟩, ⟨uR HO599.out⟩, ⟨uW HB.out⟩⟩
   ·
    rw [if_neg c2] at H
    have c2b0 : decide (x4_1 < (l0.length : Int)) = false := decide_eq_false c2
    clear c2
    obtain ⟨t600, A11, H⟩ := bs H
    try dsimp only at H
    obtain rfl := Option.some.inj H
    obtain ⟨Ao12, co12, eo12⟩ := Kd.R_slice HO_3.out
    subst eo12
    go_wp2_with (first | (refine gL (some 35) rfl Tryz.func27 #[.slice Ao12 x3_1.length co12] ?_; (with_reducible refine (r08_Right.calls k1 _ _ x3_1 t600 _ ?side1 ?side2 A11.out).mono ?_); (case side1 => exact uC <| (Kd.R_reads' HO_3.out).2.2); (case side2 => exact (Kd.R_reads' HO_3.out).2.1); rintro e w13 ⟨rfl, hb⟩; refine ⟨_, rfl, ?_⟩; replace HO_3 := cR HO_3 hb; replace HB := cW HB hb; (try clear hb)))
    go_ret
    exact ⟨re_, uW HB.out⟩
end Go.Proofs.YtgcbejidponoaaaGreatDoor.X
