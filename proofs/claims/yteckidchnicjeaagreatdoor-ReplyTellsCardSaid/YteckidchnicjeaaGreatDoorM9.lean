/- Printed by a program of this session's own: what functions of the program compute, and that the machine computes it. No condition of its own. -/
import Derived.Test.YteckidchnicjeaaGreatDoorM3
import Derived.Test.YteckidchnicjeaaGreatDoorM4
import Derived.Test.YteckidchnicjeaaGreatDoorM5
import Derived.Test.YteckidchnicjeaaGreatDoorM6
import Derived.Test.YteckidchnicjeaaGreatDoorM8
namespace Go.Proofs.YteckidchnicjeaaGreatDoor.X
open Go.RowKit Go.Proofs.YteckidchnicjeaaGreatDoorW.PrintWords Go.Proofs.YteckidchnicjeaaGreatDoorW.PrintLast Go.Proofs.YteckidchnicjeaaGreatDoorW.PrintMore
attribute [local go_sem] max2_int min2_int max_two min_two max_three min_three max_four min_four
set_option linter.unusedVariables false
set_option linter.unusedSimpArgs false
set_option maxHeartbeats 8000000
set_option maxRecDepth 100000
def w23_alive.f (k : Nat)  : Option (Bool) := (reply_ReadMessage.f k (⟨#[100, 105, 102, 102, 32, 51, 32, 49, 50, 32, 33, 51, 124, 59, 52, 124, 124, 56]⟩ : ByteArray)).bind fun bt333 => ((reply_ReadRows.f k (⟨#[114, 111, 119, 115, 32, 53, 32, 51, 124, 124, 55]⟩ : ByteArray)).bind fun bt344 => ((reply_ReadStored.f k (⟨#[111, 107, 32, 57]⟩ : ByteArray)).bind fun bt351 => ((reply_ReadStored.f k (⟨#[111, 107]⟩ : ByteArray)).bind fun bt353 => ((reply_ReadMessage.f k (⟨#[105, 109, 97, 103, 101, 32, 45, 49, 32, 53, 32, 45]⟩ : ByteArray)).bind fun bt355 => (if bt333.2.2.2.2.2 = 0 then (if bt344.2.2.2 = 0 then (if bt351.2 = 0 then (if bt353.2 = 2 then (if bt355.2.2.2.2.2 = 3 then (if bt333.1 = 2 then (if bt333.2.1 = 3 then (if bt333.2.2.1 = 12 then (if (bt333.2.2.2.2.1.length : Int) = 2 then ((reply_Message.f k bt333.1 bt333.2.1 bt333.2.2.1 bt333.2.2.2.1 bt333.2.2.2.2.1).bind fun t366 => (if t366.toList = ([100, 105, 102, 102, 32, 51, 32, 49, 50, 32, 33, 51, 124, 59, 52, 124, 124, 56] : List UInt8) then (if bt344.2.1 = 5 then ((reply_Rows.f k bt344.1 bt344.2.1 bt344.2.2.1).bind fun t367 => (if t367.toList = ([114, 111, 119, 115, 32, 53, 32, 51, 124, 124, 55] : List UInt8) then (if bt351.1 = 9 then ((reply_Stored.f 9).bind fun t368 => (if t368.toList = ([111, 107, 32, 57] : List UInt8) then ((reply_Error.f 7).bind fun t369 => (if t369.toList = ([101, 114, 114, 32, 108, 97, 116, 101] : List UInt8) then ((reply_Error.f 0).bind fun t370 => (if t370.toList = ([111, 107] : List UInt8) then ((reply_Error.f 99).bind fun t371 => (if t371.toList = ([101, 114, 114, 32, 101, 114, 114, 111, 114] : List UInt8) then ((reply_Sub.f 4).bind fun t372 => (if t372.toList = ([115, 117, 98, 32, 52] : List UInt8) then ((reply_Stat.f k (([1, (-2)] : List Int))).bind fun t376 => (some (t376.toList == ([115, 116, 97, 116, 32, 49, 32, 45, 50] : List UInt8)))) else (none))) else (none))) else (none))) else (none))) else (none))) else (none)) else (none))) else (none)) else (none))) else (none)) else (none)) else (none)) else (none)) else (none)) else (none)) else (none)) else (none)) else (none))))))
theorem w23_alive.mono : ∀ k, LeO (w23_alive.f k ) (w23_alive.f (k + 1) ) := by
 intro k
 unfold w23_alive.f
 exact lo
instance w23_alive.mI {k} : LeC (w23_alive.f k) (w23_alive.f (k + 1)) := ⟨w23_alive.mono _⟩
theorem w23_alive.calls (k : Nat)  (r : Bool) (w : World) (hL : LD w) (h : w23_alive.f k  = some r) :
 Calls Tryz.prog 7 #[] w fun e w' => e = .returned (.bool r) ∧ Below w.heap.size w w' := by
 have HL0 := Aside0.mk hL
 clear hL
 have hu36 := Tryz.underlying36
 have hu33 := Tryz.underlying33
 have HB := Aside0.mk (Below.refl w.heap.size w)
 have H : ((reply_ReadMessage.f k (⟨#[100, 105, 102, 102, 32, 51, 32, 49, 50, 32, 33, 51, 124, 59, 52, 124, 124, 56]⟩ : ByteArray)).bind fun bt333 => ((reply_ReadRows.f k (⟨#[114, 111, 119, 115, 32, 53, 32, 51, 124, 124, 55]⟩ : ByteArray)).bind fun bt344 => ((reply_ReadStored.f k (⟨#[111, 107, 32, 57]⟩ : ByteArray)).bind fun bt351 => ((reply_ReadStored.f k (⟨#[111, 107]⟩ : ByteArray)).bind fun bt353 => ((reply_ReadMessage.f k (⟨#[105, 109, 97, 103, 101, 32, 45, 49, 32, 53, 32, 45]⟩ : ByteArray)).bind fun bt355 => (if bt333.2.2.2.2.2 = 0 then (if bt344.2.2.2 = 0 then (if bt351.2 = 0 then (if bt353.2 = 2 then (if bt355.2.2.2.2.2 = 3 then (if bt333.1 = 2 then (if bt333.2.1 = 3 then (if bt333.2.2.1 = 12 then (if (bt333.2.2.2.2.1.length : Int) = 2 then ((reply_Message.f k bt333.1 bt333.2.1 bt333.2.2.1 bt333.2.2.2.1 bt333.2.2.2.2.1).bind fun t366 => (if t366.toList = ([100, 105, 102, 102, 32, 51, 32, 49, 50, 32, 33, 51, 124, 59, 52, 124, 124, 56] : List UInt8) then (if bt344.2.1 = 5 then ((reply_Rows.f k bt344.1 bt344.2.1 bt344.2.2.1).bind fun t367 => (if t367.toList = ([114, 111, 119, 115, 32, 53, 32, 51, 124, 124, 55] : List UInt8) then (if bt351.1 = 9 then ((reply_Stored.f 9).bind fun t368 => (if t368.toList = ([111, 107, 32, 57] : List UInt8) then ((reply_Error.f 7).bind fun t369 => (if t369.toList = ([101, 114, 114, 32, 108, 97, 116, 101] : List UInt8) then ((reply_Error.f 0).bind fun t370 => (if t370.toList = ([111, 107] : List UInt8) then ((reply_Error.f 99).bind fun t371 => (if t371.toList = ([101, 114, 114, 32, 101, 114, 114, 111, 114] : List UInt8) then ((reply_Sub.f 4).bind fun t372 => (if t372.toList = ([115, 117, 98, 32, 52] : List UInt8) then ((reply_Stat.f k (([1, (-2)] : List Int))).bind fun t376 => (some (t376.toList == ([115, 116, 97, 116, 32, 49, 32, 45, 50] : List UInt8)))) else (none))) else (none))) else (none))) else (none))) else (none))) else (none)) else (none))) else (none)) else (none))) else (none)) else (none)) else (none)) else (none)) else (none)) else (none)) else (none)) else (none)) else (none))))))) = some r := h
 clear h
 obtain ⟨⟨t333, t334, t335, t336, t339, t342⟩, A1, H⟩ := bs H
 try dsimp only at H
 obtain ⟨⟨t344, t345, t346, t349⟩, A2, H⟩ := bs H
 try dsimp only at H
 obtain ⟨⟨t351, t352⟩, A3, H⟩ := bs H
 try dsimp only at H
 obtain ⟨⟨t353, t354⟩, A4, H⟩ := bs H
 try dsimp only at H
 obtain ⟨⟨t355, t356, t357, t358, t361, t364⟩, A5, H⟩ := bs H
 try dsimp only at H
 by_cases c6 : t342 = 0
 ·
  rw [if_pos c6] at H
  have c6b0 : (t342 == 0) = true := beq_iff_eq.mpr c6
  have c6b1 : (t342 != 0) = false := bne_eq_false_iff_eq.mpr c6
  clear c6
  obtain ⟨c7, H⟩ := gd H
  have c7b0 : (t349 == 0) = true := beq_iff_eq.mpr c7
  have c7b1 : (t349 != 0) = false := bne_eq_false_iff_eq.mpr c7
  clear c7
  obtain ⟨c8, H⟩ := gd H
  have c8b0 : (t352 == 0) = true := beq_iff_eq.mpr c8
  have c8b1 : (t352 != 0) = false := bne_eq_false_iff_eq.mpr c8
  clear c8
  obtain ⟨c9, H⟩ := gd H
  have c9b0 : (t354 == 2) = true := beq_iff_eq.mpr c9
  have c9b1 : (t354 != 2) = false := bne_eq_false_iff_eq.mpr c9
  clear c9
  obtain ⟨c10, H⟩ := gd H
  have c10b0 : (t364 == 3) = true := beq_iff_eq.mpr c10
  have c10b1 : (t364 != 3) = false := bne_eq_false_iff_eq.mpr c10
  clear c10
  obtain ⟨c11, H⟩ := gd H
  have c11b0 : (t333 == 2) = true := beq_iff_eq.mpr c11
  have c11b1 : (t333 != 2) = false := bne_eq_false_iff_eq.mpr c11
  clear c11
  obtain ⟨c12, H⟩ := gd H
  have c12b0 : (t334 == 3) = true := beq_iff_eq.mpr c12
  have c12b1 : (t334 != 3) = false := bne_eq_false_iff_eq.mpr c12
  clear c12
  obtain ⟨c13, H⟩ := gd H
  have c13b0 : (t335 == 12) = true := beq_iff_eq.mpr c13
  have c13b1 : (t335 != 12) = false := bne_eq_false_iff_eq.mpr c13
  clear c13
  obtain ⟨c14, H⟩ := gd H
  have c14b0 : ((t339.length : Int) == 2) = true := beq_iff_eq.mpr c14
  have c14b1 : ((t339.length : Int) != 2) = false := bne_eq_false_iff_eq.mpr c14
  clear c14
  obtain ⟨t366, A15, H⟩ := bs H
  try dsimp only at H
  obtain ⟨c16, H⟩ := gd H
  have c16b0 : (t366.toList == ([100, 105, 102, 102, 32, 51, 32, 49, 50, 32, 33, 51, 124, 59, 52, 124, 124, 56] : List UInt8)) = true := beq_iff_eq.mpr c16
  have c16b1 : (t366.toList != ([100, 105, 102, 102, 32, 51, 32, 49, 50, 32, 33, 51, 124, 59, 52, 124, 124, 56] : List UInt8)) = false := bne_eq_false_iff_eq.mpr c16
  clear c16
  obtain ⟨c17, H⟩ := gd H
  have c17b0 : (t345 == 5) = true := beq_iff_eq.mpr c17
  have c17b1 : (t345 != 5) = false := bne_eq_false_iff_eq.mpr c17
  clear c17
  obtain ⟨t367, A18, H⟩ := bs H
  try dsimp only at H
  obtain ⟨c19, H⟩ := gd H
  have c19b0 : (t367.toList == ([114, 111, 119, 115, 32, 53, 32, 51, 124, 124, 55] : List UInt8)) = true := beq_iff_eq.mpr c19
  have c19b1 : (t367.toList != ([114, 111, 119, 115, 32, 53, 32, 51, 124, 124, 55] : List UInt8)) = false := bne_eq_false_iff_eq.mpr c19
  clear c19
  obtain ⟨c20, H⟩ := gd H
  have c20b0 : (t351 == 9) = true := beq_iff_eq.mpr c20
  have c20b1 : (t351 != 9) = false := bne_eq_false_iff_eq.mpr c20
  clear c20
  obtain ⟨t368, A21, H⟩ := bs H
  try dsimp only at H
  obtain ⟨c22, H⟩ := gd H
  have c22b0 : (t368.toList == ([111, 107, 32, 57] : List UInt8)) = true := beq_iff_eq.mpr c22
  have c22b1 : (t368.toList != ([111, 107, 32, 57] : List UInt8)) = false := bne_eq_false_iff_eq.mpr c22
  clear c22
  obtain ⟨t369, A23, H⟩ := bs H
  try dsimp only at H
  obtain ⟨c24, H⟩ := gd H
  have c24b0 : (t369.toList == ([101, 114, 114, 32, 108, 97, 116, 101] : List UInt8)) = true := beq_iff_eq.mpr c24
  have c24b1 : (t369.toList != ([101, 114, 114, 32, 108, 97, 116, 101] : List UInt8)) = false := bne_eq_false_iff_eq.mpr c24
  clear c24
  obtain ⟨t370, A25, H⟩ := bs H
  try dsimp only at H
  obtain ⟨c26, H⟩ := gd H
  have c26b0 : (t370.toList == ([111, 107] : List UInt8)) = true := beq_iff_eq.mpr c26
  have c26b1 : (t370.toList != ([111, 107] : List UInt8)) = false := bne_eq_false_iff_eq.mpr c26
  clear c26
  obtain ⟨t371, A27, H⟩ := bs H
  try dsimp only at H
  obtain ⟨c28, H⟩ := gd H
  have c28b0 : (t371.toList == ([101, 114, 114, 32, 101, 114, 114, 111, 114] : List UInt8)) = true := beq_iff_eq.mpr c28
  have c28b1 : (t371.toList != ([101, 114, 114, 32, 101, 114, 114, 111, 114] : List UInt8)) = false := bne_eq_false_iff_eq.mpr c28
  clear c28
  obtain ⟨t372, A29, H⟩ := bs H
  try dsimp only at H
  obtain ⟨c30, H⟩ := gd H
  have c30b0 : (t372.toList == ([115, 117, 98, 32, 52] : List UInt8)) = true := beq_iff_eq.mpr c30
  have c30b1 : (t372.toList != ([115, 117, 98, 32, 52] : List UInt8)) = false := bne_eq_false_iff_eq.mpr c30
  clear c30
  obtain ⟨y373, hy373⟩ : ∃ y_ : List Int, y_ = (([1, (-2)] : List Int)) := ⟨_, rfl⟩
  replace H : ((reply_Stat.f k y373).bind fun t376 => (some (t376.toList == ([115, 116, 97, 116, 32, 49, 32, 45, 50] : List UInt8)))) = some r := by first | (rw [hy373]; with_reducible exact H) | (have H2_ := (Option.bind_some _ _).symm.trans H; rw [hy373]; with_reducible exact H2_) | (have H2_ := (Option.bind_some _ _).symm.trans H; with_reducible exact H2_) | with_reducible exact H | (rw [hy373]; exact H) | exact H
  have Ny373 := Aside0.mk hy373
  clear hy373
  obtain ⟨t376, A31, H⟩ := bs H
  try dsimp only at H
  obtain rfl := Option.some.inj H
  go_enter Tryz.func7, Tryz.ntmps7
  go_wp2_with (first | (refine gL (some 12) rfl Tryz.func26 #[.string (⟨#[100, 105, 102, 102, 32, 51, 32, 49, 50, 32, 33, 51, 124, 59, 52, 124, 124, 56]⟩ : ByteArray)] ?_; (with_reducible refine (reply_ReadMessage.calls (hL := ld) k (⟨#[100, 105, 102, 102, 32, 51, 32, 49, 50, 32, 33, 51, 124, 59, 52, 124, 124, 56]⟩ : ByteArray) t333 t334 t335 t336 t339 t342 _ A1.out).mono ?_); rintro e w32 ⟨v337, v340, rfl, ho0, ho1, hb⟩; refine ⟨_, rfl, ?_⟩; have HO338 := Aside0.mk (Kd.R_lower ho0 (below_size (uW HB.out))); have HO341 := Aside0.mk (Kd.R_lower ho1 (below_size (uW HB.out))); replace HB := cW HB hb; (try clear hb); (try clear ho0); (try clear ho1)) | ((with_reducible refine gate_dst (N := 1) rfl ?_); (try (refine gate_guard (by rfl) ?_; dsimp only)); refine bx (N := 1) #[.int .i64 0, .int .i64 0, .int .i64 0, .slice none 0 0, .slice none 0 0] 36 ?_; intro gb343 hg w33 hbox hb; replace HO338 := cR HO338 hb; replace HO341 := cR HO341 hb; have BK343 := Aside0.mk (hbox); have GW343 := gw hg (uW HB.out); have GE343 := GW343; replace HB := cW HB hb; clear hb hbox hg; obtain ⟨hcz34_0, hcz34_1, hcz34_2, hcz34_3, hcz34_4, hfz34_0, hfz34_1, hfz34_2, hfz34_3, hfz34_4⟩ := z5 BK343; obtain ⟨Ao35, co35, eo35⟩ := Kd.R_slice HO338.out; subst eo35; obtain ⟨Ao36, co36, eo36⟩ := Kd.R_slice HO341.out; subst eo36) | ((with_reducible refine gate_store (t := 36) (p := 1) rfl ?_); refine store_event (t := 36) (p := 1) (v := ?vo_w37) (w1 := (((((w33.setCell ⟨gb343, 0, none⟩ (.int .i64 t333)).setCell ⟨gb343, 1, none⟩ (.int .i64 t334)).setCell ⟨gb343, 2, none⟩ (.int .i64 t335)).setCell ⟨gb343, 3, none⟩ (.slice Ao35 t336.length co35)).setCell ⟨gb343, 4, none⟩ (.slice Ao36 t339.length co36))) ?hg ?ho ?hn ?hr ?_; (case ho => rfl); (case hg => rfl); (case hn => rfl); (case hr => first | (go_simp; done) | (go_simp; rfl)); intro w37 hw; have n0_ : Aside0 (Kd.R k60 60 w37 w.heap.size (fun _ => True) (.slice Ao35 t336.length co35) t336) := ⟨(by rw [hw]; exact (by exact uR <| Kd.R_mono (Kd.R_far (p := ⟨gb343, 4, none⟩) (Kd.R_far (p := ⟨gb343, 3, none⟩) (Kd.R_far (p := ⟨gb343, 2, none⟩) (Kd.R_far (p := ⟨gb343, 1, none⟩) (Kd.R_far (p := ⟨gb343, 0, none⟩) (Kd.R_types HO338.out BK343.out (by decide)) (fun _ hk => hk.2) (.int .i64 t333)) (fun _ hk => hk.2) (.int .i64 t334)) (fun _ hk => hk.2) (.int .i64 t335)) (fun _ hk => hk.2) (.slice Ao35 t336.length co35)) (fun _ hk => hk.2) (.slice Ao36 t339.length co36)) (fun _ hk => trivial)))⟩; have n1_ : Aside0 (Kd.R k78 78 w37 w.heap.size (fun _ => True) (.slice Ao36 t339.length co36) t339) := ⟨(by rw [hw]; exact (by exact uR <| Kd.R_mono (Kd.R_far (p := ⟨gb343, 4, none⟩) (Kd.R_far (p := ⟨gb343, 3, none⟩) (Kd.R_far (p := ⟨gb343, 2, none⟩) (Kd.R_far (p := ⟨gb343, 1, none⟩) (Kd.R_far (p := ⟨gb343, 0, none⟩) (Kd.R_types HO341.out BK343.out (by decide)) (fun _ hk => hk.2) (.int .i64 t333)) (fun _ hk => hk.2) (.int .i64 t334)) (fun _ hk => hk.2) (.int .i64 t335)) (fun _ hk => hk.2) (.slice Ao35 t336.length co35)) (fun _ hk => hk.2) (.slice Ao36 t339.length co36)) (fun _ hk => trivial)))⟩; have n2_ : Aside0 (w37.heap[gb343]? = some (.cells #[.int .i64 t333, .int .i64 t334, .int .i64 t335, .slice Ao35 t336.length co35, .slice Ao36 t339.length co36] 36 (0, 0))) := ⟨(by rw [hw]; exact (by (with_reducible repeat (first | refine blk_drewN ?_ _ | refine blk_drew ?_ | refine blk_alloc ?_ _)); refine blk_put (cs := #[.int .i64 t333, .int .i64 t334, .int .i64 t335, .slice Ao35 t336.length co35, .slice none 0 0]) ?_ 4 _ rfl; (with_reducible repeat (first | refine blk_drewN ?_ _ | refine blk_drew ?_ | refine blk_alloc ?_ _)); refine blk_put (cs := #[.int .i64 t333, .int .i64 t334, .int .i64 t335, .slice none 0 0, .slice none 0 0]) ?_ 3 _ rfl; (with_reducible repeat (first | refine blk_drewN ?_ _ | refine blk_drew ?_ | refine blk_alloc ?_ _)); refine blk_put (cs := #[.int .i64 t333, .int .i64 t334, .int .i64 0, .slice none 0 0, .slice none 0 0]) ?_ 2 _ rfl; (with_reducible repeat (first | refine blk_drewN ?_ _ | refine blk_drew ?_ | refine blk_alloc ?_ _)); refine blk_put (cs := #[.int .i64 t333, .int .i64 0, .int .i64 0, .slice none 0 0, .slice none 0 0]) ?_ 1 _ rfl; (with_reducible repeat (first | refine blk_drewN ?_ _ | refine blk_drew ?_ | refine blk_alloc ?_ _)); refine blk_put (cs := #[.int .i64 0, .int .i64 0, .int .i64 0, .slice none 0 0, .slice none 0 0]) ?_ 0 _ rfl; exact uB <| BK343.out))⟩; have n3_ : Aside0 (Below w.heap.size w w37) := ⟨(by rw [hw]; exact bl)⟩; clear hw; clear HO338; clear HO341; clear BK343; clear HB; have HO338 := n0_; have HO341 := n1_; have BK343 := n2_; have HB := n3_; clear n0_ n1_ n2_ n3_) | (refine gL (some 16) rfl Tryz.func24 #[.string (⟨#[114, 111, 119, 115, 32, 53, 32, 51, 124, 124, 55]⟩ : ByteArray)] ?_; (with_reducible refine (reply_ReadRows.calls (hL := ld) k (⟨#[114, 111, 119, 115, 32, 53, 32, 51, 124, 124, 55]⟩ : ByteArray) t344 t345 t346 t349 _ A2.out).mono ?_); rintro e w38 ⟨v347, rfl, ho0, hb⟩; refine ⟨_, rfl, ?_⟩; replace HO341 := cR HO341 hb; have HO348 := Aside0.mk (Kd.R_lower (Kd.R_new' ho0 (Kd.R_lt (uR HO338.out))) (below_size bl)); replace HO338 := Aside0.mk (Kd.R_elder' (uR HO338.out) (Kd.R_base ho0) hb); replace BK343 := cB BK343 hb; replace HB := Aside0.mk (below_step bl hb); (try clear hb); (try clear ho0)) | ((with_reducible refine gate_dst (N := 3) rfl ?_); (try (refine gate_guard (by rfl) ?_; dsimp only)); refine bx (N := 3) #[.int .i64 0, .int .i64 0, .slice none 0 0] 33 ?_; intro gb350 hg w39 hbox hb; replace HO338 := cR HO338 hb; replace HO341 := cR HO341 hb; replace HO348 := cR HO348 hb; have BK350 := Aside0.mk (hbox); have GW350 := gw hg bl; have GE350 := GW350; replace HB := Aside0.mk (below_step bl hb); have NB343_350 := Aside0.mk ((by rw [hg]; exact Nat.ne_of_lt (blk_lt (g := gb343) (o := .cells #[.int .i64 t333, .int .i64 t334, .int .i64 t335, .slice Ao35 t336.length co35, .slice Ao36 t339.length co36] 36 (0, 0)) (uB BK343.out)) : gb343 ≠ gb350)); have NB350_343 := Aside0.mk ((by rw [hg]; exact Nat.ne_of_gt (blk_lt (g := gb343) (o := .cells #[.int .i64 t333, .int .i64 t334, .int .i64 t335, .slice Ao35 t336.length co35, .slice Ao36 t339.length co36] 36 (0, 0)) (uB BK343.out)) : gb350 ≠ gb343)); replace BK343 := cB BK343 hb; clear hb hbox hg; have hnb40 := NB350_343.out; have hnc40 := NB343_350.out; obtain ⟨hcz41_0, hcz41_1, hcz41_2, hfz41_0, hfz41_1, hfz41_2⟩ := z3 BK350; obtain ⟨Ao42, co42, eo42⟩ := Kd.R_slice HO348.out; subst eo42) | (refine gL (some 20) rfl Tryz.func22 #[.string (⟨#[111, 107, 32, 57]⟩ : ByteArray)] ?_; (with_reducible refine (reply_ReadStored.calls (hL := ld) k (⟨#[111, 107, 32, 57]⟩ : ByteArray) t351 t352 _ A3.out).mono ?_); rintro e w43 ⟨rfl, hb⟩; refine ⟨_, rfl, ?_⟩; replace HO338 := Aside0.mk (Kd.R_below (by exact uR <| (Kd.R_mono (Kd.R_far (p := ⟨gb350, 2, none⟩) (Kd.R_far (p := ⟨gb350, 1, none⟩) (Kd.R_far (p := ⟨gb350, 0, none⟩) (Kd.R_types HO338.out BK350.out (by decide)) (fun _ hk => hk.2) (.int .i64 t344)) (fun _ hk => hk.2) (.int .i64 t345)) (fun _ hk => hk.2) (.slice Ao42 t346.length co42)) (fun _ h_ => h_.1))) hb); replace HO341 := Aside0.mk (Kd.R_below (by exact uR <| (Kd.R_mono (Kd.R_far (p := ⟨gb350, 2, none⟩) (Kd.R_far (p := ⟨gb350, 1, none⟩) (Kd.R_far (p := ⟨gb350, 0, none⟩) (Kd.R_types HO341.out BK350.out (by decide)) (fun _ hk => hk.2) (.int .i64 t344)) (fun _ hk => hk.2) (.int .i64 t345)) (fun _ hk => hk.2) (.slice Ao42 t346.length co42)) (fun _ h_ => h_.1))) hb); replace HO348 := Aside0.mk (Kd.R_below (by exact uR <| (Kd.R_mono (Kd.R_far (p := ⟨gb350, 2, none⟩) (Kd.R_far (p := ⟨gb350, 1, none⟩) (Kd.R_far (p := ⟨gb350, 0, none⟩) (Kd.R_types HO348.out BK350.out (by decide)) (fun _ hk => hk.2) (.int .i64 t344)) (fun _ hk => hk.2) (.int .i64 t345)) (fun _ hk => hk.2) (.slice Ao42 t346.length co42)) (fun _ h_ => h_.1))) hb); replace BK343 := Aside0.mk (blk_below (g := gb343) (o := .cells #[.int .i64 t333, .int .i64 t334, .int .i64 t335, .slice Ao35 t336.length co35, .slice Ao36 t339.length co36] 36 (0, 0)) (by (with_reducible repeat (first | refine blk_drewN ?_ _ | refine blk_drew ?_ | refine blk_alloc ?_ _)); refine blk_far ?_ NB343_350.out _; (with_reducible repeat (first | refine blk_drewN ?_ _ | refine blk_drew ?_ | refine blk_alloc ?_ _)); refine blk_far ?_ NB343_350.out _; (with_reducible repeat (first | refine blk_drewN ?_ _ | refine blk_drew ?_ | refine blk_alloc ?_ _)); refine blk_far ?_ NB343_350.out _; exact uB <| BK343.out) hb); replace BK350 := Aside0.mk (blk_below (g := gb350) (o := .cells #[.int .i64 t344, .int .i64 t345, .slice Ao42 t346.length co42] 33 (0, 0)) (by (with_reducible repeat (first | refine blk_drewN ?_ _ | refine blk_drew ?_ | refine blk_alloc ?_ _)); refine blk_put (cs := #[.int .i64 t344, .int .i64 t345, .slice none 0 0]) ?_ 2 _ rfl; (with_reducible repeat (first | refine blk_drewN ?_ _ | refine blk_drew ?_ | refine blk_alloc ?_ _)); refine blk_put (cs := #[.int .i64 t344, .int .i64 0, .slice none 0 0]) ?_ 1 _ rfl; (with_reducible repeat (first | refine blk_drewN ?_ _ | refine blk_drew ?_ | refine blk_alloc ?_ _)); refine blk_put (cs := #[.int .i64 0, .int .i64 0, .slice none 0 0]) ?_ 0 _ rfl; exact uB <| BK350.out) hb); replace HB := Aside0.mk (below_step bl hb); (try clear hb)) | (refine gL (some 24) rfl Tryz.func22 #[.string (⟨#[111, 107]⟩ : ByteArray)] ?_; (with_reducible refine (reply_ReadStored.calls (hL := ld) k (⟨#[111, 107]⟩ : ByteArray) t353 t354 _ A4.out).mono ?_); rintro e w44 ⟨rfl, hb⟩; refine ⟨_, rfl, ?_⟩; replace HO338 := cR HO338 hb; replace HO341 := cR HO341 hb; replace HO348 := cR HO348 hb; replace BK343 := cB BK343 hb; replace BK350 := cB BK350 hb; replace HB := Aside0.mk (below_step bl hb); (try clear hb)) | (refine gL (some 28) rfl Tryz.func26 #[.string (⟨#[105, 109, 97, 103, 101, 32, 45, 49, 32, 53, 32, 45]⟩ : ByteArray)] ?_; (with_reducible refine (reply_ReadMessage.calls (hL := ld) k (⟨#[105, 109, 97, 103, 101, 32, 45, 49, 32, 53, 32, 45]⟩ : ByteArray) t355 t356 t357 t358 t361 t364 _ A5.out).mono ?_); rintro e w45 ⟨v359, v362, rfl, ho0, ho1, hb⟩; refine ⟨_, rfl, ?_⟩; have HO360 := Aside0.mk (Kd.R_lower (Kd.R_new' (Kd.R_new' ho0 (Kd.R_lt (uR HO338.out))) (Kd.R_lt (uR HO348.out))) (below_size bl)); replace HO338 := Aside0.mk (Kd.R_elder' (uR HO338.out) (Kd.R_base ho0) hb); replace HO348 := Aside0.mk (Kd.R_elder' (uR HO348.out) (Kd.R_base ho0) hb); have HO363 := Aside0.mk (Kd.R_lower (Kd.R_new' ho1 (Kd.R_lt (uR HO341.out))) (below_size bl)); replace HO341 := Aside0.mk (Kd.R_elder' (uR HO341.out) (Kd.R_base ho1) hb); replace BK343 := cB BK343 hb; replace BK350 := cB BK350 hb; replace HB := Aside0.mk (below_step bl hb); (try clear hb); (try clear ho0); (try clear ho1)) | ((with_reducible refine gate_dst (N := 9) rfl ?_); (try (refine gate_guard (by rfl) ?_; dsimp only)); refine bx (N := 9) #[.int .i64 0, .int .i64 0, .int .i64 0, .slice none 0 0, .slice none 0 0] 36 ?_; intro gb365 hg w46 hbox hb; replace HO338 := cR HO338 hb; replace HO341 := cR HO341 hb; replace HO348 := cR HO348 hb; replace HO360 := cR HO360 hb; replace HO363 := cR HO363 hb; have BK365 := Aside0.mk (hbox); have GW365 := gw hg bl; have GE365 := GW365; replace HB := Aside0.mk (below_step bl hb); have NB343_365 := Aside0.mk ((by rw [hg]; exact Nat.ne_of_lt (blk_lt (g := gb343) (o := .cells #[.int .i64 t333, .int .i64 t334, .int .i64 t335, .slice Ao35 t336.length co35, .slice Ao36 t339.length co36] 36 (0, 0)) (uB BK343.out)) : gb343 ≠ gb365)); have NB365_343 := Aside0.mk ((by rw [hg]; exact Nat.ne_of_gt (blk_lt (g := gb343) (o := .cells #[.int .i64 t333, .int .i64 t334, .int .i64 t335, .slice Ao35 t336.length co35, .slice Ao36 t339.length co36] 36 (0, 0)) (uB BK343.out)) : gb365 ≠ gb343)); replace BK343 := cB BK343 hb; have NB350_365 := Aside0.mk ((by rw [hg]; exact Nat.ne_of_lt (blk_lt (g := gb350) (o := .cells #[.int .i64 t344, .int .i64 t345, .slice Ao42 t346.length co42] 33 (0, 0)) (uB BK350.out)) : gb350 ≠ gb365)); have NB365_350 := Aside0.mk ((by rw [hg]; exact Nat.ne_of_gt (blk_lt (g := gb350) (o := .cells #[.int .i64 t344, .int .i64 t345, .slice Ao42 t346.length co42] 33 (0, 0)) (uB BK350.out)) : gb365 ≠ gb350)); replace BK350 := cB BK350 hb; clear hb hbox hg; have hnb47 := NB365_343.out; have hnc47 := NB343_365.out; have hnb48 := NB365_350.out; have hnc48 := NB350_365.out; obtain ⟨hcz49_0, hcz49_1, hcz49_2, hcz49_3, hcz49_4, hfz49_0, hfz49_1, hfz49_2, hfz49_3, hfz49_4⟩ := z5 BK365; obtain ⟨Ao50, co50, eo50⟩ := Kd.R_slice HO360.out; subst eo50; obtain ⟨Ao51, co51, eo51⟩ := Kd.R_slice HO363.out; subst eo51) | ((with_reducible refine gate_store (t := 36) (p := 9) rfl ?_); refine store_event (t := 36) (p := 9) (v := ?vo_w52) (w1 := (((((w46.setCell ⟨gb365, 0, none⟩ (.int .i64 t355)).setCell ⟨gb365, 1, none⟩ (.int .i64 t356)).setCell ⟨gb365, 2, none⟩ (.int .i64 t357)).setCell ⟨gb365, 3, none⟩ (.slice Ao50 t358.length co50)).setCell ⟨gb365, 4, none⟩ (.slice Ao51 t361.length co51))) ?hg ?ho ?hn ?hr ?_; (case ho => rfl); (case hg => rfl); (case hn => rfl); (case hr => first | (go_simp; done) | (go_simp; rfl)); intro w52 hw; have n0_ : Aside0 (Kd.R k60 60 w52 w.heap.size (fun k_ => some k_ ≠ (.slice Ao42 t346.length co42 : Value).ownBlock ∧ some k_ ≠ (.slice Ao50 t358.length co50 : Value).ownBlock) (.slice Ao35 t336.length co35) t336) := ⟨(by rw [hw]; exact (by exact uR <| Kd.R_mono (Kd.R_far (p := ⟨gb365, 4, none⟩) (Kd.R_far (p := ⟨gb365, 3, none⟩) (Kd.R_far (p := ⟨gb365, 2, none⟩) (Kd.R_far (p := ⟨gb365, 1, none⟩) (Kd.R_far (p := ⟨gb365, 0, none⟩) (Kd.R_types HO338.out BK365.out (by decide)) (fun _ hk => hk.2) (.int .i64 t355)) (fun _ hk => hk.2) (.int .i64 t356)) (fun _ hk => hk.2) (.int .i64 t357)) (fun _ hk => hk.2) (.slice Ao50 t358.length co50)) (fun _ hk => hk.2) (.slice Ao51 t361.length co51)) (fun _ hk => ⟨hk.1.1.2, hk.1.2⟩)))⟩; have n1_ : Aside0 (Kd.R k78 78 w52 w.heap.size (fun k_ => some k_ ≠ (.slice Ao51 t361.length co51 : Value).ownBlock) (.slice Ao36 t339.length co36) t339) := ⟨(by rw [hw]; exact (by exact uR <| Kd.R_mono (Kd.R_far (p := ⟨gb365, 4, none⟩) (Kd.R_far (p := ⟨gb365, 3, none⟩) (Kd.R_far (p := ⟨gb365, 2, none⟩) (Kd.R_far (p := ⟨gb365, 1, none⟩) (Kd.R_far (p := ⟨gb365, 0, none⟩) (Kd.R_types HO341.out BK365.out (by decide)) (fun _ hk => hk.2) (.int .i64 t355)) (fun _ hk => hk.2) (.int .i64 t356)) (fun _ hk => hk.2) (.int .i64 t357)) (fun _ hk => hk.2) (.slice Ao50 t358.length co50)) (fun _ hk => hk.2) (.slice Ao51 t361.length co51)) (fun _ hk => hk.1.2)))⟩; have n2_ : Aside0 (Kd.R k60 60 w52 w.heap.size (fun k_ => some k_ ≠ (.slice Ao35 t336.length co35 : Value).ownBlock ∧ some k_ ≠ (.slice Ao50 t358.length co50 : Value).ownBlock) (.slice Ao42 t346.length co42) t346) := ⟨(by rw [hw]; exact (by exact uR <| Kd.R_mono (Kd.R_far (p := ⟨gb365, 4, none⟩) (Kd.R_far (p := ⟨gb365, 3, none⟩) (Kd.R_far (p := ⟨gb365, 2, none⟩) (Kd.R_far (p := ⟨gb365, 1, none⟩) (Kd.R_far (p := ⟨gb365, 0, none⟩) (Kd.R_types HO348.out BK365.out (by decide)) (fun _ hk => hk.2) (.int .i64 t355)) (fun _ hk => hk.2) (.int .i64 t356)) (fun _ hk => hk.2) (.int .i64 t357)) (fun _ hk => hk.2) (.slice Ao50 t358.length co50)) (fun _ hk => hk.2) (.slice Ao51 t361.length co51)) (fun _ hk => ⟨hk.1.1.2, hk.1.2⟩)))⟩; have n3_ : Aside0 (Kd.R k60 60 w52 w.heap.size (fun k_ => some k_ ≠ (.slice Ao35 t336.length co35 : Value).ownBlock ∧ some k_ ≠ (.slice Ao42 t346.length co42 : Value).ownBlock) (.slice Ao50 t358.length co50) t358) := ⟨(by rw [hw]; exact (by exact uR <| Kd.R_mono (Kd.R_far (p := ⟨gb365, 4, none⟩) (Kd.R_far (p := ⟨gb365, 3, none⟩) (Kd.R_far (p := ⟨gb365, 2, none⟩) (Kd.R_far (p := ⟨gb365, 1, none⟩) (Kd.R_far (p := ⟨gb365, 0, none⟩) (Kd.R_types HO360.out BK365.out (by decide)) (fun _ hk => hk.2) (.int .i64 t355)) (fun _ hk => hk.2) (.int .i64 t356)) (fun _ hk => hk.2) (.int .i64 t357)) (fun _ hk => hk.2) (.slice Ao50 t358.length co50)) (fun _ hk => hk.2) (.slice Ao51 t361.length co51)) (fun _ hk => ⟨hk.1.1.2, hk.1.2⟩)))⟩; have n4_ : Aside0 (Kd.R k78 78 w52 w.heap.size (fun k_ => some k_ ≠ (.slice Ao36 t339.length co36 : Value).ownBlock) (.slice Ao51 t361.length co51) t361) := ⟨(by rw [hw]; exact (by exact uR <| Kd.R_mono (Kd.R_far (p := ⟨gb365, 4, none⟩) (Kd.R_far (p := ⟨gb365, 3, none⟩) (Kd.R_far (p := ⟨gb365, 2, none⟩) (Kd.R_far (p := ⟨gb365, 1, none⟩) (Kd.R_far (p := ⟨gb365, 0, none⟩) (Kd.R_types HO363.out BK365.out (by decide)) (fun _ hk => hk.2) (.int .i64 t355)) (fun _ hk => hk.2) (.int .i64 t356)) (fun _ hk => hk.2) (.int .i64 t357)) (fun _ hk => hk.2) (.slice Ao50 t358.length co50)) (fun _ hk => hk.2) (.slice Ao51 t361.length co51)) (fun _ hk => hk.1.2)))⟩; have n5_ : Aside0 (w52.heap[gb343]? = some (.cells #[.int .i64 t333, .int .i64 t334, .int .i64 t335, .slice Ao35 t336.length co35, .slice Ao36 t339.length co36] 36 (0, 0))) := ⟨(by rw [hw]; exact (by (with_reducible repeat (first | refine blk_drewN ?_ _ | refine blk_drew ?_ | refine blk_alloc ?_ _)); refine blk_far ?_ NB343_365.out _; (with_reducible repeat (first | refine blk_drewN ?_ _ | refine blk_drew ?_ | refine blk_alloc ?_ _)); refine blk_far ?_ NB343_365.out _; (with_reducible repeat (first | refine blk_drewN ?_ _ | refine blk_drew ?_ | refine blk_alloc ?_ _)); refine blk_far ?_ NB343_365.out _; (with_reducible repeat (first | refine blk_drewN ?_ _ | refine blk_drew ?_ | refine blk_alloc ?_ _)); refine blk_far ?_ NB343_365.out _; (with_reducible repeat (first | refine blk_drewN ?_ _ | refine blk_drew ?_ | refine blk_alloc ?_ _)); refine blk_far ?_ NB343_365.out _; exact uB <| BK343.out))⟩; have n6_ : Aside0 (w52.heap[gb350]? = some (.cells #[.int .i64 t344, .int .i64 t345, .slice Ao42 t346.length co42] 33 (0, 0))) := ⟨(by rw [hw]; exact (by (with_reducible repeat (first | refine blk_drewN ?_ _ | refine blk_drew ?_ | refine blk_alloc ?_ _)); refine blk_far ?_ NB350_365.out _; (with_reducible repeat (first | refine blk_drewN ?_ _ | refine blk_drew ?_ | refine blk_alloc ?_ _)); refine blk_far ?_ NB350_365.out _; (with_reducible repeat (first | refine blk_drewN ?_ _ | refine blk_drew ?_ | refine blk_alloc ?_ _)); refine blk_far ?_ NB350_365.out _; (with_reducible repeat (first | refine blk_drewN ?_ _ | refine blk_drew ?_ | refine blk_alloc ?_ _)); refine blk_far ?_ NB350_365.out _; (with_reducible repeat (first | refine blk_drewN ?_ _ | refine blk_drew ?_ | refine blk_alloc ?_ _)); refine blk_far ?_ NB350_365.out _; exact uB <| BK350.out))⟩; have n7_ : Aside0 (w52.heap[gb365]? = some (.cells #[.int .i64 t355, .int .i64 t356, .int .i64 t357, .slice Ao50 t358.length co50, .slice Ao51 t361.length co51] 36 (0, 0))) := ⟨(by rw [hw]; exact (by (with_reducible repeat (first | refine blk_drewN ?_ _ | refine blk_drew ?_ | refine blk_alloc ?_ _)); refine blk_put (cs := #[.int .i64 t355, .int .i64 t356, .int .i64 t357, .slice Ao50 t358.length co50, .slice none 0 0]) ?_ 4 _ rfl; (with_reducible repeat (first | refine blk_drewN ?_ _ | refine blk_drew ?_ | refine blk_alloc ?_ _)); refine blk_put (cs := #[.int .i64 t355, .int .i64 t356, .int .i64 t357, .slice none 0 0, .slice none 0 0]) ?_ 3 _ rfl; (with_reducible repeat (first | refine blk_drewN ?_ _ | refine blk_drew ?_ | refine blk_alloc ?_ _)); refine blk_put (cs := #[.int .i64 t355, .int .i64 t356, .int .i64 0, .slice none 0 0, .slice none 0 0]) ?_ 2 _ rfl; (with_reducible repeat (first | refine blk_drewN ?_ _ | refine blk_drew ?_ | refine blk_alloc ?_ _)); refine blk_put (cs := #[.int .i64 t355, .int .i64 0, .int .i64 0, .slice none 0 0, .slice none 0 0]) ?_ 1 _ rfl; (with_reducible repeat (first | refine blk_drewN ?_ _ | refine blk_drew ?_ | refine blk_alloc ?_ _)); refine blk_put (cs := #[.int .i64 0, .int .i64 0, .int .i64 0, .slice none 0 0, .slice none 0 0]) ?_ 0 _ rfl; exact uB <| BK365.out))⟩; have n8_ : Aside0 (Below w.heap.size w w52) := ⟨(by rw [hw]; exact bl)⟩; clear hw; clear HO338; clear HO341; clear HO348; clear HO360; clear HO363; clear BK343; clear BK350; clear BK365; clear HB; have HO338 := n0_; have HO341 := n1_; have HO348 := n2_; have HO360 := n3_; have HO363 := n4_; have BK343 := n5_; have BK350 := n6_; have BK365 := n7_; have HB := n8_; clear n0_ n1_ n2_ n3_ n4_ n5_ n6_ n7_ n8_; obtain ⟨hcz53_0, hcz53_1, hcz53_2, hcz53_3, hcz53_4, hfz53_0, hfz53_1, hfz53_2, hfz53_3, hfz53_4⟩ := z5 BK343) | (go_at_call 20; (with_reducible refine (reply_Message.calls (hL := ld) k t333 t334 t335 _ _ t336 _ _ t339 t366 _ ?side1 ?side2 ?side3 ?side4 A15.out).mono ?_); (case side1 => exact uC <| (Kd.R_reads' HO338.out).2.2); (case side2 => exact (Kd.R_reads' HO338.out).2.1); (case side3 => exact uC <| (Kd.R_reads' HO341.out).2.2); (case side4 => exact (Kd.R_reads' HO341.out).2.1); rintro e w54 ⟨rfl, hb⟩; replace HO338 := cR HO338 hb; replace HO341 := cR HO341 hb; replace HO348 := cR HO348 hb; replace HO360 := cR HO360 hb; replace HO363 := cR HO363 hb; replace BK343 := cB BK343 hb; replace BK350 := cB BK350 hb; replace BK365 := cB BK365 hb; replace HB := Aside0.mk (below_step bl hb); (try clear hb); obtain ⟨hcz55_0, hcz55_1, hcz55_2, hfz55_0, hfz55_1, hfz55_2⟩ := z3 BK350) | (go_at_call 18; (with_reducible refine (reply_Rows.calls (hL := ld) k t344 t345 _ _ t346 t367 _ ?side1 ?side2 A18.out).mono ?_); (case side1 => exact uC <| (Kd.R_reads' HO348.out).2.2); (case side2 => exact (Kd.R_reads' HO348.out).2.1); rintro e w56 ⟨rfl, hb⟩; replace HO338 := cR HO338 hb; replace HO341 := cR HO341 hb; replace HO348 := cR HO348 hb; replace HO360 := cR HO360 hb; replace HO363 := cR HO363 hb; replace BK343 := cB BK343 hb; replace BK350 := cB BK350 hb; replace BK365 := cB BK365 hb; replace HB := Aside0.mk (below_step bl hb); (try clear hb)) | (go_at_call 10; (with_reducible refine (reply_Stored.calls (hL := ld) 9 t368 _ A21.out).mono ?_); rintro e w57 ⟨rfl, hb⟩; replace HO338 := cR HO338 hb; replace HO341 := cR HO341 hb; replace HO348 := cR HO348 hb; replace HO360 := cR HO360 hb; replace HO363 := cR HO363 hb; replace BK343 := cB BK343 hb; replace BK350 := cB BK350 hb; replace BK365 := cB BK365 hb; replace HB := Aside0.mk (below_step bl hb); (try clear hb)) | (go_at_call 8; (with_reducible refine (reply_Error.calls (hL := ld) 7 t369 _ A23.out).mono ?_); rintro e w58 ⟨rfl, hb⟩; replace HO338 := cR HO338 hb; replace HO341 := cR HO341 hb; replace HO348 := cR HO348 hb; replace HO360 := cR HO360 hb; replace HO363 := cR HO363 hb; replace BK343 := cB BK343 hb; replace BK350 := cB BK350 hb; replace BK365 := cB BK365 hb; replace HB := Aside0.mk (below_step bl hb); (try clear hb)) | (go_at_call 8; (with_reducible refine (reply_Error.calls (hL := ld) 0 t370 _ A25.out).mono ?_); rintro e w59 ⟨rfl, hb⟩; replace HO338 := cR HO338 hb; replace HO341 := cR HO341 hb; replace HO348 := cR HO348 hb; replace HO360 := cR HO360 hb; replace HO363 := cR HO363 hb; replace BK343 := cB BK343 hb; replace BK350 := cB BK350 hb; replace BK365 := cB BK365 hb; replace HB := Aside0.mk (below_step bl hb); (try clear hb)) | (go_at_call 8; (with_reducible refine (reply_Error.calls (hL := ld) 99 t371 _ A27.out).mono ?_); rintro e w60 ⟨rfl, hb⟩; replace HO338 := cR HO338 hb; replace HO341 := cR HO341 hb; replace HO348 := cR HO348 hb; replace HO360 := cR HO360 hb; replace HO363 := cR HO363 hb; replace BK343 := cB BK343 hb; replace BK350 := cB BK350 hb; replace BK365 := cB BK365 hb; replace HB := Aside0.mk (below_step bl hb); (try clear hb)) | (go_at_call 12; (with_reducible refine (reply_Sub.calls (hL := ld) 4 t372 _ A29.out).mono ?_); rintro e w61 ⟨rfl, hb⟩; replace HO338 := cR HO338 hb; replace HO341 := cR HO341 hb; replace HO348 := cR HO348 hb; replace HO360 := cR HO360 hb; replace HO363 := cR HO363 hb; replace BK343 := cB BK343 hb; replace BK350 := cB BK350 hb; replace BK365 := cB BK365 hb; replace HB := Aside0.mk (below_step bl hb); (try clear hb)) | ((with_reducible refine gate_dst (N := 110) rfl ?_); (try (refine gate_guard (by rfl) ?_; dsimp only)); refine Kd.R_lit (Kd.int .i64) _ 2 ?hg (N := 110) ?hd (xs := ([1, (-2)] : List Int)) (inner := [.int .i64 1, .int .i64 (-2)]) (ok := fun _ => True) (okp := fun _ => True) ?hr ?hp (fun _ hk => hk) trivial (Below.refl _ _) (Nat.le_refl _) (by simp) ?_; (case hd => rfl); (case hg => rfl); (case hr => first | (go_simp; done) | (go_simp; rfl)); (case hp => exact (Reps.one (show Kd.M (Kd.int .i64) _ _ _ 1 [.int .i64 1] from rfl) (Reps.one (show Kd.M (Kd.int .i64) _ _ _ (-2) [.int .i64 (-2)] from rfl) (Reps.none _ _)))); intro v374 w62 ho63 hb hg_ hnew_; clear hg_ hnew_; (first | rw [← Ny373.out] at ho63 | (simp only [Int.reduceToNat] at ho63; rw [← Ny373.out] at ho63)); replace HO338 := cR HO338 hb; replace HO341 := cR HO341 hb; replace HO348 := cR HO348 hb; replace HO360 := cR HO360 hb; replace HO363 := cR HO363 hb; have HO375 := Aside0.mk (Kd.R_lower ho63 (below_size bl)); replace BK343 := cB BK343 hb; replace BK350 := cB BK350 hb; replace BK365 := cB BK365 hb; replace HB := Aside0.mk (below_step bl hb); clear hb ho63; obtain ⟨Ao64, co64, eo64⟩ := Kd.R_slice HO375.out; subst eo64) | (go_at_call 14; (with_reducible refine (reply_Stat.calls (hL := ld) k _ _ y373 t376 _ ?side1 ?side2 A31.out).mono ?_); (case side1 => exact uC <| (Kd.R_reads' HO375.out).2.2); (case side2 => exact (Kd.R_reads' HO375.out).2.1); rintro e w65 ⟨rfl, hb⟩; replace HO338 := cR HO338 hb; replace HO341 := cR HO341 hb; replace HO348 := cR HO348 hb; replace HO360 := cR HO360 hb; replace HO363 := cR HO363 hb; replace HO375 := cR HO375 hb; replace BK343 := cB BK343 hb; replace BK350 := cB BK350 hb; replace BK365 := cB BK365 hb; replace HB := Aside0.mk (below_step bl hb); (try clear hb)))
  go_ret
  exact ⟨re_, bl⟩
 ·
  rw [if_neg c6] at H
  exact absurd H (by simp)
def r23_Error.f (a0 : Int) : Option (ByteArray) := (some (([(⟨#[111, 107]⟩ : ByteArray), (⟨#[101, 114, 114, 32, 97, 114, 103]⟩ : ByteArray), (⟨#[101, 114, 114, 32, 102, 111, 114, 109]⟩ : ByteArray), (⟨#[101, 114, 114, 32, 114, 97, 110, 103, 101]⟩ : ByteArray), (⟨#[101, 114, 114, 32, 109, 97, 110, 121]⟩ : ByteArray), (⟨#[101, 114, 114, 32, 116, 119, 105, 99, 101]⟩ : ByteArray), (⟨#[101, 114, 114, 32, 110, 111, 110, 101]⟩ : ByteArray), (⟨#[101, 114, 114, 32, 108, 97, 116, 101]⟩ : ByteArray), (⟨#[101, 114, 114, 32, 102, 117, 108, 108]⟩ : ByteArray), (⟨#[101, 114, 114, 32, 111, 114, 100, 101, 114]⟩ : ByteArray), (⟨#[101, 114, 114, 32, 108, 111, 110, 103]⟩ : ByteArray)] : List ByteArray) : List ByteArray)).bind fun y377 => (if a0 < 0 then (some (⟨#[101, 114, 114, 32, 101, 114, 114, 111, 114]⟩ : ByteArray)) else (if a0 ≥ (y377.length : Int) then (some (⟨#[101, 114, 114, 32, 101, 114, 114, 111, 114]⟩ : ByteArray)) else (if 0 ≤ a0 then (if a0 < (y377.length : Int) then (some (rdOf ByteArray.empty y377 a0)) else (none)) else (none))))
theorem r23_Error.calls (a0 : Int) (r : ByteArray) (w : World) (h : r23_Error.f a0 = some r) :
 Calls Tryz.prog 9 #[.int .i64 a0] w fun e w' => e = .returned (.string r) ∧ Below w.heap.size w w' := by
 have HB := Aside0.mk (Below.refl w.heap.size w)
 have H : ((some (([(⟨#[111, 107]⟩ : ByteArray), (⟨#[101, 114, 114, 32, 97, 114, 103]⟩ : ByteArray), (⟨#[101, 114, 114, 32, 102, 111, 114, 109]⟩ : ByteArray), (⟨#[101, 114, 114, 32, 114, 97, 110, 103, 101]⟩ : ByteArray), (⟨#[101, 114, 114, 32, 109, 97, 110, 121]⟩ : ByteArray), (⟨#[101, 114, 114, 32, 116, 119, 105, 99, 101]⟩ : ByteArray), (⟨#[101, 114, 114, 32, 110, 111, 110, 101]⟩ : ByteArray), (⟨#[101, 114, 114, 32, 108, 97, 116, 101]⟩ : ByteArray), (⟨#[101, 114, 114, 32, 102, 117, 108, 108]⟩ : ByteArray), (⟨#[101, 114, 114, 32, 111, 114, 100, 101, 114]⟩ : ByteArray), (⟨#[101, 114, 114, 32, 108, 111, 110, 103]⟩ : ByteArray)] : List ByteArray) : List ByteArray)).bind fun y377 => (if a0 < 0 then (some (⟨#[101, 114, 114, 32, 101, 114, 114, 111, 114]⟩ : ByteArray)) else (if a0 ≥ (y377.length : Int) then (some (⟨#[101, 114, 114, 32, 101, 114, 114, 111, 114]⟩ : ByteArray)) else (if 0 ≤ a0 then (if a0 < (y377.length : Int) then (some (rdOf ByteArray.empty y377 a0)) else (none)) else (none))))) = some r := h
 clear h
 obtain ⟨y377, Ny377, H⟩ := ys H
 try dsimp only at H
 by_cases c2 : a0 < 0
 ·
  rw [if_pos c2] at H
  have c2b0 : decide (a0 < 0) = true := decide_eq_true c2
  clear c2
  obtain rfl := Option.some.inj H
  go_enter Tryz.func9, Tryz.ntmps9
  go_wp2_with (first | ((with_reducible refine gate_dst (N := 4) rfl ?_); (try (refine gate_guard (by rfl) ?_; dsimp only)); refine Kd.R_lit Kd.string _ 9 ?hg (N := 4) ?hd (xs := ([(⟨#[111, 107]⟩ : ByteArray), (⟨#[101, 114, 114, 32, 97, 114, 103]⟩ : ByteArray), (⟨#[101, 114, 114, 32, 102, 111, 114, 109]⟩ : ByteArray), (⟨#[101, 114, 114, 32, 114, 97, 110, 103, 101]⟩ : ByteArray), (⟨#[101, 114, 114, 32, 109, 97, 110, 121]⟩ : ByteArray), (⟨#[101, 114, 114, 32, 116, 119, 105, 99, 101]⟩ : ByteArray), (⟨#[101, 114, 114, 32, 110, 111, 110, 101]⟩ : ByteArray), (⟨#[101, 114, 114, 32, 108, 97, 116, 101]⟩ : ByteArray), (⟨#[101, 114, 114, 32, 102, 117, 108, 108]⟩ : ByteArray), (⟨#[101, 114, 114, 32, 111, 114, 100, 101, 114]⟩ : ByteArray), (⟨#[101, 114, 114, 32, 108, 111, 110, 103]⟩ : ByteArray)] : List ByteArray)) (inner := [.string (⟨#[111, 107]⟩ : ByteArray), .string (⟨#[101, 114, 114, 32, 97, 114, 103]⟩ : ByteArray), .string (⟨#[101, 114, 114, 32, 102, 111, 114, 109]⟩ : ByteArray), .string (⟨#[101, 114, 114, 32, 114, 97, 110, 103, 101]⟩ : ByteArray), .string (⟨#[101, 114, 114, 32, 109, 97, 110, 121]⟩ : ByteArray), .string (⟨#[101, 114, 114, 32, 116, 119, 105, 99, 101]⟩ : ByteArray), .string (⟨#[101, 114, 114, 32, 110, 111, 110, 101]⟩ : ByteArray), .string (⟨#[101, 114, 114, 32, 108, 97, 116, 101]⟩ : ByteArray), .string (⟨#[101, 114, 114, 32, 102, 117, 108, 108]⟩ : ByteArray), .string (⟨#[101, 114, 114, 32, 111, 114, 100, 101, 114]⟩ : ByteArray), .string (⟨#[101, 114, 114, 32, 108, 111, 110, 103]⟩ : ByteArray)]) (ok := fun _ => True) (okp := fun _ => True) ?hr ?hp (fun _ hk => hk) trivial (Below.refl _ _) (Nat.le_refl _) (by simp) ?_; (case hd => rfl); (case hg => rfl); (case hr => first | (go_simp; done) | (go_simp; rfl)); (case hp => exact (Reps.one (show Kd.M Kd.string _ _ _ (⟨#[111, 107]⟩ : ByteArray) [.string (⟨#[111, 107]⟩ : ByteArray)] from rfl) (Reps.one (show Kd.M Kd.string _ _ _ (⟨#[101, 114, 114, 32, 97, 114, 103]⟩ : ByteArray) [.string (⟨#[101, 114, 114, 32, 97, 114, 103]⟩ : ByteArray)] from rfl) (Reps.one (show Kd.M Kd.string _ _ _ (⟨#[101, 114, 114, 32, 102, 111, 114, 109]⟩ : ByteArray) [.string (⟨#[101, 114, 114, 32, 102, 111, 114, 109]⟩ : ByteArray)] from rfl) (Reps.one (show Kd.M Kd.string _ _ _ (⟨#[101, 114, 114, 32, 114, 97, 110, 103, 101]⟩ : ByteArray) [.string (⟨#[101, 114, 114, 32, 114, 97, 110, 103, 101]⟩ : ByteArray)] from rfl) (Reps.one (show Kd.M Kd.string _ _ _ (⟨#[101, 114, 114, 32, 109, 97, 110, 121]⟩ : ByteArray) [.string (⟨#[101, 114, 114, 32, 109, 97, 110, 121]⟩ : ByteArray)] from rfl) (Reps.one (show Kd.M Kd.string _ _ _ (⟨#[101, 114, 114, 32, 116, 119, 105, 99, 101]⟩ : ByteArray) [.string (⟨#[101, 114, 114, 32, 116, 119, 105, 99, 101]⟩ : ByteArray)] from rfl) (Reps.one (show Kd.M Kd.string _ _ _ (⟨#[101, 114, 114, 32, 110, 111, 110, 101]⟩ : ByteArray) [.string (⟨#[101, 114, 114, 32, 110, 111, 110, 101]⟩ : ByteArray)] from rfl) (Reps.one (show Kd.M Kd.string _ _ _ (⟨#[101, 114, 114, 32, 108, 97, 116, 101]⟩ : ByteArray) [.string (⟨#[101, 114, 114, 32, 108, 97, 116, 101]⟩ : ByteArray)] from rfl) (Reps.one (show Kd.M Kd.string _ _ _ (⟨#[101, 114, 114, 32, 102, 117, 108, 108]⟩ : ByteArray) [.string (⟨#[101, 114, 114, 32, 102, 117, 108, 108]⟩ : ByteArray)] from rfl) (Reps.one (show Kd.M Kd.string _ _ _ (⟨#[101, 114, 114, 32, 111, 114, 100, 101, 114]⟩ : ByteArray) [.string (⟨#[101, 114, 114, 32, 111, 114, 100, 101, 114]⟩ : ByteArray)] from rfl) (Reps.one (show Kd.M Kd.string _ _ _ (⟨#[101, 114, 114, 32, 108, 111, 110, 103]⟩ : ByteArray) [.string (⟨#[101, 114, 114, 32, 108, 111, 110, 103]⟩ : ByteArray)] from rfl) (Reps.none _ _))))))))))))); intro v378 w3 ho4 hb hg_ hnew_; clear hg_ hnew_; (first | rw [← Ny377.out] at ho4 | (simp only [Int.reduceToNat] at ho4; rw [← Ny377.out] at ho4)); have HO379 := Aside0.mk (Kd.R_lower ho4 (below_size (uW HB.out))); replace HB := cW HB hb; clear hb ho4))
  go_ret
  exact ⟨re_, uW HB.out⟩
 ·
  rw [if_neg c2] at H
  have c2b0 : decide (a0 < 0) = false := decide_eq_false c2
  clear c2
  by_cases c5 : a0 ≥ (y377.length : Int)
  ·
   rw [if_pos c5] at H
   have c5b0 : decide ((y377.length : Int) ≤ a0) = true := decide_eq_true c5
   clear c5
   obtain rfl := Option.some.inj H
   go_enter Tryz.func9, Tryz.ntmps9
   go_wp2_with (first | ((with_reducible refine gate_dst (N := 4) rfl ?_); (try (refine gate_guard (by rfl) ?_; dsimp only)); refine Kd.R_lit Kd.string _ 9 ?hg (N := 4) ?hd (xs := ([(⟨#[111, 107]⟩ : ByteArray), (⟨#[101, 114, 114, 32, 97, 114, 103]⟩ : ByteArray), (⟨#[101, 114, 114, 32, 102, 111, 114, 109]⟩ : ByteArray), (⟨#[101, 114, 114, 32, 114, 97, 110, 103, 101]⟩ : ByteArray), (⟨#[101, 114, 114, 32, 109, 97, 110, 121]⟩ : ByteArray), (⟨#[101, 114, 114, 32, 116, 119, 105, 99, 101]⟩ : ByteArray), (⟨#[101, 114, 114, 32, 110, 111, 110, 101]⟩ : ByteArray), (⟨#[101, 114, 114, 32, 108, 97, 116, 101]⟩ : ByteArray), (⟨#[101, 114, 114, 32, 102, 117, 108, 108]⟩ : ByteArray), (⟨#[101, 114, 114, 32, 111, 114, 100, 101, 114]⟩ : ByteArray), (⟨#[101, 114, 114, 32, 108, 111, 110, 103]⟩ : ByteArray)] : List ByteArray)) (inner := [.string (⟨#[111, 107]⟩ : ByteArray), .string (⟨#[101, 114, 114, 32, 97, 114, 103]⟩ : ByteArray), .string (⟨#[101, 114, 114, 32, 102, 111, 114, 109]⟩ : ByteArray), .string (⟨#[101, 114, 114, 32, 114, 97, 110, 103, 101]⟩ : ByteArray), .string (⟨#[101, 114, 114, 32, 109, 97, 110, 121]⟩ : ByteArray), .string (⟨#[101, 114, 114, 32, 116, 119, 105, 99, 101]⟩ : ByteArray), .string (⟨#[101, 114, 114, 32, 110, 111, 110, 101]⟩ : ByteArray), .string (⟨#[101, 114, 114, 32, 108, 97, 116, 101]⟩ : ByteArray), .string (⟨#[101, 114, 114, 32, 102, 117, 108, 108]⟩ : ByteArray), .string (⟨#[101, 114, 114, 32, 111, 114, 100, 101, 114]⟩ : ByteArray), .string (⟨#[101, 114, 114, 32, 108, 111, 110, 103]⟩ : ByteArray)]) (ok := fun _ => True) (okp := fun _ => True) ?hr ?hp (fun _ hk => hk) trivial (Below.refl _ _) (Nat.le_refl _) (by simp) ?_; (case hd => rfl); (case hg => rfl); (case hr => first | (go_simp; done) | (go_simp; rfl)); (case hp => exact (Reps.one (show Kd.M Kd.string _ _ _ (⟨#[111, 107]⟩ : ByteArray) [.string (⟨#[111, 107]⟩ : ByteArray)] from rfl) (Reps.one (show Kd.M Kd.string _ _ _ (⟨#[101, 114, 114, 32, 97, 114, 103]⟩ : ByteArray) [.string (⟨#[101, 114, 114, 32, 97, 114, 103]⟩ : ByteArray)] from rfl) (Reps.one (show Kd.M Kd.string _ _ _ (⟨#[101, 114, 114, 32, 102, 111, 114, 109]⟩ : ByteArray) [.string (⟨#[101, 114, 114, 32, 102, 111, 114, 109]⟩ : ByteArray)] from rfl) (Reps.one (show Kd.M Kd.string _ _ _ (⟨#[101, 114, 114, 32, 114, 97, 110, 103, 101]⟩ : ByteArray) [.string (⟨#[101, 114, 114, 32, 114, 97, 110, 103, 101]⟩ : ByteArray)] from rfl) (Reps.one (show Kd.M Kd.string _ _ _ (⟨#[101, 114, 114, 32, 109, 97, 110, 121]⟩ : ByteArray) [.string (⟨#[101, 114, 114, 32, 109, 97, 110, 121]⟩ : ByteArray)] from rfl) (Reps.one (show Kd.M Kd.string _ _ _ (⟨#[101, 114, 114, 32, 116, 119, 105, 99, 101]⟩ : ByteArray) [.string (⟨#[101, 114, 114, 32, 116, 119, 105, 99, 101]⟩ : ByteArray)] from rfl) (Reps.one (show Kd.M Kd.string _ _ _ (⟨#[101, 114, 114, 32, 110, 111, 110, 101]⟩ : ByteArray) [.string (⟨#[101, 114, 114, 32, 110, 111, 110, 101]⟩ : ByteArray)] from rfl) (Reps.one (show Kd.M Kd.string _ _ _ (⟨#[101, 114, 114, 32, 108, 97, 116, 101]⟩ : ByteArray) [.string (⟨#[101, 114, 114, 32, 108, 97, 116, 101]⟩ : ByteArray)] from rfl) (Reps.one (show Kd.M Kd.string _ _ _ (⟨#[101, 114, 114, 32, 102, 117, 108, 108]⟩ : ByteArray) [.string (⟨#[101, 114, 114, 32, 102, 117, 108, 108]⟩ : ByteArray)] from rfl) (Reps.one (show Kd.M Kd.string _ _ _ (⟨#[101, 114, 114, 32, 111, 114, 100, 101, 114]⟩ : ByteArray) [.string (⟨#[101, 114, 114, 32, 111, 114, 100, 101, 114]⟩ : ByteArray)] from rfl) (Reps.one (show Kd.M Kd.string _ _ _ (⟨#[101, 114, 114, 32, 108, 111, 110, 103]⟩ : ByteArray) [.string (⟨#[101, 114, 114, 32, 108, 111, 110, 103]⟩ : ByteArray)] from rfl) (Reps.none _ _))))))))))))); intro v378 w6 ho7 hb hg_ hnew_; clear hg_ hnew_; (first | rw [← Ny377.out] at ho7 | (simp only [Int.reduceToNat] at ho7; rw [← Ny377.out] at ho7)); have HO379 := Aside0.mk (Kd.R_lower ho7 (below_size (uW HB.out))); replace HB := cW HB hb; clear hb ho7; obtain ⟨Ao8, co8, eo8⟩ := Kd.R_slice HO379.out; subst eo8))
   go_ret
   exact ⟨re_, uW HB.out⟩
  ·
   rw [if_neg c5] at H
   have c5b0 : decide ((y377.length : Int) ≤ a0) = false := decide_eq_false c5
   clear c5
   by_cases c9 : 0 ≤ a0
   ·
    rw [if_pos c9] at H
    have c9b0 : decide (0 ≤ a0) = true := decide_eq_true c9
    clear c9
    obtain ⟨c10b0, H⟩ := gdd H
    obtain rfl := Option.some.inj H
    go_enter Tryz.func9, Tryz.ntmps9
    go_wp2_with (first | ((with_reducible refine gate_dst (N := 4) rfl ?_); (try (refine gate_guard (by rfl) ?_; dsimp only)); refine Kd.R_lit Kd.string _ 9 ?hg (N := 4) ?hd (xs := ([(⟨#[111, 107]⟩ : ByteArray), (⟨#[101, 114, 114, 32, 97, 114, 103]⟩ : ByteArray), (⟨#[101, 114, 114, 32, 102, 111, 114, 109]⟩ : ByteArray), (⟨#[101, 114, 114, 32, 114, 97, 110, 103, 101]⟩ : ByteArray), (⟨#[101, 114, 114, 32, 109, 97, 110, 121]⟩ : ByteArray), (⟨#[101, 114, 114, 32, 116, 119, 105, 99, 101]⟩ : ByteArray), (⟨#[101, 114, 114, 32, 110, 111, 110, 101]⟩ : ByteArray), (⟨#[101, 114, 114, 32, 108, 97, 116, 101]⟩ : ByteArray), (⟨#[101, 114, 114, 32, 102, 117, 108, 108]⟩ : ByteArray), (⟨#[101, 114, 114, 32, 111, 114, 100, 101, 114]⟩ : ByteArray), (⟨#[101, 114, 114, 32, 108, 111, 110, 103]⟩ : ByteArray)] : List ByteArray)) (inner := [.string (⟨#[111, 107]⟩ : ByteArray), .string (⟨#[101, 114, 114, 32, 97, 114, 103]⟩ : ByteArray), .string (⟨#[101, 114, 114, 32, 102, 111, 114, 109]⟩ : ByteArray), .string (⟨#[101, 114, 114, 32, 114, 97, 110, 103, 101]⟩ : ByteArray), .string (⟨#[101, 114, 114, 32, 109, 97, 110, 121]⟩ : ByteArray), .string (⟨#[101, 114, 114, 32, 116, 119, 105, 99, 101]⟩ : ByteArray), .string (⟨#[101, 114, 114, 32, 110, 111, 110, 101]⟩ : ByteArray), .string (⟨#[101, 114, 114, 32, 108, 97, 116, 101]⟩ : ByteArray), .string (⟨#[101, 114, 114, 32, 102, 117, 108, 108]⟩ : ByteArray), .string (⟨#[101, 114, 114, 32, 111, 114, 100, 101, 114]⟩ : ByteArray), .string (⟨#[101, 114, 114, 32, 108, 111, 110, 103]⟩ : ByteArray)]) (ok := fun _ => True) (okp := fun _ => True) ?hr ?hp (fun _ hk => hk) trivial (Below.refl _ _) (Nat.le_refl _) (by simp) ?_; (case hd => rfl); (case hg => rfl); (case hr => first | (go_simp; done) | (go_simp; rfl)); (case hp => exact (Reps.one (show Kd.M Kd.string _ _ _ (⟨#[111, 107]⟩ : ByteArray) [.string (⟨#[111, 107]⟩ : ByteArray)] from rfl) (Reps.one (show Kd.M Kd.string _ _ _ (⟨#[101, 114, 114, 32, 97, 114, 103]⟩ : ByteArray) [.string (⟨#[101, 114, 114, 32, 97, 114, 103]⟩ : ByteArray)] from rfl) (Reps.one (show Kd.M Kd.string _ _ _ (⟨#[101, 114, 114, 32, 102, 111, 114, 109]⟩ : ByteArray) [.string (⟨#[101, 114, 114, 32, 102, 111, 114, 109]⟩ : ByteArray)] from rfl) (Reps.one (show Kd.M Kd.string _ _ _ (⟨#[101, 114, 114, 32, 114, 97, 110, 103, 101]⟩ : ByteArray) [.string (⟨#[101, 114, 114, 32, 114, 97, 110, 103, 101]⟩ : ByteArray)] from rfl) (Reps.one (show Kd.M Kd.string _ _ _ (⟨#[101, 114, 114, 32, 109, 97, 110, 121]⟩ : ByteArray) [.string (⟨#[101, 114, 114, 32, 109, 97, 110, 121]⟩ : ByteArray)] from rfl) (Reps.one (show Kd.M Kd.string _ _ _ (⟨#[101, 114, 114, 32, 116, 119, 105, 99, 101]⟩ : ByteArray) [.string (⟨#[101, 114, 114, 32, 116, 119, 105, 99, 101]⟩ : ByteArray)] from rfl) (Reps.one (show Kd.M Kd.string _ _ _ (⟨#[101, 114, 114, 32, 110, 111, 110, 101]⟩ : ByteArray) [.string (⟨#[101, 114, 114, 32, 110, 111, 110, 101]⟩ : ByteArray)] from rfl) (Reps.one (show Kd.M Kd.string _ _ _ (⟨#[101, 114, 114, 32, 108, 97, 116, 101]⟩ : ByteArray) [.string (⟨#[101, 114, 114, 32, 108, 97, 116, 101]⟩ : ByteArray)] from rfl) (Reps.one (show Kd.M Kd.string _ _ _ (⟨#[101, 114, 114, 32, 102, 117, 108, 108]⟩ : ByteArray) [.string (⟨#[101, 114, 114, 32, 102, 117, 108, 108]⟩ : ByteArray)] from rfl) (Reps.one (show Kd.M Kd.string _ _ _ (⟨#[101, 114, 114, 32, 111, 114, 100, 101, 114]⟩ : ByteArray) [.string (⟨#[101, 114, 114, 32, 111, 114, 100, 101, 114]⟩ : ByteArray)] from rfl) (Reps.one (show Kd.M Kd.string _ _ _ (⟨#[101, 114, 114, 32, 108, 111, 110, 103]⟩ : ByteArray) [.string (⟨#[101, 114, 114, 32, 108, 111, 110, 103]⟩ : ByteArray)] from rfl) (Reps.none _ _))))))))))))); intro v378 w11 ho12 hb hg_ hnew_; clear hg_ hnew_; (first | rw [← Ny377.out] at ho12 | (simp only [Int.reduceToNat] at ho12; rw [← Ny377.out] at ho12)); have HO379 := Aside0.mk (Kd.R_lower ho12 (below_size (uW HB.out))); replace HB := cW HB hb; clear hb ho12; obtain ⟨Ao13, co13, eo13⟩ := Kd.R_slice HO379.out; subst eo13; have p380 : 0 ≤ (a0 : Int) := od; have q380 : a0 < (y377.length : Int) := od; obtain ⟨ad380, e380, hx380_0⟩ := Kd.at_string (Kd.R_reads' HO379.out).2.2 a0 p380 q380; cases e380; replace p380 := eq_true p380; replace q380 := eq_true q380))
    go_ret
    exact ⟨re_, uW HB.out⟩
   ·
    rw [if_neg c9] at H
    exact absurd H (by simp)
mutual
def r01_Number.j0 : Nat → Int → Int → Option (ByteArray)
 | 0, _, _ => none
 | k + 1, x0, x3 => r01_Number.l0 k x0 x3 (⟨#[]⟩ : ByteArray)
def r01_Number.l0 : Nat → Int → Int → ByteArray → Option (ByteArray)
 | 0, _, _, _ => none
 | k + 1, x0, x3, x4 => (some (([(wrap64 (48 + (wrap64 (-(Int.tmod x3 10))))) % 256] : List Int) : List Int)).bind fun y381 => (if (strOfNums y381).size + x4.size ≤ 9223372036854775807 then (if (wrap64 (Int.tdiv x3 10)) = 0 then (if x0 < 0 then (if 1 + ((strOfNums y381) ++ x4).size ≤ 9223372036854775807 then (some ((⟨#[45]⟩ : ByteArray) ++ ((strOfNums y381) ++ x4))) else (none)) else (some ((strOfNums y381) ++ x4))) else (r01_Number.l0 k x0 (wrap64 (Int.tdiv x3 10)) ((strOfNums y381) ++ x4))) else (none))
end
def r01_Number.f (k : Nat) (a0 : Int) : Option (ByteArray) := if a0 > 0 then (r01_Number.j0 k a0 (wrap64 (-a0))) else (r01_Number.j0 k a0 a0)
theorem r01_Number.mono_l : ∀ k, (∀ y0 y1, LeC (r01_Number.j0 k y0 y1) (r01_Number.j0 (k + 1) y0 y1)) ∧ (∀ y0 y1 y2, LeC (r01_Number.l0 k y0 y1 y2) (r01_Number.l0 (k + 1) y0 y1 y2))
 | 0 => ⟨fun _ _ => ⟨fun r h => by simp [r01_Number.j0] at h⟩, fun _ _ _ => ⟨fun r h => by simp [r01_Number.l0] at h⟩⟩
 | k + 1 => by obtain ⟨ih0, ih1⟩ := r01_Number.mono_l k; exact ⟨fun _ _ => by unfold r01_Number.j0; exact lm, fun _ _ _ => by unfold r01_Number.l0; exact lm⟩
theorem r01_Number.mono : ∀ a0 k, LeO (r01_Number.f k a0) (r01_Number.f (k + 1) a0) := by
 intro a0 k
 obtain ⟨ih0, ih1⟩ := r01_Number.mono_l k
 unfold r01_Number.f
 exact lo
instance r01_Number.mI {a0 k} : LeC (r01_Number.f k a0) (r01_Number.f (k + 1) a0) := ⟨r01_Number.mono _ _⟩
theorem r01_Number.calls (k : Nat) (a0 : Int) (r : ByteArray) (w : World) (h : r01_Number.f k a0 = some r) :
 Calls Tryz.prog 36 #[.int .i64 a0] w fun e w' => e = .returned (.string r) ∧ Below w.heap.size w w' := by
 have HB := Aside0.mk (Below.refl w.heap.size w)
 have H : (if a0 > 0 then (r01_Number.j0 k a0 (wrap64 (-a0))) else (r01_Number.j0 k a0 a0)) = some r := h
 clear h
 have HC2 := Aside0.mk H
 clear H
 go_enter Tryz.func36, Tryz.ntmps36
 go_upto_if 7 with (fail)
 go_cut [3] (fun v3 wc => ∃ (kq : Nat) (x3_1 : Int), v3 = .int .i64 x3_1 ∧ Aside0 (r01_Number.j0 kq a0 x3_1 = some r) ∧ Aside0 (kq ≤ k) ∧ Aside0 (Below w.heap.size w wc))
 case first =>
  have H := HC2.out
  clear HC2
  by_cases c3 : a0 > 0
  ·
   rw [if_pos c3] at H
   have c3b0 : decide (0 < a0) = true := decide_eq_true c3
   clear c3
   (first | rw [c3b0] | (simp only [i64_w, i32_w]; rw [c3b0]) | skip)
   have H' := Aside0.mk H
   clear H
   go_wp2
   go_meet
   case rel => exact ⟨_, (wrap64 (-a0)), rs_, H', ⟨by first | omega | exact Nat.le_refl _⟩, ⟨uW HB.out⟩⟩
  ·
   rw [if_neg c3] at H
   have c3b0 : decide (0 < a0) = false := decide_eq_false c3
   clear c3
   (first | rw [c3b0] | (simp only [i64_w, i32_w]; rw [c3b0]) | skip)
   have H' := Aside0.mk H
   clear H
   go_wp2
   go_meet
   case rel => exact ⟨_, (a0), rs_, H', ⟨by first | omega | exact Nat.le_refl _⟩, ⟨uW HB.out⟩⟩
 case rest =>
  clear HC2
  try clear p2
  try clear c3
  try clear c3b0
  obtain ⟨kq, x3_1, rfl, HA, HJ1, HB⟩ := hcut
  cases kq with
  | zero => exact absurd HA.out (by simp [r01_Number.j0])
  | succ kj1 =>
   have H := HA.out
   clear HA
   simp only [r01_Number.j0] at H
   have H' := Aside0.mk H
   clear H
   go_wp2
   go_loopg [3, 4] kj1 (fun kq v3 v4 w' => ∃ (x3_2 : Int) (x4_2 : ByteArray), v3 = .int .i64 x3_2 ∧ v4 = .string x4_2 ∧ Aside0 (r01_Number.l0 kq a0 x3_2 x4_2 = some r) ∧ Aside0 (kq ≤ kj1) ∧ Aside0 (Below w.heap.size w w'))
   case atStart => exact ⟨(x3_1), ((⟨#[]⟩ : ByteArray)), rs_, rs_, H', ⟨Nat.le_refl _⟩, ⟨uW HB.out⟩⟩
   case round =>
    clear H'
    try clear p2
    try clear c3
    try clear c3b0
    try clear p2
    obtain ⟨x3_2, x4_2, rfl, rfl, HA, HK2, HB⟩ := hrel
    cases gk with
    | zero => exact absurd HA.out (by simp [r01_Number.l0])
    | succ k2 =>
     have H := HA.out
     clear HA
     simp only [r01_Number.l0] at H
     obtain ⟨y381, Ny381, H⟩ := ys H
     try dsimp only at H
     by_cases c4 : (strOfNums y381).size + x4_2.size ≤ 9223372036854775807
     ·
      rw [if_pos c4] at H
      have c4b0 := eq_true c4
      have c4b1 : decide ((strOfNums y381).size + x4_2.size ≤ 9223372036854775807) = true := decide_eq_true c4
      try have c4b2 : (9223372036854775807 < (strOfNums y381).size + x4_2.size) = False := eq_false (Nat.not_lt.2 c4)
      by_cases c5 : (wrap64 (Int.tdiv x3_2 10)) = 0
      ·
       rw [if_pos c5] at H
       have c5b0 : ((wrap64 (Int.tdiv x3_2 10)) == 0) = true := beq_iff_eq.mpr c5
       have c5b1 : ((wrap64 (Int.tdiv x3_2 10)) != 0) = false := bne_eq_false_iff_eq.mpr c5
       clear c5
       by_cases c6 : a0 < 0
       ·
        rw [if_pos c6] at H
        have c6b0 : decide (a0 < 0) = true := decide_eq_true c6
        clear c6
        obtain ⟨c7, H⟩ := gd H
        have c7b0 := eq_true c7
        have c7b1 : decide (1 + ((strOfNums y381) ++ x4_2).size ≤ 9223372036854775807) = true := decide_eq_true c7
        try have c7b2 : (9223372036854775807 < 1 + ((strOfNums y381) ++ x4_2).size) = False := eq_false (Nat.not_lt.2 c7)
        try have c7b8 := c7b2
        try simp only [ByteArray.size_append] at c7b8
        obtain rfl := Option.some.inj H
        go_wp2_with (first | ((with_reducible refine gate_dst (N := 15) rfl ?_); refine Kd.R_lit (Kd.int .u8) _ 5 ?hg (N := 15) ?hd (xs := ([(wrap64 (48 + (wrap64 (-(Int.tmod x3_2 10))))) % 256] : List Int)) (inner := [.int .u8 ((wrap64 (48 + (wrap64 (-(Int.tmod x3_2 10))))) % 256)]) (ok := fun _ => True) (okp := fun _ => True) ?hr ?hp (fun _ hk => hk) trivial (Below.refl _ _) (Nat.le_refl _) (by simp) ?_; (case hd => rfl); (case hg => rfl); (case hr => first | (go_simp; done) | (go_simp; rfl)); (case hp => exact (Reps.one (show Kd.M (Kd.int .u8) _ _ _ ((wrap64 (48 + (wrap64 (-(Int.tmod x3_2 10))))) % 256) [.int .u8 ((wrap64 (48 + (wrap64 (-(Int.tmod x3_2 10))))) % 256)] from rfl) (Reps.none _ _))); intro v382 w8 ho9 hb hg_ hnew_; clear hg_ hnew_; (first | rw [← Ny381.out] at ho9 | (simp only [Int.reduceToNat] at ho9; rw [← Ny381.out] at ho9)); have HO383 := Aside0.mk (Kd.R_lower ho9 (below_size (uW HB.out))); replace HB := cW HB hb; clear hb ho9; have hcv10 := own_string (P := Tryz.prog) Tryz.underlying82 Tryz.underlying5 Tryz.underlying9 (Kd.own_of_R HO383.out)))
        go_ret
        exact ⟨re_, uW HB.out⟩
       ·
        rw [if_neg c6] at H
        have c6b0 : decide (a0 < 0) = false := decide_eq_false c6
        clear c6
        obtain rfl := Option.some.inj H
        go_wp2_with (first | ((with_reducible refine gate_dst (N := 15) rfl ?_); refine Kd.R_lit (Kd.int .u8) _ 5 ?hg (N := 15) ?hd (xs := ([(wrap64 (48 + (wrap64 (-(Int.tmod x3_2 10))))) % 256] : List Int)) (inner := [.int .u8 ((wrap64 (48 + (wrap64 (-(Int.tmod x3_2 10))))) % 256)]) (ok := fun _ => True) (okp := fun _ => True) ?hr ?hp (fun _ hk => hk) trivial (Below.refl _ _) (Nat.le_refl _) (by simp) ?_; (case hd => rfl); (case hg => rfl); (case hr => first | (go_simp; done) | (go_simp; rfl)); (case hp => exact (Reps.one (show Kd.M (Kd.int .u8) _ _ _ ((wrap64 (48 + (wrap64 (-(Int.tmod x3_2 10))))) % 256) [.int .u8 ((wrap64 (48 + (wrap64 (-(Int.tmod x3_2 10))))) % 256)] from rfl) (Reps.none _ _))); intro v382 w11 ho12 hb hg_ hnew_; clear hg_ hnew_; (first | rw [← Ny381.out] at ho12 | (simp only [Int.reduceToNat] at ho12; rw [← Ny381.out] at ho12)); have HO383 := Aside0.mk (Kd.R_lower ho12 (below_size (uW HB.out))); replace HB := cW HB hb; clear hb ho12; have hcv13 := own_string (P := Tryz.prog) Tryz.underlying82 Tryz.underlying5 Tryz.underlying9 (Kd.own_of_R HO383.out)))
        go_ret
        exact ⟨re_, uW HB.out⟩
      ·
       rw [if_neg c5] at H
       have c5b0 : ((wrap64 (Int.tdiv x3_2 10)) == 0) = false := beq_eq_false_iff_ne.mpr c5
       have c5b1 : ((wrap64 (Int.tdiv x3_2 10)) != 0) = true := bne_iff_ne.mpr c5
       have H' := Aside0.mk H
       clear H
       go_wp2_with (first | ((with_reducible refine gate_dst (N := 15) rfl ?_); refine Kd.R_lit (Kd.int .u8) _ 5 ?hg (N := 15) ?hd (xs := ([(wrap64 (48 + (wrap64 (-(Int.tmod x3_2 10))))) % 256] : List Int)) (inner := [.int .u8 ((wrap64 (48 + (wrap64 (-(Int.tmod x3_2 10))))) % 256)]) (ok := fun _ => True) (okp := fun _ => True) ?hr ?hp (fun _ hk => hk) trivial (Below.refl _ _) (Nat.le_refl _) (by simp) ?_; (case hd => rfl); (case hg => rfl); (case hr => first | (go_simp; done) | (go_simp; rfl)); (case hp => exact (Reps.one (show Kd.M (Kd.int .u8) _ _ _ ((wrap64 (48 + (wrap64 (-(Int.tmod x3_2 10))))) % 256) [.int .u8 ((wrap64 (48 + (wrap64 (-(Int.tmod x3_2 10))))) % 256)] from rfl) (Reps.none _ _))); intro v382 w14 ho15 hb hg_ hnew_; clear hg_ hnew_; (first | rw [← Ny381.out] at ho15 | (simp only [Int.reduceToNat] at ho15; rw [← Ny381.out] at ho15)); have HO383 := Aside0.mk (Kd.R_lower ho15 (below_size (uW HB.out))); replace HB := cW HB hb; clear hb ho15; have hcv16 := own_string (P := Tryz.prog) Tryz.underlying82 Tryz.underlying5 Tryz.underlying9 (Kd.own_of_R HO383.out)))
       go_roundg k2
       case measure => have := HJ1.out; have := HK2.out; omega
       case rel => exact ⟨(wrap64 (Int.tdiv x3_2 10)), ((strOfNums y381) ++ x4_2), rs_, rs_, H', ⟨by have := HJ1.out; have := HK2.out; omega⟩, ⟨uW HB.out⟩⟩
     ·
      rw [if_neg c4] at H
      exact absurd H (by simp)
def r23_Stored.f (k : Nat) (a0 : Int) : Option (ByteArray) := (r01_Number.f k a0).bind fun t384 => (if 3 + t384.size ≤ 9223372036854775807 then (some ((⟨#[111, 107, 32]⟩ : ByteArray) ++ t384)) else (none))
theorem r23_Stored.mono : ∀ a0 k, LeO (r23_Stored.f k a0) (r23_Stored.f (k + 1) a0) := by
 intro a0 k
 unfold r23_Stored.f
 exact lo
instance r23_Stored.mI {a0 k} : LeC (r23_Stored.f k a0) (r23_Stored.f (k + 1) a0) := ⟨r23_Stored.mono _ _⟩
theorem r23_Stored.calls (k : Nat) (a0 : Int) (r : ByteArray) (w : World) (h : r23_Stored.f k a0 = some r) :
 Calls Tryz.prog 11 #[.int .i64 a0] w fun e w' => e = .returned (.string r) ∧ Below w.heap.size w w' := by
 have HB := Aside0.mk (Below.refl w.heap.size w)
 have H : ((r01_Number.f k a0).bind fun t384 => (if 3 + t384.size ≤ 9223372036854775807 then (some ((⟨#[111, 107, 32]⟩ : ByteArray) ++ t384)) else (none))) = some r := h
 clear h
 obtain ⟨t384, A2, H⟩ := bs H
 try dsimp only at H
 by_cases c3 : 3 + t384.size ≤ 9223372036854775807
 ·
  rw [if_pos c3] at H
  have c3b0 := eq_true c3
  have c3b1 : decide (3 + t384.size ≤ 9223372036854775807) = true := decide_eq_true c3
  try have c3b2 : (9223372036854775807 < 3 + t384.size) = False := eq_false (Nat.not_lt.2 c3)
  obtain rfl := Option.some.inj H
  go_enter Tryz.func11, Tryz.ntmps11
  go_wp2_with (first | (refine gL (some 4) rfl Tryz.func36 #[.int .i64 a0] ?_; (with_reducible refine (r01_Number.calls k a0 t384 _ A2.out).mono ?_); rintro e w4 ⟨rfl, hb⟩; refine ⟨_, rfl, ?_⟩; replace HB := cW HB hb; (try clear hb)))
  go_ret
  exact ⟨re_, uW HB.out⟩
 ·
  rw [if_neg c3] at H
  exact absurd H (by simp)
def r23_Sub.f (k : Nat) (a0 : Int) : Option (ByteArray) := (r01_Number.f k a0).bind fun t385 => (if 4 + t385.size ≤ 9223372036854775807 then (some ((⟨#[115, 117, 98, 32]⟩ : ByteArray) ++ t385)) else (none))
theorem r23_Sub.mono : ∀ a0 k, LeO (r23_Sub.f k a0) (r23_Sub.f (k + 1) a0) := by
 intro a0 k
 unfold r23_Sub.f
 exact lo
instance r23_Sub.mI {a0 k} : LeC (r23_Sub.f k a0) (r23_Sub.f (k + 1) a0) := ⟨r23_Sub.mono _ _⟩
theorem r23_Sub.calls (k : Nat) (a0 : Int) (r : ByteArray) (w : World) (h : r23_Sub.f k a0 = some r) :
 Calls Tryz.prog 13 #[.int .i64 a0] w fun e w' => e = .returned (.string r) ∧ Below w.heap.size w w' := by
 have HB := Aside0.mk (Below.refl w.heap.size w)
 have H : ((r01_Number.f k a0).bind fun t385 => (if 4 + t385.size ≤ 9223372036854775807 then (some ((⟨#[115, 117, 98, 32]⟩ : ByteArray) ++ t385)) else (none))) = some r := h
 clear h
 obtain ⟨t385, A2, H⟩ := bs H
 try dsimp only at H
 by_cases c3 : 4 + t385.size ≤ 9223372036854775807
 ·
  rw [if_pos c3] at H
  have c3b0 := eq_true c3
  have c3b1 : decide (4 + t385.size ≤ 9223372036854775807) = true := decide_eq_true c3
  try have c3b2 : (9223372036854775807 < 4 + t385.size) = False := eq_false (Nat.not_lt.2 c3)
  obtain rfl := Option.some.inj H
  go_enter Tryz.func13, Tryz.ntmps13
  go_wp2_with (first | (refine gL (some 4) rfl Tryz.func36 #[.int .i64 a0] ?_; (with_reducible refine (r01_Number.calls k a0 t385 _ A2.out).mono ?_); rintro e w4 ⟨rfl, hb⟩; refine ⟨_, rfl, ?_⟩; replace HB := cW HB hb; (try clear hb)))
  go_ret
  exact ⟨re_, uW HB.out⟩
 ·
  rw [if_neg c3] at H
  exact absurd H (by simp)
def r23_Stat.l0 : Nat → List Int → ByteArray → Int → Option (ByteArray)
 | 0, _, _, _ => none
 | k + 1, x0, x3, x4 => if x4 < (x0.length : Int) then (if x3.size + 1 ≤ 9223372036854775807 then (if 0 ≤ x4 then ((r01_Number.f k (rd x0 x4)).bind fun t387 => (if (x3 ++ (⟨#[32]⟩ : ByteArray)).size + t387.size ≤ 9223372036854775807 then (r23_Stat.l0 k x0 ((x3 ++ (⟨#[32]⟩ : ByteArray)) ++ t387) (wrap64 (x4 + 1))) else (none))) else (none)) else (none)) else (some x3)
def r23_Stat.f (k : Nat) (l0 : List Int) : Option (ByteArray) := r23_Stat.l0 k l0 (⟨#[115, 116, 97, 116]⟩ : ByteArray) 0
theorem r23_Stat.mono_l : ∀ k, (∀ y0 y1 y2, LeC (r23_Stat.l0 k y0 y1 y2) (r23_Stat.l0 (k + 1) y0 y1 y2))
 | 0 => fun _ _ _ => ⟨fun r h => by simp [r23_Stat.l0] at h⟩
 | k + 1 => by have ih0 := r23_Stat.mono_l k; exact fun _ _ _ => by unfold r23_Stat.l0; exact lm
theorem r23_Stat.mono : ∀ a0 k, LeO (r23_Stat.f k a0) (r23_Stat.f (k + 1) a0) := by
 intro a0 k
 have ih0 := r23_Stat.mono_l k
 unfold r23_Stat.f
 exact lo
instance r23_Stat.mI {a0 k} : LeC (r23_Stat.f k a0) (r23_Stat.f (k + 1) a0) := ⟨r23_Stat.mono _ _⟩
theorem r23_Stat.calls (k : Nat) (A0 : Option Addr) (c0 : Nat) (l0 : List Int) (r : ByteArray) (w : World) (hr0 : Kd.C (Kd.int .i64) w A0 l0.length l0) (hc0 : l0.length ≤ c0) (h : r23_Stat.f k l0 = some r) :
 Calls Tryz.prog 15 #[.slice A0 l0.length c0] w fun e w' => e = .returned (.string r) ∧ Below w.heap.size w w' := by
 have HR0 := Aside0.mk hr0
 have HC0 := Aside0.mk hc0
 clear hr0 hc0
 have HB := Aside0.mk (Below.refl w.heap.size w)
 have H : (r23_Stat.l0 k l0 (⟨#[115, 116, 97, 116]⟩ : ByteArray) 0) = some r := h
 clear h
 have H' := Aside0.mk H
 clear H
 go_enter Tryz.func15, Tryz.ntmps15
 go_wp2
 go_loopg [3, 4] k (fun kq v3 v4 w' => ∃ (x3_1 : ByteArray) (x4_1 : Int), v3 = .string x3_1 ∧ v4 = .int .i64 x4_1 ∧ Aside0 (r23_Stat.l0 kq l0 x3_1 x4_1 = some r) ∧ Aside0 (kq ≤ k) ∧ Aside0 (Below w.heap.size w w'))
 case atStart => exact ⟨((⟨#[115, 116, 97, 116]⟩ : ByteArray)), (0), rs_, rs_, H', ⟨Nat.le_refl _⟩, ⟨uW HB.out⟩⟩
 case round =>
  clear H'
  try clear c1
  obtain ⟨x3_1, x4_1, rfl, rfl, HA, HK1, HB⟩ := hrel
  cases gk with
  | zero => exact absurd HA.out (by simp [r23_Stat.l0])
  | succ k1 =>
   have H := HA.out
   clear HA
   simp only [r23_Stat.l0] at H
   by_cases c2 : x4_1 < (l0.length : Int)
   ·
    rw [if_pos c2] at H
    have c2b0 : decide (x4_1 < (l0.length : Int)) = true := decide_eq_true c2
    clear c2
    obtain ⟨c3, H⟩ := gd H
    have c3b0 := eq_true c3
    have c3b1 : decide (x3_1.size + 1 ≤ 9223372036854775807) = true := decide_eq_true c3
    try have c3b2 : (9223372036854775807 < x3_1.size + 1) = False := eq_false (Nat.not_lt.2 c3)
    obtain ⟨c4b0, H⟩ := gdd H
    obtain ⟨t387, A5, H⟩ := bs H
    try dsimp only at H
    obtain ⟨c6, H⟩ := gd H
    have c6b0 := eq_true c6
    have c6b1 : decide ((x3_1 ++ (⟨#[32]⟩ : ByteArray)).size + t387.size ≤ 9223372036854775807) = true := decide_eq_true c6
    try have c6b2 : (9223372036854775807 < (x3_1 ++ (⟨#[32]⟩ : ByteArray)).size + t387.size) = False := eq_false (Nat.not_lt.2 c6)
    try have c6b8 := c6b2
    try simp only [ByteArray.size_append] at c6b8
    try have c6b9 := c6b2
    try simp only [ByteArray.size_append, show (⟨#[32]⟩ : ByteArray).size = 1 from rfl] at c6b9
    have H' := Aside0.mk H
    clear H
    have p386 : 0 ≤ (x4_1 : Int) := od
    have q386 : x4_1 < (l0.length : Int) := od
    obtain ⟨ad386, e386, hx386_0⟩ := Kd.at_int HR0.out x4_1 p386 q386
    cases e386
    replace hx386_0 := kc HB hx386_0
    replace p386 := eq_true p386
    replace q386 := eq_true q386
    go_wp2_with (first | (refine gL (some 17) rfl Tryz.func36 #[.int .i64 (rd l0 x4_1)] ?_; (with_reducible refine (r01_Number.calls k1 (rd l0 x4_1) t387 _ A5.out).mono ?_); rintro e w7 ⟨rfl, hb⟩; refine ⟨_, rfl, ?_⟩; replace HB := cW HB hb; (try clear hb)))
    go_roundg k1
    case measure => have := HK1.out; omega
    case rel => exact ⟨((x3_1 ++ (⟨#[32]⟩ : ByteArray)) ++ t387), (wrap64 (x4_1 + 1)), rs_, rs_, H', ⟨by have := HK1.out; omega⟩, ⟨uW HB.out⟩⟩
   ·
    rw [if_neg c2] at H
    have c2b0 : decide (x4_1 < (l0.length : Int)) = false := decide_eq_false c2
    clear c2
    obtain rfl := Option.some.inj H
    go_wp2
    go_ret
    exact ⟨re_, uW HB.out⟩
def w23_ReplyTells.f (k : Nat) (a0 : Int) (a1 : Int) (l2 : List Int) : Option (Bool) := (w23_alive.f k).bind fun t388 => (if t388 = true then (if (l2.length : Int) > 100 then (some true) else ((some (([] : List Int) : List Int)).bind fun y389 => (if y389.length + l2.length < 17592186044416 then ((reply_Error.f a0).bind fun t395 => ((r23_Error.f a0).bind fun t396 => (if t395.toList = t396.toList then ((reply_Stored.f a1).bind fun t397 => ((r23_Stored.f k a1).bind fun t398 => (if t397.toList = t398.toList then ((reply_Sub.f a1).bind fun t399 => ((r23_Sub.f k a1).bind fun t400 => (if t399.toList = t400.toList then ((reply_Stat.f k (y389 ++ l2)).bind fun t401 => ((r23_Stat.f k l2).bind fun t402 => (some (t401.toList == t402.toList)))) else (none)))) else (none)))) else (none)))) else (none)))) else (none))
theorem w23_ReplyTells.mono : ∀ a0 a1 a2 k, LeO (w23_ReplyTells.f k a0 a1 a2) (w23_ReplyTells.f (k + 1) a0 a1 a2) := by
 intro a0 a1 a2 k
 unfold w23_ReplyTells.f
 exact lo
instance w23_ReplyTells.mI {a0 a1 a2 k} : LeC (w23_ReplyTells.f k a0 a1 a2) (w23_ReplyTells.f (k + 1) a0 a1 a2) := ⟨w23_ReplyTells.mono _ _ _ _⟩
theorem w23_ReplyTells.calls (k : Nat) (a0 : Int) (a1 : Int) (A2 : Option Addr) (c2 : Nat) (l2 : List Int) (r : Bool) (w : World) (hr2 : Kd.C (Kd.int .i64) w A2 l2.length l2) (hc2 : l2.length ≤ c2) (hL : LD w) (h : w23_ReplyTells.f k a0 a1 l2 = some r) :
 Calls Tryz.prog 3 #[.int .i64 a0, .int .i64 a1, .slice A2 l2.length c2] w fun e w' => e = .returned (.bool r) ∧ Below w.heap.size w w' := by
 have HL0 := Aside0.mk hL
 clear hL
 have HR2 := Aside0.mk hr2
 have HC2 := Aside0.mk hc2
 clear hr2 hc2
 have HB := Aside0.mk (Below.refl w.heap.size w)
 have H : ((w23_alive.f k).bind fun t388 => (if t388 = true then (if (l2.length : Int) > 100 then (some true) else ((some (([] : List Int) : List Int)).bind fun y389 => (if y389.length + l2.length < 17592186044416 then ((reply_Error.f a0).bind fun t395 => ((r23_Error.f a0).bind fun t396 => (if t395.toList = t396.toList then ((reply_Stored.f a1).bind fun t397 => ((r23_Stored.f k a1).bind fun t398 => (if t397.toList = t398.toList then ((reply_Sub.f a1).bind fun t399 => ((r23_Sub.f k a1).bind fun t400 => (if t399.toList = t400.toList then ((reply_Stat.f k (y389 ++ l2)).bind fun t401 => ((r23_Stat.f k l2).bind fun t402 => (some (t401.toList == t402.toList)))) else (none)))) else (none)))) else (none)))) else (none)))) else (none))) = some r := h
 clear h
 obtain ⟨t388, A4, H⟩ := bs H
 try dsimp only at H
 by_cases c5 : t388 = true
 ·
  subst c5
  rw [if_pos rfl] at H
  by_cases c6 : (l2.length : Int) > 100
  ·
   rw [if_pos c6] at H
   have c6b0 : decide (100 < (l2.length : Int)) = true := decide_eq_true c6
   have c6b1 : decide (100 < l2.length) = true := decide_eq_true (by omega)
   clear c6
   obtain rfl := Option.some.inj H
   go_enter Tryz.func3, Tryz.ntmps3
   go_wp2_with (first | (refine gL (some 8) rfl Tryz.func7 #[] ?_; (with_reducible refine (w23_alive.calls (hL := ld) k  true _ A4.out).mono ?_); rintro e w7 ⟨rfl, hb⟩; refine ⟨_, rfl, ?_⟩; replace HB := cW HB hb; (try clear hb)))
   go_ret
   exact ⟨re_, uW HB.out⟩
  ·
   rw [if_neg c6] at H
   have c6b0 : decide (100 < (l2.length : Int)) = false := decide_eq_false c6
   have c6b1 : decide (100 < l2.length) = false := decide_eq_false (by omega)
   clear c6
   obtain ⟨y389, Ny389, H⟩ := ys H
   try dsimp only at H
   obtain ⟨c8, H⟩ := gd H
   have LMc8 := Aside0.mk c8
   clear c8
   obtain ⟨y392, hy392⟩ : ∃ y_ : List Int, y_ = (y389 ++ l2) := ⟨_, rfl⟩
   replace H : ((reply_Error.f a0).bind fun t395 => ((r23_Error.f a0).bind fun t396 => (if t395.toList = t396.toList then ((reply_Stored.f a1).bind fun t397 => ((r23_Stored.f k a1).bind fun t398 => (if t397.toList = t398.toList then ((reply_Sub.f a1).bind fun t399 => ((r23_Sub.f k a1).bind fun t400 => (if t399.toList = t400.toList then ((reply_Stat.f k y392).bind fun t401 => ((r23_Stat.f k l2).bind fun t402 => (some (t401.toList == t402.toList)))) else (none)))) else (none)))) else (none)))) = some r := by first | (rw [hy392]; with_reducible exact H) | (have H2_ := (Option.bind_some _ _).symm.trans H; rw [hy392]; with_reducible exact H2_) | (have H2_ := (Option.bind_some _ _).symm.trans H; with_reducible exact H2_) | with_reducible exact H | (rw [hy392]; exact H) | exact H
   have Ny392 := Aside0.mk hy392
   clear hy392
   obtain ⟨t395, A9, H⟩ := bs H
   try dsimp only at H
   obtain ⟨t396, A10, H⟩ := bs H
   try dsimp only at H
   obtain ⟨c11, H⟩ := gd H
   have c11b0 : (t395.toList == t396.toList) = true := beq_iff_eq.mpr c11
   have c11b1 : (t395.toList != t396.toList) = false := bne_eq_false_iff_eq.mpr c11
   clear c11
   obtain ⟨t397, A12, H⟩ := bs H
   try dsimp only at H
   obtain ⟨t398, A13, H⟩ := bs H
   try dsimp only at H
   obtain ⟨c14, H⟩ := gd H
   have c14b0 : (t397.toList == t398.toList) = true := beq_iff_eq.mpr c14
   have c14b1 : (t397.toList != t398.toList) = false := bne_eq_false_iff_eq.mpr c14
   clear c14
   obtain ⟨t399, A15, H⟩ := bs H
   try dsimp only at H
   obtain ⟨t400, A16, H⟩ := bs H
   try dsimp only at H
   obtain ⟨c17, H⟩ := gd H
   have c17b0 : (t399.toList == t400.toList) = true := beq_iff_eq.mpr c17
   have c17b1 : (t399.toList != t400.toList) = false := bne_eq_false_iff_eq.mpr c17
   clear c17
   obtain ⟨t401, A18, H⟩ := bs H
   try dsimp only at H
   obtain ⟨t402, A19, H⟩ := bs H
   try dsimp only at H
   obtain rfl := Option.some.inj H
   go_enter Tryz.func3, Tryz.ntmps3
   go_wp2_with (first | (refine gL (some 8) rfl Tryz.func7 #[] ?_; (with_reducible refine (w23_alive.calls (hL := ld) k  true _ A4.out).mono ?_); rintro e w20 ⟨rfl, hb⟩; refine ⟨_, rfl, ?_⟩; replace HB := cW HB hb; (try clear hb)) | ((with_reducible refine gate_dst (N := 13) rfl ?_); refine Kd.R_lit (Kd.int .i64) _ 2 ?hg (N := 13) ?hd (xs := ([] : List Int)) (inner := []) (ok := fun _ => True) (okp := fun _ => True) ?hr ?hp (fun _ hk => hk) trivial (Below.refl _ _) (Nat.le_refl _) (by simp) ?_; (case hd => rfl); (case hg => rfl); (case hr => first | (go_simp; done) | (go_simp; rfl)); (case hp => exact (Reps.none _ _)); intro v390 w21 ho22 hb hg_ hnew_; clear hg_ hnew_; (first | rw [← Ny389.out] at ho22 | (simp only [Int.reduceToNat] at ho22; rw [← Ny389.out] at ho22)); have HO391 := Aside0.mk (Kd.R_lower ho22 (below_size (uW HB.out))); replace HB := cW HB hb; clear hb ho22) | ((with_reducible refine gate_builtin (b := .append) (xs := #[.tmp 13, .tmp 14]) rfl ?_); at_builtin; refine Kd.R_append_rows (Kd.int .i64) (w0 := w) w.heap.size rfl (.tmp 13) (.tmp 14) 23 2 (.int .i64 0) 8 rfl Tryz.underlying23 info2 rfl (by decide) (by omega) v390 y389 l2 _ _ _ (fun _ => True) (fun _ => False) rfl rfl ?aO ?aR (fun _ _ h => h) (fun _ h => h.elim) ?aF ?aB ?aS ?aL ?_; (case aR => exact uC <| (Kd.C_below HR2.out HB.out)); (case aB => exact (uW HB.out)); (case aF => exact (fun _ _ => trivial)); (case aO => exact (uR HO391.out)); (case aS => exact (below_size (uW HB.out))); (case aL => have := LMc8.out; omega); intro v393 w23 ho hb hg hat; rw [← Ny392.out] at ho; replace HB := Aside0.mk (hb); have HO394 := Aside0.mk (ho); clear HO391; clear ho hb hg hat) | (refine gL (some 17) rfl Tryz.func8 #[.int .i64 a0] ?_; (with_reducible refine (reply_Error.calls (hL := ld) a0 t395 _ A9.out).mono ?_); rintro e w24 ⟨rfl, hb⟩; refine ⟨_, rfl, ?_⟩; replace HO394 := cR HO394 hb; replace HB := cW HB hb; (try clear hb)) | (refine gL (some 19) rfl Tryz.func9 #[.int .i64 a0] ?_; (with_reducible refine (r23_Error.calls a0 t396 _ A10.out).mono ?_); rintro e w25 ⟨rfl, hb⟩; refine ⟨_, rfl, ?_⟩; replace HO394 := cR HO394 hb; replace HB := cW HB hb; (try clear hb)) | (go_at_call 10; (with_reducible refine (reply_Stored.calls (hL := ld) a1 t397 _ A12.out).mono ?_); rintro e w26 ⟨rfl, hb⟩; replace HO394 := cR HO394 hb; replace HB := cW HB hb; (try clear hb)) | (go_at_call 11; (with_reducible refine (r23_Stored.calls k a1 t398 _ A13.out).mono ?_); rintro e w27 ⟨rfl, hb⟩; replace HO394 := cR HO394 hb; replace HB := cW HB hb; (try clear hb)) | (go_at_call 12; (with_reducible refine (reply_Sub.calls (hL := ld) a1 t399 _ A15.out).mono ?_); rintro e w28 ⟨rfl, hb⟩; replace HO394 := cR HO394 hb; replace HB := cW HB hb; (try clear hb)) | (go_at_call 13; (with_reducible refine (r23_Sub.calls k a1 t400 _ A16.out).mono ?_); rintro e w29 ⟨rfl, hb⟩; replace HO394 := cR HO394 hb; replace HB := cW HB hb; (try clear hb); obtain ⟨Ao30, co30, eo30⟩ := Kd.R_slice HO394.out; subst eo30) | (go_at_call 14; (with_reducible refine (reply_Stat.calls (hL := ld) k _ _ y392 t401 _ ?side1 ?side2 A18.out).mono ?_); (case side1 => exact uC <| (Kd.R_reads' HO394.out).2.2); (case side2 => exact (Kd.R_reads' HO394.out).2.1); rintro e w31 ⟨rfl, hb⟩; replace HO394 := cR HO394 hb; replace HB := cW HB hb; (try clear hb)) | (go_at_call 15; (with_reducible refine (r23_Stat.calls k _ _ l2 t402 _ ?side1 ?side2 A19.out).mono ?_); (case side1 => exact uC <| (Kd.C_below HR2.out HB.out)); (case side2 => exact HC2.out); rintro e w32 ⟨rfl, hb⟩; replace HO394 := cR HO394 hb; replace HB := cW HB hb; (try clear hb)))
   go_ret
   exact ⟨re_, uW HB.out⟩
 ·
  replace c5 := Bool.eq_false_iff.mpr c5
  subst c5
  rw [if_neg (show ¬ (false = true) by decide)] at H
  exact absurd H (by simp)
def w23_ReplyTells.Pure : Prop := ∀ (a0 : Int) (a1 : Int) (l2 : List Int), ((Lit.int .i64 a0).wf = true) → ((Lit.int .i64 a1).wf = true) → (l2.length ≤ maxLen ∧ ∀ x0_ ∈ l2, (Lit.int .i64 x0_).wf = true) → l2.length * 8 ≤ 140737488351232 → ∃ k, w23_ReplyTells.f k a0 a1 l2 = some true
theorem w23_ReplyTells.walk (P : w23_ReplyTells.Pure) (a0 : Int) (a1 : Int) (l2 : List Int) (w : World) (hL : LD w) (A2 : Option Addr) (c2 : Nat) (hr2 : Kd.C (Kd.int .i64) w A2 l2.length l2) (hc2 : l2.length ≤ c2) (q0 : (Lit.int .i64 a0).wf = true) (q1 : (Lit.int .i64 a1).wf = true) (q2 : l2.length ≤ maxLen ∧ ∀ x0_ ∈ l2, (Lit.int .i64 x0_).wf = true) (y2 : l2.length * 8 ≤ 140737488351232) :
 Calls Tryz.prog 3 #[.int .i64 a0, .int .i64 a1, .slice A2 l2.length c2] w fun e w' => e = .returned (.bool true) ∧ Below w.heap.size w w' := by
 obtain ⟨k, h⟩ := P a0 a1 l2 q0 q1 q2 y2
 refine (w23_ReplyTells.calls (hL := hL) k a0 a1 A2 c2 l2 true w hr2 hc2 h).mono ?_
 rintro e w' ⟨rfl, hd⟩
 exact ⟨rfl, hd⟩
end Go.Proofs.YteckidchnicjeaaGreatDoor.X
