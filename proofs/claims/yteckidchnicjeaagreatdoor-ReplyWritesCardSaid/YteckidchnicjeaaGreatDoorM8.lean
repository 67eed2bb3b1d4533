/- Printed by a program of this session's own: what functions of the program compute, and that the machine computes it. No condition of its own. -/
import Derived.Test.YteckidchnicjeaaGreatDoorM3
import Derived.Test.YteckidchnicjeaaGreatDoorM4
import Derived.Test.YteckidchnicjeaaGreatDoorM5
import Derived.Test.YteckidchnicjeaaGreatDoorM6
import Derived.Test.YteckidchnicjeaaGreatDoorM7
namespace Go.Proofs.YteckidchnicjeaaGreatDoor.X
open Go.RowKit Go.Proofs.YteckidchnicjeaaGreatDoorW.PrintWords Go.Proofs.YteckidchnicjeaaGreatDoorW.PrintLast Go.Proofs.YteckidchnicjeaaGreatDoorW.PrintMore
attribute [local go_sem] max2_int min2_int max_two min_two max_three min_three max_four min_four
set_option linter.unusedVariables false
set_option linter.unusedSimpArgs false
set_option maxHeartbeats 8000000
set_option maxRecDepth 100000
def w23_alive.f (k : Nat)  : Option (Bool) := (reply_ReadMessage.f k (⟨#[100, 105, 102, 102, 32, 51, 32, 49, 50, 32, 33, 51, 124, 59, 52, 124, 124, 56]⟩ : ByteArray)).bind fun bt334 => ((reply_ReadRows.f k (⟨#[114, 111, 119, 115, 32, 53, 32, 51, 124, 124, 55]⟩ : ByteArray)).bind fun bt345 => ((reply_ReadStored.f k (⟨#[111, 107, 32, 57]⟩ : ByteArray)).bind fun bt352 => ((reply_ReadStored.f k (⟨#[111, 107]⟩ : ByteArray)).bind fun bt354 => ((reply_ReadMessage.f k (⟨#[105, 109, 97, 103, 101, 32, 45, 49, 32, 53, 32, 45]⟩ : ByteArray)).bind fun bt356 => (if bt334.2.2.2.2.2 = 0 then (if bt345.2.2.2 = 0 then (if bt352.2 = 0 then (if bt354.2 = 2 then (if bt356.2.2.2.2.2 = 3 then (if bt334.1 = 2 then (if bt334.2.1 = 3 then (if bt334.2.2.1 = 12 then (if (bt334.2.2.2.2.1.length : Int) = 2 then ((reply_Message.f k bt334.1 bt334.2.1 bt334.2.2.1 bt334.2.2.2.1 bt334.2.2.2.2.1).bind fun t367 => (if t367.toList = ([100, 105, 102, 102, 32, 51, 32, 49, 50, 32, 33, 51, 124, 59, 52, 124, 124, 56] : List UInt8) then (if bt345.2.1 = 5 then ((reply_Rows.f k bt345.1 bt345.2.1 bt345.2.2.1).bind fun t368 => (if t368.toList = ([114, 111, 119, 115, 32, 53, 32, 51, 124, 124, 55] : List UInt8) then (if bt352.1 = 9 then ((reply_Stored.f 9).bind fun t369 => (if t369.toList = ([111, 107, 32, 57] : List UInt8) then ((reply_Error.f 7).bind fun t370 => (if t370.toList = ([101, 114, 114, 32, 108, 97, 116, 101] : List UInt8) then ((reply_Error.f 0).bind fun t371 => (if t371.toList = ([111, 107] : List UInt8) then ((reply_Error.f 99).bind fun t372 => (if t372.toList = ([101, 114, 114, 32, 101, 114, 114, 111, 114] : List UInt8) then ((reply_Sub.f 4).bind fun t373 => (if t373.toList = ([115, 117, 98, 32, 52] : List UInt8) then ((reply_Stat.f k (([1, (-2)] : List Int))).bind fun t377 => (some (t377.toList == ([115, 116, 97, 116, 32, 49, 32, 45, 50] : List UInt8)))) else (none))) else (none))) else (none))) else (none))) else (none))) else (none)) else (none))) else (none)) else (none))) else (none)) else (none)) else (none)) else (none)) else (none)) else (none)) else (none)) else (none)) else (none))))))
theorem w23_alive.mono : ∀ k, LeO (w23_alive.f k ) (w23_alive.f (k + 1) ) := by
 intro k
 unfold w23_alive.f
 exact lo
instance w23_alive.mI {k} : LeC (w23_alive.f k) (w23_alive.f (k + 1)) := ⟨w23_alive.mono _⟩
theorem w23_alive.calls (k : Nat)  (r : Bool) (w : World) (hL : LD w) (h : w23_alive.f k  = some r) :
 Calls Tryz.prog 7 #[] w fun e w' => e = .returned (.bool r) ∧ Below w.heap.size w w' := by
 have HL0 := Aside0.mk hL
 clear hL
 have hu36 := Tryz.underlying36
 have hu33 := Tryz.underlying33
 have HB := Aside0.mk (Below.refl w.heap.size w)
 have H : ((reply_ReadMessage.f k (⟨#[100, 105, 102, 102, 32, 51, 32, 49, 50, 32, 33, 51, 124, 59, 52, 124, 124, 56]⟩ : ByteArray)).bind fun bt334 => ((reply_ReadRows.f k (⟨#[114, 111, 119, 115, 32, 53, 32, 51, 124, 124, 55]⟩ : ByteArray)).bind fun bt345 => ((reply_ReadStored.f k (⟨#[111, 107, 32, 57]⟩ : ByteArray)).bind fun bt352 => ((reply_ReadStored.f k (⟨#[111, 107]⟩ : ByteArray)).bind fun bt354 => ((reply_ReadMessage.f k (⟨#[105, 109, 97, 103, 101, 32, 45, 49, 32, 53, 32, 45]⟩ : ByteArray)).bind fun bt356 => (if bt334.2.2.2.2.2 = 0 then (if bt345.2.2.2 = 0 then (if bt352.2 = 0 then (if bt354.2 = 2 then (if bt356.2.2.2.2.2 = 3 then (if bt334.1 = 2 then (if bt334.2.1 = 3 then (if bt334.2.2.1 = 12 then (if (bt334.2.2.2.2.1.length : Int) = 2 then ((reply_Message.f k bt334.1 bt334.2.1 bt334.2.2.1 bt334.2.2.2.1 bt334.2.2.2.2.1).bind fun t367 => (if t367.toList = ([100, 105, 102, 102, 32, 51, 32, 49, 50, 32, 33, 51, 124, 59, 52, 124, 124, 56] : List UInt8) then (if bt345.2.1 = 5 then ((reply_Rows.f k bt345.1 bt345.2.1 bt345.2.2.1).bind fun t368 => (if t368.toList = ([114, 111, 119, 115, 32, 53, 32, 51, 124, 124, 55] : List UInt8) then (if bt352.1 = 9 then ((reply_Stored.f 9).bind fun t369 => (if t369.toList = ([111, 107, 32, 57] : List UInt8) then ((reply_Error.f 7).bind fun t370 => (if t370.toList = ([101, 114, 114, 32, 108, 97, 116, 101] : List UInt8) then ((reply_Error.f 0).bind fun t371 => (if t371.toList = ([111, 107] : List UInt8) then ((reply_Error.f 99).bind fun t372 => (if t372.toList = ([101, 114, 114, 32, 101, 114, 114, 111, 114] : List UInt8) then ((reply_Sub.f 4).bind fun t373 => (if t373.toList = ([115, 117, 98, 32, 52] : List UInt8) then ((reply_Stat.f k (([1, (-2)] : List Int))).bind fun t377 => (some (t377.toList == ([115, 116, 97, 116, 32, 49, 32, 45, 50] : List UInt8)))) else (none))) else (none))) else (none))) else (none))) else (none))) else (none)) else (none))) else (none)) else (none))) else (none)) else (none)) else (none)) else (none)) else (none)) else (none)) else (none)) else (none)) else (none))))))) = some r := h
 clear h
 obtain ⟨⟨t334, t335, t336, t337, t340, t343⟩, A1, H⟩ := bs H
 try dsimp only at H
 obtain ⟨⟨t345, t346, t347, t350⟩, A2, H⟩ := bs H
 try dsimp only at H
 obtain ⟨⟨t352, t353⟩, A3, H⟩ := bs H
 try dsimp only at H
 obtain ⟨⟨t354, t355⟩, A4, H⟩ := bs H
 try dsimp only at H
 obtain ⟨⟨t356, t357, t358, t359, t362, t365⟩, A5, H⟩ := bs H
 try dsimp only at H
 by_cases c6 : t343 = 0
 ·
  rw [if_pos c6] at H
  have c6b0 : (t343 == 0) = true := beq_iff_eq.mpr c6
  have c6b1 : (t343 != 0) = false := bne_eq_false_iff_eq.mpr c6
  clear c6
  obtain ⟨c7, H⟩ := gd H
  have c7b0 : (t350 == 0) = true := beq_iff_eq.mpr c7
  have c7b1 : (t350 != 0) = false := bne_eq_false_iff_eq.mpr c7
  clear c7
  obtain ⟨c8, H⟩ := gd H
  have c8b0 : (t353 == 0) = true := beq_iff_eq.mpr c8
  have c8b1 : (t353 != 0) = false := bne_eq_false_iff_eq.mpr c8
  clear c8
  obtain ⟨c9, H⟩ := gd H
  have c9b0 : (t355 == 2) = true := beq_iff_eq.mpr c9
  have c9b1 : (t355 != 2) = false := bne_eq_false_iff_eq.mpr c9
  clear c9
  obtain ⟨c10, H⟩ := gd H
  have c10b0 : (t365 == 3) = true := beq_iff_eq.mpr c10
  have c10b1 : (t365 != 3) = false := bne_eq_false_iff_eq.mpr c10
  clear c10
  obtain ⟨c11, H⟩ := gd H
  have c11b0 : (t334 == 2) = true := beq_iff_eq.mpr c11
  have c11b1 : (t334 != 2) = false := bne_eq_false_iff_eq.mpr c11
  clear c11
  obtain ⟨c12, H⟩ := gd H
  have c12b0 : (t335 == 3) = true := beq_iff_eq.mpr c12
  have c12b1 : (t335 != 3) = false := bne_eq_false_iff_eq.mpr c12
  clear c12
  obtain ⟨c13, H⟩ := gd H
  have c13b0 : (t336 == 12) = true := beq_iff_eq.mpr c13
  have c13b1 : (t336 != 12) = false := bne_eq_false_iff_eq.mpr c13
  clear c13
  obtain ⟨c14, H⟩ := gd H
  have c14b0 : ((t340.length : Int) == 2) = true := beq_iff_eq.mpr c14
  have c14b1 : ((t340.length : Int) != 2) = false := bne_eq_false_iff_eq.mpr c14
  clear c14
  obtain ⟨t367, A15, H⟩ := bs H
  try dsimp only at H
  obtain ⟨c16, H⟩ := gd H
  have c16b0 : (t367.toList == ([100, 105, 102, 102, 32, 51, 32, 49, 50, 32, 33, 51, 124, 59, 52, 124, 124, 56] : List UInt8)) = true := beq_iff_eq.mpr c16
  have c16b1 : (t367.toList != ([100, 105, 102, 102, 32, 51, 32, 49, 50, 32, 33, 51, 124, 59, 52, 124, 124, 56] : List UInt8)) = false := bne_eq_false_iff_eq.mpr c16
  clear c16
  obtain ⟨c17, H⟩ := gd H
  have c17b0 : (t346 == 5) = true := beq_iff_eq.mpr c17
  have c17b1 : (t346 != 5) = false := bne_eq_false_iff_eq.mpr c17
  clear c17
  obtain ⟨t368, A18, H⟩ := bs H
  try dsimp only at H
  obtain ⟨c19, H⟩ := gd H
  have c19b0 : (t368.toList == ([114, 111, 119, 115, 32, 53, 32, 51, 124, 124, 55] : List UInt8)) = true := beq_iff_eq.mpr c19
  have c19b1 : (t368.toList != ([114, 111, 119, 115, 32, 53, 32, 51, 124, 124, 55] : List UInt8)) = false := bne_eq_false_iff_eq.mpr c19
  clear c19
  obtain ⟨c20, H⟩ := gd H
  have c20b0 : (t352 == 9) = true := beq_iff_eq.mpr c20
  have c20b1 : (t352 != 9) = false := bne_eq_false_iff_eq.mpr c20
  clear c20
  obtain ⟨t369, A21, H⟩ := bs H
  try dsimp only at H
  obtain ⟨c22, H⟩ := gd H
  have c22b0 : (t369.toList == ([111, 107, 32, 57] : List UInt8)) = true := beq_iff_eq.mpr c22
  have c22b1 : (t369.toList != ([111, 107, 32, 57] : List UInt8)) = false := bne_eq_false_iff_eq.mpr c22
  clear c22
  obtain ⟨t370, A23, H⟩ := bs H
  try dsimp only at H
  obtain ⟨c24, H⟩ := gd H
  have c24b0 : (t370.toList == ([101, 114, 114, 32, 108, 97, 116, 101] : List UInt8)) = true := beq_iff_eq.mpr c24
  have c24b1 : (t370.toList != ([101, 114, 114, 32, 108, 97, 116, 101] : List UInt8)) = false := bne_eq_false_iff_eq.mpr c24
  clear c24
  obtain ⟨t371, A25, H⟩ := bs H
  try dsimp only at H
  obtain ⟨c26, H⟩ := gd H
  have c26b0 : (t371.toList == ([111, 107] : List UInt8)) = true := beq_iff_eq.mpr c26
  have c26b1 : (t371.toList != ([111, 107] : List UInt8)) = false := bne_eq_false_iff_eq.mpr c26
  clear c26
  obtain ⟨t372, A27, H⟩ := bs H
  try dsimp only at H
  obtain ⟨c28, H⟩ := gd H
  have c28b0 : (t372.toList == ([101, 114, 114, 32, 101, 114, 114, 111, 114] : List UInt8)) = true := beq_iff_eq.mpr c28
  have c28b1 : (t372.toList != ([101, 114, 114, 32, 101, 114, 114, 111, 114] : List UInt8)) = false := bne_eq_false_iff_eq.mpr c28
  clear c28
  obtain ⟨t373, A29, H⟩ := bs H
  try dsimp only at H
  obtain ⟨c30, H⟩ := gd H
  have c30b0 : (t373.toList == ([115, 117, 98, 32, 52] : List UInt8)) = true := beq_iff_eq.mpr c30
  have c30b1 : (t373.toList != ([115, 117, 98, 32, 52] : List UInt8)) = false := bne_eq_false_iff_eq.mpr c30
  clear c30
  obtain ⟨y374, hy374⟩ : ∃ y_ : List Int, y_ = (([1, (-2)] : List Int)) := ⟨_, rfl⟩
  replace H : ((reply_Stat.f k y374).bind fun t377 => (some (t377.toList == ([115, 116, 97, 116, 32, 49, 32, 45, 50] : List UInt8)))) = some r := by first | (rw [hy374]; with_reducible exact H) | (have H2_ := (Option.bind_some _ _).symm.trans H; rw [hy374]; with_reducible exact H2_) | (have H2_ := (Option.bind_some _ _).symm.trans H; with_reducible exact H2_) | with_reducible exact H | (rw [hy374]; exact H) | exact H
  have Ny374 := Aside0.mk hy374
  clear hy374
  obtain ⟨t377, A31, H⟩ := bs H
  try dsimp only at H
  obtain rfl := Option.some.inj H
  go_enter Tryz.func7, Tryz.ntmps7
  go_wp2_with (first | (refine gL (some 12) rfl Tryz.func26 #[.string (⟨#[100, 105, 102, 102, 32, 51, 32, 49, 50, 32, 33, 51, 124, 59, 52, 124, 124, 56]⟩ : ByteArray)] ?_; (with_reducible refine (reply_ReadMessage.calls (hL := ld) k (⟨#[100, 105, 102, 102, 32, 51, 32, 49, 50, 32, 33, 51, 124, 59, 52, 124, 124, 56]⟩ : ByteArray) t334 t335 t336 t337 t340 t343 _ A1.out).mono ?_); rintro e w32 ⟨v338, v341, rfl, ho0, ho1, hb⟩; refine ⟨_, rfl, ?_⟩; have HO339 := Aside0.mk (Kd.R_lower ho0 (below_size (uW HB.out))); have HO342 := Aside0.mk (Kd.R_lower ho1 (below_size (uW HB.out))); replace HB := cW HB hb; (try clear hb); (try clear ho0); (try clear ho1)) | ((with_reducible refine gate_dst (N := 1) rfl ?_); (try (refine gate_guard (by rfl) ?_; dsimp only)); refine bx (N := 1) #[.int .i64 0, .int .i64 0, .int .i64 0, .slice none 0 0, .slice none 0 0] 36 ?_; intro gb344 hg w33 hbox hb; replace HO339 := cR HO339 hb; replace HO342 := cR HO342 hb; have BK344 := Aside0.mk (hbox); have GW344 := gw hg (uW HB.out); have GE344 := GW344; replace HB := cW HB hb; clear hb hbox hg; obtain ⟨hcz34_0, hcz34_1, hcz34_2, hcz34_3, hcz34_4, hfz34_0, hfz34_1, hfz34_2, hfz34_3, hfz34_4⟩ := z5 BK344; obtain ⟨Ao35, co35, eo35⟩ := Kd.R_slice HO339.out; subst eo35; obtain ⟨Ao36, co36, eo36⟩ := Kd.R_slice HO342.out; subst eo36) | ((with_reducible refine gate_store (t := 36) (p := 1) rfl ?_); refine store_event (t := 36) (p := 1) (v := ?vo_w37) (w1 := (((((w33.setCell ⟨gb344, 0, none⟩ (.int .i64 t334)).setCell ⟨gb344, 1, none⟩ (.int .i64 t335)).setCell ⟨gb344, 2, none⟩ (.int .i64 t336)).setCell ⟨gb344, 3, none⟩ (.slice Ao35 t337.length co35)).setCell ⟨gb344, 4, none⟩ (.slice Ao36 t340.length co36))) ?hg ?ho ?hn ?hr ?_; (case ho => rfl); (case hg => rfl); (case hn => rfl); (case hr => first | (go_simp; done) | (go_simp; rfl)); intro w37 hw; have n0_ : Aside0 (Kd.R k60 60 w37 w.heap.size (fun _ => True) (.slice Ao35 t337.length co35) t337) := ⟨(by rw [hw]; exact (by exact uR <| Kd.R_mono (Kd.R_far (p := ⟨gb344, 4, none⟩) (Kd.R_far (p := ⟨gb344, 3, none⟩) (Kd.R_far (p := ⟨gb344, 2, none⟩) (Kd.R_far (p := ⟨gb344, 1, none⟩) (Kd.R_far (p := ⟨gb344, 0, none⟩) (Kd.R_types HO339.out BK344.out (by decide)) (fun _ hk => hk.2) (.int .i64 t334)) (fun _ hk => hk.2) (.int .i64 t335)) (fun _ hk => hk.2) (.int .i64 t336)) (fun _ hk => hk.2) (.slice Ao35 t337.length co35)) (fun _ hk => hk.2) (.slice Ao36 t340.length co36)) (fun _ hk => trivial)))⟩; have n1_ : Aside0 (Kd.R k78 78 w37 w.heap.size (fun _ => True) (.slice Ao36 t340.length co36) t340) := ⟨(by rw [hw]; exact (by exact uR <| Kd.R_mono (Kd.R_far (p := ⟨gb344, 4, none⟩) (Kd.R_far (p := ⟨gb344, 3, none⟩) (Kd.R_far (p := ⟨gb344, 2, none⟩) (Kd.R_far (p := ⟨gb344, 1, none⟩) (Kd.R_far (p := ⟨gb344, 0, none⟩) (Kd.R_types HO342.out BK344.out (by decide)) (fun _ hk => hk.2) (.int .i64 t334)) (fun _ hk => hk.2) (.int .i64 t335)) (fun _ hk => hk.2) (.int .i64 t336)) (fun _ hk => hk.2) (.slice Ao35 t337.length co35)) (fun _ hk => hk.2) (.slice Ao36 t340.length co36)) (fun _ hk => trivial)))⟩; have n2_ : Aside0 (w37.heap[gb344]? = some (.cells #[.int .i64 t334, .int .i64 t335, .int .i64 t336, .slice Ao35 t337.length co35, .slice Ao36 t340.length co36] 36 (0, 0))) := ⟨(by rw [hw]; exact (by (with_reducible repeat (first | refine blk_drewN ?_ _ | refine blk_drew ?_ | refine blk_alloc ?_ _)); refine blk_put (cs := #[.int .i64 t334, .int .i64 t335, .int .i64 t336, .slice Ao35 t337.length co35, .slice none 0 0]) ?_ 4 _ rfl; (with_reducible repeat (first | refine blk_drewN ?_ _ | refine blk_drew ?_ | refine blk_alloc ?_ _)); refine blk_put (cs := #[.int .i64 t334, .int .i64 t335, .int .i64 t336, .slice none 0 0, .slice none 0 0]) ?_ 3 _ rfl; (with_reducible repeat (first | refine blk_drewN ?_ _ | refine blk_drew ?_ | refine blk_alloc ?_ _)); refine blk_put (cs := #[.int .i64 t334, .int .i64 t335, .int .i64 0, .slice none 0 0, .slice none 0 0]) ?_ 2 _ rfl; (with_reducible repeat (first | refine blk_drewN ?_ _ | refine blk_drew ?_ | refine blk_alloc ?_ _)); refine blk_put (cs := #[.int .i64 t334, .int .i64 0, .int .i64 0, .slice none 0 0, .slice none 0 0]) ?_ 1 _ rfl; (with_reducible repeat (first | refine blk_drewN ?_ _ | refine blk_drew ?_ | refine blk_alloc ?_ _)); refine blk_put (cs := #[.int .i64 0, .int .i64 0, .int .i64 0, .slice none 0 0, .slice none 0 0]) ?_ 0 _ rfl; exact uB <| BK344.out))⟩; have n3_ : Aside0 (Below w.heap.size w w37) := ⟨(by rw [hw]; exact bl)⟩; clear hw; clear HO339; clear HO342; clear BK344; clear HB; have HO339 := n0_; have HO342 := n1_; have BK344 := n2_; have HB := n3_; clear n0_ n1_ n2_ n3_) | (refine gL (some 16) rfl Tryz.func24 #[.string (⟨#[114, 111, 119, 115, 32, 53, 32, 51, 124, 124, 55]⟩ : ByteArray)] ?_; (with_reducible refine (reply_ReadRows.calls (hL := ld) k (⟨#[114, 111, 119, 115, 32, 53, 32, 51, 124, 124, 55]⟩ : ByteArray) t345 t346 t347 t350 _ A2.out).mono ?_); rintro e w38 ⟨v348, rfl, ho0, hb⟩; refine ⟨_, rfl, ?_⟩; replace HO342 := cR HO342 hb; have HO349 := Aside0.mk (Kd.R_lower (Kd.R_new' ho0 (Kd.R_lt (uR HO339.out))) (below_size bl)); replace HO339 := Aside0.mk (Kd.R_elder' (uR HO339.out) (Kd.R_base ho0) hb); replace BK344 := cB BK344 hb; replace HB := Aside0.mk (below_step bl hb); (try clear hb); (try clear ho0)) | ((with_reducible refine gate_dst (N := 3) rfl ?_); (try (refine gate_guard (by rfl) ?_; dsimp only)); refine bx (N := 3) #[.int .i64 0, .int .i64 0, .slice none 0 0] 33 ?_; intro gb351 hg w39 hbox hb; replace HO339 := cR HO339 hb; replace HO342 := cR HO342 hb; replace HO349 := cR HO349 hb; have BK351 := Aside0.mk (hbox); have GW351 := gw hg bl; have GE351 := GW351; replace HB := Aside0.mk (below_step bl hb); have NB344_351 := Aside0.mk ((by rw [hg]; exact Nat.ne_of_lt (blk_lt (g := gb344) (o := .cells #[.int .i64 t334, .int .i64 t335, .int .i64 t336, .slice Ao35 t337.length co35, .slice Ao36 t340.length co36] 36 (0, 0)) (uB BK344.out)) : gb344 ≠ gb351)); have NB351_344 := Aside0.mk ((by rw [hg]; exact Nat.ne_of_gt (blk_lt (g := gb344) (o := .cells #[.int .i64 t334, .int .i64 t335, .int .i64 t336, .slice Ao35 t337.length co35, .slice Ao36 t340.length co36] 36 (0, 0)) (uB BK344.out)) : gb351 ≠ gb344)); replace BK344 := cB BK344 hb; clear hb hbox hg; have hnb40 := NB351_344.out; have hnc40 := NB344_351.out; obtain ⟨hcz41_0, hcz41_1, hcz41_2, hfz41_0, hfz41_1, hfz41_2⟩ := z3 BK351; obtain ⟨Ao42, co42, eo42⟩ := Kd.R_slice HO349.out; subst eo42) | (refine gL (some 20) rfl Tryz.func22 #[.string (⟨#[111, 107, 32, 57]⟩ : ByteArray)] ?_; (with_reducible refine (reply_ReadStored.calls (hL := ld) k (⟨#[111, 107, 32, 57]⟩ : ByteArray) t352 t353 _ A3.out).mono ?_); rintro e w43 ⟨rfl, hb⟩; refine ⟨_, rfl, ?_⟩; replace HO339 := Aside0.mk (Kd.R_below (by exact uR <| (Kd.R_mono (Kd.R_far (p := ⟨gb351, 2, none⟩) (Kd.R_far (p := ⟨gb351, 1, none⟩) (Kd.R_far (p := ⟨gb351, 0, none⟩) (Kd.R_types HO339.out BK351.out (by decide)) (fun _ hk => hk.2) (.int .i64 t345)) (fun _ hk => hk.2) (.int .i64 t346)) (fun _ hk => hk.2) (.slice Ao42 t347.length co42)) (fun _ h_ => h_.1))) hb); replace HO342 := Aside0.mk (Kd.R_below (by exact uR <| (Kd.R_mono (Kd.R_far (p := ⟨gb351, 2, none⟩) (Kd.R_far (p := ⟨gb351, 1, none⟩) (Kd.R_far (p := ⟨gb351, 0, none⟩) (Kd.R_types HO342.out BK351.out (by decide)) (fun _ hk => hk.2) (.int .i64 t345)) (fun _ hk => hk.2) (.int .i64 t346)) (fun _ hk => hk.2) (.slice Ao42 t347.length co42)) (fun _ h_ => h_.1))) hb); replace HO349 := Aside0.mk (Kd.R_below (by exact uR <| (Kd.R_mono (Kd.R_far (p := ⟨gb351, 2, none⟩) (Kd.R_far (p := ⟨gb351, 1, none⟩) (Kd.R_far (p := ⟨gb351, 0, none⟩) (Kd.R_types HO349.out BK351.out (by decide)) (fun _ hk => hk.2) (.int .i64 t345)) (fun _ hk => hk.2) (.int .i64 t346)) (fun _ hk => hk.2) (.slice Ao42 t347.length co42)) (fun _ h_ => h_.1))) hb); replace BK344 := Aside0.mk (blk_below (g := gb344) (o := .cells #[.int .i64 t334, .int .i64 t335, .int .i64 t336, .slice Ao35 t337.length co35, .slice Ao36 t340.length co36] 36 (0, 0)) (by (with_reducible repeat (first | refine blk_drewN ?_ _ | refine blk_drew ?_ | refine blk_alloc ?_ _)); refine blk_far ?_ NB344_351.out _; (with_reducible repeat (first | refine blk_drewN ?_ _ | refine blk_drew ?_ | refine blk_alloc ?_ _)); refine blk_far ?_ NB344_351.out _; (with_reducible repeat (first | refine blk_drewN ?_ _ | refine blk_drew ?_ | refine blk_alloc ?_ _)); refine blk_far ?_ NB344_351.out _; exact uB <| BK344.out) hb); replace BK351 := Aside0.mk (blk_below (g := gb351) (o := .cells #[.int .i64 t345, .int .i64 t346, .slice Ao42 t347.length co42] 33 (0, 0)) (by (with_reducible repeat (first | refine blk_drewN ?_ _ | refine blk_drew ?_ | refine blk_alloc ?_ _)); refine blk_put (cs := #[.int .i64 t345, .int .i64 t346, .slice none 0 0]) ?_ 2 _ rfl; (with_reducible repeat (first | refine blk_drewN ?_ _ | refine blk_drew ?_ | refine blk_alloc ?_ _)); refine blk_put (cs := #[.int .i64 t345, .int .i64 0, .slice none 0 0]) ?_ 1 _ rfl; (with_reducible repeat (first | refine blk_drewN ?_ _ | refine blk_drew ?_ | refine blk_alloc ?_ _)); refine blk_put (cs := #[.int .i64 0, .int .i64 0, .slice none 0 0]) ?_ 0 _ rfl; exact uB <| BK351.out) hb); replace HB := Aside0.mk (below_step bl hb); (try clear hb)) | (refine gL (some 24) rfl Tryz.func22 #[.string (⟨#[111, 107]⟩ : ByteArray)] ?_; (with_reducible refine (reply_ReadStored.calls (hL := ld) k (⟨#[111, 107]⟩ : ByteArray) t354 t355 _ A4.out).mono ?_); rintro e w44 ⟨rfl, hb⟩; refine ⟨_, rfl, ?_⟩; replace HO339 := cR HO339 hb; replace HO342 := cR HO342 hb; replace HO349 := cR HO349 hb; replace BK344 := cB BK344 hb; replace BK351 := cB BK351 hb; replace HB := Aside0.mk (below_step bl hb); (try clear hb)) | (refine gL (some 28) rfl Tryz.func26 #[.string (⟨#[105, 109, 97, 103, 101, 32, 45, 49, 32, 53, 32, 45]⟩ : ByteArray)] ?_; (with_reducible refine (reply_ReadMessage.calls (hL := ld) k (⟨#[105, 109, 97, 103, 101, 32, 45, 49, 32, 53, 32, 45]⟩ : ByteArray) t356 t357 t358 t359 t362 t365 _ A5.out).mono ?_); rintro e w45 ⟨v360, v363, rfl, ho0, ho1, hb⟩; refine ⟨_, rfl, ?_⟩; have HO361 := Aside0.mk (Kd.R_lower (Kd.R_new' (Kd.R_new' ho0 (Kd.R_lt (uR HO339.out))) (Kd.R_lt (uR HO349.out))) (below_size bl)); replace HO339 := Aside0.mk (Kd.R_elder' (uR HO339.out) (Kd.R_base ho0) hb); replace HO349 := Aside0.mk (Kd.R_elder' (uR HO349.out) (Kd.R_base ho0) hb); have HO364 := Aside0.mk (Kd.R_lower (Kd.R_new' ho1 (Kd.R_lt (uR HO342.out))) (below_size bl)); replace HO342 := Aside0.mk (Kd.R_elder' (uR HO342.out) (Kd.R_base ho1) hb); replace BK344 := cB BK344 hb; replace BK351 := cB BK351 hb; replace HB := Aside0.mk (below_step bl hb); (try clear hb); (try clear ho0); (try clear ho1)) | ((with_reducible refine gate_dst (N := 9) rfl ?_); (try (refine gate_guard (by rfl) ?_; dsimp only)); refine bx (N := 9) #[.int .i64 0, .int .i64 0, .int .i64 0, .slice none 0 0, .slice none 0 0] 36 ?_; intro gb366 hg w46 hbox hb; replace HO339 := cR HO339 hb; replace HO342 := cR HO342 hb; replace HO349 := cR HO349 hb; replace HO361 := cR HO361 hb; replace HO364 := cR HO364 hb; have BK366 := Aside0.mk (hbox); have GW366 := gw hg bl; have GE366 := GW366; replace HB := Aside0.mk (below_step bl hb); have NB344_366 := Aside0.mk ((by rw [hg]; exact Nat.ne_of_lt (blk_lt (g := gb344) (o := .cells #[.int .i64 t334, .int .i64 t335, .int .i64 t336, .slice Ao35 t337.length co35, .slice Ao36 t340.length co36] 36 (0, 0)) (uB BK344.out)) : gb344 ≠ gb366)); have NB366_344 := Aside0.mk ((by rw [hg]; exact Nat.ne_of_gt (blk_lt (g := gb344) (o := .cells #[.int .i64 t334, .int .i64 t335, .int .i64 t336, .slice Ao35 t337.length co35, .slice Ao36 t340.length co36] 36 (0, 0)) (uB BK344.out)) : gb366 ≠ gb344)); replace BK344 := cB BK344 hb; have NB351_366 := Aside0.mk ((by rw [hg]; exact Nat.ne_of_lt (blk_lt (g := gb351) (o := .cells #[.int .i64 t345, .int .i64 t346, .slice Ao42 t347.length co42] 33 (0, 0)) (uB BK351.out)) : gb351 ≠ gb366)); have NB366_351 := Aside0.mk ((by rw [hg]; exact Nat.ne_of_gt (blk_lt (g := gb351) (o := .cells #[.int .i64 t345, .int .i64 t346, .slice Ao42 t347.length co42] 33 (0, 0)) (uB BK351.out)) : gb366 ≠ gb351)); replace BK351 := cB BK351 hb; clear hb hbox hg; have hnb47 := NB366_344.out; have hnc47 := NB344_366.out; have hnb48 := NB366_351.out; have hnc48 := NB351_366.out; obtain ⟨hcz49_0, hcz49_1, hcz49_2, hcz49_3, hcz49_4, hfz49_0, hfz49_1, hfz49_2, hfz49_3, hfz49_4⟩ := z5 BK366; obtain ⟨Ao50, co50, eo50⟩ := Kd.R_slice HO361.out; subst eo50; obtain ⟨Ao51, co51, eo51⟩ := Kd.R_slice HO364.out; subst eo51) | ((with_reducible refine gate_store (t := 36) (p := 9) rfl ?_); refine store_event (t := 36) (p := 9) (v := ?vo_w52) (w1 := (((((w46.setCell ⟨gb366, 0, none⟩ (.int .i64 t356)).setCell ⟨gb366, 1, none⟩ (.int .i64 t357)).setCell ⟨gb366, 2, none⟩ (.int .i64 t358)).setCell ⟨gb366, 3, none⟩ (.slice Ao50 t359.length co50)).setCell ⟨gb366, 4, none⟩ (.slice Ao51 t362.length co51))) ?hg ?ho ?hn ?hr ?_; (case ho => rfl); (case hg => rfl); (case hn => rfl); (case hr => first | (go_simp; done) | (go_simp; rfl)); intro w52 hw; have n0_ : Aside0 (Kd.R k60 60 w52 w.heap.size (fun k_ => some k_ ≠ (.slice Ao42 t347.length co42 : Value).ownBlock ∧ some k_ ≠ (.slice Ao50 t359.length co50 : Value).ownBlock) (.slice Ao35 t337.length co35) t337) := ⟨(by rw [hw]; exact (by exact uR <| Kd.R_mono (Kd.R_far (p := ⟨gb366, 4, none⟩) (Kd.R_far (p := ⟨gb366, 3, none⟩) (Kd.R_far (p := ⟨gb366, 2, none⟩) (Kd.R_far (p := ⟨gb366, 1, none⟩) (Kd.R_far (p := ⟨gb366, 0, none⟩) (Kd.R_types HO339.out BK366.out (by decide)) (fun _ hk => hk.2) (.int .i64 t356)) (fun _ hk => hk.2) (.int .i64 t357)) (fun _ hk => hk.2) (.int .i64 t358)) (fun _ hk => hk.2) (.slice Ao50 t359.length co50)) (fun _ hk => hk.2) (.slice Ao51 t362.length co51)) (fun _ hk => ⟨hk.1.1.2, hk.1.2⟩)))⟩; have n1_ : Aside0 (Kd.R k78 78 w52 w.heap.size (fun k_ => some k_ ≠ (.slice Ao51 t362.length co51 : Value).ownBlock) (.slice Ao36 t340.length co36) t340) := ⟨(by rw [hw]; exact (by exact uR <| Kd.R_mono (Kd.R_far (p := ⟨gb366, 4, none⟩) (Kd.R_far (p := ⟨gb366, 3, none⟩) (Kd.R_far (p := ⟨gb366, 2, none⟩) (Kd.R_far (p := ⟨gb366, 1, none⟩) (Kd.R_far (p := ⟨gb366, 0, none⟩) (Kd.R_types HO342.out BK366.out (by decide)) (fun _ hk => hk.2) (.int .i64 t356)) (fun _ hk => hk.2) (.int .i64 t357)) (fun _ hk => hk.2) (.int .i64 t358)) (fun _ hk => hk.2) (.slice Ao50 t359.length co50)) (fun _ hk => hk.2) (.slice Ao51 t362.length co51)) (fun _ hk => hk.1.2)))⟩; have n2_ : Aside0 (Kd.R k60 60 w52 w.heap.size (fun k_ => some k_ ≠ (.slice Ao35 t337.length co35 : Value).ownBlock ∧ some k_ ≠ (.slice Ao50 t359.length co50 : Value).ownBlock) (.slice Ao42 t347.length co42) t347) := ⟨(by rw [hw]; exact (by exact uR <| Kd.R_mono (Kd.R_far (p := ⟨gb366, 4, none⟩) (Kd.R_far (p := ⟨gb366, 3, none⟩) (Kd.R_far (p := ⟨gb366, 2, none⟩) (Kd.R_far (p := ⟨gb366, 1, none⟩) (Kd.R_far (p := ⟨gb366, 0, none⟩) (Kd.R_types HO349.out BK366.out (by decide)) (fun _ hk => hk.2) (.int .i64 t356)) (fun _ hk => hk.2) (.int .i64 t357)) (fun _ hk => hk.2) (.int .i64 t358)) (fun _ hk => hk.2) (.slice Ao50 t359.length co50)) (fun _ hk => hk.2) (.slice Ao51 t362.length co51)) (fun _ hk => ⟨hk.1.1.2, hk.1.2⟩)))⟩; have n3_ : Aside0 (Kd.R k60 60 w52 w.heap.size (fun k_ => some k_ ≠ (.slice Ao35 t337.length co35 : Value).ownBlock ∧ some k_ ≠ (.slice Ao42 t347.length co42 : Value).ownBlock) (.slice Ao50 t359.length co50) t359) := ⟨(by rw [hw]; exact (by exact uR <| Kd.R_mono (Kd.R_far (p := ⟨gb366, 4, none⟩) (Kd.R_far (p := ⟨gb366, 3, none⟩) (Kd.R_far (p := ⟨gb366, 2, none⟩) (Kd.R_far (p := ⟨gb366, 1, none⟩) (Kd.R_far (p := ⟨gb366, 0, none⟩) (Kd.R_types HO361.out BK366.out (by decide)) (fun _ hk => hk.2) (.int .i64 t356)) (fun _ hk => hk.2) (.int .i64 t357)) (fun _ hk => hk.2) (.int .i64 t358)) (fun _ hk => hk.2) (.slice Ao50 t359.length co50)) (fun _ hk => hk.2) (.slice Ao51 t362.length co51)) (fun _ hk => ⟨hk.1.1.2, hk.1.2⟩)))⟩; have n4_ : Aside0 (Kd.R k78 78 w52 w.heap.size (fun k_ => some k_ ≠ (.slice Ao36 t340.length co36 : Value).ownBlock) (.slice Ao51 t362.length co51) t362) := ⟨(by rw [hw]; exact (by exact uR <| Kd.R_mono (Kd.R_far (p := ⟨gb366, 4, none⟩) (Kd.R_far (p := ⟨gb366, 3, none⟩) (Kd.R_far (p := ⟨gb366, 2, none⟩) (Kd.R_far (p := ⟨gb366, 1, none⟩) (Kd.R_far (p := ⟨gb366, 0, none⟩) (Kd.R_types HO364.out BK366.out (by decide)) (fun _ hk => hk.2) (.int .i64 t356)) (fun _ hk => hk.2) (.int .i64 t357)) (fun _ hk => hk.2) (.int .i64 t358)) (fun _ hk => hk.2) (.slice Ao50 t359.length co50)) (fun _ hk => hk.2) (.slice Ao51 t362.length co51)) (fun _ hk => hk.1.2)))⟩; have n5_ : Aside0 (w52.heap[gb344]? = some (.cells #[.int .i64 t334, .int .i64 t335, .int .i64 t336, .slice Ao35 t337.length co35, .slice Ao36 t340.length co36] 36 (0, 0))) := ⟨(by rw [hw]; exact (by (with_reducible repeat (first | refine blk_drewN ?_ _ | refine blk_drew ?_ | refine blk_alloc ?_ _)); refine blk_far ?_ NB344_366.out _; (with_reducible repeat (first | refine blk_drewN ?_ _ | refine blk_drew ?_ | refine blk_alloc ?_ _)); refine blk_far ?_ NB344_366.out _; (with_reducible repeat (first | refine blk_drewN ?_ _ | refine blk_drew ?_ | refine blk_alloc ?_ _)); refine blk_far ?_ NB344_366.out _; (with_reducible repeat (first | refine blk_drewN ?_ _ | refine blk_drew ?_ | refine blk_alloc ?_ _)); refine blk_far ?_ NB344_366.out _; (with_reducible repeat (first | refine blk_drewN ?_ _ | refine blk_drew ?_ | refine blk_alloc ?_ _)); refine blk_far ?_ NB344_366.out _; exact uB <| BK344.out))⟩; have n6_ : Aside0 (w52.heap[gb351]? = some (.cells #[.int .i64 t345, .int .i64 t346, .slice Ao42 t347.length co42] 33 (0, 0))) := ⟨(by rw [hw]; exact (by (with_reducible repeat (first | refine blk_drewN ?_ _ | refine blk_drew ?_ | refine blk_alloc ?_ _)); refine blk_far ?_ NB351_366.out _; (with_reducible repeat (first | refine blk_drewN ?_ _ | refine blk_drew ?_ | refine blk_alloc ?_ _)); refine blk_far ?_ NB351_366.out _; (with_reducible repeat (first | refine blk_drewN ?_ _ | refine blk_drew ?_ | refine blk_alloc ?_ _)); refine blk_far ?_ NB351_366.out _; (with_reducible repeat (first | refine blk_drewN ?_ _ | refine blk_drew ?_ | refine blk_alloc ?_ _)); refine blk_far ?_ NB351_366.out _; (with_reducible repeat (first | refine blk_drewN ?_ _ | refine blk_drew ?_ | refine blk_alloc ?_ _)); refine blk_far ?_ NB351_366.out _; exact uB <| BK351.out))⟩; have n7_ : Aside0 (w52.heap[gb366]? = some (.cells #[.int .i64 t356, .int .i64 t357, .int .i64 t358, .slice Ao50 t359.length co50, .slice Ao51 t362.length co51] 36 (0, 0))) := ⟨(by rw [hw]; exact (by (with_reducible repeat (first | refine blk_drewN ?_ _ | refine blk_drew ?_ | refine blk_alloc ?_ _)); refine blk_put (cs := #[.int .i64 t356, .int .i64 t357, .int .i64 t358, .slice Ao50 t359.length co50, .slice none 0 0]) ?_ 4 _ rfl; (with_reducible repeat (first | refine blk_drewN ?_ _ | refine blk_drew ?_ | refine blk_alloc ?_ _)); refine blk_put (cs := #[.int .i64 t356, .int .i64 t357, .int .i64 t358, .slice none 0 0, .slice none 0 0]) ?_ 3 _ rfl; (with_reducible repeat (first | refine blk_drewN ?_ _ | refine blk_drew ?_ | refine blk_alloc ?_ _)); refine blk_put (cs := #[.int .i64 t356, .int .i64 t357, .int .i64 0, .slice none 0 0, .slice none 0 0]) ?_ 2 _ rfl; (with_reducible repeat (first | refine blk_drewN ?_ _ | refine blk_drew ?_ | refine blk_alloc ?_ _)); refine blk_put (cs := #[.int .i64 t356, .int .i64 0, .int .i64 0, .slice none 0 0, .slice none 0 0]) ?_ 1 _ rfl; (with_reducible repeat (first | refine blk_drewN ?_ _ | refine blk_drew ?_ | refine blk_alloc ?_ _)); refine blk_put (cs := #[.int .i64 0, .int .i64 0, .int .i64 0, .slice none 0 0, .slice none 0 0]) ?_ 0 _ rfl; exact uB <| BK366.out))⟩; have n8_ : Aside0 (Below w.heap.size w w52) := ⟨(by rw [hw]; exact bl)⟩; clear hw; clear HO339; clear HO342; clear HO349; clear HO361; clear HO364; clear BK344; clear BK351; clear BK366; clear HB; have HO339 := n0_; have HO342 := n1_; have HO349 := n2_; have HO361 := n3_; have HO364 := n4_; have BK344 := n5_; have BK351 := n6_; have BK366 := n7_; have HB := n8_; clear n0_ n1_ n2_ n3_ n4_ n5_ n6_ n7_ n8_; obtain ⟨hcz53_0, hcz53_1, hcz53_2, hcz53_3, hcz53_4, hfz53_0, hfz53_1, hfz53_2, hfz53_3, hfz53_4⟩ := z5 BK344) | (go_at_call 20; (with_reducible refine (reply_Message.calls (hL := ld) k t334 t335 t336 _ _ t337 _ _ t340 t367 _ ?side1 ?side2 ?side3 ?side4 A15.out).mono ?_); (case side1 => exact uC <| (Kd.R_reads' HO339.out).2.2); (case side2 => exact (Kd.R_reads' HO339.out).2.1); (case side3 => exact uC <| (Kd.R_reads' HO342.out).2.2); (case side4 => exact (Kd.R_reads' HO342.out).2.1); rintro e w54 ⟨rfl, hb⟩; replace HO339 := cR HO339 hb; replace HO342 := cR HO342 hb; replace HO349 := cR HO349 hb; replace HO361 := cR HO361 hb; replace HO364 := cR HO364 hb; replace BK344 := cB BK344 hb; replace BK351 := cB BK351 hb; replace BK366 := cB BK366 hb; replace HB := Aside0.mk (below_step bl hb); (try clear hb); obtain ⟨hcz55_0, hcz55_1, hcz55_2, hfz55_0, hfz55_1, hfz55_2⟩ := z3 BK351) | (go_at_call 18; (with_reducible refine (reply_Rows.calls (hL := ld) k t345 t346 _ _ t347 t368 _ ?side1 ?side2 A18.out).mono ?_); (case side1 => exact uC <| (Kd.R_reads' HO349.out).2.2); (case side2 => exact (Kd.R_reads' HO349.out).2.1); rintro e w56 ⟨rfl, hb⟩; replace HO339 := cR HO339 hb; replace HO342 := cR HO342 hb; replace HO349 := cR HO349 hb; replace HO361 := cR HO361 hb; replace HO364 := cR HO364 hb; replace BK344 := cB BK344 hb; replace BK351 := cB BK351 hb; replace BK366 := cB BK366 hb; replace HB := Aside0.mk (below_step bl hb); (try clear hb)) | (go_at_call 10; (with_reducible refine (reply_Stored.calls (hL := ld) 9 t369 _ A21.out).mono ?_); rintro e w57 ⟨rfl, hb⟩; replace HO339 := cR HO339 hb; replace HO342 := cR HO342 hb; replace HO349 := cR HO349 hb; replace HO361 := cR HO361 hb; replace HO364 := cR HO364 hb; replace BK344 := cB BK344 hb; replace BK351 := cB BK351 hb; replace BK366 := cB BK366 hb; replace HB := Aside0.mk (below_step bl hb); (try clear hb)) | (go_at_call 8; (with_reducible refine (reply_Error.calls (hL := ld) 7 t370 _ A23.out).mono ?_); rintro e w58 ⟨rfl, hb⟩; replace HO339 := cR HO339 hb; replace HO342 := cR HO342 hb; replace HO349 := cR HO349 hb; replace HO361 := cR HO361 hb; replace HO364 := cR HO364 hb; replace BK344 := cB BK344 hb; replace BK351 := cB BK351 hb; replace BK366 := cB BK366 hb; replace HB := Aside0.mk (below_step bl hb); (try clear hb)) | (go_at_call 8; (with_reducible refine (reply_Error.calls (hL := ld) 0 t371 _ A25.out).mono ?_); rintro e w59 ⟨rfl, hb⟩; replace HO339 := cR HO339 hb; replace HO342 := cR HO342 hb; replace HO349 := cR HO349 hb; replace HO361 := cR HO361 hb; replace HO364 := cR HO364 hb; replace BK344 := cB BK344 hb; replace BK351 := cB BK351 hb; replace BK366 := cB BK366 hb; replace HB := Aside0.mk (below_step bl hb); (try clear hb)) | (go_at_call 8; (with_reducible refine (reply_Error.calls (hL := ld) 99 t372 _ A27.out).mono ?_); rintro e w60 ⟨rfl, hb⟩; replace HO339 := cR HO339 hb; replace HO342 := cR HO342 hb; replace HO349 := cR HO349 hb; replace HO361 := cR HO361 hb; replace HO364 := cR HO364 hb; replace BK344 := cB BK344 hb; replace BK351 := cB BK351 hb; replace BK366 := cB BK366 hb; replace HB := Aside0.mk (below_step bl hb); (try clear hb)) | (go_at_call 12; (with_reducible refine (reply_Sub.calls (hL := ld) 4 t373 _ A29.out).mono ?_); rintro e w61 ⟨rfl, hb⟩; replace HO339 := cR HO339 hb; replace HO342 := cR HO342 hb; replace HO349 := cR HO349 hb; replace HO361 := cR HO361 hb; replace HO364 := cR HO364 hb; replace BK344 := cB BK344 hb; replace BK351 := cB BK351 hb; replace BK366 := cB BK366 hb; replace HB := Aside0.mk (below_step bl hb); (try clear hb)) | ((with_reducible refine gate_dst (N := 110) rfl ?_); (try (refine gate_guard (by rfl) ?_; dsimp only)); refine Kd.R_lit (Kd.int .i64) _ 2 ?hg (N := 110) ?hd (xs := ([1, (-2)] : List Int)) (inner := [.int .i64 1, .int .i64 (-2)]) (ok := fun _ => True) (okp := fun _ => True) ?hr ?hp (fun _ hk => hk) trivial (Below.refl _ _) (Nat.le_refl _) (by simp) ?_; (case hd => rfl); (case hg => rfl); (case hr => first | (go_simp; done) | (go_simp; rfl)); (case hp => exact (Reps.one (show Kd.M (Kd.int .i64) _ _ _ 1 [.int .i64 1] from rfl) (Reps.one (show Kd.M (Kd.int .i64) _ _ _ (-2) [.int .i64 (-2)] from rfl) (Reps.none _ _)))); intro v375 w62 ho63 hb hg_ hnew_; clear hg_ hnew_; (first | rw [← Ny374.out] at ho63 | (simp only [Int.reduceToNat] at ho63; rw [← Ny374.out] at ho63)); replace HO339 := cR HO339 hb; replace HO342 := cR HO342 hb; replace HO349 := cR HO349 hb; replace HO361 := cR HO361 hb; replace HO364 := cR HO364 hb; have HO376 := Aside0.mk (Kd.R_lower ho63 (below_size bl)); replace BK344 := cB BK344 hb; replace BK351 := cB BK351 hb; replace BK366 := cB BK366 hb; replace HB := Aside0.mk (below_step bl hb); clear hb ho63; obtain ⟨Ao64, co64, eo64⟩ := Kd.R_slice HO376.out; subst eo64) | (go_at_call 14; (with_reducible refine (reply_Stat.calls (hL := ld) k _ _ y374 t377 _ ?side1 ?side2 A31.out).mono ?_); (case side1 => exact uC <| (Kd.R_reads' HO376.out).2.2); (case side2 => exact (Kd.R_reads' HO376.out).2.1); rintro e w65 ⟨rfl, hb⟩; replace HO339 := cR HO339 hb; replace HO342 := cR HO342 hb; replace HO349 := cR HO349 hb; replace HO361 := cR HO361 hb; replace HO364 := cR HO364 hb; replace HO376 := cR HO376 hb; replace BK344 := cB BK344 hb; replace BK351 := cB BK351 hb; replace BK366 := cB BK366 hb; replace HB := Aside0.mk (below_step bl hb); (try clear hb)))
  go_ret
  exact ⟨re_, bl⟩
 ·
  rw [if_neg c6] at H
  exact absurd H (by simp)
def r08_Great.l0 : Nat → List (S60) → Int → Option (Bool)
 | 0, _, _ => none
 | k + 1, x0, x3 => if x3 < (x0.length : Int) then (if 0 ≤ x3 then (if (((rd_T60 x0 x3).f1).size : Int) > 300 then (some true) else (r08_Great.l0 k x0 (wrap64 (x3 + 1)))) else (none)) else (some false)
def r08_Great.f (k : Nat) (l0 : List (S60)) : Option (Bool) := if (l0.length : Int) > 100 then (some true) else (r08_Great.l0 k l0 0)
theorem r08_Great.mono_l : ∀ k, (∀ y0 y1, LeC (r08_Great.l0 k y0 y1) (r08_Great.l0 (k + 1) y0 y1))
 | 0 => fun _ _ => ⟨fun r h => by simp [r08_Great.l0] at h⟩
 | k + 1 => by have ih0 := r08_Great.mono_l k; exact fun _ _ => by unfold r08_Great.l0; exact lm
theorem r08_Great.mono : ∀ a0 k, LeO (r08_Great.f k a0) (r08_Great.f (k + 1) a0) := by
 intro a0 k
 have ih0 := r08_Great.mono_l k
 unfold r08_Great.f
 exact lo
instance r08_Great.mI {a0 k} : LeC (r08_Great.f k a0) (r08_Great.f (k + 1) a0) := ⟨r08_Great.mono _ _⟩
theorem r08_Great.calls (k : Nat) (A0 : Option Addr) (c0 : Nat) (l0 : List (S60)) (r : Bool) (w : World) (hr0 : Kd.C k60 w A0 l0.length l0) (hc0 : l0.length ≤ c0) (h : r08_Great.f k l0 = some r) :
 Calls Tryz.prog 16 #[.slice A0 l0.length c0] w fun e w' => e = .returned (.bool r) ∧ Drawn0 w w' := by
 have HR0 := Aside0.mk hr0
 have HC0 := Aside0.mk hc0
 clear hr0 hc0
 have H : (if (l0.length : Int) > 100 then (some true) else (r08_Great.l0 k l0 0)) = some r := h
 clear h
 by_cases c2 : (l0.length : Int) > 100
 ·
  rw [if_pos c2] at H
  have c2b0 : decide (100 < (l0.length : Int)) = true := decide_eq_true c2
  have c2b1 : decide (100 < l0.length) = true := decide_eq_true (by omega)
  clear c2
  obtain rfl := Option.some.inj H
  go_enter Tryz.func16, Tryz.ntmps16
  go_wp2
  go_ret
  exact ⟨rs_, dr_⟩
 ·
  rw [if_neg c2] at H
  have c2b0 : decide (100 < (l0.length : Int)) = false := decide_eq_false c2
  have c2b1 : decide (100 < l0.length) = false := decide_eq_false (by omega)
  clear c2
  have H' := Aside0.mk H
  clear H
  go_enter Tryz.func16, Tryz.ntmps16
  go_wp2
  go_loopg [3] k (fun kq v3 w' => ∃ (x3_1 : Int), v3 = .int .i64 x3_1 ∧ Aside0 (r08_Great.l0 kq l0 x3_1 = some r) ∧ Aside0 (kq ≤ k) ∧ Drawn0 w w')
  case atStart => exact ⟨(0), rs_, H', ⟨Nat.le_refl _⟩, dr_⟩
  case round =>
   clear H'
   try clear c1
   try clear c2
   try clear c2b0
   try clear c2b1
   try clear p2
   obtain ⟨x3_1, rfl, HA, HK1, ⟨m1, rfl⟩⟩ := hrel
   cases gk with
   | zero => exact absurd HA.out (by simp [r08_Great.l0])
   | succ k1 =>
    have H := HA.out
    clear HA
    simp only [r08_Great.l0] at H
    by_cases c3 : x3_1 < (l0.length : Int)
    ·
     rw [if_pos c3] at H
     have c3b0 : decide (x3_1 < (l0.length : Int)) = true := decide_eq_true c3
     clear c3
     obtain ⟨c4b0, H⟩ := gdd H
     by_cases c5 : (((rd_T60 l0 x3_1).f1).size : Int) > 300
     ·
      rw [if_pos c5] at H
      have c5b0 : decide (300 < (((rd_T60 l0 x3_1).f1).size : Int)) = true := decide_eq_true c5
      have c5b1 : decide (300 < ((rd_T60 l0 x3_1).f1).size) = true := decide_eq_true (by omega)
      clear c5
      obtain rfl := Option.some.inj H
      have p378 : 0 ≤ (x3_1 : Int) := od
      have q378 : x3_1 < (l0.length : Int) := od
      obtain ⟨ad378, e378, hx378_0, hx378_1, hx378_2, hx378_3⟩ := at_T60 HR0.out x3_1 p378 q378
      cases e378
      replace p378 := eq_true p378
      replace q378 := eq_true q378
      go_wp2
      go_ret
      exact ⟨rs_, dr_⟩
     ·
      rw [if_neg c5] at H
      have c5b0 : decide (300 < (((rd_T60 l0 x3_1).f1).size : Int)) = false := decide_eq_false c5
      have c5b1 : decide (300 < ((rd_T60 l0 x3_1).f1).size) = false := decide_eq_false (by omega)
      clear c5
      have H' := Aside0.mk H
      clear H
      have p378 : 0 ≤ (x3_1 : Int) := od
      have q378 : x3_1 < (l0.length : Int) := od
      obtain ⟨ad378, e378, hx378_0, hx378_1, hx378_2, hx378_3⟩ := at_T60 HR0.out x3_1 p378 q378
      cases e378
      replace p378 := eq_true p378
      replace q378 := eq_true q378
      go_wp2
      go_roundg k1
      case measure => have := HK1.out; omega
      case rel => exact ⟨(wrap64 (x3_1 + 1)), rs_, H', ⟨by have := HK1.out; omega⟩, dr_⟩
    ·
     rw [if_neg c3] at H
     have c3b0 : decide (x3_1 < (l0.length : Int)) = false := decide_eq_false c3
     clear c3
     obtain rfl := Option.some.inj H
     go_wp2
     go_ret
     exact ⟨rs_, dr_⟩
def r09_Great.l0 : Nat → List (S78) → Int → Option (Bool)
 | 0, _, _ => none
 | k + 1, x0, x3 => if x3 < (x0.length : Int) then (if 0 ≤ x3 then (if (((rd_T78 x0 x3).f0.f1).size : Int) > 300 then (some true) else (r09_Great.l0 k x0 (wrap64 (x3 + 1)))) else (none)) else (some false)
def r09_Great.f (k : Nat) (l0 : List (S78)) : Option (Bool) := if (l0.length : Int) > 100 then (some true) else (r09_Great.l0 k l0 0)
theorem r09_Great.mono_l : ∀ k, (∀ y0 y1, LeC (r09_Great.l0 k y0 y1) (r09_Great.l0 (k + 1) y0 y1))
 | 0 => fun _ _ => ⟨fun r h => by simp [r09_Great.l0] at h⟩
 | k + 1 => by have ih0 := r09_Great.mono_l k; exact fun _ _ => by unfold r09_Great.l0; exact lm
theorem r09_Great.mono : ∀ a0 k, LeO (r09_Great.f k a0) (r09_Great.f (k + 1) a0) := by
 intro a0 k
 have ih0 := r09_Great.mono_l k
 unfold r09_Great.f
 exact lo
instance r09_Great.mI {a0 k} : LeC (r09_Great.f k a0) (r09_Great.f (k + 1) a0) := ⟨r09_Great.mono _ _⟩
theorem r09_Great.calls (k : Nat) (A0 : Option Addr) (c0 : Nat) (l0 : List (S78)) (r : Bool) (w : World) (hr0 : Kd.C k78 w A0 l0.length l0) (hc0 : l0.length ≤ c0) (h : r09_Great.f k l0 = some r) :
 Calls Tryz.prog 37 #[.slice A0 l0.length c0] w fun e w' => e = .returned (.bool r) ∧ Drawn0 w w' := by
 have HR0 := Aside0.mk hr0
 have HC0 := Aside0.mk hc0
 clear hr0 hc0
 have H : (if (l0.length : Int) > 100 then (some true) else (r09_Great.l0 k l0 0)) = some r := h
 clear h
 by_cases c2 : (l0.length : Int) > 100
 ·
  rw [if_pos c2] at H
  have c2b0 : decide (100 < (l0.length : Int)) = true := decide_eq_true c2
  have c2b1 : decide (100 < l0.length) = true := decide_eq_true (by omega)
  clear c2
  obtain rfl := Option.some.inj H
  go_enter Tryz.func37, Tryz.ntmps37
  go_wp2
  go_ret
  exact ⟨rs_, dr_⟩
 ·
  rw [if_neg c2] at H
  have c2b0 : decide (100 < (l0.length : Int)) = false := decide_eq_false c2
  have c2b1 : decide (100 < l0.length) = false := decide_eq_false (by omega)
  clear c2
  have H' := Aside0.mk H
  clear H
  go_enter Tryz.func37, Tryz.ntmps37
  go_wp2
  go_loopg [3] k (fun kq v3 w' => ∃ (x3_1 : Int), v3 = .int .i64 x3_1 ∧ Aside0 (r09_Great.l0 kq l0 x3_1 = some r) ∧ Aside0 (kq ≤ k) ∧ Drawn0 w w')
  case atStart => exact ⟨(0), rs_, H', ⟨Nat.le_refl _⟩, dr_⟩
  case round =>
   clear H'
   try clear c2
   try clear c2b0
   try clear c2b1
   try clear p2
   obtain ⟨x3_1, rfl, HA, HK1, ⟨m1, rfl⟩⟩ := hrel
   cases gk with
   | zero => exact absurd HA.out (by simp [r09_Great.l0])
   | succ k1 =>
    have H := HA.out
    clear HA
    simp only [r09_Great.l0] at H
    by_cases c3 : x3_1 < (l0.length : Int)
    ·
     rw [if_pos c3] at H
     have c3b0 : decide (x3_1 < (l0.length : Int)) = true := decide_eq_true c3
     clear c3
     obtain ⟨c4b0, H⟩ := gdd H
     by_cases c5 : (((rd_T78 l0 x3_1).f0.f1).size : Int) > 300
     ·
      rw [if_pos c5] at H
      have c5b0 : decide (300 < (((rd_T78 l0 x3_1).f0.f1).size : Int)) = true := decide_eq_true c5
      have c5b1 : decide (300 < ((rd_T78 l0 x3_1).f0.f1).size) = true := decide_eq_true (by omega)
      clear c5
      obtain rfl := Option.some.inj H
      have p379 : 0 ≤ (x3_1 : Int) := od
      have q379 : x3_1 < (l0.length : Int) := od
      obtain ⟨ad379, e379, hx379_0, hx379_1, hx379_2, hx379_3, hx379_4⟩ := at_T78 HR0.out x3_1 p379 q379
      cases e379
      replace p379 := eq_true p379
      replace q379 := eq_true q379
      go_wp2
      go_ret
      exact ⟨rs_, dr_⟩
     ·
      rw [if_neg c5] at H
      have c5b0 : decide (300 < (((rd_T78 l0 x3_1).f0.f1).size : Int)) = false := decide_eq_false c5
      have c5b1 : decide (300 < ((rd_T78 l0 x3_1).f0.f1).size) = false := decide_eq_false (by omega)
      clear c5
      have H' := Aside0.mk H
      clear H
      have p379 : 0 ≤ (x3_1 : Int) := od
      have q379 : x3_1 < (l0.length : Int) := od
      obtain ⟨ad379, e379, hx379_0, hx379_1, hx379_2, hx379_3, hx379_4⟩ := at_T78 HR0.out x3_1 p379 q379
      cases e379
      replace p379 := eq_true p379
      replace q379 := eq_true q379
      go_wp2
      go_roundg k1
      case measure => have := HK1.out; omega
      case rel => exact ⟨(wrap64 (x3_1 + 1)), rs_, H', ⟨by have := HK1.out; omega⟩, dr_⟩
    ·
     rw [if_neg c3] at H
     have c3b0 : decide (x3_1 < (l0.length : Int)) = false := decide_eq_false c3
     clear c3
     obtain rfl := Option.some.inj H
     go_wp2
     go_ret
     exact ⟨rs_, dr_⟩
def r19_Much.l0 : Nat → List (S36) → Int → Option (Bool)
 | 0, _, _ => none
 | k + 1, x0, x3 => if x3 < (x0.length : Int) then (if 0 ≤ x3 then ((r08_Great.f k ((rd_T36 x0 x3).f3)).bind fun t381 => (if t381 = true then (some true) else ((r09_Great.f k ((rd_T36 x0 x3).f4)).bind fun t383 => (if t383 = true then (some true) else (r19_Much.l0 k x0 (wrap64 (x3 + 1))))))) else (none)) else (some false)
def r19_Much.f (k : Nat) (l0 : List (S36)) : Option (Bool) := if (l0.length : Int) > 30 then (some true) else (r19_Much.l0 k l0 0)
theorem r19_Much.mono_l : ∀ k, (∀ y0 y1, LeC (r19_Much.l0 k y0 y1) (r19_Much.l0 (k + 1) y0 y1))
 | 0 => fun _ _ => ⟨fun r h => by simp [r19_Much.l0] at h⟩
 | k + 1 => by have ih0 := r19_Much.mono_l k; exact fun _ _ => by unfold r19_Much.l0; exact lm
theorem r19_Much.mono : ∀ a0 k, LeO (r19_Much.f k a0) (r19_Much.f (k + 1) a0) := by
 intro a0 k
 have ih0 := r19_Much.mono_l k
 unfold r19_Much.f
 exact lo
instance r19_Much.mI {a0 k} : LeC (r19_Much.f k a0) (r19_Much.f (k + 1) a0) := ⟨r19_Much.mono _ _⟩
theorem r19_Much.calls (k : Nat) (A0 : Option Addr) (c0 : Nat) (l0 : List (S36)) (r : Bool) (w : World) (hr0 : Kd.C k36 w A0 l0.length l0) (hc0 : l0.length ≤ c0) (h : r19_Much.f k l0 = some r) :
 Calls Tryz.prog 17 #[.slice A0 l0.length c0] w fun e w' => e = .returned (.bool r) ∧ Drawn0 w w' := by
 have HR0 := Aside0.mk hr0
 have HC0 := Aside0.mk hc0
 clear hr0 hc0
 have H : (if (l0.length : Int) > 30 then (some true) else (r19_Much.l0 k l0 0)) = some r := h
 clear h
 by_cases c2 : (l0.length : Int) > 30
 ·
  rw [if_pos c2] at H
  have c2b0 : decide (30 < (l0.length : Int)) = true := decide_eq_true c2
  have c2b1 : decide (30 < l0.length) = true := decide_eq_true (by omega)
  clear c2
  obtain rfl := Option.some.inj H
  go_enter Tryz.func17, Tryz.ntmps17
  go_wp2
  go_ret
  exact ⟨rs_, dr_⟩
 ·
  rw [if_neg c2] at H
  have c2b0 : decide (30 < (l0.length : Int)) = false := decide_eq_false c2
  have c2b1 : decide (30 < l0.length) = false := decide_eq_false (by omega)
  clear c2
  have H' := Aside0.mk H
  clear H
  go_enter Tryz.func17, Tryz.ntmps17
  go_wp2
  go_loopg [3] k (fun kq v3 w' => ∃ (x3_1 : Int), v3 = .int .i64 x3_1 ∧ Aside0 (r19_Much.l0 kq l0 x3_1 = some r) ∧ Aside0 (kq ≤ k) ∧ Drawn0 w w')
  case atStart => exact ⟨(0), rs_, H', ⟨Nat.le_refl _⟩, dr_⟩
  case round =>
   clear H'
   try clear c1
   try clear c2
   try clear c2b0
   try clear c2b1
   try clear p2
   obtain ⟨x3_1, rfl, HA, HK1, ⟨m1, rfl⟩⟩ := hrel
   cases gk with
   | zero => exact absurd HA.out (by simp [r19_Much.l0])
   | succ k1 =>
    have H := HA.out
    clear HA
    simp only [r19_Much.l0] at H
    by_cases c3 : x3_1 < (l0.length : Int)
    ·
     rw [if_pos c3] at H
     have c3b0 : decide (x3_1 < (l0.length : Int)) = true := decide_eq_true c3
     clear c3
     obtain ⟨c4b0, H⟩ := gdd H
     obtain ⟨t381, A5, H⟩ := bs H
     try dsimp only at H
     by_cases c6 : t381 = true
     ·
      subst c6
      rw [if_pos rfl] at H
      obtain rfl := Option.some.inj H
      have p380 : 0 ≤ (x3_1 : Int) := od
      have q380 : x3_1 < (l0.length : Int) := od
      obtain ⟨ad380, A380_3, c380_3, A380_4, c380_4, e380, hx380_0, hx380_1, hx380_2, hx380_3, hx380_4, hl380_3, hi380_3, hl380_4, hi380_4⟩ := at_T36 HR0.out x3_1 p380 q380
      cases e380
      have HR380_3 := Aside0.mk hi380_3
      have HC380_3 := Aside0.mk hl380_3
      clear hi380_3 hl380_3
      have HR380_4 := Aside0.mk hi380_4
      have HC380_4 := Aside0.mk hl380_4
      clear hi380_4 hl380_4
      replace p380 := eq_true p380
      replace q380 := eq_true q380
      go_wp2_with (first | (refine gL (some 18) rfl Tryz.func16 #[.slice A380_3 ((rd_T36 l0 x3_1).f3).length c380_3] ?_; (with_reducible refine (r08_Great.calls k1 _ _ ((rd_T36 l0 x3_1).f3) true _ ?side1 ?side2 A5.out).mono ?_); (case side1 => exact uC <| HR380_3.out); (case side2 => exact HC380_3.out); rintro e w' ⟨rfl, ⟨nd, rfl⟩⟩; refine ⟨_, rfl, ?_⟩))
      go_ret
      exact ⟨rs_, dr_⟩
     ·
      replace c6 := Bool.eq_false_iff.mpr c6
      subst c6
      rw [if_neg (show ¬ (false = true) by decide)] at H
      obtain ⟨t383, A7, H⟩ := bs H
      try dsimp only at H
      by_cases c8 : t383 = true
      ·
       subst c8
       rw [if_pos rfl] at H
       obtain rfl := Option.some.inj H
       have p380 : 0 ≤ (x3_1 : Int) := od
       have q380 : x3_1 < (l0.length : Int) := od
       obtain ⟨ad380, A380_3, c380_3, A380_4, c380_4, e380, hx380_0, hx380_1, hx380_2, hx380_3, hx380_4, hl380_3, hi380_3, hl380_4, hi380_4⟩ := at_T36 HR0.out x3_1 p380 q380
       cases e380
       have HR380_3 := Aside0.mk hi380_3
       have HC380_3 := Aside0.mk hl380_3
       clear hi380_3 hl380_3
       have HR380_4 := Aside0.mk hi380_4
       have HC380_4 := Aside0.mk hl380_4
       clear hi380_4 hl380_4
       replace p380 := eq_true p380
       replace q380 := eq_true q380
       go_wp2_with (first | (refine gL (some 18) rfl Tryz.func16 #[.slice A380_3 ((rd_T36 l0 x3_1).f3).length c380_3] ?_; (with_reducible refine (r08_Great.calls k1 _ _ ((rd_T36 l0 x3_1).f3) false _ ?side1 ?side2 A5.out).mono ?_); (case side1 => exact uC <| HR380_3.out); (case side2 => exact HC380_3.out); rintro e w' ⟨rfl, ⟨nd, rfl⟩⟩; refine ⟨_, rfl, ?_⟩; have p382 : 0 ≤ (x3_1 : Int) := od; have q382 : x3_1 < (l0.length : Int) := od; obtain ⟨ad382, A382_3, c382_3, A382_4, c382_4, e382, hx382_0, hx382_1, hx382_2, hx382_3, hx382_4, hl382_3, hi382_3, hl382_4, hi382_4⟩ := at_T36 HR0.out x3_1 p382 q382; obtain rfl : ad380 = ad382 := (by injection e382); have HR382_3 := Aside0.mk hi382_3; have HC382_3 := Aside0.mk hl382_3; clear hi382_3 hl382_3; have HR382_4 := Aside0.mk hi382_4; have HC382_4 := Aside0.mk hl382_4; clear hi382_4 hl382_4; replace p382 := eq_true p382; replace q382 := eq_true q382; have ea_ := Option.some.inj (hx380_3.symm.trans hx382_3); injection ea_ with ea_ en_ ec_; subst ea_; subst ec_; clear en_; have ea_ := Option.some.inj (hx380_4.symm.trans hx382_4); injection ea_ with ea_ en_ ec_; subst ea_; subst ec_; clear en_) | (go_at_call 37; (with_reducible refine (r09_Great.calls k1 _ _ ((rd_T36 l0 x3_1).f4) true _ ?side1 ?side2 A7.out).mono ?_); (case side1 => exact uC <| HR382_4.out); (case side2 => exact HC382_4.out); rintro e w' ⟨rfl, ⟨nd, rfl⟩⟩))
       go_ret
       exact ⟨rs_, dr_⟩
      ·
       replace c8 := Bool.eq_false_iff.mpr c8
       subst c8
       rw [if_neg (show ¬ (false = true) by decide)] at H
       have H' := Aside0.mk H
       clear H
       have p380 : 0 ≤ (x3_1 : Int) := od
       have q380 : x3_1 < (l0.length : Int) := od
       obtain ⟨ad380, A380_3, c380_3, A380_4, c380_4, e380, hx380_0, hx380_1, hx380_2, hx380_3, hx380_4, hl380_3, hi380_3, hl380_4, hi380_4⟩ := at_T36 HR0.out x3_1 p380 q380
       cases e380
       have HR380_3 := Aside0.mk hi380_3
       have HC380_3 := Aside0.mk hl380_3
       clear hi380_3 hl380_3
       have HR380_4 := Aside0.mk hi380_4
       have HC380_4 := Aside0.mk hl380_4
       clear hi380_4 hl380_4
       replace p380 := eq_true p380
       replace q380 := eq_true q380
       go_wp2_with (first | (refine gL (some 18) rfl Tryz.func16 #[.slice A380_3 ((rd_T36 l0 x3_1).f3).length c380_3] ?_; (with_reducible refine (r08_Great.calls k1 _ _ ((rd_T36 l0 x3_1).f3) false _ ?side1 ?side2 A5.out).mono ?_); (case side1 => exact uC <| HR380_3.out); (case side2 => exact HC380_3.out); rintro e w' ⟨rfl, ⟨nd, rfl⟩⟩; refine ⟨_, rfl, ?_⟩; have p382 : 0 ≤ (x3_1 : Int) := od; have q382 : x3_1 < (l0.length : Int) := od; obtain ⟨ad382, A382_3, c382_3, A382_4, c382_4, e382, hx382_0, hx382_1, hx382_2, hx382_3, hx382_4, hl382_3, hi382_3, hl382_4, hi382_4⟩ := at_T36 HR0.out x3_1 p382 q382; obtain rfl : ad380 = ad382 := (by injection e382); have HR382_3 := Aside0.mk hi382_3; have HC382_3 := Aside0.mk hl382_3; clear hi382_3 hl382_3; have HR382_4 := Aside0.mk hi382_4; have HC382_4 := Aside0.mk hl382_4; clear hi382_4 hl382_4; replace p382 := eq_true p382; replace q382 := eq_true q382; have ea_ := Option.some.inj (hx380_3.symm.trans hx382_3); injection ea_ with ea_ en_ ec_; subst ea_; subst ec_; clear en_; have ea_ := Option.some.inj (hx380_4.symm.trans hx382_4); injection ea_ with ea_ en_ ec_; subst ea_; subst ec_; clear en_) | (go_at_call 37; (with_reducible refine (r09_Great.calls k1 _ _ ((rd_T36 l0 x3_1).f4) false _ ?side1 ?side2 A7.out).mono ?_); (case side1 => exact uC <| HR382_4.out); (case side2 => exact HC382_4.out); rintro e w' ⟨rfl, ⟨nd, rfl⟩⟩))
       go_roundg k1
       case measure => have := HK1.out; omega
       case rel => exact ⟨(wrap64 (x3_1 + 1)), rs_, H', ⟨by have := HK1.out; omega⟩, dr_⟩
    ·
     rw [if_neg c3] at H
     have c3b0 : decide (x3_1 < (l0.length : Int)) = false := decide_eq_false c3
     clear c3
     obtain rfl := Option.some.inj H
     go_wp2
     go_ret
     exact ⟨rs_, dr_⟩
mutual
def r01_Number.j0 : Nat → Int → Int → Option (ByteArray)
 | 0, _, _ => none
 | k + 1, x0, x3 => r01_Number.l0 k x0 x3 (⟨#[]⟩ : ByteArray)
def r01_Number.l0 : Nat → Int → Int → ByteArray → Option (ByteArray)
 | 0, _, _, _ => none
 | k + 1, x0, x3, x4 => (some (([(wrap64 (48 + (wrap64 (-(Int.tmod x3 10))))) % 256] : List Int) : List Int)).bind fun y384 => (if (strOfNums y384).size + x4.size ≤ 9223372036854775807 then (if (wrap64 (Int.tdiv x3 10)) = 0 then (if x0 < 0 then (if 1 + ((strOfNums y384) ++ x4).size ≤ 9223372036854775807 then (some ((⟨#[45]⟩ : ByteArray) ++ ((strOfNums y384) ++ x4))) else (none)) else (some ((strOfNums y384) ++ x4))) else (r01_Number.l0 k x0 (wrap64 (Int.tdiv x3 10)) ((strOfNums y384) ++ x4))) else (none))
end
def r01_Number.f (k : Nat) (a0 : Int) : Option (ByteArray) := if a0 > 0 then (r01_Number.j0 k a0 (wrap64 (-a0))) else (r01_Number.j0 k a0 a0)
theorem r01_Number.mono_l : ∀ k, (∀ y0 y1, LeC (r01_Number.j0 k y0 y1) (r01_Number.j0 (k + 1) y0 y1)) ∧ (∀ y0 y1 y2, LeC (r01_Number.l0 k y0 y1 y2) (r01_Number.l0 (k + 1) y0 y1 y2))
 | 0 => ⟨fun _ _ => ⟨fun r h => by simp [r01_Number.j0] at h⟩, fun _ _ _ => ⟨fun r h => by simp [r01_Number.l0] at h⟩⟩
 | k + 1 => by obtain ⟨ih0, ih1⟩ := r01_Number.mono_l k; exact ⟨fun _ _ => by unfold r01_Number.j0; exact lm, fun _ _ _ => by unfold r01_Number.l0; exact lm⟩
theorem r01_Number.mono : ∀ a0 k, LeO (r01_Number.f k a0) (r01_Number.f (k + 1) a0) := by
 intro a0 k
 obtain ⟨ih0, ih1⟩ := r01_Number.mono_l k
 unfold r01_Number.f
 exact lo
instance r01_Number.mI {a0 k} : LeC (r01_Number.f k a0) (r01_Number.f (k + 1) a0) := ⟨r01_Number.mono _ _⟩
theorem r01_Number.calls (k : Nat) (a0 : Int) (r : ByteArray) (w : World) (h : r01_Number.f k a0 = some r) :
 Calls Tryz.prog 36 #[.int .i64 a0] w fun e w' => e = .returned (.string r) ∧ Below w.heap.size w w' := by
 have HB := Aside0.mk (Below.refl w.heap.size w)
 have H : (if a0 > 0 then (r01_Number.j0 k a0 (wrap64 (-a0))) else (r01_Number.j0 k a0 a0)) = some r := h
 clear h
 have HC2 := Aside0.mk H
 clear H
 go_enter Tryz.func36, Tryz.ntmps36
 go_upto_if 7 with (fail)
 go_cut [3] (fun v3 wc => ∃ (kq : Nat) (x3_1 : Int), v3 = .int .i64 x3_1 ∧ Aside0 (r01_Number.j0 kq a0 x3_1 = some r) ∧ Aside0 (kq ≤ k) ∧ Aside0 (Below w.heap.size w wc))
 case first =>
  have H := HC2.out
  clear HC2
  by_cases c3 : a0 > 0
  ·
   rw [if_pos c3] at H
   have c3b0 : decide (0 < a0) = true := decide_eq_true c3
   clear c3
   (first | rw [c3b0] | (simp only [i64_w, i32_w]; rw [c3b0]) | skip)
   have H' := Aside0.mk H
   clear H
   go_wp2
   go_meet
   case rel => exact ⟨_, (wrap64 (-a0)), rs_, H', ⟨by first | omega | exact Nat.le_refl _⟩, ⟨uW HB.out⟩⟩
  ·
   rw [if_neg c3] at H
   have c3b0 : decide (0 < a0) = false := decide_eq_false c3
   clear c3
   (first | rw [c3b0] | (simp only [i64_w, i32_w]; rw [c3b0]) | skip)
   have H' := Aside0.mk H
   clear H
   go_wp2
   go_meet
   case rel => exact ⟨_, (a0), rs_, H', ⟨by first | omega | exact Nat.le_refl _⟩, ⟨uW HB.out⟩⟩
 case rest =>
  clear HC2
  try clear p2
  try clear c3
  try clear c3b0
  obtain ⟨kq, x3_1, rfl, HA, HJ1, HB⟩ := hcut
  cases kq with
  | zero => exact absurd HA.out (by simp [r01_Number.j0])
  | succ kj1 =>
   have H := HA.out
   clear HA
   simp only [r01_Number.j0] at H
   have H' := Aside0.mk H
   clear H
   go_wp2
   go_loopg [3, 4] kj1 (fun kq v3 v4 w' => ∃ (x3_2 : Int) (x4_2 : ByteArray), v3 = .int .i64 x3_2 ∧ v4 = .string x4_2 ∧ Aside0 (r01_Number.l0 kq a0 x3_2 x4_2 = some r) ∧ Aside0 (kq ≤ kj1) ∧ Aside0 (Below w.heap.size w w'))
   case atStart => exact ⟨(x3_1), ((⟨#[]⟩ : ByteArray)), rs_, rs_, H', ⟨Nat.le_refl _⟩, ⟨uW HB.out⟩⟩
   case round =>
    clear H'
    try clear p2
    try clear c3
    try clear c3b0
    try clear p2
    obtain ⟨x3_2, x4_2, rfl, rfl, HA, HK2, HB⟩ := hrel
    cases gk with
    | zero => exact absurd HA.out (by simp [r01_Number.l0])
    | succ k2 =>
     have H := HA.out
     clear HA
     simp only [r01_Number.l0] at H
     obtain ⟨y384, Ny384, H⟩ := ys H
     try dsimp only at H
     by_cases c4 : (strOfNums y384).size + x4_2.size ≤ 9223372036854775807
     ·
      rw [if_pos c4] at H
      have c4b0 := eq_true c4
      have c4b1 : decide ((strOfNums y384).size + x4_2.size ≤ 9223372036854775807) = true := decide_eq_true c4
      try have c4b2 : (9223372036854775807 < (strOfNums y384).size + x4_2.size) = False := eq_false (Nat.not_lt.2 c4)
      by_cases c5 : (wrap64 (Int.tdiv x3_2 10)) = 0
      ·
       rw [if_pos c5] at H
       have c5b0 : ((wrap64 (Int.tdiv x3_2 10)) == 0) = true := beq_iff_eq.mpr c5
       have c5b1 : ((wrap64 (Int.tdiv x3_2 10)) != 0) = false := bne_eq_false_iff_eq.mpr c5
       clear c5
       by_cases c6 : a0 < 0
       ·
        rw [if_pos c6] at H
        have c6b0 : decide (a0 < 0) = true := decide_eq_true c6
        clear c6
        obtain ⟨c7, H⟩ := gd H
        have c7b0 := eq_true c7
        have c7b1 : decide (1 + ((strOfNums y384) ++ x4_2).size ≤ 9223372036854775807) = true := decide_eq_true c7
        try have c7b2 : (9223372036854775807 < 1 + ((strOfNums y384) ++ x4_2).size) = False := eq_false (Nat.not_lt.2 c7)
        try have c7b8 := c7b2
        try simp only [ByteArray.size_append] at c7b8
        obtain rfl := Option.some.inj H
        go_wp2_with (first | ((with_reducible refine gate_dst (N := 15) rfl ?_); refine Kd.R_lit (Kd.int .u8) _ 5 ?hg (N := 15) ?hd (xs := ([(wrap64 (48 + (wrap64 (-(Int.tmod x3_2 10))))) % 256] : List Int)) (inner := [.int .u8 ((wrap64 (48 + (wrap64 (-(Int.tmod x3_2 10))))) % 256)]) (ok := fun _ => True) (okp := fun _ => True) ?hr ?hp (fun _ hk => hk) trivial (Below.refl _ _) (Nat.le_refl _) (by simp) ?_; (case hd => rfl); (case hg => rfl); (case hr => first | (go_simp; done) | (go_simp; rfl)); (case hp => exact (Reps.one (show Kd.M (Kd.int .u8) _ _ _ ((wrap64 (48 + (wrap64 (-(Int.tmod x3_2 10))))) % 256) [.int .u8 ((wrap64 (48 + (wrap64 (-(Int.tmod x3_2 10))))) % 256)] from rfl) (Reps.none _ _))); intro v385 w8 ho9 hb hg_ hnew_; clear hg_ hnew_; (first | rw [← Ny384.out] at ho9 | (simp only [Int.reduceToNat] at ho9; rw [← Ny384.out] at ho9)); have HO386 := Aside0.mk (Kd.R_lower ho9 (below_size (uW HB.out))); replace HB := cW HB hb; clear hb ho9; have hcv10 := own_string (P := Tryz.prog) Tryz.underlying82 Tryz.underlying5 Tryz.underlying9 (Kd.own_of_R HO386.out)))
        go_ret
        exact ⟨re_, uW HB.out⟩
       ·
        rw [if_neg c6] at H
        have c6b0 : decide (a0 < 0) = false := decide_eq_false c6
        clear c6
        obtain rfl := Option.some.inj H
        go_wp2_with (first | ((with_reducible refine gate_dst (N := 15) rfl ?_); refine Kd.R_lit (Kd.int .u8) _ 5 ?hg (N := 15) ?hd (xs := ([(wrap64 (48 + (wrap64 (-(Int.tmod x3_2 10))))) % 256] : List Int)) (inner := [.int .u8 ((wrap64 (48 + (wrap64 (-(Int.tmod x3_2 10))))) % 256)]) (ok := fun _ => True) (okp := fun _ => True) ?hr ?hp (fun _ hk => hk) trivial (Below.refl _ _) (Nat.le_refl _) (by simp) ?_; (case hd => rfl); (case hg => rfl); (case hr => first | (go_simp; done) | (go_simp; rfl)); (case hp => exact (Reps.one (show Kd.M (Kd.int .u8) _ _ _ ((wrap64 (48 + (wrap64 (-(Int.tmod x3_2 10))))) % 256) [.int .u8 ((wrap64 (48 + (wrap64 (-(Int.tmod x3_2 10))))) % 256)] from rfl) (Reps.none _ _))); intro v385 w11 ho12 hb hg_ hnew_; clear hg_ hnew_; (first | rw [← Ny384.out] at ho12 | (simp only [Int.reduceToNat] at ho12; rw [← Ny384.out] at ho12)); have HO386 := Aside0.mk (Kd.R_lower ho12 (below_size (uW HB.out))); replace HB := cW HB hb; clear hb ho12; have hcv13 := own_string (P := Tryz.prog) Tryz.underlying82 Tryz.underlying5 Tryz.underlying9 (Kd.own_of_R HO386.out)))
        go_ret
        exact ⟨re_, uW HB.out⟩
      ·
       rw [if_neg c5] at H
       have c5b0 : ((wrap64 (Int.tdiv x3_2 10)) == 0) = false := beq_eq_false_iff_ne.mpr c5
       have c5b1 : ((wrap64 (Int.tdiv x3_2 10)) != 0) = true := bne_iff_ne.mpr c5
       have H' := Aside0.mk H
       clear H
       go_wp2_with (first | ((with_reducible refine gate_dst (N := 15) rfl ?_); refine Kd.R_lit (Kd.int .u8) _ 5 ?hg (N := 15) ?hd (xs := ([(wrap64 (48 + (wrap64 (-(Int.tmod x3_2 10))))) % 256] : List Int)) (inner := [.int .u8 ((wrap64 (48 + (wrap64 (-(Int.tmod x3_2 10))))) % 256)]) (ok := fun _ => True) (okp := fun _ => True) ?hr ?hp (fun _ hk => hk) trivial (Below.refl _ _) (Nat.le_refl _) (by simp) ?_; (case hd => rfl); (case hg => rfl); (case hr => first | (go_simp; done) | (go_simp; rfl)); (case hp => exact (Reps.one (show Kd.M (Kd.int .u8) _ _ _ ((wrap64 (48 + (wrap64 (-(Int.tmod x3_2 10))))) % 256) [.int .u8 ((wrap64 (48 + (wrap64 (-(Int.tmod x3_2 10))))) % 256)] from rfl) (Reps.none _ _))); intro v385 w14 ho15 hb hg_ hnew_; clear hg_ hnew_; (first | rw [← Ny384.out] at ho15 | (simp only [Int.reduceToNat] at ho15; rw [← Ny384.out] at ho15)); have HO386 := Aside0.mk (Kd.R_lower ho15 (below_size (uW HB.out))); replace HB := cW HB hb; clear hb ho15; have hcv16 := own_string (P := Tryz.prog) Tryz.underlying82 Tryz.underlying5 Tryz.underlying9 (Kd.own_of_R HO386.out)))
       go_roundg k2
       case measure => have := HJ1.out; have := HK2.out; omega
       case rel => exact ⟨(wrap64 (Int.tdiv x3_2 10)), ((strOfNums y384) ++ x4_2), rs_, rs_, H', ⟨by have := HJ1.out; have := HK2.out; omega⟩, ⟨uW HB.out⟩⟩
     ·
      rw [if_neg c4] at H
      exact absurd H (by simp)
def r01_Text.f (k : Nat) (a0_0 : Int) (a0_1 : Bool) : Option (ByteArray) := if a0_1 = true then ((r01_Number.f k a0_0).bind fun t388 => (if t388.size + 1 ≤ 9223372036854775807 then (some (t388 ++ (⟨#[33]⟩ : ByteArray))) else (none))) else ((r01_Number.f k a0_0).bind fun t389 => (some t389))
theorem r01_Text.mono : ∀ a0 a1 k, LeO (r01_Text.f k a0 a1) (r01_Text.f (k + 1) a0 a1) := by
 intro a0 a1 k
 unfold r01_Text.f
 exact lo
instance r01_Text.mI {a0 a1 k} : LeC (r01_Text.f k a0 a1) (r01_Text.f (k + 1) a0 a1) := ⟨r01_Text.mono _ _ _⟩
theorem r01_Text.calls (k : Nat) (a0_0 : Int) (a0_1 : Bool) (r : ByteArray) (w : World) (h : r01_Text.f k a0_0 a0_1 = some r) :
 Calls Tryz.prog 65 #[.agg #[.int .i64 a0_0, .bool a0_1]] w fun e w' => e = .returned (.string r) ∧ Below w.heap.size w w' := by
 have hu58 := Tryz.underlying58
 have HB := Aside0.mk (Below.refl w.heap.size w)
 have H : (if a0_1 = true then ((r01_Number.f k a0_0).bind fun t388 => (if t388.size + 1 ≤ 9223372036854775807 then (some (t388 ++ (⟨#[33]⟩ : ByteArray))) else (none))) else ((r01_Number.f k a0_0).bind fun t389 => (some t389))) = some r := h
 clear h
 by_cases c2 : a0_1 = true
 ·
  subst c2
  rw [if_pos rfl] at H
  obtain ⟨t388, A3, H⟩ := bs H
  try dsimp only at H
  obtain ⟨c4, H⟩ := gd H
  have c4b0 := eq_true c4
  have c4b1 : decide (t388.size + 1 ≤ 9223372036854775807) = true := decide_eq_true c4
  try have c4b2 : (9223372036854775807 < t388.size + 1) = False := eq_false (Nat.not_lt.2 c4)
  obtain rfl := Option.some.inj H
  go_enter Tryz.func65, Tryz.ntmps65
  go_wp2_with (first | ((with_reducible refine gate_dst (N := 1) rfl ?_); refine bx (N := 1) #[.int .i64 a0_0, .bool true] 58 ?_; intro gb387 hg w5 hbox hb; have BK387 := Aside0.mk (hbox); have GW387 := gw hg (uW HB.out); have GE387 := GW387; replace HB := cW HB hb; clear hb hbox hg; obtain ⟨hcz6_0, hcz6_1, hfz6_0, hfz6_1⟩ := z2 BK387) | (refine gL (some 7) rfl Tryz.func36 #[.int .i64 a0_0] ?_; (with_reducible refine (r01_Number.calls k a0_0 t388 _ A3.out).mono ?_); rintro e w7 ⟨rfl, hb⟩; refine ⟨_, rfl, ?_⟩; replace BK387 := cB BK387 hb; replace HB := Aside0.mk (below_step bl hb); (try clear hb)))
  go_ret
  exact ⟨re_, bl⟩
 ·
  replace c2 := Bool.eq_false_iff.mpr c2
  subst c2
  rw [if_neg (show ¬ (false = true) by decide)] at H
  obtain ⟨t389, A8, H⟩ := bs H
  try dsimp only at H
  obtain rfl := Option.some.inj H
  go_enter Tryz.func65, Tryz.ntmps65
  go_wp2_with (first | ((with_reducible refine gate_dst (N := 1) rfl ?_); refine bx (N := 1) #[.int .i64 a0_0, .bool false] 58 ?_; intro gb387 hg w9 hbox hb; have BK387 := Aside0.mk (hbox); have GW387 := gw hg (uW HB.out); have GE387 := GW387; replace HB := cW HB hb; clear hb hbox hg; obtain ⟨hcz10_0, hcz10_1, hfz10_0, hfz10_1⟩ := z2 BK387) | (refine gL (some 11) rfl Tryz.func36 #[.int .i64 a0_0] ?_; (with_reducible refine (r01_Number.calls k a0_0 t389 _ A8.out).mono ?_); rintro e w11 ⟨rfl, hb⟩; refine ⟨_, rfl, ?_⟩; replace BK387 := cB BK387 hb; replace HB := Aside0.mk (below_step bl hb); (try clear hb)))
  go_ret
  exact ⟨re_, bl⟩
def r02_Join.l0 : Nat → ByteArray → List ByteArray → ByteArray → Int → Option (ByteArray)
 | 0, _, _, _, _ => none
 | k + 1, x0, x1, x5, x6 => if x6 < (x1.length : Int) then (if x6 > 0 then (if x5.size + x0.size ≤ 9223372036854775807 then (if 0 ≤ x6 then (if (x5 ++ x0).size + (rdOf ByteArray.empty x1 x6).size ≤ 9223372036854775807 then (r02_Join.l0 k x0 x1 ((x5 ++ x0) ++ (rdOf ByteArray.empty x1 x6)) (wrap64 (x6 + 1))) else (none)) else (none)) else (none)) else (if 0 ≤ x6 then (if x5.size + (rdOf ByteArray.empty x1 x6).size ≤ 9223372036854775807 then (r02_Join.l0 k x0 x1 (x5 ++ (rdOf ByteArray.empty x1 x6)) (wrap64 (x6 + 1))) else (none)) else (none))) else (some x5)
def r02_Join.f (k : Nat) (a0 : ByteArray) (l1 : List ByteArray) : Option (ByteArray) := r02_Join.l0 k a0 l1 (⟨#[]⟩ : ByteArray) 0
theorem r02_Join.mono_l : ∀ k, (∀ y0 y1 y2 y3, LeC (r02_Join.l0 k y0 y1 y2 y3) (r02_Join.l0 (k + 1) y0 y1 y2 y3))
 | 0 => fun _ _ _ _ => ⟨fun r h => by simp [r02_Join.l0] at h⟩
 | k + 1 => by have ih0 := r02_Join.mono_l k; exact fun _ _ _ _ => by unfold r02_Join.l0; exact lm
theorem r02_Join.mono : ∀ a0 a1 k, LeO (r02_Join.f k a0 a1) (r02_Join.f (k + 1) a0 a1) := by
 intro a0 a1 k
 have ih0 := r02_Join.mono_l k
 unfold r02_Join.f
 exact lo
instance r02_Join.mI {a0 a1 k} : LeC (r02_Join.f k a0 a1) (r02_Join.f (k + 1) a0 a1) := ⟨r02_Join.mono _ _ _⟩
theorem r02_Join.calls (k : Nat) (a0 : ByteArray) (A1 : Option Addr) (c1 : Nat) (l1 : List ByteArray) (r : ByteArray) (w : World) (hr1 : Kd.C Kd.string w A1 l1.length l1) (hc1 : l1.length ≤ c1) (h : r02_Join.f k a0 l1 = some r) :
 Calls Tryz.prog 66 #[.string a0, .slice A1 l1.length c1] w fun e w' => e = .returned (.string r) ∧ Drawn0 w w' := by
 have HR1 := Aside0.mk hr1
 have HC1 := Aside0.mk hc1
 clear hr1 hc1
 have H : (r02_Join.l0 k a0 l1 (⟨#[]⟩ : ByteArray) 0) = some r := h
 clear h
 have H' := Aside0.mk H
 clear H
 go_enter Tryz.func66, Tryz.ntmps66
 go_wp2
 go_loopg [5, 6] k (fun kq v5 v6 w' => ∃ (x5_1 : ByteArray) (x6_1 : Int), v5 = .string x5_1 ∧ v6 = .int .i64 x6_1 ∧ Aside0 (r02_Join.l0 kq a0 l1 x5_1 x6_1 = some r) ∧ Aside0 (kq ≤ k) ∧ Drawn0 w w')
 case atStart => exact ⟨((⟨#[]⟩ : ByteArray)), (0), rs_, rs_, H', ⟨Nat.le_refl _⟩, dr_⟩
 case round =>
  clear H'
  try clear c1
  try clear p2
  obtain ⟨x5_1, x6_1, rfl, rfl, HA, HK1, ⟨m1, rfl⟩⟩ := hrel
  cases gk with
  | zero => exact absurd HA.out (by simp [r02_Join.l0])
  | succ k1 =>
   have H := HA.out
   clear HA
   simp only [r02_Join.l0] at H
   by_cases c3 : x6_1 < (l1.length : Int)
   ·
    rw [if_pos c3] at H
    have c3b0 : decide (x6_1 < (l1.length : Int)) = true := decide_eq_true c3
    clear c3
    by_cases c4 : x6_1 > 0
    ·
     rw [if_pos c4] at H
     have c4b0 : decide (0 < x6_1) = true := decide_eq_true c4
     clear c4
     obtain ⟨c5, H⟩ := gd H
     have c5b0 := eq_true c5
     have c5b1 : decide (x5_1.size + a0.size ≤ 9223372036854775807) = true := decide_eq_true c5
     try have c5b2 : (9223372036854775807 < x5_1.size + a0.size) = False := eq_false (Nat.not_lt.2 c5)
     obtain ⟨c6b0, H⟩ := gdd H
     obtain ⟨c7, H⟩ := gd H
     have c7b0 := eq_true c7
     have c7b1 : decide ((x5_1 ++ a0).size + (rdOf ByteArray.empty l1 x6_1).size ≤ 9223372036854775807) = true := decide_eq_true c7
     try have c7b2 : (9223372036854775807 < (x5_1 ++ a0).size + (rdOf ByteArray.empty l1 x6_1).size) = False := eq_false (Nat.not_lt.2 c7)
     try have c7b8 := c7b2
     try simp only [ByteArray.size_append] at c7b8
     have H' := Aside0.mk H
     clear H
     have p390 : 0 ≤ (x6_1 : Int) := od
     have q390 : x6_1 < (l1.length : Int) := od
     obtain ⟨ad390, e390, hx390_0⟩ := Kd.at_string HR1.out x6_1 p390 q390
     cases e390
     replace p390 := eq_true p390
     replace q390 := eq_true q390
     go_wp2
     go_roundg k1
     case measure => have := HK1.out; omega
     case rel => exact ⟨((x5_1 ++ a0) ++ (rdOf ByteArray.empty l1 x6_1)), (wrap64 (x6_1 + 1)), rs_, rs_, H', ⟨by have := HK1.out; omega⟩, dr_⟩
    ·
     rw [if_neg c4] at H
     have c4b0 : decide (0 < x6_1) = false := decide_eq_false c4
     clear c4
     obtain ⟨c8b0, H⟩ := gdd H
     obtain ⟨c9, H⟩ := gd H
     have c9b0 := eq_true c9
     have c9b1 : decide (x5_1.size + (rdOf ByteArray.empty l1 x6_1).size ≤ 9223372036854775807) = true := decide_eq_true c9
     try have c9b2 : (9223372036854775807 < x5_1.size + (rdOf ByteArray.empty l1 x6_1).size) = False := eq_false (Nat.not_lt.2 c9)
     have H' := Aside0.mk H
     clear H
     have p391 : 0 ≤ (x6_1 : Int) := od
     have q391 : x6_1 < (l1.length : Int) := od
     obtain ⟨ad391, e391, hx391_0⟩ := Kd.at_string HR1.out x6_1 p391 q391
     cases e391
     replace p391 := eq_true p391
     replace q391 := eq_true q391
     go_wp2
     go_roundg k1
     case measure => have := HK1.out; omega
     case rel => exact ⟨(x5_1 ++ (rdOf ByteArray.empty l1 x6_1)), (wrap64 (x6_1 + 1)), rs_, rs_, H', ⟨by have := HK1.out; omega⟩, dr_⟩
   ·
    rw [if_neg c3] at H
    have c3b0 : decide (x6_1 < (l1.length : Int)) = false := decide_eq_false c3
    clear c3
    obtain rfl := Option.some.inj H
    go_wp2
    go_ret
    exact ⟨rs_, dr_⟩
def r08_Text.l0 : Nat → List (S60) → List ByteArray → Int → Option (ByteArray)
 | 0, _, _, _ => none
 | k + 1, x0, x3, x4 => if x4 < (x0.length : Int) then (if 0 ≤ x4 then ((r01_Number.f k ((rd_T60 x0 x4).f0)).bind fun t393 => (if t393.size + 1 ≤ 9223372036854775807 then (if (t393 ++ (⟨#[124]⟩ : ByteArray)).size + ((rd_T60 x0 x4).f1).size ≤ 9223372036854775807 then (if ((t393 ++ (⟨#[124]⟩ : ByteArray)) ++ ((rd_T60 x0 x4).f1)).size + 1 ≤ 9223372036854775807 then ((r01_Text.f k ((rd_T60 x0 x4).f2.f0) ((rd_T60 x0 x4).f2.f1)).bind fun t396 => (if (((t393 ++ (⟨#[124]⟩ : ByteArray)) ++ ((rd_T60 x0 x4).f1)) ++ (⟨#[124]⟩ : ByteArray)).size + t396.size ≤ 9223372036854775807 then (if x3.length < 8796093022208 then (r08_Text.l0 k x0 (x3 ++ [(((t393 ++ (⟨#[124]⟩ : ByteArray)) ++ ((rd_T60 x0 x4).f1)) ++ (⟨#[124]⟩ : ByteArray)) ++ t396]) (wrap64 (x4 + 1))) else (none)) else (none))) else (none)) else (none)) else (none))) else (none)) else ((r02_Join.f k (⟨#[59]⟩ : ByteArray) x3).bind fun t400 => (some t400))
def r08_Text.f (k : Nat) (l0 : List (S60)) : Option (ByteArray) := if (l0.length : Int) = 0 then (some (⟨#[45]⟩ : ByteArray)) else (r08_Text.l0 k l0 ([] : List ByteArray) 0)
theorem r08_Text.mono_l : ∀ k, (∀ y0 y1 y2, LeC (r08_Text.l0 k y0 y1 y2) (r08_Text.l0 (k + 1) y0 y1 y2))
 | 0 => fun _ _ _ => ⟨fun r h => by simp [r08_Text.l0] at h⟩
 | k + 1 => by have ih0 := r08_Text.mono_l k; exact fun _ _ _ => by unfold r08_Text.l0; exact lm
theorem r08_Text.mono : ∀ a0 k, LeO (r08_Text.f k a0) (r08_Text.f (k + 1) a0) := by
 intro a0 k
 have ih0 := r08_Text.mono_l k
 unfold r08_Text.f
 exact lo
instance r08_Text.mI {a0 k} : LeC (r08_Text.f k a0) (r08_Text.f (k + 1) a0) := ⟨r08_Text.mono _ _⟩
def r08_Text.T7 : Bool × List (List Nat × List Nat) := (true, [([], []), ([], []), ([], []), ([1, 2], [1, 2]), ([3], [3]), ([4], [4]), ([5], [5]), ([6], [6]), ([], []), ([], []), ([8, 9], [8, 9]), ([10], [10]), ([11], [11]), ([7, 12], [7, 12]), ([13], [13]), ([], []), ([], []), ([15, 16], [15, 16]), ([17], [17]), ([18], [18]), ([19, 6], [19]), ([14, 20], [14, 20]), ([21], [21]), ([0, 22, 20], [0, 22]), ([23, 23, 0, 1, 2, 3, 4, 5, 6, 7, 8, 9, 10, 11, 12, 13, 14, 15, 16, 17, 18, 19, 20, 21, 22, 23], [0, 23])])
def r08_Text.B7 : List Nat := [0, 0, 0, 6, 14, 30, 62, 126, 0, 0, 768, 1792, 3840, 8190, 16382, 0, 0, 98304, 229376, 491520, 1015934, 2097150, 4194302, 8388607, 16777215]
theorem r08_Text.tab7 : rtab .any (opsOf Tryz.f39 7) = r08_Text.T7 := by kernel_rfl
theorem r08_Text.bits7 : waitsOk r08_Text.T7.2 r08_Text.B7 = true := by kernel_rfl
theorem r08_Text.calls (k : Nat) (A0 : Option Addr) (c0 : Nat) (l0 : List (S60)) (r : ByteArray) (w : World) (hr0 : Kd.C k60 w A0 l0.length l0) (hc0 : l0.length ≤ c0) (h : r08_Text.f k l0 = some r) :
 Calls Tryz.prog 39 #[.slice A0 l0.length c0] w fun e w' => e = .returned (.string r) ∧ Below w.heap.size w w' := by
 have hu58 := Tryz.underlying58
 have HR0 := Aside0.mk hr0
 have HC0 := Aside0.mk hc0
 clear hr0 hc0
 have HB := Aside0.mk (Below.refl w.heap.size w)
 have H : (if (l0.length : Int) = 0 then (some (⟨#[45]⟩ : ByteArray)) else (r08_Text.l0 k l0 ([] : List ByteArray) 0)) = some r := h
 clear h
 by_cases c2 : (l0.length : Int) = 0
 ·
  rw [if_pos c2] at H
  have c2b0 : ((l0.length : Int) == 0) = true := beq_iff_eq.mpr c2
  have c2b1 : ((l0.length : Int) != 0) = false := bne_eq_false_iff_eq.mpr c2
  clear c2
  obtain rfl := Option.some.inj H
  go_enter Tryz.func39, Tryz.ntmps39
  go_wp2
  go_ret
  exact ⟨re_, uW HB.out⟩
 ·
  rw [if_neg c2] at H
  have c2b0 : ((l0.length : Int) == 0) = false := beq_eq_false_iff_ne.mpr c2
  have c2b1 : ((l0.length : Int) != 0) = true := bne_iff_ne.mpr c2
  have c2b2 : ¬ (l0 = []) := fun h_ => c2 (by rw [h_]; rfl)
  have H' := Aside0.mk H
  clear H
  go_enter Tryz.func39, Tryz.ntmps39
  go_wp2
  go_loopg [3, 4] k (fun kq v3 v4 w' => ∃ (x3_1 : List ByteArray) (x4_1 : Int), v4 = .int .i64 x4_1 ∧ Aside0 (r08_Text.l0 kq l0 x3_1 x4_1 = some r) ∧ Aside0 (kq ≤ k) ∧ Aside0 (Kd.R Kd.string 9 w' w.heap.size (fun _ => True) v3 x3_1) ∧ Aside0 (Below w.heap.size w w'))
  case atStart => exact ⟨(([] : List ByteArray)), (0), rs_, H', ⟨Nat.le_refl _⟩, ⟨nl_⟩, ⟨uW HB.out⟩⟩
  case round =>
   clear H'
   try clear c2
   try clear c2b0
   try clear c2b1
   try clear c2b2
   try clear p2
   obtain ⟨x3_1, x4_1, rfl, HA, HK1, HO_3, HB⟩ := hrel
   cases gk with
   | zero => exact absurd HA.out (by simp [r08_Text.l0])
   | succ k1 =>
    have H := HA.out
    clear HA
    simp only [r08_Text.l0] at H
    by_cases c3 : x4_1 < (l0.length : Int)
    ·
     rw [if_pos c3] at H
     have c3b0 : decide (x4_1 < (l0.length : Int)) = true := decide_eq_true c3
     clear c3
     obtain ⟨c4b0, H⟩ := gdd H
     obtain ⟨t393, A5, H⟩ := bs H
     try dsimp only at H
     obtain ⟨c6, H⟩ := gd H
     have c6b0 := eq_true c6
     have c6b1 : decide (t393.size + 1 ≤ 9223372036854775807) = true := decide_eq_true c6
     try have c6b2 : (9223372036854775807 < t393.size + 1) = False := eq_false (Nat.not_lt.2 c6)
     obtain ⟨c7, H⟩ := gd H
     have c7b0 := eq_true c7
     have c7b1 : decide ((t393 ++ (⟨#[124]⟩ : ByteArray)).size + ((rd_T60 l0 x4_1).f1).size ≤ 9223372036854775807) = true := decide_eq_true c7
     try have c7b2 : (9223372036854775807 < (t393 ++ (⟨#[124]⟩ : ByteArray)).size + ((rd_T60 l0 x4_1).f1).size) = False := eq_false (Nat.not_lt.2 c7)
     try have c7b8 := c7b2
     try simp only [ByteArray.size_append] at c7b8
     try have c7b9 := c7b2
     try simp only [ByteArray.size_append, show (⟨#[124]⟩ : ByteArray).size = 1 from rfl] at c7b9
     obtain ⟨c8, H⟩ := gd H
     have c8b0 := eq_true c8
     have c8b1 : decide (((t393 ++ (⟨#[124]⟩ : ByteArray)) ++ ((rd_T60 l0 x4_1).f1)).size + 1 ≤ 9223372036854775807) = true := decide_eq_true c8
     try have c8b2 : (9223372036854775807 < ((t393 ++ (⟨#[124]⟩ : ByteArray)) ++ ((rd_T60 l0 x4_1).f1)).size + 1) = False := eq_false (Nat.not_lt.2 c8)
     try have c8b8 := c8b2
     try simp only [ByteArray.size_append] at c8b8
     try have c8b9 := c8b2
     try simp only [ByteArray.size_append, show (⟨#[124]⟩ : ByteArray).size = 1 from rfl] at c8b9
     obtain ⟨t396, A9, H⟩ := bs H
     try dsimp only at H
     obtain ⟨c10, H⟩ := gd H
     have c10b0 := eq_true c10
     have c10b1 : decide ((((t393 ++ (⟨#[124]⟩ : ByteArray)) ++ ((rd_T60 l0 x4_1).f1)) ++ (⟨#[124]⟩ : ByteArray)).size + t396.size ≤ 9223372036854775807) = true := decide_eq_true c10
     try have c10b2 : (9223372036854775807 < (((t393 ++ (⟨#[124]⟩ : ByteArray)) ++ ((rd_T60 l0 x4_1).f1)) ++ (⟨#[124]⟩ : ByteArray)).size + t396.size) = False := eq_false (Nat.not_lt.2 c10)
     try have c10b8 := c10b2
     try simp only [ByteArray.size_append] at c10b8
     try have c10b9 := c10b2
     try simp only [ByteArray.size_append, show (⟨#[124]⟩ : ByteArray).size = 1 from rfl] at c10b9
     obtain ⟨c11, H⟩ := gd H
     have LMc11 := Aside0.mk c11
     clear c11
     obtain ⟨y397, hy397⟩ : ∃ y_ : List ByteArray, y_ = (x3_1 ++ [(((t393 ++ (⟨#[124]⟩ : ByteArray)) ++ ((rd_T60 l0 x4_1).f1)) ++ (⟨#[124]⟩ : ByteArray)) ++ t396]) := ⟨_, rfl⟩
     replace H : (r08_Text.l0 k1 l0 y397 (wrap64 (x4_1 + 1))) = some r := by first | (rw [hy397]; with_reducible exact H) | (have H2_ := (Option.bind_some _ _).symm.trans H; rw [hy397]; with_reducible exact H2_) | (have H2_ := (Option.bind_some _ _).symm.trans H; with_reducible exact H2_) | with_reducible exact H | (rw [hy397]; exact H) | exact H
     have Ny397 := Aside0.mk hy397
     clear hy397
     have H' := Aside0.mk H
     clear H
     try go_wp2
     replace HO_3 := Aside0.mk (Kd.R_drew HO_3.out)
     replace HB := Aside0.mk (below_drew1 HB.out)
     have p392 : 0 ≤ (x4_1 : Int) := od
     have q392 : x4_1 < (l0.length : Int) := od
     obtain ⟨ad392, e392, hx392_0, hx392_1, hx392_2, hx392_3⟩ := at_T60 HR0.out x4_1 p392 q392
     have hw392_3 := hx392_3
     have hw392_2 := hx392_2
     have hw392_1 := hx392_1
     have hw392_0 := hx392_0
     cases e392
     replace hx392_0 := kc HB hx392_0
     replace hx392_1 := kc HB hx392_1
     replace hx392_2 := kc HB hx392_2
     replace hx392_3 := kc HB hx392_3
     replace p392 := eq_true p392
     replace q392 := eq_true q392
     have p394 : 0 ≤ (x4_1 : Int) := od
     have q394 : x4_1 < (l0.length : Int) := od
     obtain ⟨ad394, e394, hx394_0, hx394_1, hx394_2, hx394_3⟩ := at_T60 HR0.out x4_1 p394 q394
     have hw394_3 := hx394_3
     have hw394_2 := hx394_2
     have hw394_1 := hx394_1
     have hw394_0 := hx394_0
     obtain rfl : ad392 = ad394 := (by injection e394)
     replace hx394_0 := kc HB hx394_0
     replace hx394_1 := kc HB hx394_1
     replace hx394_2 := kc HB hx394_2
     replace hx394_3 := kc HB hx394_3
     replace p394 := eq_true p394
     replace q394 := eq_true q394
     have p395 : 0 ≤ (x4_1 : Int) := od
     have q395 : x4_1 < (l0.length : Int) := od
     obtain ⟨ad395, e395, hx395_0, hx395_1, hx395_2, hx395_3⟩ := at_T60 HR0.out x4_1 p395 q395
     have hw395_3 := hx395_3
     have hw395_2 := hx395_2
     have hw395_1 := hx395_1
     have hw395_0 := hx395_0
     obtain rfl : ad392 = ad395 := (by injection e395)
     replace hx395_0 := kc HB hx395_0
     replace hx395_1 := kc HB hx395_1
     replace hx395_2 := kc HB hx395_2
     replace hx395_3 := kc HB hx395_3
     replace p395 := eq_true p395
     replace q395 := eq_true q395
     refine start_ (n := 25) (S := fun w' => w'.cell? (ad392.add ((x4_1).toNat * 4)) = some (.int .i64 ((rd_T60 l0 x4_1).f0)) ∧ w'.cell? ⟨(ad392.add ((x4_1).toNat * 4)).block, (ad392.add ((x4_1).toNat * 4)).off + 1, none⟩ = some (.string ((rd_T60 l0 x4_1).f1)) ∧ w'.cell? ⟨(ad392.add ((x4_1).toNat * 4)).block, (ad392.add ((x4_1).toNat * 4)).off + 2, none⟩ = some (.int .i64 ((rd_T60 l0 x4_1).f2.f0)) ∧ w'.cell? ⟨(ad392.add ((x4_1).toNat * 4)).block, (ad392.add ((x4_1).toNat * 4)).off + 3, none⟩ = some (.bool ((rd_T60 l0 x4_1).f2.f1)) ∧ w'.cell? (ad392.add ((x4_1).toNat * 4)) = some (.int .i64 ((rd_T60 l0 x4_1).f0)) ∧ w'.cell? ⟨(ad392.add ((x4_1).toNat * 4)).block, (ad392.add ((x4_1).toNat * 4)).off + 1, none⟩ = some (.string ((rd_T60 l0 x4_1).f1)) ∧ w'.cell? ⟨(ad392.add ((x4_1).toNat * 4)).block, (ad392.add ((x4_1).toNat * 4)).off + 2, none⟩ = some (.int .i64 ((rd_T60 l0 x4_1).f2.f0)) ∧ w'.cell? ⟨(ad392.add ((x4_1).toNat * 4)).block, (ad392.add ((x4_1).toNat * 4)).off + 3, none⟩ = some (.bool ((rd_T60 l0 x4_1).f2.f1)) ∧ w'.cell? (ad392.add ((x4_1).toNat * 4)) = some (.int .i64 ((rd_T60 l0 x4_1).f0)) ∧ w'.cell? ⟨(ad392.add ((x4_1).toNat * 4)).block, (ad392.add ((x4_1).toNat * 4)).off + 1, none⟩ = some (.string ((rd_T60 l0 x4_1).f1)) ∧ w'.cell? ⟨(ad392.add ((x4_1).toNat * 4)).block, (ad392.add ((x4_1).toNat * 4)).off + 2, none⟩ = some (.int .i64 ((rd_T60 l0 x4_1).f2.f0)) ∧ w'.cell? ⟨(ad392.add ((x4_1).toNat * 4)).block, (ad392.add ((x4_1).toNat * 4)).off + 3, none⟩ = some (.bool ((rd_T60 l0 x4_1).f2.f1))) (ds := []) _ (by kernel_rfl) rfl rfl ⟨(kc HB hw392_0), (kc HB hw392_1), (kc HB hw392_2), (kc HB hw392_3), (kc HB hw394_0), (kc HB hw394_1), (kc HB hw394_2), (kc HB hw394_3), (kc HB hw395_0), (kc HB hw395_1), (kc HB hw395_2), (kc HB hw395_3)⟩ (fun hHeld => ?_); refine with_tabW r08_Text.tab7 r08_Text.bits7 (fun HT_ HW_ => ?_)
     generalize wr.drew = w12 at HO_3 HB hx392_0 hx392_1 hx392_2 hx392_3 hx394_0 hx394_1 hx394_2 hx394_3 hx395_0 hx395_1 hx395_2 hx395_3 hHeld ⊢
     refine p1 0 (some 14) ?_
     refine p1 1 (some 15) ?_
     refine p1 2 (some 16) ?_
     refine p1 3 (some 17) ?_
     refine p1 4 (some 18) ?_
     refine p1 8 (some 22) ?_
     refine p1 9 (some 23) ?_
     refine p1 10 (some 24) ?_
     refine p1 11 (some 25) ?_
     refine p1 15 (some 29) ?_
     refine p1 16 (some 30) ?_
     refine p1 17 (some 31) ?_
     refine p1 18 (some 32) ?_
     refine t1 5 (some 19) rfl rfl hHeld (Or.inl ⟨by rfl, by rintro w' ⟨s0, s1, s2, s3, s4, s5, s6, s7, s8, s9, s10, s11⟩; go_simp; with_reducible rfl⟩) ?_
     refine t1 12 (some 26) rfl rfl hHeld (Or.inl ⟨by rfl, by rintro w' ⟨s0, s1, s2, s3, s4, s5, s6, s7, s8, s9, s10, s11⟩; go_simp; with_reducible rfl⟩) ?_
     refine t1 19 (some 33) rfl rfl hHeld (Or.inl ⟨by rfl, by rintro w' ⟨s0, s1, s2, s3, s4, s5, s6, s7, s8, s9, s10, s11⟩; go_simp; with_reducible rfl⟩) ?_
     refine o1 6 (some 20) rfl rfl (fun K hK => ?_)
     refine gS Tryz.func36 #[.int .i64 ((rd_T60 l0 x4_1).f0)] ?_
     with_reducible refine (r01_Number.calls k1 ((rd_T60 l0 x4_1).f0) t393 _ A5.out).mono ?_
     rintro e w13 ⟨rfl, hb⟩
     refine ⟨_, rfl, ?_⟩
     replace HO_3 := cR HO_3 hb
     replace HB := cW HB hb
     (try clear hb)
     refine hK.out _ _ ⟨(kc HB hw392_0), (kc HB hw392_1), (kc HB hw392_2), (kc HB hw392_3), (kc HB hw394_0), (kc HB hw394_1), (kc HB hw394_2), (kc HB hw394_3), (kc HB hw395_0), (kc HB hw395_1), (kc HB hw395_2), (kc HB hw395_3)⟩ (fun hHeld => ?_)
     clear hK K
     refine norm_ (a' := ?_) ?_ ?_
     rotate_left
     ·
      show Act.put _ (some 20) _ = _
      simp only [Act.put, List.setIfInBounds_toArray, List.set_cons_zero, List.set_cons_succ, i64_w, i32_w]
      rfl
     refine p1 7 (some 21) ?_
     refine p1 13 (some 27) ?_
     refine p1 14 (some 28) ?_
     refine o1 20 (some 34) rfl rfl (fun K hK => ?_)
     refine gS Tryz.func65 #[.agg #[.int .i64 ((rd_T60 l0 x4_1).f2.f0), .bool ((rd_T60 l0 x4_1).f2.f1)]] ?_
     with_reducible refine (r01_Text.calls k1 ((rd_T60 l0 x4_1).f2.f0) ((rd_T60 l0 x4_1).f2.f1) t396 _ A9.out).mono ?_
     rintro e w14 ⟨rfl, hb⟩
     refine ⟨_, rfl, ?_⟩
     replace HO_3 := cR HO_3 hb
     replace HB := cW HB hb
     (try clear hb)
     refine hK.out _ _ ⟨(kc HB hw392_0), (kc HB hw392_1), (kc HB hw392_2), (kc HB hw392_3), (kc HB hw394_0), (kc HB hw394_1), (kc HB hw394_2), (kc HB hw394_3), (kc HB hw395_0), (kc HB hw395_1), (kc HB hw395_2), (kc HB hw395_3)⟩ (fun hHeld => ?_)
     clear hK K
     refine norm_ (a' := ?_) ?_ ?_
     rotate_left
     ·
      show Act.put _ (some 34) _ = _
      simp only [Act.put, List.setIfInBounds_toArray, List.set_cons_zero, List.set_cons_succ, i64_w, i32_w]
      rfl
     refine p1 21 (some 35) ?_
     refine o1 22 (some 36) rfl rfl (fun K hK => ?_)
     refine value_ (w1 := ?_) (v := ?_) (by rfl) rfl ?_ ?_
     rotate_left 2
     ·
      go_simp
      constructor
      ·
       rfl
      ·
       rfl
     refine hK.out _ _ ⟨(World.cell?_alloc_lt _ _ _ (World.block_lt_of_cell? _ _ ((kc HB hw392_0)))).trans ((kc HB hw392_0)), (World.cell?_alloc_lt _ _ _ (World.block_lt_of_cell? _ _ ((kc HB hw392_1)))).trans ((kc HB hw392_1)), (World.cell?_alloc_lt _ _ _ (World.block_lt_of_cell? _ _ ((kc HB hw392_2)))).trans ((kc HB hw392_2)), (World.cell?_alloc_lt _ _ _ (World.block_lt_of_cell? _ _ ((kc HB hw392_3)))).trans ((kc HB hw392_3)), (World.cell?_alloc_lt _ _ _ (World.block_lt_of_cell? _ _ ((kc HB hw394_0)))).trans ((kc HB hw394_0)), (World.cell?_alloc_lt _ _ _ (World.block_lt_of_cell? _ _ ((kc HB hw394_1)))).trans ((kc HB hw394_1)), (World.cell?_alloc_lt _ _ _ (World.block_lt_of_cell? _ _ ((kc HB hw394_2)))).trans ((kc HB hw394_2)), (World.cell?_alloc_lt _ _ _ (World.block_lt_of_cell? _ _ ((kc HB hw394_3)))).trans ((kc HB hw394_3)), (World.cell?_alloc_lt _ _ _ (World.block_lt_of_cell? _ _ ((kc HB hw395_0)))).trans ((kc HB hw395_0)), (World.cell?_alloc_lt _ _ _ (World.block_lt_of_cell? _ _ ((kc HB hw395_1)))).trans ((kc HB hw395_1)), (World.cell?_alloc_lt _ _ _ (World.block_lt_of_cell? _ _ ((kc HB hw395_2)))).trans ((kc HB hw395_2)), (World.cell?_alloc_lt _ _ _ (World.block_lt_of_cell? _ _ ((kc HB hw395_3)))).trans ((kc HB hw395_3))⟩ (fun hHeld => ?_)
     clear hK K
     refine norm_ (a' := ?_) ?_ ?_
     rotate_left
     ·
      show Act.put _ (some 36) _ = _
      simp only [Act.put, List.setIfInBounds_toArray, List.set_cons_zero, List.set_cons_succ, i64_w, i32_w]
      rfl
     refine o1 23 (some 37) rfl rfl (fun K hK => ?_)
     refine Kd.R_append_step Kd.string (w0 := w) w.heap.size (by rfl) (.tmp 14) (.tmp 36) 56 9 (.string ⟨#[]⟩) 16 rfl Tryz.underlying56 info9 rfl (by decide) (by omega) u3 x3_1 ((((t393 ++ (⟨#[124]⟩ : ByteArray)) ++ ((rd_T60 l0 x4_1).f1)) ++ (⟨#[124]⟩ : ByteArray)) ++ t396) [.string ((((t393 ++ (⟨#[124]⟩ : ByteArray)) ++ ((rd_T60 l0 x4_1).f1)) ++ (⟨#[124]⟩ : ByteArray)) ++ t396)] (fun _ => True) (fun _ => False) rfl rfl ?aP (fun _ hk => hk.elim) ?aF ?aO ?aB ?aS ?aL ?_
     (case aP => exact rfl)
     (case aB => exact (uW HB.out))
     (case aF => exact (fun _ _ => trivial))
     (case aO => exact (uR HO_3.out))
     (case aS => exact (below_size (uW HB.out)))
     (case aL => have := LMc11.out; omega)
     intro v398 w15 ho hb hg hat
     rw [← Ny397.out] at ho
     replace HB := Aside0.mk (hb)
     have HO399 := Aside0.mk (ho)
     clear HO_3
     clear ho hb hg hat
     refine hK.out _ _ ⟨(kc HB hw392_0), (kc HB hw392_1), (kc HB hw392_2), (kc HB hw392_3), (kc HB hw394_0), (kc HB hw394_1), (kc HB hw394_2), (kc HB hw394_3), (kc HB hw395_0), (kc HB hw395_1), (kc HB hw395_2), (kc HB hw395_3)⟩ (fun hHeld => ?_)
     clear hK K
     refine norm_ (a' := ?_) ?_ ?_
     rotate_left
     ·
      show Act.put _ (some 37) _ = _
      simp only [Act.put, List.setIfInBounds_toArray, List.set_cons_zero, List.set_cons_succ, i64_w, i32_w]
      rfl
     refine p1 24 (some 3) ?_
     refine done_ (done_of HT_.out (by kernel_rfl)) ?_
     try go_wp2
     go_roundg k1
     case measure => have := HK1.out; omega
     case rel => exact ⟨(y397), (wrap64 (x4_1 + 1)), rs_, H', ⟨by have := HK1.out; omega⟩, ⟨uR HO399.out⟩, ⟨uW HB.out⟩⟩
    ·
     rw [if_neg c3] at H
     have c3b0 : decide (x4_1 < (l0.length : Int)) = false := decide_eq_false c3
     clear c3
     obtain ⟨t400, A16, H⟩ := bs H
     try dsimp only at H
     obtain rfl := Option.some.inj H
     obtain ⟨Ao17, co17, eo17⟩ := Kd.R_slice HO_3.out
     subst eo17
     go_wp2_with (first | (refine gL (some 39) rfl Tryz.func66 #[.string (⟨#[59]⟩ : ByteArray), .slice Ao17 x3_1.length co17] ?_; (with_reducible refine (r02_Join.calls k1 (⟨#[59]⟩ : ByteArray) _ _ x3_1 t400 _ ?side1 ?side2 A16.out).mono ?_); (case side1 => exact uC <| (Kd.R_reads' HO_3.out).2.2); (case side2 => exact (Kd.R_reads' HO_3.out).2.1); rintro e w' ⟨rfl, ⟨nd, rfl⟩⟩; refine ⟨_, rfl, ?_⟩))
     go_ret
     exact ⟨re_, uW HB.out⟩
def r23_Rows.f (k : Nat) (a0_0 : Int) (a0_1 : Int) (l0_2 : List (S60)) : Option (ByteArray) := (r01_Number.f k a0_1).bind fun t402 => (if 5 + t402.size ≤ 9223372036854775807 then (if ((⟨#[114, 111, 119, 115, 32]⟩ : ByteArray) ++ t402).size + 1 ≤ 9223372036854775807 then ((r08_Text.f k l0_2).bind fun t403 => (if (((⟨#[114, 111, 119, 115, 32]⟩ : ByteArray) ++ t402) ++ (⟨#[32]⟩ : ByteArray)).size + t403.size ≤ 9223372036854775807 then (some ((((⟨#[114, 111, 119, 115, 32]⟩ : ByteArray) ++ t402) ++ (⟨#[32]⟩ : ByteArray)) ++ t403)) else (none))) else (none)) else (none))
theorem r23_Rows.mono : ∀ a0 a1 a2 k, LeO (r23_Rows.f k a0 a1 a2) (r23_Rows.f (k + 1) a0 a1 a2) := by
 intro a0 a1 a2 k
 unfold r23_Rows.f
 exact lo
instance r23_Rows.mI {a0 a1 a2 k} : LeC (r23_Rows.f k a0 a1 a2) (r23_Rows.f (k + 1) a0 a1 a2) := ⟨r23_Rows.mono _ _ _ _⟩
def r23_Rows.T1 : Bool × List (List Nat × List Nat) := (true, [([], []), ([0], [0]), ([1], [1]), ([2], [2]), ([3], [3]), ([], []), ([5], [5]), ([6, 2], [6]), ([4, 7], [4, 7]), ([8, 7, 0, 1, 2, 3, 4, 5, 6, 7, 8], [8])])
def r23_Rows.B1 : List Nat := [0, 1, 3, 7, 15, 0, 32, 103, 255, 511]
theorem r23_Rows.tab1 : rtab .any (opsOf Tryz.f19 1) = r23_Rows.T1 := by kernel_rfl
theorem r23_Rows.bits1 : waitsOk r23_Rows.T1.2 r23_Rows.B1 = true := by kernel_rfl
theorem r23_Rows.calls (k : Nat) (a0_0 : Int) (a0_1 : Int) (A0_2 : Option Addr) (c0_2 : Nat) (l0_2 : List (S60)) (r : ByteArray) (w : World) (hr0_2 : Kd.C k60 w A0_2 l0_2.length l0_2) (hc0_2 : l0_2.length ≤ c0_2) (h : r23_Rows.f k a0_0 a0_1 l0_2 = some r) :
 Calls Tryz.prog 19 #[.agg #[.int .i64 a0_0, .int .i64 a0_1, .slice A0_2 l0_2.length c0_2]] w fun e w' => e = .returned (.string r) ∧ Below w.heap.size w w' := by
 have hu33 := Tryz.underlying33
 have HR0_2 := Aside0.mk hr0_2
 have HC0_2 := Aside0.mk hc0_2
 clear hr0_2 hc0_2
 have HB := Aside0.mk (Below.refl w.heap.size w)
 have H : ((r01_Number.f k a0_1).bind fun t402 => (if 5 + t402.size ≤ 9223372036854775807 then (if ((⟨#[114, 111, 119, 115, 32]⟩ : ByteArray) ++ t402).size + 1 ≤ 9223372036854775807 then ((r08_Text.f k l0_2).bind fun t403 => (if (((⟨#[114, 111, 119, 115, 32]⟩ : ByteArray) ++ t402) ++ (⟨#[32]⟩ : ByteArray)).size + t403.size ≤ 9223372036854775807 then (some ((((⟨#[114, 111, 119, 115, 32]⟩ : ByteArray) ++ t402) ++ (⟨#[32]⟩ : ByteArray)) ++ t403)) else (none))) else (none)) else (none))) = some r := h
 clear h
 obtain ⟨t402, A2, H⟩ := bs H
 try dsimp only at H
 by_cases c3 : 5 + t402.size ≤ 9223372036854775807
 ·
  rw [if_pos c3] at H
  have c3b0 := eq_true c3
  have c3b1 : decide (5 + t402.size ≤ 9223372036854775807) = true := decide_eq_true c3
  try have c3b2 : (9223372036854775807 < 5 + t402.size) = False := eq_false (Nat.not_lt.2 c3)
  obtain ⟨c4, H⟩ := gd H
  have c4b0 := eq_true c4
  have c4b1 : decide (((⟨#[114, 111, 119, 115, 32]⟩ : ByteArray) ++ t402).size + 1 ≤ 9223372036854775807) = true := decide_eq_true c4
  try have c4b2 : (9223372036854775807 < ((⟨#[114, 111, 119, 115, 32]⟩ : ByteArray) ++ t402).size + 1) = False := eq_false (Nat.not_lt.2 c4)
  try have c4b8 := c4b2
  try simp only [ByteArray.size_append] at c4b8
  try have c4b9 := c4b2
  try simp only [ByteArray.size_append, show (⟨#[114, 111, 119, 115, 32]⟩ : ByteArray).size = 5 from rfl] at c4b9
  obtain ⟨t403, A5, H⟩ := bs H
  try dsimp only at H
  obtain ⟨c6, H⟩ := gd H
  have c6b0 := eq_true c6
  have c6b1 : decide ((((⟨#[114, 111, 119, 115, 32]⟩ : ByteArray) ++ t402) ++ (⟨#[32]⟩ : ByteArray)).size + t403.size ≤ 9223372036854775807) = true := decide_eq_true c6
  try have c6b2 : (9223372036854775807 < (((⟨#[114, 111, 119, 115, 32]⟩ : ByteArray) ++ t402) ++ (⟨#[32]⟩ : ByteArray)).size + t403.size) = False := eq_false (Nat.not_lt.2 c6)
  try have c6b8 := c6b2
  try simp only [ByteArray.size_append] at c6b8
  try have c6b9 := c6b2
  try simp only [ByteArray.size_append, show (⟨#[114, 111, 119, 115, 32]⟩ : ByteArray).size = 5 from rfl, show (⟨#[32]⟩ : ByteArray).size = 1 from rfl] at c6b9
  obtain rfl := Option.some.inj H
  go_enter Tryz.func19, Tryz.ntmps19
  try go_wp2_with (first | ((with_reducible refine gate_dst (N := 1) rfl ?_); refine bx (N := 1) #[.int .i64 a0_0, .int .i64 a0_1, .slice A0_2 l0_2.length c0_2] 33 ?_; intro gb401 hg w7 hbox hb; have BK401 := Aside0.mk (hbox); have GW401 := gw hg (uW HB.out); have GE401 := GW401; replace HB := cW HB hb; clear hb hbox hg))
  replace BK401 := Aside0.mk (blk_drew BK401.out)
  replace HB := Aside0.mk (below_drew1 HB.out)
  refine start_ (n := 10) (S := fun w' => w'.cell? ⟨gb401, 0, none⟩ = some (.int .i64 a0_0) ∧ w'.cell? ⟨gb401, 1, none⟩ = some (.int .i64 a0_1) ∧ w'.cell? ⟨gb401, 2, none⟩ = some (.slice A0_2 l0_2.length c0_2)) (ds := []) _ (by kernel_rfl) rfl rfl ⟨(blk_cell BK401.out 0).trans rfl, (blk_cell BK401.out 1).trans rfl, (blk_cell BK401.out 2).trans rfl⟩ (fun hHeld => ?_); refine with_tabW r23_Rows.tab1 r23_Rows.bits1 (fun HT_ HW_ => ?_)
  generalize w7.drew = w8 at BK401 HB hHeld ⊢
  refine p1 0 (some 3) ?_
  refine p1 5 (some 8) ?_
  refine t1 1 (some 4) rfl rfl hHeld (Or.inl ⟨by rfl, by rintro w' ⟨s0, s1, s2⟩; go_simp; with_reducible rfl⟩) ?_
  refine t1 6 (some 9) rfl rfl hHeld (Or.inl ⟨by rfl, by rintro w' ⟨s0, s1, s2⟩; go_simp; with_reducible rfl⟩) ?_
  refine o1 2 (some 5) rfl rfl (fun K hK => ?_)
  refine gS Tryz.func36 #[.int .i64 a0_1] ?_
  with_reducible refine (r01_Number.calls k a0_1 t402 _ A2.out).mono ?_
  rintro e w9 ⟨rfl, hb⟩
  refine ⟨_, rfl, ?_⟩
  replace BK401 := cB BK401 hb
  replace HB := Aside0.mk (below_step bl hb)
  (try clear hb)
  refine hK.out _ _ ⟨(blk_cell BK401.out 0).trans rfl, (blk_cell BK401.out 1).trans rfl, (blk_cell BK401.out 2).trans rfl⟩ (fun hHeld => ?_)
  clear hK K
  refine norm_ (a' := ?_) ?_ ?_
  rotate_left
  ·
   show Act.put _ (some 5) _ = _
   simp only [Act.put, List.setIfInBounds_toArray, List.set_cons_zero, List.set_cons_succ, i64_w, i32_w]
   rfl
  refine p1 3 (some 6) ?_
  refine p1 4 (some 7) ?_
  refine o1 7 (some 10) rfl rfl (fun K hK => ?_)
  refine gS Tryz.func39 #[.slice A0_2 l0_2.length c0_2] ?_
  with_reducible refine (r08_Text.calls k _ _ l0_2 t403 _ ?side1 ?side2 A5.out).mono ?_
  (case side1 => exact uC <| (Kd.C_below HR0_2.out HB.out))
  (case side2 => exact HC0_2.out)
  rintro e w10 ⟨rfl, hb⟩
  refine ⟨_, rfl, ?_⟩
  replace BK401 := cB BK401 hb
  replace HB := Aside0.mk (below_step bl hb)
  (try clear hb)
  refine hK.out _ _ ⟨(blk_cell BK401.out 0).trans rfl, (blk_cell BK401.out 1).trans rfl, (blk_cell BK401.out 2).trans rfl⟩ (fun hHeld => ?_)
  clear hK K
  refine norm_ (a' := ?_) ?_ ?_
  rotate_left
  ·
   show Act.put _ (some 10) _ = _
   simp only [Act.put, List.setIfInBounds_toArray, List.set_cons_zero, List.set_cons_succ, i64_w, i32_w]
   rfl
  refine p1 8 (some 11) ?_
  refine p1 9 (some 2) ?_
  refine done_ (done_of HT_.out (by kernel_rfl)) ?_
  try go_wp2
  go_ret
  exact ⟨re_, bl⟩
 ·
  rw [if_neg c3] at H
  exact absurd H (by simp)
def r09_Text.l0 : Nat → List (S78) → List ByteArray → Int → Option (ByteArray)
 | 0, _, _, _ => none
 | k + 1, x0, x3, x4 => if x4 < (x0.length : Int) then (if 0 ≤ x4 then ((r08_Text.f k (([(⟨(rd_T78 x0 x4).f0.f0, (rd_T78 x0 x4).f0.f1, (⟨(rd_T78 x0 x4).f0.f2.f0, (rd_T78 x0 x4).f0.f2.f1⟩ : S58)⟩ : S60)] : List (S60)))).bind fun t409 => (if (rd_T78 x0 x4).f1 = true then ((r01_Number.f k ((rd_T78 x0 x4).f0.f0)).bind fun t412 => (if 1 + t412.size ≤ 9223372036854775807 then (if ((⟨#[33]⟩ : ByteArray) ++ t412).size + 1 ≤ 9223372036854775807 then (if (((⟨#[33]⟩ : ByteArray) ++ t412) ++ (⟨#[124]⟩ : ByteArray)).size + ((rd_T78 x0 x4).f0.f1).size ≤ 9223372036854775807 then (if x3.length < 8796093022208 then (r09_Text.l0 k x0 (x3 ++ [(((⟨#[33]⟩ : ByteArray) ++ t412) ++ (⟨#[124]⟩ : ByteArray)) ++ ((rd_T78 x0 x4).f0.f1)]) (wrap64 (x4 + 1))) else (none)) else (none)) else (none)) else (none))) else (if x3.length < 8796093022208 then (r09_Text.l0 k x0 (x3 ++ [t409]) (wrap64 (x4 + 1))) else (none)))) else (none)) else ((r02_Join.f k (⟨#[59]⟩ : ByteArray) x3).bind fun t404 => (some t404))
def r09_Text.f (k : Nat) (l0 : List (S78)) : Option (ByteArray) := if (l0.length : Int) = 0 then (some (⟨#[45]⟩ : ByteArray)) else (r09_Text.l0 k l0 ([] : List ByteArray) 0)
theorem r09_Text.mono_l : ∀ k, (∀ y0 y1 y2, LeC (r09_Text.l0 k y0 y1 y2) (r09_Text.l0 (k + 1) y0 y1 y2))
 | 0 => fun _ _ _ => ⟨fun r h => by simp [r09_Text.l0] at h⟩
 | k + 1 => by have ih0 := r09_Text.mono_l k; exact fun _ _ _ => by unfold r09_Text.l0; exact lm
theorem r09_Text.mono : ∀ a0 k, LeO (r09_Text.f k a0) (r09_Text.f (k + 1) a0) := by
 intro a0 k
 have ih0 := r09_Text.mono_l k
 unfold r09_Text.f
 exact lo
instance r09_Text.mI {a0 k} : LeC (r09_Text.f k a0) (r09_Text.f (k + 1) a0) := ⟨r09_Text.mono _ _⟩
def r09_Text.T9 : Bool × List (List Nat × List Nat) := (true, [([], []), ([], []), ([0, 1], [0, 1]), ([2], [2]), ([3], [3]), ([4], [4]), ([5], [5]), ([6], [6]), ([7], [7]), ([], []), ([], []), ([9, 10], [9, 10]), ([11], [11]), ([12], [12]), ([13], [13]), ([8, 14], [8, 14]), ([15, 6, 0, 1, 2, 3, 4, 5, 6, 7, 8, 9, 10, 11, 12, 13, 14, 15], [15])])
def r09_Text.B9 : List Nat := [0, 0, 3, 7, 15, 31, 63, 127, 255, 0, 0, 1536, 3584, 7680, 15872, 32767, 65535]
theorem r09_Text.tab9 : rtab .any (opsOf Tryz.f42 9) = r09_Text.T9 := by kernel_rfl
theorem r09_Text.bits9 : waitsOk r09_Text.T9.2 r09_Text.B9 = true := by kernel_rfl
theorem r09_Text.calls (k : Nat) (A0 : Option Addr) (c0 : Nat) (l0 : List (S78)) (r : ByteArray) (w : World) (hr0 : Kd.C k78 w A0 l0.length l0) (hc0 : l0.length ≤ c0) (h : r09_Text.f k l0 = some r) :
 Calls Tryz.prog 42 #[.slice A0 l0.length c0] w fun e w' => e = .returned (.string r) ∧ Below w.heap.size w w' := by
 have hu60 := Tryz.underlying60
 have HR0 := Aside0.mk hr0
 have HC0 := Aside0.mk hc0
 clear hr0 hc0
 have HB := Aside0.mk (Below.refl w.heap.size w)
 have H : (if (l0.length : Int) = 0 then (some (⟨#[45]⟩ : ByteArray)) else (r09_Text.l0 k l0 ([] : List ByteArray) 0)) = some r := h
 clear h
 by_cases c2 : (l0.length : Int) = 0
 ·
  rw [if_pos c2] at H
  have c2b0 : ((l0.length : Int) == 0) = true := beq_iff_eq.mpr c2
  have c2b1 : ((l0.length : Int) != 0) = false := bne_eq_false_iff_eq.mpr c2
  clear c2
  obtain rfl := Option.some.inj H
  go_enter Tryz.func42, Tryz.ntmps42
  go_wp2
  go_ret
  exact ⟨re_, uW HB.out⟩
 ·
  rw [if_neg c2] at H
  have c2b0 : ((l0.length : Int) == 0) = false := beq_eq_false_iff_ne.mpr c2
  have c2b1 : ((l0.length : Int) != 0) = true := bne_iff_ne.mpr c2
  have c2b2 : ¬ (l0 = []) := fun h_ => c2 (by rw [h_]; rfl)
  have H' := Aside0.mk H
  clear H
  go_enter Tryz.func42, Tryz.ntmps42
  go_wp2
  go_loopg [3, 4] k (fun kq v3 v4 w' => ∃ (x3_1 : List ByteArray) (x4_1 : Int), v4 = .int .i64 x4_1 ∧ Aside0 (r09_Text.l0 kq l0 x3_1 x4_1 = some r) ∧ Aside0 (kq ≤ k) ∧ Aside0 (Kd.R Kd.string 9 w' w.heap.size (fun _ => True) v3 x3_1) ∧ Aside0 (Below w.heap.size w w'))
  case atStart => exact ⟨(([] : List ByteArray)), (0), rs_, H', ⟨Nat.le_refl _⟩, ⟨nl_⟩, ⟨uW HB.out⟩⟩
  case round =>
   clear H'
   try clear c2
   try clear c2b0
   try clear c2b1
   try clear c2b2
   try clear p2
   obtain ⟨x3_1, x4_1, rfl, HA, HK1, HO_3, HB⟩ := hrel
   cases gk with
   | zero => exact absurd HA.out (by simp [r09_Text.l0])
   | succ k1 =>
    have H := HA.out
    clear HA
    simp only [r09_Text.l0] at H
    by_cases c3 : x4_1 < (l0.length : Int)
    ·
     rw [if_pos c3] at H
     have c3b0 : decide (x4_1 < (l0.length : Int)) = true := decide_eq_true c3
     clear c3
     obtain ⟨c4b0, H⟩ := gdd H
     obtain ⟨y406, hy406⟩ : ∃ y_ : List (S60), y_ = (([(⟨(rd_T78 l0 x4_1).f0.f0, (rd_T78 l0 x4_1).f0.f1, (⟨(rd_T78 l0 x4_1).f0.f2.f0, (rd_T78 l0 x4_1).f0.f2.f1⟩ : S58)⟩ : S60)] : List (S60))) := ⟨_, rfl⟩
     replace H : ((r08_Text.f k1 y406).bind fun t409 => (if (rd_T78 l0 x4_1).f1 = true then ((r01_Number.f k1 ((rd_T78 l0 x4_1).f0.f0)).bind fun t412 => (if 1 + t412.size ≤ 9223372036854775807 then (if ((⟨#[33]⟩ : ByteArray) ++ t412).size + 1 ≤ 9223372036854775807 then (if (((⟨#[33]⟩ : ByteArray) ++ t412) ++ (⟨#[124]⟩ : ByteArray)).size + ((rd_T78 l0 x4_1).f0.f1).size ≤ 9223372036854775807 then (if x3_1.length < 8796093022208 then (r09_Text.l0 k1 l0 (x3_1 ++ [(((⟨#[33]⟩ : ByteArray) ++ t412) ++ (⟨#[124]⟩ : ByteArray)) ++ ((rd_T78 l0 x4_1).f0.f1)]) (wrap64 (x4_1 + 1))) else (none)) else (none)) else (none)) else (none))) else (if x3_1.length < 8796093022208 then (r09_Text.l0 k1 l0 (x3_1 ++ [t409]) (wrap64 (x4_1 + 1))) else (none)))) = some r := by first | (rw [hy406]; with_reducible exact H) | (have H2_ := (Option.bind_some _ _).symm.trans H; rw [hy406]; with_reducible exact H2_) | (have H2_ := (Option.bind_some _ _).symm.trans H; with_reducible exact H2_) | with_reducible exact H | (rw [hy406]; exact H) | exact H
     have Ny406 := Aside0.mk hy406
     clear hy406
     obtain ⟨t409, A5, H⟩ := bs H
     try dsimp only at H
     obtain ⟨bq6, hbq6⟩ : ∃ b_ : Bool, b_ = ((rd_T78 l0 x4_1).f1) := ⟨_, rfl⟩
     replace H : (if bq6 = true then ((r01_Number.f k1 ((rd_T78 l0 x4_1).f0.f0)).bind fun t412 => (if 1 + t412.size ≤ 9223372036854775807 then (if ((⟨#[33]⟩ : ByteArray) ++ t412).size + 1 ≤ 9223372036854775807 then (if (((⟨#[33]⟩ : ByteArray) ++ t412) ++ (⟨#[124]⟩ : ByteArray)).size + ((rd_T78 l0 x4_1).f0.f1).size ≤ 9223372036854775807 then (if x3_1.length < 8796093022208 then (r09_Text.l0 k1 l0 (x3_1 ++ [(((⟨#[33]⟩ : ByteArray) ++ t412) ++ (⟨#[124]⟩ : ByteArray)) ++ ((rd_T78 l0 x4_1).f0.f1)]) (wrap64 (x4_1 + 1))) else (none)) else (none)) else (none)) else (none))) else (if x3_1.length < 8796093022208 then (r09_Text.l0 k1 l0 (x3_1 ++ [t409]) (wrap64 (x4_1 + 1))) else (none))) = some r := by rw [← hbq6] at H; exact H
     have Nbq6 := Aside0.mk hbq6
     clear hbq6
     by_cases c7 : bq6 = true
     ·
      subst c7
      rw [if_pos rfl] at H
      obtain ⟨t412, A8, H⟩ := bs H
      try dsimp only at H
      obtain ⟨c9, H⟩ := gd H
      have c9b0 := eq_true c9
      have c9b1 : decide (1 + t412.size ≤ 9223372036854775807) = true := decide_eq_true c9
      try have c9b2 : (9223372036854775807 < 1 + t412.size) = False := eq_false (Nat.not_lt.2 c9)
      obtain ⟨c10, H⟩ := gd H
      have c10b0 := eq_true c10
      have c10b1 : decide (((⟨#[33]⟩ : ByteArray) ++ t412).size + 1 ≤ 9223372036854775807) = true := decide_eq_true c10
      try have c10b2 : (9223372036854775807 < ((⟨#[33]⟩ : ByteArray) ++ t412).size + 1) = False := eq_false (Nat.not_lt.2 c10)
      try have c10b8 := c10b2
      try simp only [ByteArray.size_append] at c10b8
      try have c10b9 := c10b2
      try simp only [ByteArray.size_append, show (⟨#[33]⟩ : ByteArray).size = 1 from rfl] at c10b9
      obtain ⟨c11, H⟩ := gd H
      have c11b0 := eq_true c11
      have c11b1 : decide ((((⟨#[33]⟩ : ByteArray) ++ t412) ++ (⟨#[124]⟩ : ByteArray)).size + ((rd_T78 l0 x4_1).f0.f1).size ≤ 9223372036854775807) = true := decide_eq_true c11
      try have c11b2 : (9223372036854775807 < (((⟨#[33]⟩ : ByteArray) ++ t412) ++ (⟨#[124]⟩ : ByteArray)).size + ((rd_T78 l0 x4_1).f0.f1).size) = False := eq_false (Nat.not_lt.2 c11)
      try have c11b8 := c11b2
      try simp only [ByteArray.size_append] at c11b8
      try have c11b9 := c11b2
      try simp only [ByteArray.size_append, show (⟨#[124]⟩ : ByteArray).size = 1 from rfl, show (⟨#[33]⟩ : ByteArray).size = 1 from rfl] at c11b9
      obtain ⟨c12, H⟩ := gd H
      have LMc12 := Aside0.mk c12
      clear c12
      obtain ⟨y414, hy414⟩ : ∃ y_ : List ByteArray, y_ = (x3_1 ++ [(((⟨#[33]⟩ : ByteArray) ++ t412) ++ (⟨#[124]⟩ : ByteArray)) ++ ((rd_T78 l0 x4_1).f0.f1)]) := ⟨_, rfl⟩
      replace H : (r09_Text.l0 k1 l0 y414 (wrap64 (x4_1 + 1))) = some r := by first | (rw [hy414]; with_reducible exact H) | (have H2_ := (Option.bind_some _ _).symm.trans H; rw [hy414]; with_reducible exact H2_) | (have H2_ := (Option.bind_some _ _).symm.trans H; with_reducible exact H2_) | with_reducible exact H | (rw [hy414]; exact H) | exact H
      have Ny414 := Aside0.mk hy414
      clear hy414
      have H' := Aside0.mk H
      clear H
      have p405 : 0 ≤ (x4_1 : Int) := od
      have q405 : x4_1 < (l0.length : Int) := od
      obtain ⟨ad405, e405, hx405_0, hx405_1, hx405_2, hx405_3, hx405_4⟩ := at_T78 HR0.out x4_1 p405 q405
      (try rw [← Nbq6.out] at hx405_3)
      (try rw [← Nbq6.out] at hx405_4)
      cases e405
      replace hx405_0 := kc HB hx405_0
      replace hx405_1 := kc HB hx405_1
      replace hx405_2 := kc HB hx405_2
      replace hx405_3 := kc HB hx405_3
      replace hx405_4 := kc HB hx405_4
      replace p405 := eq_true p405
      replace q405 := eq_true q405
      try go_wp2_with (first | ((with_reducible refine gate_dst (N := 20) rfl ?_); refine Kd.R_lit k60 _ 60 ?hg (N := 20) ?hd (xs := ([(⟨(rd_T78 l0 x4_1).f0.f0, (rd_T78 l0 x4_1).f0.f1, (⟨(rd_T78 l0 x4_1).f0.f2.f0, (rd_T78 l0 x4_1).f0.f2.f1⟩ : S58)⟩ : S60)] : List (S60))) (inner := [.int .i64 ((rd_T78 l0 x4_1).f0.f0), .string ((rd_T78 l0 x4_1).f0.f1), .int .i64 ((rd_T78 l0 x4_1).f0.f2.f0), .bool ((rd_T78 l0 x4_1).f0.f2.f1)]) (ok := fun _ => True) (okp := fun _ => True) ?hr ?hp (fun _ hk => hk) trivial (Below.refl _ _) (Nat.le_refl _) (by simp) ?_; (case hd => rfl); (case hg => rfl); (case hr => first | (go_simp; done) | (go_simp; rfl)); (case hp => exact (Reps.c4 (show Kd.M k60 _ _ _ (⟨(rd_T78 l0 x4_1).f0.f0, (rd_T78 l0 x4_1).f0.f1, (⟨(rd_T78 l0 x4_1).f0.f2.f0, (rd_T78 l0 x4_1).f0.f2.f1⟩ : S58)⟩ : S60) [.int .i64 ((rd_T78 l0 x4_1).f0.f0), .string ((rd_T78 l0 x4_1).f0.f1), .int .i64 ((rd_T78 l0 x4_1).f0.f2.f0), .bool ((rd_T78 l0 x4_1).f0.f2.f1)] from (k60_mkM _ _ _ (⟨(rd_T78 l0 x4_1).f0.f0, (rd_T78 l0 x4_1).f0.f1, (⟨(rd_T78 l0 x4_1).f0.f2.f0, (rd_T78 l0 x4_1).f0.f2.f1⟩ : S58)⟩ : S60) )) (Reps.none _ _))); intro v407 w13 ho14 hb hg_ hnew_; clear hg_ hnew_; (first | rw [← Ny406.out] at ho14 | (simp only [Int.reduceToNat] at ho14; rw [← Ny406.out] at ho14)); replace HO_3 := cR HO_3 hb; have HO408 := Aside0.mk (Kd.R_lower ho14 (below_size (uW HB.out))); replace HB := cW HB hb; clear hb ho14; obtain ⟨Ao15, co15, eo15⟩ := Kd.R_slice HO408.out; subst eo15) | (refine gL (some 21) rfl Tryz.func39 #[.slice Ao15 y406.length co15] ?_; (with_reducible refine (r08_Text.calls k1 _ _ y406 t409 _ ?side1 ?side2 A5.out).mono ?_); (case side1 => exact uC <| (Kd.R_reads' HO408.out).2.2); (case side2 => exact (Kd.R_reads' HO408.out).2.1); rintro e w16 ⟨rfl, hb⟩; refine ⟨_, rfl, ?_⟩; replace HO_3 := cR HO_3 hb; replace HO408 := cR HO408 hb; replace HB := cW HB hb; (try clear hb); have p410 : 0 ≤ (x4_1 : Int) := od; have q410 : x4_1 < (l0.length : Int) := od; obtain ⟨ad410, e410, hx410_0, hx410_1, hx410_2, hx410_3, hx410_4⟩ := at_T78 HR0.out x4_1 p410 q410; (try rw [← Nbq6.out] at hx410_3); (try rw [← Nbq6.out] at hx410_4); obtain rfl : ad405 = ad410 := (by injection e410); replace hx410_0 := kc HB hx410_0; replace hx410_1 := kc HB hx410_1; replace hx410_2 := kc HB hx410_2; replace hx410_3 := kc HB hx410_3; replace hx410_4 := kc HB hx410_4; replace p410 := eq_true p410; replace q410 := eq_true q410))
      replace HO_3 := Aside0.mk (Kd.R_drew HO_3.out)
      replace HO408 := Aside0.mk (Kd.R_drew HO408.out)
      replace HB := Aside0.mk (below_drew1 HB.out)
      have p411 : 0 ≤ (x4_1 : Int) := od
      have q411 : x4_1 < (l0.length : Int) := od
      obtain ⟨ad411, e411, hx411_0, hx411_1, hx411_2, hx411_3, hx411_4⟩ := at_T78 HR0.out x4_1 p411 q411
      have hw411_4 := hx411_4
      have hw411_3 := hx411_3
      have hw411_2 := hx411_2
      have hw411_1 := hx411_1
      have hw411_0 := hx411_0
      (try rw [← Nbq6.out] at hx411_3)
      (try rw [← Nbq6.out] at hw411_3)
      (try rw [← Nbq6.out] at hx411_4)
      (try rw [← Nbq6.out] at hw411_4)
      obtain rfl : ad405 = ad411 := (by injection e411)
      replace hx411_0 := kc HB hx411_0
      replace hx411_1 := kc HB hx411_1
      replace hx411_2 := kc HB hx411_2
      replace hx411_3 := kc HB hx411_3
      replace hx411_4 := kc HB hx411_4
      replace p411 := eq_true p411
      replace q411 := eq_true q411
      have p413 : 0 ≤ (x4_1 : Int) := od
      have q413 : x4_1 < (l0.length : Int) := od
      obtain ⟨ad413, e413, hx413_0, hx413_1, hx413_2, hx413_3, hx413_4⟩ := at_T78 HR0.out x4_1 p413 q413
      have hw413_4 := hx413_4
      have hw413_3 := hx413_3
      have hw413_2 := hx413_2
      have hw413_1 := hx413_1
      have hw413_0 := hx413_0
      (try rw [← Nbq6.out] at hx413_3)
      (try rw [← Nbq6.out] at hw413_3)
      (try rw [← Nbq6.out] at hx413_4)
      (try rw [← Nbq6.out] at hw413_4)
      obtain rfl : ad405 = ad413 := (by injection e413)
      replace hx413_0 := kc HB hx413_0
      replace hx413_1 := kc HB hx413_1
      replace hx413_2 := kc HB hx413_2
      replace hx413_3 := kc HB hx413_3
      replace hx413_4 := kc HB hx413_4
      replace p413 := eq_true p413
      replace q413 := eq_true q413
      refine start_ (n := 17) (S := fun w' => w'.cell? (ad405.add ((x4_1).toNat * 5)) = some (.int .i64 ((rd_T78 l0 x4_1).f0.f0)) ∧ w'.cell? ⟨(ad405.add ((x4_1).toNat * 5)).block, (ad405.add ((x4_1).toNat * 5)).off + 1, none⟩ = some (.string ((rd_T78 l0 x4_1).f0.f1)) ∧ w'.cell? ⟨(ad405.add ((x4_1).toNat * 5)).block, (ad405.add ((x4_1).toNat * 5)).off + 2, none⟩ = some (.int .i64 ((rd_T78 l0 x4_1).f0.f2.f0)) ∧ w'.cell? ⟨(ad405.add ((x4_1).toNat * 5)).block, (ad405.add ((x4_1).toNat * 5)).off + 3, none⟩ = some (.bool ((rd_T78 l0 x4_1).f0.f2.f1)) ∧ w'.cell? ⟨(ad405.add ((x4_1).toNat * 5)).block, (ad405.add ((x4_1).toNat * 5)).off + 4, none⟩ = some (.bool (true)) ∧ w'.cell? (ad405.add ((x4_1).toNat * 5)) = some (.int .i64 ((rd_T78 l0 x4_1).f0.f0)) ∧ w'.cell? ⟨(ad405.add ((x4_1).toNat * 5)).block, (ad405.add ((x4_1).toNat * 5)).off + 1, none⟩ = some (.string ((rd_T78 l0 x4_1).f0.f1)) ∧ w'.cell? ⟨(ad405.add ((x4_1).toNat * 5)).block, (ad405.add ((x4_1).toNat * 5)).off + 2, none⟩ = some (.int .i64 ((rd_T78 l0 x4_1).f0.f2.f0)) ∧ w'.cell? ⟨(ad405.add ((x4_1).toNat * 5)).block, (ad405.add ((x4_1).toNat * 5)).off + 3, none⟩ = some (.bool ((rd_T78 l0 x4_1).f0.f2.f1)) ∧ w'.cell? ⟨(ad405.add ((x4_1).toNat * 5)).block, (ad405.add ((x4_1).toNat * 5)).off + 4, none⟩ = some (.bool (true))) (ds := []) _ (by kernel_rfl) rfl rfl ⟨(kc HB hw411_0), (kc HB hw411_1), (kc HB hw411_2), (kc HB hw411_3), (kc HB hw411_4), (kc HB hw413_0), (kc HB hw413_1), (kc HB hw413_2), (kc HB hw413_3), (kc HB hw413_4)⟩ (fun hHeld => ?_); refine with_tabW r09_Text.tab9 r09_Text.bits9 (fun HT_ HW_ => ?_)
      generalize w16.drew = w17 at HO_3 HO408 HB hx411_0 hx411_1 hx411_2 hx411_3 hx411_4 hx413_0 hx413_1 hx413_2 hx413_3 hx413_4 hHeld ⊢
      refine p1 0 (some 27) ?_
      refine p1 1 (some 28) ?_
      refine p1 2 (some 29) ?_
      refine p1 3 (some 30) ?_
      refine p1 4 (some 31) ?_
      refine p1 9 (some 36) ?_
      refine p1 10 (some 37) ?_
      refine p1 11 (some 38) ?_
      refine p1 12 (some 39) ?_
      refine p1 13 (some 40) ?_
      refine t1 5 (some 32) rfl rfl hHeld (Or.inl ⟨by rfl, by rintro w' ⟨s0, s1, s2, s3, s4, s5, s6, s7, s8, s9⟩; go_simp; with_reducible rfl⟩) ?_
      refine t1 14 (some 41) rfl rfl hHeld (Or.inl ⟨by rfl, by rintro w' ⟨s0, s1, s2, s3, s4, s5, s6, s7, s8, s9⟩; go_simp; with_reducible rfl⟩) ?_
      refine o1 6 (some 33) rfl rfl (fun K hK => ?_)
      refine gS Tryz.func36 #[.int .i64 ((rd_T78 l0 x4_1).f0.f0)] ?_
      with_reducible refine (r01_Number.calls k1 ((rd_T78 l0 x4_1).f0.f0) t412 _ A8.out).mono ?_
      rintro e w18 ⟨rfl, hb⟩
      refine ⟨_, rfl, ?_⟩
      replace HO_3 := cR HO_3 hb
      replace HO408 := cR HO408 hb
      replace HB := cW HB hb
      (try clear hb)
      refine hK.out _ _ ⟨(kc HB hw411_0), (kc HB hw411_1), (kc HB hw411_2), (kc HB hw411_3), (kc HB hw411_4), (kc HB hw413_0), (kc HB hw413_1), (kc HB hw413_2), (kc HB hw413_3), (kc HB hw413_4)⟩ (fun hHeld => ?_)
      clear hK K
      refine norm_ (a' := ?_) ?_ ?_
      rotate_left
      ·
       show Act.put _ (some 33) _ = _
       simp only [Act.put, List.setIfInBounds_toArray, List.set_cons_zero, List.set_cons_succ, i64_w, i32_w]
       rfl
      refine p1 7 (some 34) ?_
      refine p1 8 (some 35) ?_
      refine p1 15 (some 42) ?_
      refine p1 16 (some 5) ?_
      refine done_ (done_of HT_.out (by kernel_rfl)) ?_
      try go_wp2_with (first | ((with_reducible refine gate_builtin (b := .append) (xs := #[.tmp 43, .tmp 45]) rfl ?_); at_builtin; refine Kd.R_append Kd.string (w0 := w) w.heap.size rfl (.tmp 43) (.tmp 45) 56 9 (.string ⟨#[]⟩) 16 rfl Tryz.underlying56 info9 rfl (by decide) (by omega) u3 x3_1 ((((⟨#[33]⟩ : ByteArray) ++ t412) ++ (⟨#[124]⟩ : ByteArray)) ++ ((rd_T78 l0 x4_1).f0.f1)) [.string ((((⟨#[33]⟩ : ByteArray) ++ t412) ++ (⟨#[124]⟩ : ByteArray)) ++ ((rd_T78 l0 x4_1).f0.f1))] (fun _ => True) (fun _ => False) rfl rfl ?aP (fun _ hk => hk.elim) ?aF ?aO ?aB ?aS ?aL ?_; (case aP => exact rfl); (case aB => exact (uW HB.out)); (case aF => exact (fun _ _ => trivial)); (case aO => exact (uR HO_3.out)); (case aS => exact (below_size (uW HB.out))); (case aL => have := LMc12.out; omega); intro v415 w19 ho hb hg hat; rw [← Ny414.out] at ho; replace HO408 := Aside0.mk (Kd.R_over' (uR HO408.out) (Kd.R_typed (uR HO_3.out)) (by decide) hg); replace HB := Aside0.mk (hb); have HO416 := Aside0.mk (ho); clear HO_3; clear ho hb hg hat))
      go_roundg k1
      case measure => have := HK1.out; omega
      case rel => exact ⟨(y414), (wrap64 (x4_1 + 1)), rs_, (by first | exact H' | (rw [← Nbq6.out]; exact H')), ⟨by have := HK1.out; omega⟩, ⟨uR HO416.out⟩, ⟨uW HB.out⟩⟩
     ·
      replace c7 := Bool.eq_false_iff.mpr c7
      subst c7
      rw [if_neg (show ¬ (false = true) by decide)] at H
      obtain ⟨c20, H⟩ := gd H
      have LMc20 := Aside0.mk c20
      clear c20
      obtain ⟨y417, hy417⟩ : ∃ y_ : List ByteArray, y_ = (x3_1 ++ [t409]) := ⟨_, rfl⟩
      replace H : (r09_Text.l0 k1 l0 y417 (wrap64 (x4_1 + 1))) = some r := by first | (rw [hy417]; with_reducible exact H) | (have H2_ := (Option.bind_some _ _).symm.trans H; rw [hy417]; with_reducible exact H2_) | (have H2_ := (Option.bind_some _ _).symm.trans H; with_reducible exact H2_) | with_reducible exact H | (rw [hy417]; exact H) | exact H
      have Ny417 := Aside0.mk hy417
      clear hy417
      have H' := Aside0.mk H
      clear H
      have p405 : 0 ≤ (x4_1 : Int) := od
      have q405 : x4_1 < (l0.length : Int) := od
      obtain ⟨ad405, e405, hx405_0, hx405_1, hx405_2, hx405_3, hx405_4⟩ := at_T78 HR0.out x4_1 p405 q405
      (try rw [← Nbq6.out] at hx405_3)
      (try rw [← Nbq6.out] at hx405_4)
      cases e405
      replace hx405_0 := kc HB hx405_0
      replace hx405_1 := kc HB hx405_1
      replace hx405_2 := kc HB hx405_2
      replace hx405_3 := kc HB hx405_3
      replace hx405_4 := kc HB hx405_4
      replace p405 := eq_true p405
      replace q405 := eq_true q405
      go_wp2_with (first | ((with_reducible refine gate_dst (N := 20) rfl ?_); refine Kd.R_lit k60 _ 60 ?hg (N := 20) ?hd (xs := ([(⟨(rd_T78 l0 x4_1).f0.f0, (rd_T78 l0 x4_1).f0.f1, (⟨(rd_T78 l0 x4_1).f0.f2.f0, (rd_T78 l0 x4_1).f0.f2.f1⟩ : S58)⟩ : S60)] : List (S60))) (inner := [.int .i64 ((rd_T78 l0 x4_1).f0.f0), .string ((rd_T78 l0 x4_1).f0.f1), .int .i64 ((rd_T78 l0 x4_1).f0.f2.f0), .bool ((rd_T78 l0 x4_1).f0.f2.f1)]) (ok := fun _ => True) (okp := fun _ => True) ?hr ?hp (fun _ hk => hk) trivial (Below.refl _ _) (Nat.le_refl _) (by simp) ?_; (case hd => rfl); (case hg => rfl); (case hr => first | (go_simp; done) | (go_simp; rfl)); (case hp => exact (Reps.c4 (show Kd.M k60 _ _ _ (⟨(rd_T78 l0 x4_1).f0.f0, (rd_T78 l0 x4_1).f0.f1, (⟨(rd_T78 l0 x4_1).f0.f2.f0, (rd_T78 l0 x4_1).f0.f2.f1⟩ : S58)⟩ : S60) [.int .i64 ((rd_T78 l0 x4_1).f0.f0), .string ((rd_T78 l0 x4_1).f0.f1), .int .i64 ((rd_T78 l0 x4_1).f0.f2.f0), .bool ((rd_T78 l0 x4_1).f0.f2.f1)] from (k60_mkM _ _ _ (⟨(rd_T78 l0 x4_1).f0.f0, (rd_T78 l0 x4_1).f0.f1, (⟨(rd_T78 l0 x4_1).f0.f2.f0, (rd_T78 l0 x4_1).f0.f2.f1⟩ : S58)⟩ : S60) )) (Reps.none _ _))); intro v407 w21 ho22 hb hg_ hnew_; clear hg_ hnew_; (first | rw [← Ny406.out] at ho22 | (simp only [Int.reduceToNat] at ho22; rw [← Ny406.out] at ho22)); replace HO_3 := cR HO_3 hb; have HO408 := Aside0.mk (Kd.R_lower ho22 (below_size (uW HB.out))); replace HB := cW HB hb; clear hb ho22; obtain ⟨Ao23, co23, eo23⟩ := Kd.R_slice HO408.out; subst eo23) | (refine gL (some 21) rfl Tryz.func39 #[.slice Ao23 y406.length co23] ?_; (with_reducible refine (r08_Text.calls k1 _ _ y406 t409 _ ?side1 ?side2 A5.out).mono ?_); (case side1 => exact uC <| (Kd.R_reads' HO408.out).2.2); (case side2 => exact (Kd.R_reads' HO408.out).2.1); rintro e w24 ⟨rfl, hb⟩; refine ⟨_, rfl, ?_⟩; replace HO_3 := cR HO_3 hb; replace HO408 := cR HO408 hb; replace HB := cW HB hb; (try clear hb); have p410 : 0 ≤ (x4_1 : Int) := od; have q410 : x4_1 < (l0.length : Int) := od; obtain ⟨ad410, e410, hx410_0, hx410_1, hx410_2, hx410_3, hx410_4⟩ := at_T78 HR0.out x4_1 p410 q410; (try rw [← Nbq6.out] at hx410_3); (try rw [← Nbq6.out] at hx410_4); obtain rfl : ad405 = ad410 := (by injection e410); replace hx410_0 := kc HB hx410_0; replace hx410_1 := kc HB hx410_1; replace hx410_2 := kc HB hx410_2; replace hx410_3 := kc HB hx410_3; replace hx410_4 := kc HB hx410_4; replace p410 := eq_true p410; replace q410 := eq_true q410) | ((with_reducible refine gate_builtin (b := .append) (xs := #[.tmp 43, .tmp 45]) rfl ?_); at_builtin; refine Kd.R_append Kd.string (w0 := w) w.heap.size rfl (.tmp 43) (.tmp 45) 56 9 (.string ⟨#[]⟩) 16 rfl Tryz.underlying56 info9 rfl (by decide) (by omega) u3 x3_1 t409 [.string t409] (fun _ => True) (fun _ => False) rfl rfl ?aP (fun _ hk => hk.elim) ?aF ?aO ?aB ?aS ?aL ?_; (case aP => exact rfl); (case aB => exact (uW HB.out)); (case aF => exact (fun _ _ => trivial)); (case aO => exact (uR HO_3.out)); (case aS => exact (below_size (uW HB.out))); (case aL => have := LMc20.out; omega); intro v418 w25 ho hb hg hat; rw [← Ny417.out] at ho; replace HO408 := Aside0.mk (Kd.R_over' (uR HO408.out) (Kd.R_typed (uR HO_3.out)) (by decide) hg); replace HB := Aside0.mk (hb); have HO419 := Aside0.mk (ho); clear HO_3; clear ho hb hg hat))
      go_roundg k1
      case measure => have := HK1.out; omega
      case rel => exact ⟨(y417), (wrap64 (x4_1 + 1)), rs_, (by first | exact H' | (rw [← Nbq6.out]; exact H')), ⟨by have := HK1.out; omega⟩, ⟨uR HO419.out⟩, ⟨uW HB.out⟩⟩
    ·
     rw [if_neg c3] at H
     have c3b0 : decide (x4_1 < (l0.length : Int)) = false := decide_eq_false c3
     clear c3
     obtain ⟨t404, A26, H⟩ := bs H
     try dsimp only at H
     obtain rfl := Option.some.inj H
     obtain ⟨Ao27, co27, eo27⟩ := Kd.R_slice HO_3.out
     subst eo27
     go_wp2_with (first | (refine gL (some 48) rfl Tryz.func66 #[.string (⟨#[59]⟩ : ByteArray), .slice Ao27 x3_1.length co27] ?_; (with_reducible refine (r02_Join.calls k1 (⟨#[59]⟩ : ByteArray) _ _ x3_1 t404 _ ?side1 ?side2 A26.out).mono ?_); (case side1 => exact uC <| (Kd.R_reads' HO_3.out).2.2); (case side2 => exact (Kd.R_reads' HO_3.out).2.1); rintro e w' ⟨rfl, ⟨nd, rfl⟩⟩; refine ⟨_, rfl, ?_⟩))
     go_ret
     exact ⟨re_, uW HB.out⟩
end Go.Proofs.YteckidchnicjeaaGreatDoor.X
