/- Printed by a program of this session's own: what functions of the program compute, and that the machine computes it. No condition of its own. -/
import Derived.Test.YtgcbejidponoaaaGreatDoorM3
import Derived.Test.YtgcbejidponoaaaGreatDoorM7
import Derived.Test.YtgcbejidponoaaaGreatDoorM8
import Derived.Test.YtgcbejidponoaaaGreatDoorM4
namespace Go.Proofs.YtgcbejidponoaaaGreatDoor.X
open Go.RowKit Go.Proofs.YtgcbejidponoaaaGreatDoorW.PrintWords Go.Proofs.YtgcbejidponoaaaGreatDoorW.PrintLast Go.Proofs.YtgcbejidponoaaaGreatDoorW.PrintMore
attribute [local go_sem] max2_int min2_int max_two min_two max_three min_three max_four min_four
set_option linter.unusedVariables false
set_option linter.unusedSimpArgs false
set_option maxHeartbeats 8000000
set_option maxRecDepth 100000
def diff_Text.l0 : Nat → List ByteArray → List (S48) → Int → Int → Option (ByteArray)
 | 0, _, _, _, _ => none
 | k + 1, x3, x9, x10, x11 => if x11 < x10 then (if 0 ≤ x11 then (if x11 < (x9.length : Int) then (if (rd_T48 x9 x11).f1 = true then ((sat_Number.f ((rd_T48 x9 x11).f0.f0)).bind fun t416 => ((word_Join.f (⟨#[124]⟩ : ByteArray) (([t416, (rd_T48 x9 x11).f0.f1] : List ByteArray))).bind fun t420 => (if 1 + t420.size ≤ 9223372036854775807 then (if x3.length < 8796093022208 then (diff_Text.l0 k (x3 ++ [(⟨#[33]⟩ : ByteArray) ++ t420]) x9 x10 (wrap64 (x11 + 1))) else (none)) else (none)))) else ((row_Text.f k (([(⟨(rd_T48 x9 x11).f0.f0, (rd_T48 x9 x11).f0.f1, (⟨(rd_T48 x9 x11).f0.f2.f0, (rd_T48 x9 x11).f0.f2.f1⟩ : S43)⟩ : S45)] : List (S45)))).bind fun t427 => (if x3.length < 8796093022208 then (diff_Text.l0 k (x3 ++ [t427]) x9 x10 (wrap64 (x11 + 1))) else (none)))) else (none)) else (none)) else ((word_Join.f (⟨#[59]⟩ : ByteArray) x3).bind fun t413 => (some t413))
def diff_Text.f (k : Nat) (l0 : List (S48)) : Option (ByteArray) := if (l0.length : Int) = 0 then (some (⟨#[45]⟩ : ByteArray)) else (diff_Text.l0 k ([] : List ByteArray) l0 (l0.length : Int) 0)
theorem diff_Text.mono_l : ∀ k, (∀ y0 y1 y2 y3, LeC (diff_Text.l0 k y0 y1 y2 y3) (diff_Text.l0 (k + 1) y0 y1 y2 y3))
 | 0 => fun _ _ _ _ => ⟨fun r h => by simp [diff_Text.l0] at h⟩
 | k + 1 => by have ih0 := diff_Text.mono_l k; exact fun _ _ _ _ => by unfold diff_Text.l0; exact lm
theorem diff_Text.mono : ∀ a0 k, LeO (diff_Text.f k a0) (diff_Text.f (k + 1) a0) := by
 intro a0 k
 have ih0 := diff_Text.mono_l k
 unfold diff_Text.f
 exact lo
instance diff_Text.mI {a0 k} : LeC (diff_Text.f k a0) (diff_Text.f (k + 1) a0) := ⟨diff_Text.mono _ _⟩
def diff_Text.T8 : Bool × List (List Nat × List Nat) := (true, [([], []), ([], []), ([1], [1]), ([2], [2]), ([3], [3]), ([], []), ([5], [5]), ([6], [6]), ([4, 7], [4, 7]), ([8, 4], [8]), ([9], [9]), ([10], [10]), ([0, 11, 9], [0, 11]), ([12, 12, 0, 1, 2, 3, 4, 5, 6, 7, 8, 9, 10, 11, 12], [0, 12])])
def diff_Text.B8 : List Nat := [0, 0, 2, 6, 14, 0, 32, 96, 254, 510, 1022, 2046, 4095, 8191]
theorem diff_Text.tab8 : rtab .any (opsOf Tryz.f14 8) = diff_Text.T8 := by kernel_rfl
theorem diff_Text.bits8 : waitsOk diff_Text.T8.2 diff_Text.B8 = true := by kernel_rfl
theorem diff_Text.calls (k : Nat) (A0 : Option Addr) (c0 : Nat) (l0 : List (S48)) (r : ByteArray) (w : World) (hr0 : Kd.C k48 w A0 l0.length l0) (hc0 : l0.length ≤ c0) (hL : LD w) (h : diff_Text.f k l0 = some r) :
 Calls Tryz.prog 14 #[.slice A0 l0.length c0] w fun e w' => e = .returned (.string r) ∧ Below w.heap.size w w' := by
 have HL0 := Aside0.mk hL
 clear hL
 have hu48 := Tryz.underlying48
 have hu45 := Tryz.underlying45
 have HR0 := Aside0.mk hr0
 have HC0 := Aside0.mk hc0
 clear hr0 hc0
 have HB := Aside0.mk (Below.refl w.heap.size w)
 have H : (if (l0.length : Int) = 0 then (some (⟨#[45]⟩ : ByteArray)) else (diff_Text.l0 k ([] : List ByteArray) l0 (l0.length : Int) 0)) = some r := h
 clear h
 by_cases c2 : (l0.length : Int) = 0
 ·
  rw [if_pos c2] at H
  have c2b0 : ((l0.length : Int) == 0) = true := beq_iff_eq.mpr c2
  have c2b1 : ((l0.length : Int) != 0) = false := bne_eq_false_iff_eq.mpr c2
  clear c2
  obtain rfl := Option.some.inj H
  go_enter Tryz.func14, Tryz.ntmps14
  go_wp2
  go_ret
  exact ⟨re_, uW HB.out⟩
 ·
  rw [if_neg c2] at H
  have c2b0 : ((l0.length : Int) == 0) = false := beq_eq_false_iff_ne.mpr c2
  have c2b1 : ((l0.length : Int) != 0) = true := bne_iff_ne.mpr c2
  have c2b2 : ¬ (l0 = []) := fun h_ => c2 (by rw [h_]; rfl)
  have H' := Aside0.mk H
  clear H
  go_enter Tryz.func14, Tryz.ntmps14
  go_wp2
  go_loopg [3, 11] k (fun kq v3 v11 w' => ∃ (x3_1 : List ByteArray) (x11_1 : Int), v11 = .int .i64 x11_1 ∧ Aside0 (diff_Text.l0 kq x3_1 l0 (l0.length : Int) x11_1 = some r) ∧ Aside0 (kq ≤ k) ∧ Aside0 (Kd.R Kd.string 9 w' w.heap.size (fun _ => True) v3 x3_1) ∧ Aside0 (Below w.heap.size w w'))
  case atStart => exact ⟨(([] : List ByteArray)), (0), rs_, H', ⟨Nat.le_refl _⟩, ⟨nl_⟩, ⟨uW HB.out⟩⟩
  case round =>
   clear H'
   try clear c1
   try clear c2
   try clear c2b0
   try clear c2b1
   try clear c2b2
   try clear p2
   obtain ⟨x3_1, x11_1, rfl, HA, HK1, HO_3, HB⟩ := hrel
   cases gk with
   | zero => exact absurd HA.out (by simp [diff_Text.l0])
   | succ k1 =>
    have H := HA.out
    clear HA
    simp only [diff_Text.l0] at H
    by_cases c3 : x11_1 < (l0.length : Int)
    ·
     rw [if_pos c3] at H
     have c3b0 : decide (x11_1 < (l0.length : Int)) = true := decide_eq_true c3
     clear c3
     obtain ⟨c4b0, H⟩ := gdd H
     obtain ⟨c5b0, H⟩ := gdd H
     obtain ⟨bq6, hbq6⟩ : ∃ b_ : Bool, b_ = ((rd_T48 l0 x11_1).f1) := ⟨_, rfl⟩
     replace H : (if bq6 = true then ((sat_Number.f ((rd_T48 l0 x11_1).f0.f0)).bind fun t416 => ((word_Join.f (⟨#[124]⟩ : ByteArray) (([t416, (rd_T48 l0 x11_1).f0.f1] : List ByteArray))).bind fun t420 => (if 1 + t420.size ≤ 9223372036854775807 then (if x3_1.length < 8796093022208 then (diff_Text.l0 k1 (x3_1 ++ [(⟨#[33]⟩ : ByteArray) ++ t420]) l0 (l0.length : Int) (wrap64 (x11_1 + 1))) else (none)) else (none)))) else ((row_Text.f k1 (([(⟨(rd_T48 l0 x11_1).f0.f0, (rd_T48 l0 x11_1).f0.f1, (⟨(rd_T48 l0 x11_1).f0.f2.f0, (rd_T48 l0 x11_1).f0.f2.f1⟩ : S43)⟩ : S45)] : List (S45)))).bind fun t427 => (if x3_1.length < 8796093022208 then (diff_Text.l0 k1 (x3_1 ++ [t427]) l0 (l0.length : Int) (wrap64 (x11_1 + 1))) else (none)))) = some r := by rw [← hbq6] at H; exact H
     have Nbq6 := Aside0.mk hbq6
     clear hbq6
     by_cases c7 : bq6 = true
     ·
      subst c7
      rw [if_pos rfl] at H
      obtain ⟨t416, A8, H⟩ := bs H
      try dsimp only at H
      obtain ⟨y417, hy417⟩ : ∃ y_ : List ByteArray, y_ = (([t416, (rd_T48 l0 x11_1).f0.f1] : List ByteArray)) := ⟨_, rfl⟩
      replace H : ((word_Join.f (⟨#[124]⟩ : ByteArray) y417).bind fun t420 => (if 1 + t420.size ≤ 9223372036854775807 then (if x3_1.length < 8796093022208 then (diff_Text.l0 k1 (x3_1 ++ [(⟨#[33]⟩ : ByteArray) ++ t420]) l0 (l0.length : Int) (wrap64 (x11_1 + 1))) else (none)) else (none))) = some r := by first | (rw [hy417]; with_reducible exact H) | (have H2_ := (Option.bind_some _ _).symm.trans H; rw [hy417]; with_reducible exact H2_) | (have H2_ := (Option.bind_some _ _).symm.trans H; with_reducible exact H2_) | with_reducible exact H | (rw [hy417]; exact H) | exact H
      have Ny417 := Aside0.mk hy417
      clear hy417
      obtain ⟨t420, A9, H⟩ := bs H
      try dsimp only at H
      obtain ⟨c10, H⟩ := gd H
      have c10b0 := eq_true c10
      have c10b1 : decide (1 + t420.size ≤ 9223372036854775807) = true := decide_eq_true c10
      try have c10b2 : (9223372036854775807 < 1 + t420.size) = False := eq_false (Nat.not_lt.2 c10)
      obtain ⟨c11, H⟩ := gd H
      have LMc11 := Aside0.mk c11
      clear c11
      obtain ⟨y421, hy421⟩ : ∃ y_ : List ByteArray, y_ = (x3_1 ++ [(⟨#[33]⟩ : ByteArray) ++ t420]) := ⟨_, rfl⟩
      replace H : (diff_Text.l0 k1 y421 l0 (l0.length : Int) (wrap64 (x11_1 + 1))) = some r := by first | (rw [hy421]; with_reducible exact H) | (have H2_ := (Option.bind_some _ _).symm.trans H; rw [hy421]; with_reducible exact H2_) | (have H2_ := (Option.bind_some _ _).symm.trans H; with_reducible exact H2_) | with_reducible exact H | (rw [hy421]; exact H) | exact H
      have Ny421 := Aside0.mk hy421
      clear hy421
      have H' := Aside0.mk H
      clear H
      have p414 : 0 ≤ (x11_1 : Int) := od
      have q414 : x11_1 < (l0.length : Int) := od
      obtain ⟨ad414, e414, hx414_0, hx414_1, hx414_2, hx414_3, hx414_4⟩ := at_T48 HR0.out x11_1 p414 q414
      (try rw [← Nbq6.out] at hx414_3)
      (try rw [← Nbq6.out] at hx414_4)
      cases e414
      replace hx414_0 := kc HB hx414_0
      replace hx414_1 := kc HB hx414_1
      replace hx414_2 := kc HB hx414_2
      replace hx414_3 := kc HB hx414_3
      replace hx414_4 := kc HB hx414_4
      replace p414 := eq_true p414
      replace q414 := eq_true q414
      try go_wp2_with (first | ((with_reducible refine gate_dst (N := 5) rfl ?_); refine bx (N := 5) #[.int .i64 0, .string (⟨#[]⟩ : ByteArray), .int .i64 0, .bool false, .bool false] 48 ?_; intro gb415 hg w12 hbox hb; replace HO_3 := cR HO_3 hb; have BK415 := Aside0.mk (hbox); have GW415 := gw hg (uW HB.out); have GE415 := GW415; replace HB := cW HB hb; clear hb hbox hg; obtain ⟨hcz13_0, hcz13_1, hcz13_2, hcz13_3, hcz13_4, hfz13_0, hfz13_1, hfz13_2, hfz13_3, hfz13_4⟩ := z5 BK415) | ((with_reducible refine gate_store (t := 48) (p := 5) rfl ?_); refine store_event (t := 48) (p := 5) (v := ?vo_w14) (w1 := (((((w12.setCell ⟨gb415, 0, none⟩ (.int .i64 ((rd_T48 l0 x11_1).f0.f0))).setCell ⟨gb415, 1, none⟩ (.string ((rd_T48 l0 x11_1).f0.f1))).setCell ⟨gb415, 2, none⟩ (.int .i64 ((rd_T48 l0 x11_1).f0.f2.f0))).setCell ⟨gb415, 3, none⟩ (.bool ((rd_T48 l0 x11_1).f0.f2.f1))).setCell ⟨gb415, 4, none⟩ (.bool true))) ?hg ?ho ?hn ?hr ?_; (case ho => rfl); (case hg => rfl); (case hn => rfl); (case hr => first | (go_simp; done) | (go_simp; rfl)); intro w14 hw; have n0_ : Aside0 (Kd.R Kd.string 9 w14 w.heap.size (fun _ => True) u3 x3_1) := ⟨(by rw [hw]; exact (by exact uR <| Kd.R_mono (Kd.R_far (p := ⟨gb415, 4, none⟩) (Kd.R_far (p := ⟨gb415, 3, none⟩) (Kd.R_far (p := ⟨gb415, 2, none⟩) (Kd.R_far (p := ⟨gb415, 1, none⟩) (Kd.R_far (p := ⟨gb415, 0, none⟩) (Kd.R_types HO_3.out BK415.out (by decide)) (fun _ hk => hk.2) (.int .i64 ((rd_T48 l0 x11_1).f0.f0))) (fun _ hk => hk.2) (.string ((rd_T48 l0 x11_1).f0.f1))) (fun _ hk => hk.2) (.int .i64 ((rd_T48 l0 x11_1).f0.f2.f0))) (fun _ hk => hk.2) (.bool ((rd_T48 l0 x11_1).f0.f2.f1))) (fun _ hk => hk.2) (.bool true)) (fun _ hk => trivial)))⟩; have n1_ : Aside0 (w14.heap[gb415]? = some (.cells #[.int .i64 ((rd_T48 l0 x11_1).f0.f0), .string ((rd_T48 l0 x11_1).f0.f1), .int .i64 ((rd_T48 l0 x11_1).f0.f2.f0), .bool ((rd_T48 l0 x11_1).f0.f2.f1), .bool true] 48 (0, 0))) := ⟨(by rw [hw]; exact (by (with_reducible repeat (first | refine blk_drewN ?_ _ | refine blk_drew ?_ | refine blk_alloc ?_ _)); refine blk_put (cs := #[.int .i64 ((rd_T48 l0 x11_1).f0.f0), .string ((rd_T48 l0 x11_1).f0.f1), .int .i64 ((rd_T48 l0 x11_1).f0.f2.f0), .bool ((rd_T48 l0 x11_1).f0.f2.f1), .bool false]) ?_ 4 _ rfl; (with_reducible repeat (first | refine blk_drewN ?_ _ | refine blk_drew ?_ | refine blk_alloc ?_ _)); refine blk_put (cs := #[.int .i64 ((rd_T48 l0 x11_1).f0.f0), .string ((rd_T48 l0 x11_1).f0.f1), .int .i64 ((rd_T48 l0 x11_1).f0.f2.f0), .bool false, .bool false]) ?_ 3 _ rfl; (with_reducible repeat (first | refine blk_drewN ?_ _ | refine blk_drew ?_ | refine blk_alloc ?_ _)); refine blk_put (cs := #[.int .i64 ((rd_T48 l0 x11_1).f0.f0), .string ((rd_T48 l0 x11_1).f0.f1), .int .i64 0, .bool false, .bool false]) ?_ 2 _ rfl; (with_reducible repeat (first | refine blk_drewN ?_ _ | refine blk_drew ?_ | refine blk_alloc ?_ _)); refine blk_put (cs := #[.int .i64 ((rd_T48 l0 x11_1).f0.f0), .string (⟨#[]⟩ : ByteArray), .int .i64 0, .bool false, .bool false]) ?_ 1 _ rfl; (with_reducible repeat (first | refine blk_drewN ?_ _ | refine blk_drew ?_ | refine blk_alloc ?_ _)); refine blk_put (cs := #[.int .i64 0, .string (⟨#[]⟩ : ByteArray), .int .i64 0, .bool false, .bool false]) ?_ 0 _ rfl; exact uB <| BK415.out))⟩; have n2_ : Aside0 (Below w.heap.size w w14) := ⟨(by rw [hw]; exact bl)⟩; clear hw; clear HO_3; clear BK415; clear HB; have HO_3 := n0_; have BK415 := n1_; have HB := n2_; clear n0_ n1_ n2_; obtain ⟨hcz15_0, hcz15_1, hcz15_2, hcz15_3, hcz15_4, hfz15_0, hfz15_1, hfz15_2, hfz15_3, hfz15_4⟩ := z5 BK415))
      replace HO_3 := Aside0.mk (Kd.R_drew HO_3.out)
      replace BK415 := Aside0.mk (blk_drew BK415.out)
      replace HB := Aside0.mk (below_drew1 HB.out)
      refine start_ (n := 14) (S := fun w' => w'.cell? ⟨gb415, 0, none⟩ = some (.int .i64 ((rd_T48 l0 x11_1).f0.f0)) ∧ w'.cell? ⟨gb415, 1, none⟩ = some (.string ((rd_T48 l0 x11_1).f0.f1)) ∧ w'.cell? ⟨gb415, 2, none⟩ = some (.int .i64 ((rd_T48 l0 x11_1).f0.f2.f0)) ∧ w'.cell? ⟨gb415, 3, none⟩ = some (.bool ((rd_T48 l0 x11_1).f0.f2.f1)) ∧ w'.cell? ⟨gb415, 4, none⟩ = some (.bool true)) (ds := []) _ (by kernel_rfl) rfl rfl ⟨(blk_cell BK415.out 0).trans rfl, (blk_cell BK415.out 1).trans rfl, (blk_cell BK415.out 2).trans rfl, (blk_cell BK415.out 3).trans rfl, (blk_cell BK415.out 4).trans rfl⟩ (fun hHeld => ?_); refine with_tabW diff_Text.tab8 diff_Text.bits8 (fun HT_ HW_ => ?_)
      generalize w14.drew = w16 at HO_3 BK415 HB hHeld ⊢
      refine p1 0 (some 17) ?_
      refine p1 1 (some 18) ?_
      refine p1 2 (some 19) ?_
      refine p1 5 (some 22) ?_
      refine p1 6 (some 23) ?_
      refine t1 3 (some 20) rfl rfl hHeld (Or.inl ⟨by rfl, by rintro w' ⟨s0, s1, s2, s3, s4⟩; go_simp; with_reducible rfl⟩) ?_
      refine t1 7 (some 24) rfl rfl hHeld (Or.inl ⟨by rfl, by rintro w' ⟨s0, s1, s2, s3, s4⟩; go_simp; with_reducible rfl⟩) ?_
      refine o1 4 (some 21) rfl rfl (fun K hK => ?_)
      refine gS Tryz.func31 #[.int .i64 ((rd_T48 l0 x11_1).f0.f0)] ?_
      with_reducible refine (sat_Number.calls (hL := ld) ((rd_T48 l0 x11_1).f0.f0) t416 _ A8.out).mono ?_
      rintro e w17 ⟨rfl, hb⟩
      refine ⟨_, rfl, ?_⟩
      replace HO_3 := cR HO_3 hb
      replace BK415 := cB BK415 hb
      replace HB := Aside0.mk (below_step bl hb)
      (try clear hb)
      refine hK.out _ _ ⟨(blk_cell BK415.out 0).trans rfl, (blk_cell BK415.out 1).trans rfl, (blk_cell BK415.out 2).trans rfl, (blk_cell BK415.out 3).trans rfl, (blk_cell BK415.out 4).trans rfl⟩ (fun hHeld => ?_)
      clear hK K
      refine norm_ (a' := ?_) ?_ ?_
      rotate_left
      ·
       show Act.put _ (some 21) _ = _
       simp only [Act.put, List.setIfInBounds_toArray, List.set_cons_zero, List.set_cons_succ, i64_w, i32_w]
       rfl
      refine o1 8 (some 25) rfl rfl (fun K hK => ?_)
      refine Kd.R_lit_step Kd.string _ 9 ?hg (N := 25) ?hd (xs := ([t416, (rd_T48 l0 x11_1).f0.f1] : List ByteArray)) (inner := [.string t416, .string ((rd_T48 l0 x11_1).f0.f1)]) (ok := fun _ => True) (okp := fun _ => True) ?hr ?hp (fun _ hk => hk) trivial (Below.refl _ _) (Nat.le_refl _) (by simp) ?_; (case hd => rfl); (case hg => rfl); (case hr => first | (go_simp; done) | (go_simp; rfl)); (case hp => exact (Reps.one (show Kd.M Kd.string _ _ _ t416 [.string t416] from rfl) (Reps.one (show Kd.M Kd.string _ _ _ ((rd_T48 l0 x11_1).f0.f1) [.string ((rd_T48 l0 x11_1).f0.f1)] from rfl) (Reps.none _ _))))
      intro v418 w18 ho19 hb hg_ hnew_
      clear hg_ hnew_
      (first | rw [← Ny417.out] at ho19 | (simp only [Int.reduceToNat] at ho19; rw [← Ny417.out] at ho19))
      have HO419 := Aside0.mk (Kd.R_lower (Kd.R_new' ho19 (Kd.R_lt (uR HO_3.out))) (below_size bl))
      replace HO_3 := Aside0.mk (Kd.R_elder' (uR HO_3.out) (Kd.R_base ho19) hb)
      replace BK415 := cB BK415 hb
      replace HB := Aside0.mk (below_step bl hb)
      clear hb ho19
      obtain ⟨Ao20, co20, eo20⟩ := Kd.R_slice HO419.out
      (first | subst eo20 | (injection eo20 with f1_ f2_ f3_; have f4_ := f1_.symm; have f5_ := f3_.symm; clear f1_ f2_ f3_; subst f4_; subst f5_))
      refine hK.out _ _ ⟨(blk_cell BK415.out 0).trans rfl, (blk_cell BK415.out 1).trans rfl, (blk_cell BK415.out 2).trans rfl, (blk_cell BK415.out 3).trans rfl, (blk_cell BK415.out 4).trans rfl⟩ (fun hHeld => ?_)
      clear hK K
      refine norm_ (a' := ?_) ?_ ?_
      rotate_left
      ·
       show Act.put _ (some 25) _ = _
       simp only [Act.put, List.setIfInBounds_toArray, List.set_cons_zero, List.set_cons_succ, i64_w, i32_w]
       rfl
      refine o1 9 (some 26) rfl rfl (fun K hK => ?_)
      refine gS Tryz.func30 #[.string (⟨#[124]⟩ : ByteArray), .slice Ao20 y417.length co20] ?_
      with_reducible refine (word_Join.calls (⟨#[124]⟩ : ByteArray) _ _ y417 t420 _ ?side1 ?side2 A9.out).mono ?_
      (case side1 => exact uC <| (Kd.R_reads' HO419.out).2.2)
      (case side2 => exact (Kd.R_reads' HO419.out).2.1)
      rintro e w21 ⟨rfl, hb⟩
      refine ⟨_, rfl, ?_⟩
      replace HO_3 := cR HO_3 hb
      replace HO419 := cR HO419 hb
      replace BK415 := cB BK415 hb
      replace HB := Aside0.mk (below_step bl hb)
      (try clear hb)
      refine hK.out _ _ ⟨(blk_cell BK415.out 0).trans rfl, (blk_cell BK415.out 1).trans rfl, (blk_cell BK415.out 2).trans rfl, (blk_cell BK415.out 3).trans rfl, (blk_cell BK415.out 4).trans rfl⟩ (fun hHeld => ?_)
      clear hK K
      refine norm_ (a' := ?_) ?_ ?_
      rotate_left
      ·
       show Act.put _ (some 26) _ = _
       simp only [Act.put, List.setIfInBounds_toArray, List.set_cons_zero, List.set_cons_succ, i64_w, i32_w]
       rfl
      refine p1 10 (some 27) ?_
      refine o1 11 (some 28) rfl rfl (fun K hK => ?_)
      refine value_ (w1 := ?_) (v := ?_) (by rfl) rfl ?_ ?_
      rotate_left 2
      ·
       go_simp
       constructor
       ·
        rfl
       ·
        rfl
      refine hK.out _ _ ⟨(blk_cell (blk_alloc BK415.out _) 0).trans rfl, (blk_cell (blk_alloc BK415.out _) 1).trans rfl, (blk_cell (blk_alloc BK415.out _) 2).trans rfl, (blk_cell (blk_alloc BK415.out _) 3).trans rfl, (blk_cell (blk_alloc BK415.out _) 4).trans rfl⟩ (fun hHeld => ?_)
      clear hK K
      refine norm_ (a' := ?_) ?_ ?_
      rotate_left
      ·
       show Act.put _ (some 28) _ = _
       simp only [Act.put, List.setIfInBounds_toArray, List.set_cons_zero, List.set_cons_succ, i64_w, i32_w]
       rfl
      refine o1 12 (some 29) rfl rfl (fun K hK => ?_)
      refine Kd.R_append_step Kd.string (w0 := w) w.heap.size (by rfl) (.tmp 17) (.tmp 28) 52 9 (.string ⟨#[]⟩) 16 rfl Tryz.underlying52 info9 rfl (by decide) (by omega) u3 x3_1 ((⟨#[33]⟩ : ByteArray) ++ t420) [.string ((⟨#[33]⟩ : ByteArray) ++ t420)] (fun k_ => some k_ ≠ (.slice Ao20 y417.length co20 : Value).ownBlock) (fun _ => False) rfl rfl ?aP (fun _ hk => hk.elim) ?aF ?aO ?aB ?aS ?aL ?_
      (case aP => exact rfl)
      (case aB => exact bl)
      (case aF => exact (fun k_ hk => Kd.fresh' (Kd.R_lt (uR HO419.out)) k_ hk))
      (case aO => exact (by exact uR <| Kd.R_mono HO_3.out (fun _ hk => hk.2)))
      (case aS => exact (below_size bl))
      (case aL => have := LMc11.out; omega)
      intro v422 w22 ho hb hg hat
      rw [← Ny421.out] at ho
      replace BK415 := Aside0.mk (blk_grown (g := gb415) (o := .cells #[.int .i64 ((rd_T48 l0 x11_1).f0.f0), .string ((rd_T48 l0 x11_1).f0.f1), .int .i64 ((rd_T48 l0 x11_1).f0.f2.f0), .bool ((rd_T48 l0 x11_1).f0.f2.f1), .bool true] 48 (0, 0)) (uB BK415.out) hg (Kd.R_ne HO_3.out BK415.out (by decide)))
      replace HO419 := Aside0.mk (Kd.R_after (ok := (fun _ => True)) (uR HO419.out) hg hat)
      replace HB := Aside0.mk (hb)
      have HO423 := Aside0.mk (ho)
      clear HO_3
      clear ho hb hg hat
      refine hK.out _ _ ⟨(blk_cell BK415.out 0).trans rfl, (blk_cell BK415.out 1).trans rfl, (blk_cell BK415.out 2).trans rfl, (blk_cell BK415.out 3).trans rfl, (blk_cell BK415.out 4).trans rfl⟩ (fun hHeld => ?_)
      clear hK K
      refine norm_ (a' := ?_) ?_ ?_
      rotate_left
      ·
       show Act.put _ (some 29) _ = _
       simp only [Act.put, List.setIfInBounds_toArray, List.set_cons_zero, List.set_cons_succ, i64_w, i32_w]
       rfl
      refine p1 13 (some 3) ?_
      refine done_ (done_of HT_.out (by kernel_rfl)) ?_
      try go_wp2
      go_roundg k1
      case measure => have := HK1.out; omega
      case rel => exact ⟨(y421), (wrap64 (x11_1 + 1)), rs_, (by first | exact H' | (rw [← Nbq6.out]; exact H')), ⟨by have := HK1.out; omega⟩, ⟨by exact uR <| Kd.R_mono HO423.out (fun _ hk => trivial)⟩, ⟨bl⟩⟩
     ·
      replace c7 := Bool.eq_false_iff.mpr c7
      subst c7
      rw [if_neg (show ¬ (false = true) by decide)] at H
      obtain ⟨y424, hy424⟩ : ∃ y_ : List (S45), y_ = (([(⟨(rd_T48 l0 x11_1).f0.f0, (rd_T48 l0 x11_1).f0.f1, (⟨(rd_T48 l0 x11_1).f0.f2.f0, (rd_T48 l0 x11_1).f0.f2.f1⟩ : S43)⟩ : S45)] : List (S45))) := ⟨_, rfl⟩
      replace H : ((row_Text.f k1 y424).bind fun t427 => (if x3_1.length < 8796093022208 then (diff_Text.l0 k1 (x3_1 ++ [t427]) l0 (l0.length : Int) (wrap64 (x11_1 + 1))) else (none))) = some r := by first | (rw [hy424]; with_reducible exact H) | (have H2_ := (Option.bind_some _ _).symm.trans H; rw [hy424]; with_reducible exact H2_) | (have H2_ := (Option.bind_some _ _).symm.trans H; with_reducible exact H2_) | with_reducible exact H | (rw [hy424]; exact H) | exact H
      have Ny424 := Aside0.mk hy424
      clear hy424
      obtain ⟨t427, A23, H⟩ := bs H
      try dsimp only at H
      obtain ⟨c24, H⟩ := gd H
      have LMc24 := Aside0.mk c24
      clear c24
      obtain ⟨y428, hy428⟩ : ∃ y_ : List ByteArray, y_ = (x3_1 ++ [t427]) := ⟨_, rfl⟩
      replace H : (diff_Text.l0 k1 y428 l0 (l0.length : Int) (wrap64 (x11_1 + 1))) = some r := by first | (rw [hy428]; with_reducible exact H) | (have H2_ := (Option.bind_some _ _).symm.trans H; rw [hy428]; with_reducible exact H2_) | (have H2_ := (Option.bind_some _ _).symm.trans H; with_reducible exact H2_) | with_reducible exact H | (rw [hy428]; exact H) | exact H
      have Ny428 := Aside0.mk hy428
      clear hy428
      have H' := Aside0.mk H
      clear H
      have p414 : 0 ≤ (x11_1 : Int) := od
      have q414 : x11_1 < (l0.length : Int) := od
      obtain ⟨ad414, e414, hx414_0, hx414_1, hx414_2, hx414_3, hx414_4⟩ := at_T48 HR0.out x11_1 p414 q414
      (try rw [← Nbq6.out] at hx414_3)
      (try rw [← Nbq6.out] at hx414_4)
      cases e414
      replace hx414_0 := kc HB hx414_0
      replace hx414_1 := kc HB hx414_1
      replace hx414_2 := kc HB hx414_2
      replace hx414_3 := kc HB hx414_3
      replace hx414_4 := kc HB hx414_4
      replace p414 := eq_true p414
      replace q414 := eq_true q414
      go_wp2_with (first | ((with_reducible refine gate_dst (N := 5) rfl ?_); refine bx (N := 5) #[.int .i64 0, .string (⟨#[]⟩ : ByteArray), .int .i64 0, .bool false, .bool false] 48 ?_; intro gb415 hg w25 hbox hb; replace HO_3 := cR HO_3 hb; have BK415 := Aside0.mk (hbox); have GW415 := gw hg (uW HB.out); have GE415 := GW415; replace HB := cW HB hb; clear hb hbox hg; obtain ⟨hcz26_0, hcz26_1, hcz26_2, hcz26_3, hcz26_4, hfz26_0, hfz26_1, hfz26_2, hfz26_3, hfz26_4⟩ := z5 BK415) | ((with_reducible refine gate_store (t := 48) (p := 5) rfl ?_); refine store_event (t := 48) (p := 5) (v := ?vo_w27) (w1 := (((((w25.setCell ⟨gb415, 0, none⟩ (.int .i64 ((rd_T48 l0 x11_1).f0.f0))).setCell ⟨gb415, 1, none⟩ (.string ((rd_T48 l0 x11_1).f0.f1))).setCell ⟨gb415, 2, none⟩ (.int .i64 ((rd_T48 l0 x11_1).f0.f2.f0))).setCell ⟨gb415, 3, none⟩ (.bool ((rd_T48 l0 x11_1).f0.f2.f1))).setCell ⟨gb415, 4, none⟩ (.bool false))) ?hg ?ho ?hn ?hr ?_; (case ho => rfl); (case hg => rfl); (case hn => rfl); (case hr => first | (go_simp; done) | (go_simp; rfl)); intro w27 hw; have n0_ : Aside0 (Kd.R Kd.string 9 w27 w.heap.size (fun _ => True) u3 x3_1) := ⟨(by rw [hw]; exact (by exact uR <| Kd.R_mono (Kd.R_far (p := ⟨gb415, 4, none⟩) (Kd.R_far (p := ⟨gb415, 3, none⟩) (Kd.R_far (p := ⟨gb415, 2, none⟩) (Kd.R_far (p := ⟨gb415, 1, none⟩) (Kd.R_far (p := ⟨gb415, 0, none⟩) (Kd.R_types HO_3.out BK415.out (by decide)) (fun _ hk => hk.2) (.int .i64 ((rd_T48 l0 x11_1).f0.f0))) (fun _ hk => hk.2) (.string ((rd_T48 l0 x11_1).f0.f1))) (fun _ hk => hk.2) (.int .i64 ((rd_T48 l0 x11_1).f0.f2.f0))) (fun _ hk => hk.2) (.bool ((rd_T48 l0 x11_1).f0.f2.f1))) (fun _ hk => hk.2) (.bool false)) (fun _ hk => trivial)))⟩; have n1_ : Aside0 (w27.heap[gb415]? = some (.cells #[.int .i64 ((rd_T48 l0 x11_1).f0.f0), .string ((rd_T48 l0 x11_1).f0.f1), .int .i64 ((rd_T48 l0 x11_1).f0.f2.f0), .bool ((rd_T48 l0 x11_1).f0.f2.f1), .bool false] 48 (0, 0))) := ⟨(by rw [hw]; exact (by (with_reducible repeat (first | refine blk_drewN ?_ _ | refine blk_drew ?_ | refine blk_alloc ?_ _)); refine blk_put (cs := #[.int .i64 ((rd_T48 l0 x11_1).f0.f0), .string ((rd_T48 l0 x11_1).f0.f1), .int .i64 ((rd_T48 l0 x11_1).f0.f2.f0), .bool ((rd_T48 l0 x11_1).f0.f2.f1), .bool false]) ?_ 4 _ rfl; (with_reducible repeat (first | refine blk_drewN ?_ _ | refine blk_drew ?_ | refine blk_alloc ?_ _)); refine blk_put (cs := #[.int .i64 ((rd_T48 l0 x11_1).f0.f0), .string ((rd_T48 l0 x11_1).f0.f1), .int .i64 ((rd_T48 l0 x11_1).f0.f2.f0), .bool false, .bool false]) ?_ 3 _ rfl; (with_reducible repeat (first | refine blk_drewN ?_ _ | refine blk_drew ?_ | refine blk_alloc ?_ _)); refine blk_put (cs := #[.int .i64 ((rd_T48 l0 x11_1).f0.f0), .string ((rd_T48 l0 x11_1).f0.f1), .int .i64 0, .bool false, .bool false]) ?_ 2 _ rfl; (with_reducible repeat (first | refine blk_drewN ?_ _ | refine blk_drew ?_ | refine blk_alloc ?_ _)); refine blk_put (cs := #[.int .i64 ((rd_T48 l0 x11_1).f0.f0), .string (⟨#[]⟩ : ByteArray), .int .i64 0, .bool false, .bool false]) ?_ 1 _ rfl; (with_reducible repeat (first | refine blk_drewN ?_ _ | refine blk_drew ?_ | refine blk_alloc ?_ _)); refine blk_put (cs := #[.int .i64 0, .string (⟨#[]⟩ : ByteArray), .int .i64 0, .bool false, .bool false]) ?_ 0 _ rfl; exact uB <| BK415.out))⟩; have n2_ : Aside0 (Below w.heap.size w w27) := ⟨(by rw [hw]; exact bl)⟩; clear hw; clear HO_3; clear BK415; clear HB; have HO_3 := n0_; have BK415 := n1_; have HB := n2_; clear n0_ n1_ n2_; obtain ⟨hcz28_0, hcz28_1, hcz28_2, hcz28_3, hcz28_4, hfz28_0, hfz28_1, hfz28_2, hfz28_3, hfz28_4⟩ := z5 BK415) | ((with_reducible refine gate_dst (N := 33) rfl ?_); refine Kd.R_lit k45 _ 45 ?hg (N := 33) ?hd (xs := ([(⟨(rd_T48 l0 x11_1).f0.f0, (rd_T48 l0 x11_1).f0.f1, (⟨(rd_T48 l0 x11_1).f0.f2.f0, (rd_T48 l0 x11_1).f0.f2.f1⟩ : S43)⟩ : S45)] : List (S45))) (inner := [.int .i64 ((rd_T48 l0 x11_1).f0.f0), .string ((rd_T48 l0 x11_1).f0.f1), .int .i64 ((rd_T48 l0 x11_1).f0.f2.f0), .bool ((rd_T48 l0 x11_1).f0.f2.f1)]) (ok := fun _ => True) (okp := fun _ => True) ?hr ?hp (fun _ hk => hk) trivial (Below.refl _ _) (Nat.le_refl _) (by simp) ?_; (case hd => rfl); (case hg => rfl); (case hr => first | (go_simp; done) | (go_simp; rfl)); (case hp => exact (Reps.c4 (show Kd.M k45 _ _ _ (⟨(rd_T48 l0 x11_1).f0.f0, (rd_T48 l0 x11_1).f0.f1, (⟨(rd_T48 l0 x11_1).f0.f2.f0, (rd_T48 l0 x11_1).f0.f2.f1⟩ : S43)⟩ : S45) [.int .i64 ((rd_T48 l0 x11_1).f0.f0), .string ((rd_T48 l0 x11_1).f0.f1), .int .i64 ((rd_T48 l0 x11_1).f0.f2.f0), .bool ((rd_T48 l0 x11_1).f0.f2.f1)] from (k45_mkM _ _ _ (⟨(rd_T48 l0 x11_1).f0.f0, (rd_T48 l0 x11_1).f0.f1, (⟨(rd_T48 l0 x11_1).f0.f2.f0, (rd_T48 l0 x11_1).f0.f2.f1⟩ : S43)⟩ : S45) )) (Reps.none _ _))); intro v425 w29 ho30 hb hg_ hnew_; clear hg_ hnew_; (first | rw [← Ny424.out] at ho30 | (simp only [Int.reduceToNat] at ho30; rw [← Ny424.out] at ho30)); replace HO_3 := cR HO_3 hb; have HO426 := Aside0.mk (Kd.R_lower ho30 (below_size bl)); replace BK415 := cB BK415 hb; replace HB := Aside0.mk (below_step bl hb); clear hb ho30; obtain ⟨Ao31, co31, eo31⟩ := Kd.R_slice HO426.out; subst eo31) | (refine gL (some 34) rfl Tryz.func32 #[.slice Ao31 y424.length co31] ?_; (with_reducible refine (row_Text.calls (hL := ld) k1 _ _ y424 t427 _ ?side1 ?side2 A23.out).mono ?_); (case side1 => exact uC <| (Kd.R_reads' HO426.out).2.2); (case side2 => exact (Kd.R_reads' HO426.out).2.1); rintro e w32 ⟨rfl, hb⟩; refine ⟨_, rfl, ?_⟩; replace HO_3 := cR HO_3 hb; replace HO426 := cR HO426 hb; replace BK415 := cB BK415 hb; replace HB := Aside0.mk (below_step bl hb); (try clear hb)) | ((with_reducible refine gate_builtin (b := .append) (xs := #[.tmp 30, .tmp 35]) rfl ?_); at_builtin; refine Kd.R_append Kd.string (w0 := w) w.heap.size rfl (.tmp 30) (.tmp 35) 52 9 (.string ⟨#[]⟩) 16 rfl Tryz.underlying52 info9 rfl (by decide) (by omega) u3 x3_1 t427 [.string t427] (fun _ => True) (fun _ => False) rfl rfl ?aP (fun _ hk => hk.elim) ?aF ?aO ?aB ?aS ?aL ?_; (case aP => exact rfl); (case aB => exact bl); (case aF => exact (fun _ _ => trivial)); (case aO => exact (uR HO_3.out)); (case aS => exact (below_size bl)); (case aL => have := LMc24.out; omega); intro v429 w33 ho hb hg hat; rw [← Ny428.out] at ho; replace BK415 := Aside0.mk (blk_grown (g := gb415) (o := .cells #[.int .i64 ((rd_T48 l0 x11_1).f0.f0), .string ((rd_T48 l0 x11_1).f0.f1), .int .i64 ((rd_T48 l0 x11_1).f0.f2.f0), .bool ((rd_T48 l0 x11_1).f0.f2.f1), .bool false] 48 (0, 0)) (uB BK415.out) hg (Kd.R_ne HO_3.out BK415.out (by decide))); replace HO426 := Aside0.mk (Kd.R_over' (uR HO426.out) (Kd.R_typed (uR HO_3.out)) (by decide) hg); replace HB := Aside0.mk (hb); have HO430 := Aside0.mk (ho); clear HO_3; clear ho hb hg hat))
      go_roundg k1
      case measure => have := HK1.out; omega
      case rel => exact ⟨(y428), (wrap64 (x11_1 + 1)), rs_, (by first | exact H' | (rw [← Nbq6.out]; exact H')), ⟨by have := HK1.out; omega⟩, ⟨uR HO430.out⟩, ⟨bl⟩⟩
    ·
     rw [if_neg c3] at H
     have c3b0 : decide (x11_1 < (l0.length : Int)) = false := decide_eq_false c3
     clear c3
     obtain ⟨t413, A34, H⟩ := bs H
     try dsimp only at H
     obtain rfl := Option.some.inj H
     obtain ⟨Ao35, co35, eo35⟩ := Kd.R_slice HO_3.out
     subst eo35
     go_wp2_with (first | (refine gL (some 39) rfl Tryz.func30 #[.string (⟨#[59]⟩ : ByteArray), .slice Ao35 x3_1.length co35] ?_; (with_reducible refine (word_Join.calls (⟨#[59]⟩ : ByteArray) _ _ x3_1 t413 _ ?side1 ?side2 A34.out).mono ?_); (case side1 => exact uC <| (Kd.R_reads' HO_3.out).2.2); (case side2 => exact (Kd.R_reads' HO_3.out).2.1); rintro e w36 ⟨rfl, hb⟩; refine ⟨_, rfl, ?_⟩; replace HO_3 := cR HO_3 hb; replace HB := cW HB hb; (try clear hb)))
     go_ret
     exact ⟨re_, uW HB.out⟩
theorem eqA48 (d : Nat) (w : World) (x0 y0 : Int) (x1 y1 : ByteArray) (x2 y2 : Int) (x3 y3 : Bool) (x4 y4 : Bool) :
 (Op.equalIn (d + 4) 48 (.agg #[.int .i64 x0, .string x1, .int .i64 x2, .bool x3, .bool x4]) (.agg #[.int .i64 y0, .string y1, .int .i64 y2, .bool y3, .bool y4])).run Tryz.prog w = .ok ((x0 == y0 && (x1.toList == y1.toList && ((x2 == y2 && (x3 == y3))))) && (x4 == y4)) w := by
 refine eqA_of Tryz.underlying48 (by kernel_rfl) ?_
 refine eqf_cons (by rfl) (by go_simp) (by go_simp) (eqA45 (d + 0) w _ _ _ _ _ _ _ _) ?_
 exact eqf_last (by rfl) (by go_simp; rfl) (by go_simp; rfl) (by go_simp)
attribute [local go_sem high] eqA48
def diff_right.l0 : Nat → List (S45) → List (S48) → Int → Int → Option (Bool)
 | 0, _, _, _, _ => none
 | k + 1, x3, x6, x7, x8 => if x8 < x7 then (if 0 ≤ x8 then (if x8 < (x6.length : Int) then (if (rd_T48 x6 x8).f1 = true then ((diff_gone.f ((rd_T48 x6 x8).f0.f0) ((rd_T48 x6 x8).f0.f1) ((rd_T48 x6 x8).f0.f2.f0) ((rd_T48 x6 x8).f0.f2.f1)).bind fun bt433 => (if ((!(((rd_T48 x6 x8).f0.f0) == bt433.1) || (!((((rd_T48 x6 x8).f0.f1).toList) == bt433.2.1.toList) || ((!(((rd_T48 x6 x8).f0.f2.f0) == bt433.2.2.1) || (!(((rd_T48 x6 x8).f0.f2.f1) == bt433.2.2.2.1)))))) || (!(((rd_T48 x6 x8).f1) == bt433.2.2.2.2))) = true then (some false) else (if x3.length < 3518437208883 then (diff_right.l0 k (x3 ++ [(⟨(rd_T48 x6 x8).f0.f0, (rd_T48 x6 x8).f0.f1, (⟨(rd_T48 x6 x8).f0.f2.f0, (rd_T48 x6 x8).f0.f2.f1⟩ : S43)⟩ : S45)]) x6 x7 (wrap64 (x8 + 1))) else (none)))) else (if x3.length < 3518437208883 then (diff_right.l0 k (x3 ++ [(⟨(rd_T48 x6 x8).f0.f0, (rd_T48 x6 x8).f0.f1, (⟨(rd_T48 x6 x8).f0.f2.f0, (rd_T48 x6 x8).f0.f2.f1⟩ : S43)⟩ : S45)]) x6 x7 (wrap64 (x8 + 1))) else (none))) else (none)) else (none)) else ((row_Right.f k x3).bind fun t444 => (some t444))
def diff_right.f (k : Nat) (l0 : List (S48)) : Option (Bool) := diff_right.l0 k ([] : List (S45)) l0 (l0.length : Int) 0
theorem diff_right.mono_l : ∀ k, (∀ y0 y1 y2 y3, LeC (diff_right.l0 k y0 y1 y2 y3) (diff_right.l0 (k + 1) y0 y1 y2 y3))
 | 0 => fun _ _ _ _ => ⟨fun r h => by simp [diff_right.l0] at h⟩
 | k + 1 => by have ih0 := diff_right.mono_l k; exact fun _ _ _ _ => by unfold diff_right.l0; exact lm
theorem diff_right.mono : ∀ a0 k, LeO (diff_right.f k a0) (diff_right.f (k + 1) a0) := by
 intro a0 k
 have ih0 := diff_right.mono_l k
 unfold diff_right.f
 exact lo
instance diff_right.mI {a0 k} : LeC (diff_right.f k a0) (diff_right.f (k + 1) a0) := ⟨diff_right.mono _ _⟩
def diff_right.T5 : Bool × List (List Nat × List Nat) := (true, [([], []), ([0], [0]), ([1], [1]), ([2], [2]), ([2], [2]), ([4, 2], [2, 4]), ([5, 2, 2], [2, 5]), ([3, 6, 2], [2, 3, 6]), ([2, 7], [2, 7])])
def diff_right.B5 : List Nat := [0, 1, 3, 7, 7, 23, 55, 127, 255]
theorem diff_right.tab5 : rtab .any (opsOf Tryz.f36 5) = diff_right.T5 := by kernel_rfl
theorem diff_right.bits5 : waitsOk diff_right.T5.2 diff_right.B5 = true := by kernel_rfl
theorem diff_right.calls (k : Nat) (A0 : Option Addr) (c0 : Nat) (l0 : List (S48)) (r : Bool) (w : World) (hr0 : Kd.C k48 w A0 l0.length l0) (hc0 : l0.length ≤ c0) (hL : LD w) (h : diff_right.f k l0 = some r) :
 Calls Tryz.prog 36 #[.slice A0 l0.length c0] w fun e w' => e = .returned (.bool r) ∧ Below w.heap.size w w' := by
 have HL0 := Aside0.mk hL
 clear hL
 have hu48 := Tryz.underlying48
 have hu45 := Tryz.underlying45
 have HR0 := Aside0.mk hr0
 have HC0 := Aside0.mk hc0
 clear hr0 hc0
 have HB := Aside0.mk (Below.refl w.heap.size w)
 have H : (diff_right.l0 k ([] : List (S45)) l0 (l0.length : Int) 0) = some r := h
 clear h
 have H' := Aside0.mk H
 clear H
 go_enter Tryz.func36, Tryz.ntmps36
 go_wp2
 go_loopg [3, 8] k (fun kq v3 v8 w' => ∃ (x3_1 : List (S45)) (x8_1 : Int), v8 = .int .i64 x8_1 ∧ Aside0 (diff_right.l0 kq x3_1 l0 (l0.length : Int) x8_1 = some r) ∧ Aside0 (kq ≤ k) ∧ Aside0 (Kd.R k45 45 w' w.heap.size (fun _ => True) v3 x3_1) ∧ Aside0 (Below w.heap.size w w'))
 case atStart => exact ⟨(([] : List (S45))), (0), rs_, H', ⟨Nat.le_refl _⟩, ⟨nl_⟩, ⟨uW HB.out⟩⟩
 case round =>
  clear H'
  obtain ⟨x3_1, x8_1, rfl, HA, HK1, HO_3, HB⟩ := hrel
  cases gk with
  | zero => exact absurd HA.out (by simp [diff_right.l0])
  | succ k1 =>
   have H := HA.out
   clear HA
   simp only [diff_right.l0] at H
   by_cases c2 : x8_1 < (l0.length : Int)
   ·
    rw [if_pos c2] at H
    have c2b0 : decide (x8_1 < (l0.length : Int)) = true := decide_eq_true c2
    clear c2
    obtain ⟨c3b0, H⟩ := gdd H
    obtain ⟨c4b0, H⟩ := gdd H
    obtain ⟨bq5, hbq5⟩ : ∃ b_ : Bool, b_ = ((rd_T48 l0 x8_1).f1) := ⟨_, rfl⟩
    replace H : (if bq5 = true then ((diff_gone.f ((rd_T48 l0 x8_1).f0.f0) ((rd_T48 l0 x8_1).f0.f1) ((rd_T48 l0 x8_1).f0.f2.f0) ((rd_T48 l0 x8_1).f0.f2.f1)).bind fun bt433 => (if ((!(((rd_T48 l0 x8_1).f0.f0) == bt433.1) || (!((((rd_T48 l0 x8_1).f0.f1).toList) == bt433.2.1.toList) || ((!(((rd_T48 l0 x8_1).f0.f2.f0) == bt433.2.2.1) || (!(((rd_T48 l0 x8_1).f0.f2.f1) == bt433.2.2.2.1)))))) || (!((bq5) == bt433.2.2.2.2))) = true then (some false) else (if x3_1.length < 3518437208883 then (diff_right.l0 k1 (x3_1 ++ [(⟨(rd_T48 l0 x8_1).f0.f0, (rd_T48 l0 x8_1).f0.f1, (⟨(rd_T48 l0 x8_1).f0.f2.f0, (rd_T48 l0 x8_1).f0.f2.f1⟩ : S43)⟩ : S45)]) l0 (l0.length : Int) (wrap64 (x8_1 + 1))) else (none)))) else (if x3_1.length < 3518437208883 then (diff_right.l0 k1 (x3_1 ++ [(⟨(rd_T48 l0 x8_1).f0.f0, (rd_T48 l0 x8_1).f0.f1, (⟨(rd_T48 l0 x8_1).f0.f2.f0, (rd_T48 l0 x8_1).f0.f2.f1⟩ : S43)⟩ : S45)]) l0 (l0.length : Int) (wrap64 (x8_1 + 1))) else (none))) = some r := by rw [← hbq5] at H; exact H
    have Nbq5 := Aside0.mk hbq5
    clear hbq5
    by_cases c6 : bq5 = true
    ·
     subst c6
     rw [if_pos rfl] at H
     obtain ⟨⟨t433, t434, t435, t436, t437⟩, A7, H⟩ := bs H
     try dsimp only at H
     by_cases c8 : ((!(((rd_T48 l0 x8_1).f0.f0) == t433) || (!((((rd_T48 l0 x8_1).f0.f1).toList) == t434.toList) || ((!(((rd_T48 l0 x8_1).f0.f2.f0) == t435) || (!(((rd_T48 l0 x8_1).f0.f2.f1) == t436)))))) || (!((true) == t437))) = true
     ·
      rw [if_pos c8] at H
      have c8b0 : ((!(((rd_T48 l0 x8_1).f0.f0) == t433) || (!((((rd_T48 l0 x8_1).f0.f1).toList) == t434.toList) || ((!(((rd_T48 l0 x8_1).f0.f2.f0) == t435) || (!(((rd_T48 l0 x8_1).f0.f2.f1) == t436)))))) || (!((true) == t437))) = true := c8
      (try simp only [Bool.true_beq, Bool.false_beq, beq_true, beq_false] at c8b0)
      clear c8
      obtain rfl := Option.some.inj H
      have p431 : 0 ≤ (x8_1 : Int) := od
      have q431 : x8_1 < (l0.length : Int) := od
      obtain ⟨ad431, e431, hx431_0, hx431_1, hx431_2, hx431_3, hx431_4⟩ := at_T48 HR0.out x8_1 p431 q431
      (try rw [← Nbq5.out] at hx431_3)
      (try rw [← Nbq5.out] at hx431_4)
      cases e431
      replace hx431_0 := kc HB hx431_0
      replace hx431_1 := kc HB hx431_1
      replace hx431_2 := kc HB hx431_2
      replace hx431_3 := kc HB hx431_3
      replace hx431_4 := kc HB hx431_4
      replace p431 := eq_true p431
      replace q431 := eq_true q431
      try go_wp2_with (first | ((with_reducible refine gate_dst (N := 5) rfl ?_); refine bx (N := 5) #[.int .i64 0, .string (⟨#[]⟩ : ByteArray), .int .i64 0, .bool false, .bool false] 48 ?_; intro gb432 hg w9 hbox hb; replace HO_3 := cR HO_3 hb; have BK432 := Aside0.mk (hbox); have GW432 := gw hg (uW HB.out); have GE432 := GW432; replace HB := cW HB hb; clear hb hbox hg; obtain ⟨hcz10_0, hcz10_1, hcz10_2, hcz10_3, hcz10_4, hfz10_0, hfz10_1, hfz10_2, hfz10_3, hfz10_4⟩ := z5 BK432) | ((with_reducible refine gate_store (t := 48) (p := 5) rfl ?_); refine store_event (t := 48) (p := 5) (v := ?vo_w11) (w1 := (((((w9.setCell ⟨gb432, 0, none⟩ (.int .i64 ((rd_T48 l0 x8_1).f0.f0))).setCell ⟨gb432, 1, none⟩ (.string ((rd_T48 l0 x8_1).f0.f1))).setCell ⟨gb432, 2, none⟩ (.int .i64 ((rd_T48 l0 x8_1).f0.f2.f0))).setCell ⟨gb432, 3, none⟩ (.bool ((rd_T48 l0 x8_1).f0.f2.f1))).setCell ⟨gb432, 4, none⟩ (.bool true))) ?hg ?ho ?hn ?hr ?_; (case ho => rfl); (case hg => rfl); (case hn => rfl); (case hr => first | (go_simp; done) | (go_simp; rfl)); intro w11 hw; have n0_ : Aside0 (Kd.R k45 45 w11 w.heap.size (fun _ => True) u3 x3_1) := ⟨(by rw [hw]; exact (by exact uR <| Kd.R_mono (Kd.R_far (p := ⟨gb432, 4, none⟩) (Kd.R_far (p := ⟨gb432, 3, none⟩) (Kd.R_far (p := ⟨gb432, 2, none⟩) (Kd.R_far (p := ⟨gb432, 1, none⟩) (Kd.R_far (p := ⟨gb432, 0, none⟩) (Kd.R_types HO_3.out BK432.out (by decide)) (fun _ hk => hk.2) (.int .i64 ((rd_T48 l0 x8_1).f0.f0))) (fun _ hk => hk.2) (.string ((rd_T48 l0 x8_1).f0.f1))) (fun _ hk => hk.2) (.int .i64 ((rd_T48 l0 x8_1).f0.f2.f0))) (fun _ hk => hk.2) (.bool ((rd_T48 l0 x8_1).f0.f2.f1))) (fun _ hk => hk.2) (.bool true)) (fun _ hk => trivial)))⟩; have n1_ : Aside0 (w11.heap[gb432]? = some (.cells #[.int .i64 ((rd_T48 l0 x8_1).f0.f0), .string ((rd_T48 l0 x8_1).f0.f1), .int .i64 ((rd_T48 l0 x8_1).f0.f2.f0), .bool ((rd_T48 l0 x8_1).f0.f2.f1), .bool true] 48 (0, 0))) := ⟨(by rw [hw]; exact (by (with_reducible repeat (first | refine blk_drewN ?_ _ | refine blk_drew ?_ | refine blk_alloc ?_ _)); refine blk_put (cs := #[.int .i64 ((rd_T48 l0 x8_1).f0.f0), .string ((rd_T48 l0 x8_1).f0.f1), .int .i64 ((rd_T48 l0 x8_1).f0.f2.f0), .bool ((rd_T48 l0 x8_1).f0.f2.f1), .bool false]) ?_ 4 _ rfl; (with_reducible repeat (first | refine blk_drewN ?_ _ | refine blk_drew ?_ | refine blk_alloc ?_ _)); refine blk_put (cs := #[.int .i64 ((rd_T48 l0 x8_1).f0.f0), .string ((rd_T48 l0 x8_1).f0.f1), .int .i64 ((rd_T48 l0 x8_1).f0.f2.f0), .bool false, .bool false]) ?_ 3 _ rfl; (with_reducible repeat (first | refine blk_drewN ?_ _ | refine blk_drew ?_ | refine blk_alloc ?_ _)); refine blk_put (cs := #[.int .i64 ((rd_T48 l0 x8_1).f0.f0), .string ((rd_T48 l0 x8_1).f0.f1), .int .i64 0, .bool false, .bool false]) ?_ 2 _ rfl; (with_reducible repeat (first | refine blk_drewN ?_ _ | refine blk_drew ?_ | refine blk_alloc ?_ _)); refine blk_put (cs := #[.int .i64 ((rd_T48 l0 x8_1).f0.f0), .string (⟨#[]⟩ : ByteArray), .int .i64 0, .bool false, .bool false]) ?_ 1 _ rfl; (with_reducible repeat (first | refine blk_drewN ?_ _ | refine blk_drew ?_ | refine blk_alloc ?_ _)); refine blk_put (cs := #[.int .i64 0, .string (⟨#[]⟩ : ByteArray), .int .i64 0, .bool false, .bool false]) ?_ 0 _ rfl; exact uB <| BK432.out))⟩; have n2_ : Aside0 (Below w.heap.size w w11) := ⟨(by rw [hw]; exact bl)⟩; clear hw; clear HO_3; clear BK432; clear HB; have HO_3 := n0_; have BK432 := n1_; have HB := n2_; clear n0_ n1_ n2_))
      replace HO_3 := Aside0.mk (Kd.R_drew HO_3.out)
      replace BK432 := Aside0.mk (blk_drew BK432.out)
      replace HB := Aside0.mk (below_drew1 HB.out)
      refine start_ (n := 9) (S := fun w' => w'.cell? ⟨gb432, 0, none⟩ = some (.int .i64 ((rd_T48 l0 x8_1).f0.f0)) ∧ w'.cell? ⟨gb432, 1, none⟩ = some (.string ((rd_T48 l0 x8_1).f0.f1)) ∧ w'.cell? ⟨gb432, 2, none⟩ = some (.int .i64 ((rd_T48 l0 x8_1).f0.f2.f0)) ∧ w'.cell? ⟨gb432, 3, none⟩ = some (.bool ((rd_T48 l0 x8_1).f0.f2.f1)) ∧ w'.cell? ⟨gb432, 4, none⟩ = some (.bool true)) (ds := []) _ (by kernel_rfl) rfl rfl ⟨(blk_cell BK432.out 0).trans rfl, (blk_cell BK432.out 1).trans rfl, (blk_cell BK432.out 2).trans rfl, (blk_cell BK432.out 3).trans rfl, (blk_cell BK432.out 4).trans rfl⟩ (fun hHeld => ?_); refine with_tabW diff_right.tab5 diff_right.bits5 (fun HT_ HW_ => ?_)
      generalize w11.drew = w12 at HO_3 BK432 HB hHeld ⊢
      refine p1 0 (some 12) ?_
      refine t1 1 (some 13) rfl rfl hHeld (Or.inl ⟨by rfl, by rintro w' ⟨s0, s1, s2, s3, s4⟩; go_simp; with_reducible rfl⟩) ?_
      refine p1 2 (some 14) ?_
      refine p1 4 (some 16) ?_
      refine t1 3 (some 15) rfl rfl hHeld (Or.inl ⟨by rfl, by rintro w' ⟨s0, s1, s2, s3, s4⟩; go_simp; with_reducible rfl⟩) ?_
      refine t1 5 (some 17) rfl rfl hHeld (Or.inl ⟨by rfl, by rintro w' ⟨s0, s1, s2, s3, s4⟩; go_simp; with_reducible rfl⟩) ?_
      refine o1 6 (some 18) rfl rfl (fun K hK => ?_)
      refine gS Tryz.func26 #[.agg #[.int .i64 ((rd_T48 l0 x8_1).f0.f0), .string ((rd_T48 l0 x8_1).f0.f1), .int .i64 ((rd_T48 l0 x8_1).f0.f2.f0), .bool ((rd_T48 l0 x8_1).f0.f2.f1)]] ?_
      with_reducible refine (diff_gone.calls ((rd_T48 l0 x8_1).f0.f0) ((rd_T48 l0 x8_1).f0.f1) ((rd_T48 l0 x8_1).f0.f2.f0) ((rd_T48 l0 x8_1).f0.f2.f1) t433 t434 t435 t436 t437 _ A7.out).mono ?_
      rintro e w13 ⟨rfl, hb⟩
      refine ⟨_, rfl, ?_⟩
      replace HO_3 := cR HO_3 hb
      replace BK432 := cB BK432 hb
      replace HB := Aside0.mk (below_step bl hb)
      (try clear hb)
      refine hK.out _ _ ⟨(blk_cell BK432.out 0).trans rfl, (blk_cell BK432.out 1).trans rfl, (blk_cell BK432.out 2).trans rfl, (blk_cell BK432.out 3).trans rfl, (blk_cell BK432.out 4).trans rfl⟩ (fun hHeld => ?_)
      clear hK K
      refine norm_ (a' := ?_) ?_ ?_
      rotate_left
      ·
       show Act.put _ (some 18) _ = _
       simp only [Act.put, List.setIfInBounds_toArray, List.set_cons_zero, List.set_cons_succ, i64_w, i32_w]
       rfl
      refine p1 7 (some 19) ?_
      refine p1 8 (some 20) ?_
      refine done_ (done_of HT_.out (by kernel_rfl)) ?_
      try go_wp2
      go_ret
      exact ⟨re_, bl⟩
     ·
      rw [if_neg c8] at H
      have c8b0 : ((!(((rd_T48 l0 x8_1).f0.f0) == t433) || (!((((rd_T48 l0 x8_1).f0.f1).toList) == t434.toList) || ((!(((rd_T48 l0 x8_1).f0.f2.f0) == t435) || (!(((rd_T48 l0 x8_1).f0.f2.f1) == t436)))))) || (!((true) == t437))) = false := by simpa using c8
      (try simp only [Bool.true_beq, Bool.false_beq, beq_true, beq_false] at c8b0)
      clear c8
      obtain ⟨c14, H⟩ := gd H
      have LMc14 := Aside0.mk c14
      clear c14
      obtain ⟨y438, hy438⟩ : ∃ y_ : List (S45), y_ = (x3_1 ++ [(⟨(rd_T48 l0 x8_1).f0.f0, (rd_T48 l0 x8_1).f0.f1, (⟨(rd_T48 l0 x8_1).f0.f2.f0, (rd_T48 l0 x8_1).f0.f2.f1⟩ : S43)⟩ : S45)]) := ⟨_, rfl⟩
      replace H : (diff_right.l0 k1 y438 l0 (l0.length : Int) (wrap64 (x8_1 + 1))) = some r := by first | (rw [hy438]; with_reducible exact H) | (have H2_ := (Option.bind_some _ _).symm.trans H; rw [hy438]; with_reducible exact H2_) | (have H2_ := (Option.bind_some _ _).symm.trans H; with_reducible exact H2_) | with_reducible exact H | (rw [hy438]; exact H) | exact H
      have Ny438 := Aside0.mk hy438
      clear hy438
      have H' := Aside0.mk H
      clear H
      have p431 : 0 ≤ (x8_1 : Int) := od
      have q431 : x8_1 < (l0.length : Int) := od
      obtain ⟨ad431, e431, hx431_0, hx431_1, hx431_2, hx431_3, hx431_4⟩ := at_T48 HR0.out x8_1 p431 q431
      (try rw [← Nbq5.out] at hx431_3)
      (try rw [← Nbq5.out] at hx431_4)
      cases e431
      replace hx431_0 := kc HB hx431_0
      replace hx431_1 := kc HB hx431_1
      replace hx431_2 := kc HB hx431_2
      replace hx431_3 := kc HB hx431_3
      replace hx431_4 := kc HB hx431_4
      replace p431 := eq_true p431
      replace q431 := eq_true q431
      try go_wp2_with (first | ((with_reducible refine gate_dst (N := 5) rfl ?_); refine bx (N := 5) #[.int .i64 0, .string (⟨#[]⟩ : ByteArray), .int .i64 0, .bool false, .bool false] 48 ?_; intro gb432 hg w15 hbox hb; replace HO_3 := cR HO_3 hb; have BK432 := Aside0.mk (hbox); have GW432 := gw hg (uW HB.out); have GE432 := GW432; replace HB := cW HB hb; clear hb hbox hg; obtain ⟨hcz16_0, hcz16_1, hcz16_2, hcz16_3, hcz16_4, hfz16_0, hfz16_1, hfz16_2, hfz16_3, hfz16_4⟩ := z5 BK432) | ((with_reducible refine gate_store (t := 48) (p := 5) rfl ?_); refine store_event (t := 48) (p := 5) (v := ?vo_w17) (w1 := (((((w15.setCell ⟨gb432, 0, none⟩ (.int .i64 ((rd_T48 l0 x8_1).f0.f0))).setCell ⟨gb432, 1, none⟩ (.string ((rd_T48 l0 x8_1).f0.f1))).setCell ⟨gb432, 2, none⟩ (.int .i64 ((rd_T48 l0 x8_1).f0.f2.f0))).setCell ⟨gb432, 3, none⟩ (.bool ((rd_T48 l0 x8_1).f0.f2.f1))).setCell ⟨gb432, 4, none⟩ (.bool true))) ?hg ?ho ?hn ?hr ?_; (case ho => rfl); (case hg => rfl); (case hn => rfl); (case hr => first | (go_simp; done) | (go_simp; rfl)); intro w17 hw; have n0_ : Aside0 (Kd.R k45 45 w17 w.heap.size (fun _ => True) u3 x3_1) := ⟨(by rw [hw]; exact (by exact uR <| Kd.R_mono (Kd.R_far (p := ⟨gb432, 4, none⟩) (Kd.R_far (p := ⟨gb432, 3, none⟩) (Kd.R_far (p := ⟨gb432, 2, none⟩) (Kd.R_far (p := ⟨gb432, 1, none⟩) (Kd.R_far (p := ⟨gb432, 0, none⟩) (Kd.R_types HO_3.out BK432.out (by decide)) (fun _ hk => hk.2) (.int .i64 ((rd_T48 l0 x8_1).f0.f0))) (fun _ hk => hk.2) (.string ((rd_T48 l0 x8_1).f0.f1))) (fun _ hk => hk.2) (.int .i64 ((rd_T48 l0 x8_1).f0.f2.f0))) (fun _ hk => hk.2) (.bool ((rd_T48 l0 x8_1).f0.f2.f1))) (fun _ hk => hk.2) (.bool true)) (fun _ hk => trivial)))⟩; have n1_ : Aside0 (w17.heap[gb432]? = some (.cells #[.int .i64 ((rd_T48 l0 x8_1).f0.f0), .string ((rd_T48 l0 x8_1).f0.f1), .int .i64 ((rd_T48 l0 x8_1).f0.f2.f0), .bool ((rd_T48 l0 x8_1).f0.f2.f1), .bool true] 48 (0, 0))) := ⟨(by rw [hw]; exact (by (with_reducible repeat (first | refine blk_drewN ?_ _ | refine blk_drew ?_ | refine blk_alloc ?_ _)); refine blk_put (cs := #[.int .i64 ((rd_T48 l0 x8_1).f0.f0), .string ((rd_T48 l0 x8_1).f0.f1), .int .i64 ((rd_T48 l0 x8_1).f0.f2.f0), .bool ((rd_T48 l0 x8_1).f0.f2.f1), .bool false]) ?_ 4 _ rfl; (with_reducible repeat (first | refine blk_drewN ?_ _ | refine blk_drew ?_ | refine blk_alloc ?_ _)); refine blk_put (cs := #[.int .i64 ((rd_T48 l0 x8_1).f0.f0), .string ((rd_T48 l0 x8_1).f0.f1), .int .i64 ((rd_T48 l0 x8_1).f0.f2.f0), .bool false, .bool false]) ?_ 3 _ rfl; (with_reducible repeat (first | refine blk_drewN ?_ _ | refine blk_drew ?_ | refine blk_alloc ?_ _)); refine blk_put (cs := #[.int .i64 ((rd_T48 l0 x8_1).f0.f0), .string ((rd_T48 l0 x8_1).f0.f1), .int .i64 0, .bool false, .bool false]) ?_ 2 _ rfl; (with_reducible repeat (first | refine blk_drewN ?_ _ | refine blk_drew ?_ | refine blk_alloc ?_ _)); refine blk_put (cs := #[.int .i64 ((rd_T48 l0 x8_1).f0.f0), .string (⟨#[]⟩ : ByteArray), .int .i64 0, .bool false, .bool false]) ?_ 1 _ rfl; (with_reducible repeat (first | refine blk_drewN ?_ _ | refine blk_drew ?_ | refine blk_alloc ?_ _)); refine blk_put (cs := #[.int .i64 0, .string (⟨#[]⟩ : ByteArray), .int .i64 0, .bool false, .bool false]) ?_ 0 _ rfl; exact uB <| BK432.out))⟩; have n2_ : Aside0 (Below w.heap.size w w17) := ⟨(by rw [hw]; exact bl)⟩; clear hw; clear HO_3; clear BK432; clear HB; have HO_3 := n0_; have BK432 := n1_; have HB := n2_; clear n0_ n1_ n2_))
      replace HO_3 := Aside0.mk (Kd.R_drew HO_3.out)
      replace BK432 := Aside0.mk (blk_drew BK432.out)
      replace HB := Aside0.mk (below_drew1 HB.out)
      refine start_ (n := 9) (S := fun w' => w'.cell? ⟨gb432, 0, none⟩ = some (.int .i64 ((rd_T48 l0 x8_1).f0.f0)) ∧ w'.cell? ⟨gb432, 1, none⟩ = some (.string ((rd_T48 l0 x8_1).f0.f1)) ∧ w'.cell? ⟨gb432, 2, none⟩ = some (.int .i64 ((rd_T48 l0 x8_1).f0.f2.f0)) ∧ w'.cell? ⟨gb432, 3, none⟩ = some (.bool ((rd_T48 l0 x8_1).f0.f2.f1)) ∧ w'.cell? ⟨gb432, 4, none⟩ = some (.bool true)) (ds := []) _ (by kernel_rfl) rfl rfl ⟨(blk_cell BK432.out 0).trans rfl, (blk_cell BK432.out 1).trans rfl, (blk_cell BK432.out 2).trans rfl, (blk_cell BK432.out 3).trans rfl, (blk_cell BK432.out 4).trans rfl⟩ (fun hHeld => ?_); refine with_tabW diff_right.tab5 diff_right.bits5 (fun HT_ HW_ => ?_)
      generalize w17.drew = w18 at HO_3 BK432 HB hHeld ⊢
      refine p1 0 (some 12) ?_
      refine t1 1 (some 13) rfl rfl hHeld (Or.inl ⟨by rfl, by rintro w' ⟨s0, s1, s2, s3, s4⟩; go_simp; with_reducible rfl⟩) ?_
      refine p1 2 (some 14) ?_
      refine p1 4 (some 16) ?_
      refine t1 3 (some 15) rfl rfl hHeld (Or.inl ⟨by rfl, by rintro w' ⟨s0, s1, s2, s3, s4⟩; go_simp; with_reducible rfl⟩) ?_
      refine t1 5 (some 17) rfl rfl hHeld (Or.inl ⟨by rfl, by rintro w' ⟨s0, s1, s2, s3, s4⟩; go_simp; with_reducible rfl⟩) ?_
      refine o1 6 (some 18) rfl rfl (fun K hK => ?_)
      refine gS Tryz.func26 #[.agg #[.int .i64 ((rd_T48 l0 x8_1).f0.f0), .string ((rd_T48 l0 x8_1).f0.f1), .int .i64 ((rd_T48 l0 x8_1).f0.f2.f0), .bool ((rd_T48 l0 x8_1).f0.f2.f1)]] ?_
      with_reducible refine (diff_gone.calls ((rd_T48 l0 x8_1).f0.f0) ((rd_T48 l0 x8_1).f0.f1) ((rd_T48 l0 x8_1).f0.f2.f0) ((rd_T48 l0 x8_1).f0.f2.f1) t433 t434 t435 t436 t437 _ A7.out).mono ?_
      rintro e w19 ⟨rfl, hb⟩
      refine ⟨_, rfl, ?_⟩
      replace HO_3 := cR HO_3 hb
      replace BK432 := cB BK432 hb
      replace HB := Aside0.mk (below_step bl hb)
      (try clear hb)
      refine hK.out _ _ ⟨(blk_cell BK432.out 0).trans rfl, (blk_cell BK432.out 1).trans rfl, (blk_cell BK432.out 2).trans rfl, (blk_cell BK432.out 3).trans rfl, (blk_cell BK432.out 4).trans rfl⟩ (fun hHeld => ?_)
      clear hK K
      refine norm_ (a' := ?_) ?_ ?_
      rotate_left
      ·
       show Act.put _ (some 18) _ = _
       simp only [Act.put, List.setIfInBounds_toArray, List.set_cons_zero, List.set_cons_succ, i64_w, i32_w]
       rfl
      refine p1 7 (some 19) ?_
      refine p1 8 (some 20) ?_
      refine done_ (done_of HT_.out (by kernel_rfl)) ?_
      have hcz20_0 : w19.cell? ⟨gb432, 0, none⟩ = some (.int .i64 ((rd_T48 l0 x8_1).f0.f0)) := (blk_cell BK432.out 0).trans rfl
      have hcz20_1 : w19.cell? ⟨gb432, 1, none⟩ = some (.string ((rd_T48 l0 x8_1).f0.f1)) := (blk_cell BK432.out 1).trans rfl
      have hcz20_2 : w19.cell? ⟨gb432, 2, none⟩ = some (.int .i64 ((rd_T48 l0 x8_1).f0.f2.f0)) := (blk_cell BK432.out 2).trans rfl
      have hcz20_3 : w19.cell? ⟨gb432, 3, none⟩ = some (.bool ((rd_T48 l0 x8_1).f0.f2.f1)) := (blk_cell BK432.out 3).trans rfl
      have hcz20_4 : w19.cell? ⟨gb432, 4, none⟩ = some (.bool true) := (blk_cell BK432.out 4).trans (by first | rfl | (rw [← Nbq5.out]; rfl))
      have hfz20_0 := blk_frozen BK432.out 0
      have hfz20_1 := blk_frozen BK432.out 1
      have hfz20_2 := blk_frozen BK432.out 2
      have hfz20_3 := blk_frozen BK432.out 3
      have hfz20_4 := blk_frozen BK432.out 4
      try go_wp2_with (first | ((with_reducible refine gate_builtin (b := .append) (xs := #[.tmp 21, .tmp 24]) rfl ?_); at_builtin; refine Kd.R_append k45 (w0 := w) w.heap.size rfl (.tmp 21) (.tmp 24) 22 45 (.agg #[(.int .i64 0), (.string ⟨#[]⟩), (.int .i64 0), (.bool false)]) 40 rfl Tryz.underlying22 info45 rfl (by decide) (by omega) u3 x3_1 (⟨(rd_T48 l0 x8_1).f0.f0, (rd_T48 l0 x8_1).f0.f1, (⟨(rd_T48 l0 x8_1).f0.f2.f0, (rd_T48 l0 x8_1).f0.f2.f1⟩ : S43)⟩ : S45) [.int .i64 ((rd_T48 l0 x8_1).f0.f0), .string ((rd_T48 l0 x8_1).f0.f1), .int .i64 ((rd_T48 l0 x8_1).f0.f2.f0), .bool ((rd_T48 l0 x8_1).f0.f2.f1)] (fun _ => True) (fun _ => False) rfl rfl ?aP (fun _ hk => hk.elim) ?aF ?aO ?aB ?aS ?aL ?_; (case aP => exact k45_mkM _ _ _ (⟨(rd_T48 l0 x8_1).f0.f0, (rd_T48 l0 x8_1).f0.f1, (⟨(rd_T48 l0 x8_1).f0.f2.f0, (rd_T48 l0 x8_1).f0.f2.f1⟩ : S43)⟩ : S45)); (case aB => exact bl); (case aF => exact (fun _ _ => trivial)); (case aO => exact (uR HO_3.out)); (case aS => exact (below_size bl)); (case aL => have := LMc14.out; omega); intro v439 w21 ho hb hg hat; rw [← Ny438.out] at ho; replace BK432 := Aside0.mk (blk_grown (g := gb432) (o := .cells #[.int .i64 ((rd_T48 l0 x8_1).f0.f0), .string ((rd_T48 l0 x8_1).f0.f1), .int .i64 ((rd_T48 l0 x8_1).f0.f2.f0), .bool ((rd_T48 l0 x8_1).f0.f2.f1), .bool true] 48 (0, 0)) (uB BK432.out) hg (Kd.R_ne HO_3.out BK432.out (by decide))); replace HB := Aside0.mk (hb); have HO440 := Aside0.mk (ho); clear HO_3; clear ho hb hg hat))
      go_roundg k1
      case measure => have := HK1.out; omega
      case rel => exact ⟨(y438), (wrap64 (x8_1 + 1)), rs_, (by first | exact H' | (rw [← Nbq5.out]; exact H')), ⟨by have := HK1.out; omega⟩, ⟨uR HO440.out⟩, ⟨bl⟩⟩
    ·
     replace c6 := Bool.eq_false_iff.mpr c6
     subst c6
     rw [if_neg (show ¬ (false = true) by decide)] at H
     obtain ⟨c22, H⟩ := gd H
     have LMc22 := Aside0.mk c22
     clear c22
     obtain ⟨y441, hy441⟩ : ∃ y_ : List (S45), y_ = (x3_1 ++ [(⟨(rd_T48 l0 x8_1).f0.f0, (rd_T48 l0 x8_1).f0.f1, (⟨(rd_T48 l0 x8_1).f0.f2.f0, (rd_T48 l0 x8_1).f0.f2.f1⟩ : S43)⟩ : S45)]) := ⟨_, rfl⟩
     replace H : (diff_right.l0 k1 y441 l0 (l0.length : Int) (wrap64 (x8_1 + 1))) = some r := by first | (rw [hy441]; with_reducible exact H) | (have H2_ := (Option.bind_some _ _).symm.trans H; rw [hy441]; with_reducible exact H2_) | (have H2_ := (Option.bind_some _ _).symm.trans H; with_reducible exact H2_) | with_reducible exact H | (rw [hy441]; exact H) | exact H
     have Ny441 := Aside0.mk hy441
     clear hy441
     have H' := Aside0.mk H
     clear H
     have p431 : 0 ≤ (x8_1 : Int) := od
     have q431 : x8_1 < (l0.length : Int) := od
     obtain ⟨ad431, e431, hx431_0, hx431_1, hx431_2, hx431_3, hx431_4⟩ := at_T48 HR0.out x8_1 p431 q431
     (try rw [← Nbq5.out] at hx431_3)
     (try rw [← Nbq5.out] at hx431_4)
     cases e431
     replace hx431_0 := kc HB hx431_0
     replace hx431_1 := kc HB hx431_1
     replace hx431_2 := kc HB hx431_2
     replace hx431_3 := kc HB hx431_3
     replace hx431_4 := kc HB hx431_4
     replace p431 := eq_true p431
     replace q431 := eq_true q431
     try go_wp2_with (first | ((with_reducible refine gate_dst (N := 5) rfl ?_); refine bx (N := 5) #[.int .i64 0, .string (⟨#[]⟩ : ByteArray), .int .i64 0, .bool false, .bool false] 48 ?_; intro gb432 hg w23 hbox hb; replace HO_3 := cR HO_3 hb; have BK432 := Aside0.mk (hbox); have GW432 := gw hg (uW HB.out); have GE432 := GW432; replace HB := cW HB hb; clear hb hbox hg; obtain ⟨hcz24_0, hcz24_1, hcz24_2, hcz24_3, hcz24_4, hfz24_0, hfz24_1, hfz24_2, hfz24_3, hfz24_4⟩ := z5 BK432) | ((with_reducible refine gate_store (t := 48) (p := 5) rfl ?_); refine store_event (t := 48) (p := 5) (v := ?vo_w25) (w1 := (((((w23.setCell ⟨gb432, 0, none⟩ (.int .i64 ((rd_T48 l0 x8_1).f0.f0))).setCell ⟨gb432, 1, none⟩ (.string ((rd_T48 l0 x8_1).f0.f1))).setCell ⟨gb432, 2, none⟩ (.int .i64 ((rd_T48 l0 x8_1).f0.f2.f0))).setCell ⟨gb432, 3, none⟩ (.bool ((rd_T48 l0 x8_1).f0.f2.f1))).setCell ⟨gb432, 4, none⟩ (.bool false))) ?hg ?ho ?hn ?hr ?_; (case ho => rfl); (case hg => rfl); (case hn => rfl); (case hr => first | (go_simp; done) | (go_simp; rfl)); intro w25 hw; have n0_ : Aside0 (Kd.R k45 45 w25 w.heap.size (fun _ => True) u3 x3_1) := ⟨(by rw [hw]; exact (by exact uR <| Kd.R_mono (Kd.R_far (p := ⟨gb432, 4, none⟩) (Kd.R_far (p := ⟨gb432, 3, none⟩) (Kd.R_far (p := ⟨gb432, 2, none⟩) (Kd.R_far (p := ⟨gb432, 1, none⟩) (Kd.R_far (p := ⟨gb432, 0, none⟩) (Kd.R_types HO_3.out BK432.out (by decide)) (fun _ hk => hk.2) (.int .i64 ((rd_T48 l0 x8_1).f0.f0))) (fun _ hk => hk.2) (.string ((rd_T48 l0 x8_1).f0.f1))) (fun _ hk => hk.2) (.int .i64 ((rd_T48 l0 x8_1).f0.f2.f0))) (fun _ hk => hk.2) (.bool ((rd_T48 l0 x8_1).f0.f2.f1))) (fun _ hk => hk.2) (.bool false)) (fun _ hk => trivial)))⟩; have n1_ : Aside0 (w25.heap[gb432]? = some (.cells #[.int .i64 ((rd_T48 l0 x8_1).f0.f0), .string ((rd_T48 l0 x8_1).f0.f1), .int .i64 ((rd_T48 l0 x8_1).f0.f2.f0), .bool ((rd_T48 l0 x8_1).f0.f2.f1), .bool false] 48 (0, 0))) := ⟨(by rw [hw]; exact (by (with_reducible repeat (first | refine blk_drewN ?_ _ | refine blk_drew ?_ | refine blk_alloc ?_ _)); refine blk_put (cs := #[.int .i64 ((rd_T48 l0 x8_1).f0.f0), .string ((rd_T48 l0 x8_1).f0.f1), .int .i64 ((rd_T48 l0 x8_1).f0.f2.f0), .bool ((rd_T48 l0 x8_1).f0.f2.f1), .bool false]) ?_ 4 _ rfl; (with_reducible repeat (first | refine blk_drewN ?_ _ | refine blk_drew ?_ | refine blk_alloc ?_ _)); refine blk_put (cs := #[.int .i64 ((rd_T48 l0 x8_1).f0.f0), .string ((rd_T48 l0 x8_1).f0.f1), .int .i64 ((rd_T48 l0 x8_1).f0.f2.f0), .bool false, .bool false]) ?_ 3 _ rfl; (with_reducible repeat (first | refine blk_drewN ?_ _ | refine blk_drew ?_ | refine blk_alloc ?_ _)); refine blk_put (cs := #[.int .i64 ((rd_T48 l0 x8_1).f0.f0), .string ((rd_T48 l0 x8_1).f0.f1), .int .i64 0, .bool false, .bool false]) ?_ 2 _ rfl; (with_reducible repeat (first | refine blk_drewN ?_ _ | refine blk_drew ?_ | refine blk_alloc ?_ _)); refine blk_put (cs := #[.int .i64 ((rd_T48 l0 x8_1).f0.f0), .string (⟨#[]⟩ : ByteArray), .int .i64 0, .bool false, .bool false]) ?_ 1 _ rfl; (with_reducible repeat (first | refine blk_drewN ?_ _ | refine blk_drew ?_ | refine blk_alloc ?_ _)); refine blk_put (cs := #[.int .i64 0, .string (⟨#[]⟩ : ByteArray), .int .i64 0, .bool false, .bool false]) ?_ 0 _ rfl; exact uB <| BK432.out))⟩; have n2_ : Aside0 (Below w.heap.size w w25) := ⟨(by rw [hw]; exact bl)⟩; clear hw; clear HO_3; clear BK432; clear HB; have HO_3 := n0_; have BK432 := n1_; have HB := n2_; clear n0_ n1_ n2_))
     replace HO_3 := Aside0.mk (Kd.R_drew HO_3.out)
     replace BK432 := Aside0.mk (blk_drew BK432.out)
     replace HB := Aside0.mk (below_drew1 HB.out)
     refine start_ (n := 9) (S := fun w' => w'.cell? ⟨gb432, 0, none⟩ = some (.int .i64 ((rd_T48 l0 x8_1).f0.f0)) ∧ w'.cell? ⟨gb432, 1, none⟩ = some (.string ((rd_T48 l0 x8_1).f0.f1)) ∧ w'.cell? ⟨gb432, 2, none⟩ = some (.int .i64 ((rd_T48 l0 x8_1).f0.f2.f0)) ∧ w'.cell? ⟨gb432, 3, none⟩ = some (.bool ((rd_T48 l0 x8_1).f0.f2.f1)) ∧ w'.cell? ⟨gb432, 4, none⟩ = some (.bool false)) (ds := []) _ (by kernel_rfl) rfl rfl ⟨(blk_cell BK432.out 0).trans rfl, (blk_cell BK432.out 1).trans rfl, (blk_cell BK432.out 2).trans rfl, (blk_cell BK432.out 3).trans rfl, (blk_cell BK432.out 4).trans rfl⟩ (fun hHeld => ?_); refine with_tabW diff_right.tab5 diff_right.bits5 (fun HT_ HW_ => ?_)
     generalize w25.drew = w26 at HO_3 BK432 HB hHeld ⊢
     refine p1 0 (some 12) ?_
     refine t1 1 (some 13) rfl rfl hHeld (Or.inl ⟨by rfl, by rintro w' ⟨s0, s1, s2, s3, s4⟩; go_simp; with_reducible rfl⟩) ?_
     refine p1 2 (some 14) ?_
     refine p2 3 (some 15) ?_
     refine p2 4 (some 16) ?_
     refine p2 5 (some 17) ?_
     refine p2 6 (some 18) ?_
     refine p2 7 (some 19) ?_
     refine p1 8 (some 20) ?_
     refine done_ (done_of HT_.out (by kernel_rfl)) ?_
     have hcz27_0 : w26.cell? ⟨gb432, 0, none⟩ = some (.int .i64 ((rd_T48 l0 x8_1).f0.f0)) := (blk_cell BK432.out 0).trans rfl
     have hcz27_1 : w26.cell? ⟨gb432, 1, none⟩ = some (.string ((rd_T48 l0 x8_1).f0.f1)) := (blk_cell BK432.out 1).trans rfl
     have hcz27_2 : w26.cell? ⟨gb432, 2, none⟩ = some (.int .i64 ((rd_T48 l0 x8_1).f0.f2.f0)) := (blk_cell BK432.out 2).trans rfl
     have hcz27_3 : w26.cell? ⟨gb432, 3, none⟩ = some (.bool ((rd_T48 l0 x8_1).f0.f2.f1)) := (blk_cell BK432.out 3).trans rfl
     have hcz27_4 : w26.cell? ⟨gb432, 4, none⟩ = some (.bool false) := (blk_cell BK432.out 4).trans (by first | rfl | (rw [← Nbq5.out]; rfl))
     have hfz27_0 := blk_frozen BK432.out 0
     have hfz27_1 := blk_frozen BK432.out 1
     have hfz27_2 := blk_frozen BK432.out 2
     have hfz27_3 := blk_frozen BK432.out 3
     have hfz27_4 := blk_frozen BK432.out 4
     try go_wp2_with (first | ((with_reducible refine gate_builtin (b := .append) (xs := #[.tmp 21, .tmp 24]) rfl ?_); at_builtin; refine Kd.R_append k45 (w0 := w) w.heap.size rfl (.tmp 21) (.tmp 24) 22 45 (.agg #[(.int .i64 0), (.string ⟨#[]⟩), (.int .i64 0), (.bool false)]) 40 rfl Tryz.underlying22 info45 rfl (by decide) (by omega) u3 x3_1 (⟨(rd_T48 l0 x8_1).f0.f0, (rd_T48 l0 x8_1).f0.f1, (⟨(rd_T48 l0 x8_1).f0.f2.f0, (rd_T48 l0 x8_1).f0.f2.f1⟩ : S43)⟩ : S45) [.int .i64 ((rd_T48 l0 x8_1).f0.f0), .string ((rd_T48 l0 x8_1).f0.f1), .int .i64 ((rd_T48 l0 x8_1).f0.f2.f0), .bool ((rd_T48 l0 x8_1).f0.f2.f1)] (fun _ => True) (fun _ => False) rfl rfl ?aP (fun _ hk => hk.elim) ?aF ?aO ?aB ?aS ?aL ?_; (case aP => exact k45_mkM _ _ _ (⟨(rd_T48 l0 x8_1).f0.f0, (rd_T48 l0 x8_1).f0.f1, (⟨(rd_T48 l0 x8_1).f0.f2.f0, (rd_T48 l0 x8_1).f0.f2.f1⟩ : S43)⟩ : S45)); (case aB => exact bl); (case aF => exact (fun _ _ => trivial)); (case aO => exact (uR HO_3.out)); (case aS => exact (below_size bl)); (case aL => have := LMc22.out; omega); intro v442 w28 ho hb hg hat; rw [← Ny441.out] at ho; replace BK432 := Aside0.mk (blk_grown (g := gb432) (o := .cells #[.int .i64 ((rd_T48 l0 x8_1).f0.f0), .string ((rd_T48 l0 x8_1).f0.f1), .int .i64 ((rd_T48 l0 x8_1).f0.f2.f0), .bool ((rd_T48 l0 x8_1).f0.f2.f1), .bool false] 48 (0, 0)) (uB BK432.out) hg (Kd.R_ne HO_3.out BK432.out (by decide))); replace HB := Aside0.mk (hb); have HO443 := Aside0.mk (ho); clear HO_3; clear ho hb hg hat))
     go_roundg k1
     case measure => have := HK1.out; omega
     case rel => exact ⟨(y441), (wrap64 (x8_1 + 1)), rs_, (by first | exact H' | (rw [← Nbq5.out]; exact H')), ⟨by have := HK1.out; omega⟩, ⟨uR HO443.out⟩, ⟨bl⟩⟩
   ·
    rw [if_neg c2] at H
    have c2b0 : decide (x8_1 < (l0.length : Int)) = false := decide_eq_false c2
    clear c2
    obtain ⟨t444, A29, H⟩ := bs H
    try dsimp only at H
    obtain rfl := Option.some.inj H
    obtain ⟨Ao30, co30, eo30⟩ := Kd.R_slice HO_3.out
    subst eo30
    go_wp2_with (first | (refine gL (some 28) rfl Tryz.func24 #[.slice Ao30 x3_1.length co30] ?_; (with_reducible refine (row_Right.calls (hL := ld) k1 _ _ x3_1 t444 _ ?side1 ?side2 A29.out).mono ?_); (case side1 => exact uC <| (Kd.R_reads' HO_3.out).2.2); (case side2 => exact (Kd.R_reads' HO_3.out).2.1); rintro e w31 ⟨rfl, hb⟩; refine ⟨_, rfl, ?_⟩; replace HO_3 := cR HO_3 hb; replace HB := cW HB hb; (try clear hb)))
    go_ret
    exact ⟨re_, uW HB.out⟩
end Go.Proofs.YtgcbejidponoaaaGreatDoor.X
