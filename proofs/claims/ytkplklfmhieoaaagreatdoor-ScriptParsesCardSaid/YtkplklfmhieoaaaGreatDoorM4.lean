/- Printed by a program of this session's own: what functions of the program compute, and that the machine computes it. No condition of its own. -/
import Derived.Test.YtkplklfmhieoaaaGreatDoorM3
namespace Go.Proofs.YtkplklfmhieoaaaGreatDoor.X
open Go.RowKit Go.Proofs.YtkplklfmhieoaaaGreatDoorW.PrintWords Go.Proofs.YtkplklfmhieoaaaGreatDoorW.PrintLast Go.Proofs.YtkplklfmhieoaaaGreatDoorW.PrintMore
attribute [local go_sem] max2_int min2_int max_two min_two max_three min_three max_four min_four
set_option linter.unusedVariables false
set_option linter.unusedSimpArgs false
set_option maxHeartbeats 8000000
set_option maxRecDepth 100000
def script_kinds.f  : Option ((List (S43))) := some (([(⟨(⟨#[99, 104, 117, 110, 107]⟩ : ByteArray), 3, true⟩ : S43), (⟨(⟨#[116, 105, 99, 107]⟩ : ByteArray), 1000000000000, false⟩ : S43), (⟨(⟨#[112, 105, 99, 107]⟩ : ByteArray), 1000000000000, false⟩ : S43)] : List (S43)))
theorem script_kinds.calls  (r : List (S43)) (w : World) (h : script_kinds.f  = some r) :
 Calls Tryz.prog 36 #[] w fun e w' => ∃ v0_ : Value, e = .returned (v0_) ∧ Kd.R k43 43 w' w.heap.size (fun _ => True) v0_ r ∧ Below w.heap.size w w' := by
 have hu43 := Tryz.underlying43
 have HB := Aside0.mk (Below.refl w.heap.size w)
 have H : (some (([(⟨(⟨#[99, 104, 117, 110, 107]⟩ : ByteArray), 3, true⟩ : S43), (⟨(⟨#[116, 105, 99, 107]⟩ : ByteArray), 1000000000000, false⟩ : S43), (⟨(⟨#[112, 105, 99, 107]⟩ : ByteArray), 1000000000000, false⟩ : S43)] : List (S43)))) = some r := h
 clear h
 obtain ⟨y101, hy101⟩ : ∃ y_ : List (S43), y_ = (([(⟨(⟨#[99, 104, 117, 110, 107]⟩ : ByteArray), 3, true⟩ : S43), (⟨(⟨#[116, 105, 99, 107]⟩ : ByteArray), 1000000000000, false⟩ : S43), (⟨(⟨#[112, 105, 99, 107]⟩ : ByteArray), 1000000000000, false⟩ : S43)] : List (S43))) := ⟨_, rfl⟩
 replace H : (some y101) = some r := by first | (rw [hy101]; with_reducible exact H) | (have H2_ := (Option.bind_some _ _).symm.trans H; rw [hy101]; with_reducible exact H2_) | (have H2_ := (Option.bind_some _ _).symm.trans H; with_reducible exact H2_) | with_reducible exact H | (rw [hy101]; exact H) | exact H
 have Ny101 := Aside0.mk hy101
 clear hy101
 obtain rfl := Option.some.inj H
 go_enter Tryz.func36, Tryz.ntmps36
 go_wp2_with (first | ((with_reducible refine gate_dst (N := 4) rfl ?_); refine Kd.R_lit k43 _ 43 ?hg (N := 4) ?hd (xs := ([(⟨(⟨#[99, 104, 117, 110, 107]⟩ : ByteArray), 3, true⟩ : S43), (⟨(⟨#[116, 105, 99, 107]⟩ : ByteArray), 1000000000000, false⟩ : S43), (⟨(⟨#[112, 105, 99, 107]⟩ : ByteArray), 1000000000000, false⟩ : S43)] : List (S43))) (inner := [.string (⟨#[99, 104, 117, 110, 107]⟩ : ByteArray), .int .i64 3, .bool true, .string (⟨#[116, 105, 99, 107]⟩ : ByteArray), .int .i64 1000000000000, .bool false, .string (⟨#[112, 105, 99, 107]⟩ : ByteArray), .int .i64 1000000000000, .bool false]) (ok := fun _ => True) (okp := fun _ => True) ?hr ?hp (fun _ hk => hk) trivial (Below.refl _ _) (Nat.le_refl _) (by simp) ?_; (case hd => rfl); (case hg => rfl); (case hr => first | (go_simp; done) | (go_simp; rfl)); (case hp => exact (Reps.c3 (show Kd.M k43 _ _ _ (⟨(⟨#[99, 104, 117, 110, 107]⟩ : ByteArray), 3, true⟩ : S43) [.string (⟨#[99, 104, 117, 110, 107]⟩ : ByteArray), .int .i64 3, .bool true] from (k43_mkM _ _ _ (⟨(⟨#[99, 104, 117, 110, 107]⟩ : ByteArray), 3, true⟩ : S43) )) (Reps.c3 (show Kd.M k43 _ _ _ (⟨(⟨#[116, 105, 99, 107]⟩ : ByteArray), 1000000000000, false⟩ : S43) [.string (⟨#[116, 105, 99, 107]⟩ : ByteArray), .int .i64 1000000000000, .bool false] from (k43_mkM _ _ _ (⟨(⟨#[116, 105, 99, 107]⟩ : ByteArray), 1000000000000, false⟩ : S43) )) (Reps.c3 (show Kd.M k43 _ _ _ (⟨(⟨#[112, 105, 99, 107]⟩ : ByteArray), 1000000000000, false⟩ : S43) [.string (⟨#[112, 105, 99, 107]⟩ : ByteArray), .int .i64 1000000000000, .bool false] from (k43_mkM _ _ _ (⟨(⟨#[112, 105, 99, 107]⟩ : ByteArray), 1000000000000, false⟩ : S43) )) (Reps.none _ _))))); intro v102 w1 ho2 hb hg_ hnew_; clear hg_ hnew_; (first | rw [← Ny101.out] at ho2 | (simp only [Int.reduceToNat] at ho2; rw [← Ny101.out] at ho2)); have HO103 := Aside0.mk (Kd.R_lower ho2 (below_size (uW HB.out))); replace HB := cW HB hb; clear hb ho2))
 go_ret
 exact ⟨_, re_, uR HO103.out, uW HB.out⟩
def script_of.f (a0 : Int) : Option (ByteArray × Int × Bool × Bool) := (script_kinds.f).bind fun t105 => (if a0 < 1 then (some ((⟨#[]⟩ : ByteArray), 0, false, false)) else (if a0 > (t105.length : Int) then (some ((⟨#[]⟩ : ByteArray), 0, false, false)) else (if 0 ≤ (wrap64 (a0 - 1)) then (if (wrap64 (a0 - 1)) < (t105.length : Int) then (some ((rd_T43 t105 (wrap64 (a0 - 1))).f0, (rd_T43 t105 (wrap64 (a0 - 1))).f1, (rd_T43 t105 (wrap64 (a0 - 1))).f2, true)) else (none)) else (none))))
theorem script_of.calls (a0 : Int) (r1 : ByteArray) (r2 : Int) (r3 : Bool) (r4 : Bool) (w : World) (h : script_of.f a0 = some (r1, r2, r3, r4)) :
 Calls Tryz.prog 16 #[.int .i64 a0] w fun e w' => e = .returned (.tuple #[.agg #[.string r1, .int .i64 r2, .bool r3], .bool r4]) ∧ Below w.heap.size w w' := by
 have hu43 := Tryz.underlying43
 have HB := Aside0.mk (Below.refl w.heap.size w)
 have H : ((script_kinds.f).bind fun t105 => (if a0 < 1 then (some ((⟨#[]⟩ : ByteArray), 0, false, false)) else (if a0 > (t105.length : Int) then (some ((⟨#[]⟩ : ByteArray), 0, false, false)) else (if 0 ≤ (wrap64 (a0 - 1)) then (if (wrap64 (a0 - 1)) < (t105.length : Int) then (some ((rd_T43 t105 (wrap64 (a0 - 1))).f0, (rd_T43 t105 (wrap64 (a0 - 1))).f1, (rd_T43 t105 (wrap64 (a0 - 1))).f2, true)) else (none)) else (none))))) = some (r1, r2, r3, r4) := h
 clear h
 obtain ⟨t105, A2, H⟩ := bs H
 try dsimp only at H
 by_cases c3 : a0 < 1
 ·
  rw [if_pos c3] at H
  have c3b0 : decide (a0 < 1) = true := decide_eq_true c3
  clear c3
  simp only [Option.some.injEq, Prod.mk.injEq] at H
  obtain ⟨rfl, rfl, rfl, rfl⟩ := H
  go_enter Tryz.func16, Tryz.ntmps16
  go_wp2_with (first | ((with_reducible refine gate_dst (N := 2) rfl ?_); (try (refine gate_guard (by rfl) ?_; dsimp only)); refine bx (N := 2) #[.string (⟨#[]⟩ : ByteArray), .int .i64 0, .bool false] 43 ?_; intro gb104 hg w4 hbox hb; have BK104 := Aside0.mk (hbox); have GW104 := gw hg (uW HB.out); have GE104 := GW104; replace HB := cW HB hb; clear hb hbox hg) | (refine gL (some 5) rfl Tryz.func36 #[] ?_; (with_reducible refine (script_kinds.calls  t105 _ A2.out).mono ?_); rintro e w5 ⟨v106, rfl, ho0, hb⟩; refine ⟨_, rfl, ?_⟩; have HO107 := Aside0.mk (Kd.R_lower (Kd.R_newB ho0 (g := gb104) (o := .cells #[.string (⟨#[]⟩ : ByteArray), .int .i64 0, .bool false] 43 (0, 0)) (uB BK104.out)) (below_size bl)); replace BK104 := cB BK104 hb; replace HB := Aside0.mk (below_step bl hb); (try clear hb); (try clear ho0); obtain ⟨hcz6_0, hcz6_1, hcz6_2, hfz6_0, hfz6_1, hfz6_2⟩ := z3 BK104))
  refine bodyPost_ret (results_ct rfl _ _ gb104 43 #[.string (⟨#[]⟩ : ByteArray), .int .i64 0, .bool false] (0, 0) _ rfl (by (with_reducible repeat (first | refine blk_drewN ?_ _ | refine blk_drew ?_ | refine blk_alloc ?_ _)); refine blk_put (cs := #[.string (⟨#[]⟩ : ByteArray), .int .i64 0, .bool false]) ?_ 2 _ rfl; (with_reducible repeat (first | refine blk_drewN ?_ _ | refine blk_drew ?_ | refine blk_alloc ?_ _)); refine blk_put (cs := #[.string (⟨#[]⟩ : ByteArray), .int .i64 0, .bool false]) ?_ 1 _ rfl; (with_reducible repeat (first | refine blk_drewN ?_ _ | refine blk_drew ?_ | refine blk_alloc ?_ _)); refine blk_put (cs := #[.string (⟨#[]⟩ : ByteArray), .int .i64 0, .bool false]) ?_ 0 _ rfl; exact uB <| BK104.out) Tryz.underlying43 rfl (by kernel_rfl)) rfl ?_
  exact ⟨re_, bl⟩
 ·
  rw [if_neg c3] at H
  have c3b0 : decide (a0 < 1) = false := decide_eq_false c3
  clear c3
  by_cases c7 : a0 > (t105.length : Int)
  ·
   rw [if_pos c7] at H
   have c7b0 : decide ((t105.length : Int) < a0) = true := decide_eq_true c7
   clear c7
   simp only [Option.some.injEq, Prod.mk.injEq] at H
   obtain ⟨rfl, rfl, rfl, rfl⟩ := H
   go_enter Tryz.func16, Tryz.ntmps16
   go_wp2_with (first | ((with_reducible refine gate_dst (N := 2) rfl ?_); (try (refine gate_guard (by rfl) ?_; dsimp only)); refine bx (N := 2) #[.string (⟨#[]⟩ : ByteArray), .int .i64 0, .bool false] 43 ?_; intro gb104 hg w8 hbox hb; have BK104 := Aside0.mk (hbox); have GW104 := gw hg (uW HB.out); have GE104 := GW104; replace HB := cW HB hb; clear hb hbox hg) | (refine gL (some 5) rfl Tryz.func36 #[] ?_; (with_reducible refine (script_kinds.calls  t105 _ A2.out).mono ?_); rintro e w9 ⟨v106, rfl, ho0, hb⟩; refine ⟨_, rfl, ?_⟩; have HO107 := Aside0.mk (Kd.R_lower (Kd.R_newB ho0 (g := gb104) (o := .cells #[.string (⟨#[]⟩ : ByteArray), .int .i64 0, .bool false] 43 (0, 0)) (uB BK104.out)) (below_size bl)); replace BK104 := cB BK104 hb; replace HB := Aside0.mk (below_step bl hb); (try clear hb); (try clear ho0); obtain ⟨Ao10, co10, eo10⟩ := Kd.R_slice HO107.out; subst eo10; obtain ⟨hcz11_0, hcz11_1, hcz11_2, hfz11_0, hfz11_1, hfz11_2⟩ := z3 BK104))
   refine bodyPost_ret (results_ct rfl _ _ gb104 43 #[.string (⟨#[]⟩ : ByteArray), .int .i64 0, .bool false] (0, 0) _ rfl (by (with_reducible repeat (first | refine blk_drewN ?_ _ | refine blk_drew ?_ | refine blk_alloc ?_ _)); refine blk_put (cs := #[.string (⟨#[]⟩ : ByteArray), .int .i64 0, .bool false]) ?_ 2 _ rfl; (with_reducible repeat (first | refine blk_drewN ?_ _ | refine blk_drew ?_ | refine blk_alloc ?_ _)); refine blk_put (cs := #[.string (⟨#[]⟩ : ByteArray), .int .i64 0, .bool false]) ?_ 1 _ rfl; (with_reducible repeat (first | refine blk_drewN ?_ _ | refine blk_drew ?_ | refine blk_alloc ?_ _)); refine blk_put (cs := #[.string (⟨#[]⟩ : ByteArray), .int .i64 0, .bool false]) ?_ 0 _ rfl; exact uB <| BK104.out) Tryz.underlying43 rfl (by kernel_rfl)) rfl ?_
   exact ⟨re_, bl⟩
  ·
   rw [if_neg c7] at H
   have c7b0 : decide ((t105.length : Int) < a0) = false := decide_eq_false c7
   clear c7
   obtain ⟨ji12, hji12⟩ : ∃ j_ : Int, (wrap64 (a0 - 1)) = j_ := ⟨_, rfl⟩
   (first | rw [hji12] at H | simp only [hji12] at H)
   (try rw [hji12] at A2)
   have hji12w : (IntKind.i64.wrap (a0 - 1)) = ji12 := (i64_w _).trans hji12
   by_cases c13 : 0 ≤ (ji12)
   ·
    rw [if_pos c13] at H
    have c13b0 : decide (0 ≤ (ji12)) = true := decide_eq_true c13
    clear c13
    obtain ⟨c14b0, H⟩ := gdd H
    simp only [Option.some.injEq, Prod.mk.injEq] at H
    obtain ⟨rfl, rfl, rfl, rfl⟩ := H
    go_enter Tryz.func16, Tryz.ntmps16
    go_wp2_with (first | ((with_reducible refine gate_dst (N := 2) rfl ?_); (try (refine gate_guard (by rfl) ?_; dsimp only)); refine bx (N := 2) #[.string (⟨#[]⟩ : ByteArray), .int .i64 0, .bool false] 43 ?_; intro gb104 hg w15 hbox hb; have BK104 := Aside0.mk (hbox); have GW104 := gw hg (uW HB.out); have GE104 := GW104; replace HB := cW HB hb; clear hb hbox hg) | (refine gL (some 5) rfl Tryz.func36 #[] ?_; (with_reducible refine (script_kinds.calls  t105 _ A2.out).mono ?_); rintro e w16 ⟨v106, rfl, ho0, hb⟩; refine ⟨_, rfl, ?_⟩; have HO107 := Aside0.mk (Kd.R_lower (Kd.R_newB ho0 (g := gb104) (o := .cells #[.string (⟨#[]⟩ : ByteArray), .int .i64 0, .bool false] 43 (0, 0)) (uB BK104.out)) (below_size bl)); replace BK104 := cB BK104 hb; replace HB := Aside0.mk (below_step bl hb); (try clear hb); (try clear ho0); obtain ⟨Ao17, co17, eo17⟩ := Kd.R_slice HO107.out; subst eo17; have p108 : 0 ≤ ((ji12) : Int) := od; have q108 : (ji12) < (t105.length : Int) := od; obtain ⟨ad108, e108, hx108_0, hx108_1, hx108_2⟩ := at_T43 (Kd.R_reads' HO107.out).2.2 (ji12) p108 q108; cases e108; replace p108 := eq_true p108; replace q108 := eq_true q108; obtain ⟨hcz18_0, hcz18_1, hcz18_2, hfz18_0, hfz18_1, hfz18_2⟩ := z3 BK104))
    refine bodyPost_ret (results_ct rfl _ _ gb104 43 #[.string ((rd_T43 t105 (ji12)).f0), .int .i64 ((rd_T43 t105 (ji12)).f1), .bool ((rd_T43 t105 (ji12)).f2)] (0, 0) _ rfl (by (with_reducible repeat (first | refine blk_drewN ?_ _ | refine blk_drew ?_ | refine blk_alloc ?_ _)); refine blk_put (cs := #[.string ((rd_T43 t105 (ji12)).f0), .int .i64 ((rd_T43 t105 (ji12)).f1), .bool false]) ?_ 2 _ rfl; (with_reducible repeat (first | refine blk_drewN ?_ _ | refine blk_drew ?_ | refine blk_alloc ?_ _)); refine blk_put (cs := #[.string ((rd_T43 t105 (ji12)).f0), .int .i64 0, .bool false]) ?_ 1 _ rfl; (with_reducible repeat (first | refine blk_drewN ?_ _ | refine blk_drew ?_ | refine blk_alloc ?_ _)); refine blk_put (cs := #[.string (⟨#[]⟩ : ByteArray), .int .i64 0, .bool false]) ?_ 0 _ rfl; exact uB <| BK104.out) Tryz.underlying43 rfl (by kernel_rfl)) rfl ?_
    exact ⟨by first | rfl | (simp [errW_none, errW_some] <;> rfl) | (simp only [← hji12]; first | rfl | (simp [errW_none, errW_some] <;> rfl)) | (simp [*, errW_none, errW_some] <;> rfl), bl⟩
   ·
    rw [if_neg c13] at H
    exact absurd H (by simp)
def script_may.f (a0_0 : Int) (a0_1 : Int) (l0_2 : List Int) : Option (Bool) := (script_of.f a0_0).bind fun bt110 => (if bt110.2.2.2 = true then (if a0_1 ≥ 0 then (if a0_1 ≤ bt110.2.1 then (if bt110.2.2.1 = true then (some true) else (some ((l0_2.length : Int) == 0))) else (some false)) else (some false)) else (some false))
theorem script_may.calls (a0_0 : Int) (a0_1 : Int) (A0_2 : Option Addr) (c0_2 : Nat) (l0_2 : List Int) (r : Bool) (w : World) (hr0_2 : Kd.C (Kd.int .u8) w A0_2 l0_2.length l0_2) (hc0_2 : l0_2.length ≤ c0_2) (h : script_may.f a0_0 a0_1 l0_2 = some r) :
 Calls Tryz.prog 15 #[.agg #[.int .i64 a0_0, .int .i64 a0_1, .slice A0_2 l0_2.length c0_2]] w fun e w' => e = .returned (.bool r) ∧ Below w.heap.size w w' := by
 have hu37 := Tryz.underlying37
 have hu43 := Tryz.underlying43
 have HR0_2 := Aside0.mk hr0_2
 have HC0_2 := Aside0.mk hc0_2
 clear hr0_2 hc0_2
 have HB := Aside0.mk (Below.refl w.heap.size w)
 have H : ((script_of.f a0_0).bind fun bt110 => (if bt110.2.2.2 = true then (if a0_1 ≥ 0 then (if a0_1 ≤ bt110.2.1 then (if bt110.2.2.1 = true then (some true) else (some ((l0_2.length : Int) == 0))) else (some false)) else (some false)) else (some false))) = some r := h
 clear h
 obtain ⟨⟨t110, t111, t112, t113⟩, A2, H⟩ := bs H
 try dsimp only at H
 by_cases c3 : t113 = true
 ·
  subst c3
  rw [if_pos rfl] at H
  by_cases c4 : a0_1 ≥ 0
  ·
   rw [if_pos c4] at H
   have c4b0 : decide (0 ≤ a0_1) = true := decide_eq_true c4
   clear c4
   by_cases c5 : a0_1 ≤ t111
   ·
    rw [if_pos c5] at H
    have c5b0 : decide (a0_1 ≤ t111) = true := decide_eq_true c5
    clear c5
    by_cases c6 : t112 = true
    ·
     subst c6
     rw [if_pos rfl] at H
     obtain rfl := Option.some.inj H
     go_enter Tryz.func15, Tryz.ntmps15
     go_wp2_with (first | ((with_reducible refine gate_dst (N := 1) rfl ?_); (try (refine gate_guard (by rfl) ?_; dsimp only)); refine bx (N := 1) #[.int .i64 a0_0, .int .i64 a0_1, .slice A0_2 l0_2.length c0_2] 37 ?_; intro gb109 hg w7 hbox hb; have BK109 := Aside0.mk (hbox); have GW109 := gw hg (uW HB.out); have GE109 := GW109; replace HB := cW HB hb; clear hb hbox hg; obtain ⟨hcz8_0, hcz8_1, hcz8_2, hfz8_0, hfz8_1, hfz8_2⟩ := z3 BK109) | (refine gL (some 8) rfl Tryz.func16 #[.int .i64 a0_0] ?_; (with_reducible refine (script_of.calls a0_0 t110 t111 true true _ A2.out).mono ?_); rintro e w9 ⟨rfl, hb⟩; refine ⟨_, rfl, ?_⟩; replace BK109 := cB BK109 hb; replace HB := Aside0.mk (below_step bl hb); (try clear hb)) | ((with_reducible refine gate_dst (N := 3) rfl ?_); (try (refine gate_guard (by rfl) ?_; dsimp only)); refine bx (N := 3) #[.string (⟨#[]⟩ : ByteArray), .int .i64 0, .bool false] 43 ?_; intro gb114 hg w10 hbox hb; have BK114 := Aside0.mk (hbox); have GW114 := gw hg bl; have GE114 := GW114; replace HB := Aside0.mk (below_step bl hb); have NB109_114 := Aside0.mk ((by rw [hg]; exact Nat.ne_of_lt (blk_lt (g := gb109) (o := .cells #[.int .i64 a0_0, .int .i64 a0_1, .slice A0_2 l0_2.length c0_2] 37 (0, 0)) (uB BK109.out)) : gb109 ≠ gb114)); have NB114_109 := Aside0.mk ((by rw [hg]; exact Nat.ne_of_gt (blk_lt (g := gb109) (o := .cells #[.int .i64 a0_0, .int .i64 a0_1, .slice A0_2 l0_2.length c0_2] 37 (0, 0)) (uB BK109.out)) : gb114 ≠ gb109)); replace BK109 := cB BK109 hb; clear hb hbox hg; have hnb11 := NB114_109.out; have hnc11 := NB109_114.out; obtain ⟨hcz12_0, hcz12_1, hcz12_2, hfz12_0, hfz12_1, hfz12_2⟩ := z3 BK114; obtain ⟨hcz13_0, hcz13_1, hcz13_2, hfz13_0, hfz13_1, hfz13_2⟩ := z3 BK109))
     go_ret
     exact ⟨re_, bl⟩
    ·
     replace c6 := Bool.eq_false_iff.mpr c6
     subst c6
     rw [if_neg (show ¬ (false = true) by decide)] at H
     obtain rfl := Option.some.inj H
     go_enter Tryz.func15, Tryz.ntmps15
     go_wp2_with (first | ((with_reducible refine gate_dst (N := 1) rfl ?_); (try (refine gate_guard (by rfl) ?_; dsimp only)); refine bx (N := 1) #[.int .i64 a0_0, .int .i64 a0_1, .slice A0_2 l0_2.length c0_2] 37 ?_; intro gb109 hg w14 hbox hb; have BK109 := Aside0.mk (hbox); have GW109 := gw hg (uW HB.out); have GE109 := GW109; replace HB := cW HB hb; clear hb hbox hg; obtain ⟨hcz15_0, hcz15_1, hcz15_2, hfz15_0, hfz15_1, hfz15_2⟩ := z3 BK109) | (refine gL (some 8) rfl Tryz.func16 #[.int .i64 a0_0] ?_; (with_reducible refine (script_of.calls a0_0 t110 t111 false true _ A2.out).mono ?_); rintro e w16 ⟨rfl, hb⟩; refine ⟨_, rfl, ?_⟩; replace BK109 := cB BK109 hb; replace HB := Aside0.mk (below_step bl hb); (try clear hb)) | ((with_reducible refine gate_dst (N := 3) rfl ?_); (try (refine gate_guard (by rfl) ?_; dsimp only)); refine bx (N := 3) #[.string (⟨#[]⟩ : ByteArray), .int .i64 0, .bool false] 43 ?_; intro gb114 hg w17 hbox hb; have BK114 := Aside0.mk (hbox); have GW114 := gw hg bl; have GE114 := GW114; replace HB := Aside0.mk (below_step bl hb); have NB109_114 := Aside0.mk ((by rw [hg]; exact Nat.ne_of_lt (blk_lt (g := gb109) (o := .cells #[.int .i64 a0_0, .int .i64 a0_1, .slice A0_2 l0_2.length c0_2] 37 (0, 0)) (uB BK109.out)) : gb109 ≠ gb114)); have NB114_109 := Aside0.mk ((by rw [hg]; exact Nat.ne_of_gt (blk_lt (g := gb109) (o := .cells #[.int .i64 a0_0, .int .i64 a0_1, .slice A0_2 l0_2.length c0_2] 37 (0, 0)) (uB BK109.out)) : gb114 ≠ gb109)); replace BK109 := cB BK109 hb; clear hb hbox hg; have hnb18 := NB114_109.out; have hnc18 := NB109_114.out; obtain ⟨hcz19_0, hcz19_1, hcz19_2, hfz19_0, hfz19_1, hfz19_2⟩ := z3 BK114; obtain ⟨hcz20_0, hcz20_1, hcz20_2, hfz20_0, hfz20_1, hfz20_2⟩ := z3 BK109))
     go_ret
     exact ⟨re_, bl⟩
   ·
    rw [if_neg c5] at H
    have c5b0 : decide (a0_1 ≤ t111) = false := decide_eq_false c5
    clear c5
    obtain rfl := Option.some.inj H
    go_enter Tryz.func15, Tryz.ntmps15
    go_wp2_with (first | ((with_reducible refine gate_dst (N := 1) rfl ?_); (try (refine gate_guard (by rfl) ?_; dsimp only)); refine bx (N := 1) #[.int .i64 a0_0, .int .i64 a0_1, .slice A0_2 l0_2.length c0_2] 37 ?_; intro gb109 hg w21 hbox hb; have BK109 := Aside0.mk (hbox); have GW109 := gw hg (uW HB.out); have GE109 := GW109; replace HB := cW HB hb; clear hb hbox hg; obtain ⟨hcz22_0, hcz22_1, hcz22_2, hfz22_0, hfz22_1, hfz22_2⟩ := z3 BK109) | (refine gL (some 8) rfl Tryz.func16 #[.int .i64 a0_0] ?_; (with_reducible refine (script_of.calls a0_0 t110 t111 t112 true _ A2.out).mono ?_); rintro e w23 ⟨rfl, hb⟩; refine ⟨_, rfl, ?_⟩; replace BK109 := cB BK109 hb; replace HB := Aside0.mk (below_step bl hb); (try clear hb)) | ((with_reducible refine gate_dst (N := 3) rfl ?_); (try (refine gate_guard (by rfl) ?_; dsimp only)); refine bx (N := 3) #[.string (⟨#[]⟩ : ByteArray), .int .i64 0, .bool false] 43 ?_; intro gb114 hg w24 hbox hb; have BK114 := Aside0.mk (hbox); have GW114 := gw hg bl; have GE114 := GW114; replace HB := Aside0.mk (below_step bl hb); have NB109_114 := Aside0.mk ((by rw [hg]; exact Nat.ne_of_lt (blk_lt (g := gb109) (o := .cells #[.int .i64 a0_0, .int .i64 a0_1, .slice A0_2 l0_2.length c0_2] 37 (0, 0)) (uB BK109.out)) : gb109 ≠ gb114)); have NB114_109 := Aside0.mk ((by rw [hg]; exact Nat.ne_of_gt (blk_lt (g := gb109) (o := .cells #[.int .i64 a0_0, .int .i64 a0_1, .slice A0_2 l0_2.length c0_2] 37 (0, 0)) (uB BK109.out)) : gb114 ≠ gb109)); replace BK109 := cB BK109 hb; clear hb hbox hg; have hnb25 := NB114_109.out; have hnc25 := NB109_114.out; obtain ⟨hcz26_0, hcz26_1, hcz26_2, hfz26_0, hfz26_1, hfz26_2⟩ := z3 BK114; obtain ⟨hcz27_0, hcz27_1, hcz27_2, hfz27_0, hfz27_1, hfz27_2⟩ := z3 BK109))
    go_ret
    exact ⟨re_, bl⟩
  ·
   rw [if_neg c4] at H
   have c4b0 : decide (0 ≤ a0_1) = false := decide_eq_false c4
   clear c4
   obtain rfl := Option.some.inj H
   go_enter Tryz.func15, Tryz.ntmps15
   go_wp2_with (first | ((with_reducible refine gate_dst (N := 1) rfl ?_); (try (refine gate_guard (by rfl) ?_; dsimp only)); refine bx (N := 1) #[.int .i64 a0_0, .int .i64 a0_1, .slice A0_2 l0_2.length c0_2] 37 ?_; intro gb109 hg w28 hbox hb; have BK109 := Aside0.mk (hbox); have GW109 := gw hg (uW HB.out); have GE109 := GW109; replace HB := cW HB hb; clear hb hbox hg; obtain ⟨hcz29_0, hcz29_1, hcz29_2, hfz29_0, hfz29_1, hfz29_2⟩ := z3 BK109) | (refine gL (some 8) rfl Tryz.func16 #[.int .i64 a0_0] ?_; (with_reducible refine (script_of.calls a0_0 t110 t111 t112 true _ A2.out).mono ?_); rintro e w30 ⟨rfl, hb⟩; refine ⟨_, rfl, ?_⟩; replace BK109 := cB BK109 hb; replace HB := Aside0.mk (below_step bl hb); (try clear hb)) | ((with_reducible refine gate_dst (N := 3) rfl ?_); (try (refine gate_guard (by rfl) ?_; dsimp only)); refine bx (N := 3) #[.string (⟨#[]⟩ : ByteArray), .int .i64 0, .bool false] 43 ?_; intro gb114 hg w31 hbox hb; have BK114 := Aside0.mk (hbox); have GW114 := gw hg bl; have GE114 := GW114; replace HB := Aside0.mk (below_step bl hb); have NB109_114 := Aside0.mk ((by rw [hg]; exact Nat.ne_of_lt (blk_lt (g := gb109) (o := .cells #[.int .i64 a0_0, .int .i64 a0_1, .slice A0_2 l0_2.length c0_2] 37 (0, 0)) (uB BK109.out)) : gb109 ≠ gb114)); have NB114_109 := Aside0.mk ((by rw [hg]; exact Nat.ne_of_gt (blk_lt (g := gb109) (o := .cells #[.int .i64 a0_0, .int .i64 a0_1, .slice A0_2 l0_2.length c0_2] 37 (0, 0)) (uB BK109.out)) : gb114 ≠ gb109)); replace BK109 := cB BK109 hb; clear hb hbox hg; have hnb32 := NB114_109.out; have hnc32 := NB109_114.out; obtain ⟨hcz33_0, hcz33_1, hcz33_2, hfz33_0, hfz33_1, hfz33_2⟩ := z3 BK114; obtain ⟨hcz34_0, hcz34_1, hcz34_2, hfz34_0, hfz34_1, hfz34_2⟩ := z3 BK109))
   go_ret
   exact ⟨re_, bl⟩
 ·
  replace c3 := Bool.eq_false_iff.mpr c3
  subst c3
  rw [if_neg (show ¬ (false = true) by decide)] at H
  obtain rfl := Option.some.inj H
  go_enter Tryz.func15, Tryz.ntmps15
  go_wp2_with (first | ((with_reducible refine gate_dst (N := 1) rfl ?_); (try (refine gate_guard (by rfl) ?_; dsimp only)); refine bx (N := 1) #[.int .i64 a0_0, .int .i64 a0_1, .slice A0_2 l0_2.length c0_2] 37 ?_; intro gb109 hg w35 hbox hb; have BK109 := Aside0.mk (hbox); have GW109 := gw hg (uW HB.out); have GE109 := GW109; replace HB := cW HB hb; clear hb hbox hg; obtain ⟨hcz36_0, hcz36_1, hcz36_2, hfz36_0, hfz36_1, hfz36_2⟩ := z3 BK109) | (refine gL (some 8) rfl Tryz.func16 #[.int .i64 a0_0] ?_; (with_reducible refine (script_of.calls a0_0 t110 t111 t112 false _ A2.out).mono ?_); rintro e w37 ⟨rfl, hb⟩; refine ⟨_, rfl, ?_⟩; replace BK109 := cB BK109 hb; replace HB := Aside0.mk (below_step bl hb); (try clear hb)) | ((with_reducible refine gate_dst (N := 3) rfl ?_); (try (refine gate_guard (by rfl) ?_; dsimp only)); refine bx (N := 3) #[.string (⟨#[]⟩ : ByteArray), .int .i64 0, .bool false] 43 ?_; intro gb114 hg w38 hbox hb; have BK114 := Aside0.mk (hbox); have GW114 := gw hg bl; have GE114 := GW114; replace HB := Aside0.mk (below_step bl hb); have NB109_114 := Aside0.mk ((by rw [hg]; exact Nat.ne_of_lt (blk_lt (g := gb109) (o := .cells #[.int .i64 a0_0, .int .i64 a0_1, .slice A0_2 l0_2.length c0_2] 37 (0, 0)) (uB BK109.out)) : gb109 ≠ gb114)); have NB114_109 := Aside0.mk ((by rw [hg]; exact Nat.ne_of_gt (blk_lt (g := gb109) (o := .cells #[.int .i64 a0_0, .int .i64 a0_1, .slice A0_2 l0_2.length c0_2] 37 (0, 0)) (uB BK109.out)) : gb114 ≠ gb109)); replace BK109 := cB BK109 hb; clear hb hbox hg; have hnb39 := NB114_109.out; have hnc39 := NB109_114.out; obtain ⟨hcz40_0, hcz40_1, hcz40_2, hfz40_0, hfz40_1, hfz40_2⟩ := z3 BK114))
  go_ret
  exact ⟨re_, bl⟩
def strconv_FormatInt.f (a0 : Int) (a1 : Int) : Option (ByteArray) := if a1 = 10 ∧ -9223372036854775808 ≤ a0 ∧ a0 ≤ 9223372036854775807 then (some (⟨(Lib.itoa a0).toArray⟩ : ByteArray)) else (none)
theorem strconv_FormatInt.calls (a0 : Int) (a1 : Int) (r : ByteArray) (w : World) (hL : LD w) (h : strconv_FormatInt.f a0 a1 = some r) :
 Calls Tryz.prog 37 #[.int .i64 a0, .int .i64 a1] w fun e w' => e = .returned (.string r) ∧ Below w.heap.size w w' := by
 unfold strconv_FormatInt.f at h
 by_cases hc : a1 = 10 ∧ -9223372036854775808 ≤ a0 ∧ a0 ≤ 9223372036854775807
 ·
  rw [if_pos hc] at h
  obtain rfl := Option.some.inj h
  obtain ⟨rfl, h0, h1⟩ := hc
  refine (Tryz.strconv_FormatInt_10 a0 h0 h1 w hL.pow10).mono ?_
  rintro e w' ⟨rfl, k, os, rfl⟩
  exact ⟨rfl, below_growX w k os⟩
 ·
  rw [if_neg hc] at h
  exact absurd h (by simp)
def sat_Number.f (a0 : Int) : Option (ByteArray) := (strconv_FormatInt.f a0 10).bind fun t115 => (some t115)
theorem sat_Number.calls (a0 : Int) (r : ByteArray) (w : World) (hL : LD w) (h : sat_Number.f a0 = some r) :
 Calls Tryz.prog 17 #[.int .i64 a0] w fun e w' => e = .returned (.string r) ∧ Below w.heap.size w w' := by
 have HL0 := Aside0.mk hL
 clear hL
 have HB := Aside0.mk (Below.refl w.heap.size w)
 have H : ((strconv_FormatInt.f a0 10).bind fun t115 => (some t115)) = some r := h
 clear h
 obtain ⟨t115, A2, H⟩ := bs H
 try dsimp only at H
 obtain rfl := Option.some.inj H
 go_enter Tryz.func17, Tryz.ntmps17
 go_wp2_with (first | (refine gL (some 4) rfl Tryz.func37 #[.int .i64 a0, .int .i64 10] ?_; (with_reducible refine (strconv_FormatInt.calls (hL := ld) a0 10 t115 _ A2.out).mono ?_); rintro e w3 ⟨rfl, hb⟩; refine ⟨_, rfl, ?_⟩; replace HB := cW HB hb; (try clear hb)))
 go_ret
 exact ⟨re_, uW HB.out⟩
def script_hex.hexD : List UInt8 := [48, 49, 50, 51, 52, 53, 54, 55, 56, 57, 97, 98, 99, 100, 101, 102]
def script_hex.hexC (c : Int) : List UInt8 := [script_hex.hexD.getD (c.toNat / 16) 0, script_hex.hexD.getD (c.toNat % 16) 0]
def script_hex.hexL (l : List Int) : List UInt8 := (l.map script_hex.hexC).flatten
theorem script_hex.hex_snoc (l : List Int) (n : Nat) (h : n < l.length) : script_hex.hexL (l.take (n + 1)) = script_hex.hexL (l.take n) ++ script_hex.hexC l[n] := by
 unfold script_hex.hexL
 rw [List.take_succ_eq_append_getElem h, List.map_append, List.flatten_append]
 simp
theorem script_hex.hex_len (l : List Int) : (script_hex.hexL l).length = 2 * l.length := by
 induction l with
 | nil => rfl
 | cons c l ih =>
  have : script_hex.hexL (c :: l) = script_hex.hexC c ++ script_hex.hexL l := rfl
  rw [this, List.length_append, ih, List.length_cons]
  have h2 : (script_hex.hexC c).length = 2 := rfl
  omega
theorem script_hex.and15 {c : Int} (h : 0 ≤ c ∧ c < 256) : bits BinOp.and IntKind.u8 c 15 = c % 16 := by
 have g : ∀ n : Fin 256, bits BinOp.and IntKind.u8 ((n.val : Nat) : Int) 15 = ((n.val : Nat) : Int) % 16 := by decide +kernel
 have := g ⟨c.toNat, by omega⟩
 simp only [Int.toNat_of_nonneg h.1] at this
 exact this
theorem script_hex.dig_at : ∀ i : Fin 16, (((⟨#[48, 49, 50, 51, 52, 53, 54, 55, 56, 57, 97, 98, 99, 100, 101, 102]⟩ : ByteArray)[i.val]'(by have := i.isLt; exact this)).toNat : Int) = ((script_hex.hexD.getD i.val 0).toNat : Int) := by decide +kernel
def script_hex.f (l0 : List Int) : Option (ByteArray) := if l0.length = 0 then some (⟨#[45]⟩ : ByteArray) else if l0.length ≤ 35184372088832 ∧ (l0.all fun c => decide (0 ≤ c ∧ c < 256)) = true then some (⟨(script_hex.hexL l0).toArray⟩ : ByteArray) else none
theorem script_hex.calls (A0 : Option Addr) (c0 : Nat) (l0 : List Int) (r : ByteArray) (w : World) (hr0 : Kd.C (Kd.int .u8) w A0 l0.length l0) (hc0 : l0.length ≤ c0) (h : script_hex.f l0 = some r) :
 Calls Tryz.prog 18 #[.slice A0 l0.length c0] w fun e w' => e = .returned (.string r) ∧ Below w.heap.size w w' := by
 unfold script_hex.f at h
 have HR := Aside0.mk hr0
 clear hr0 hc0
 by_cases c : l0.length = 0
 ·
  rw [if_pos c] at h
  obtain rfl := Option.some.inj h
  have c0b : ((l0.length : Int) == 0) = true := beq_iff_eq.mpr (by omega)
  go_enter Tryz.func18, Tryz.ntmps18
  go_wp2
  go_ret
  exact ⟨rfl, Below.refl _ _⟩
 ·
  rw [if_neg c] at h
  by_cases c2 : l0.length ≤ 35184372088832 ∧ (l0.all fun c => decide (0 ≤ c ∧ c < 256)) = true
  ·
   rw [if_pos c2] at h
   obtain rfl := Option.some.inj h
   have c0b : ((l0.length : Int) == 0) = false := beq_eq_false_iff_ne.mpr (by omega)
   have HL := Aside0.mk c2.1
   have HA := Aside0.mk c2.2
   clear c2
   go_enter Tryz.func18, Tryz.ntmps18
   go_wp2_with fail
   go_loopg [5, 11] l0.length (fun gg _ v11 wr => ∃ x : Int, v11 = .int .i64 x ∧ Aside0 (0 ≤ x) ∧ Aside0 (x ≤ (l0.length : Int)) ∧ Aside0 ((l0.length : Int) - x ≤ gg) ∧ Aside0 (Lib.IsBuilder 40 5 w.heap.size w.heap.size (Lib.byteCells (script_hex.hexL (l0.take x.toNat))) wr) ∧ Aside0 (Below w.heap.size w wr))
   case atStart => exact ⟨0, rfl, ⟨by omega⟩, ⟨by omega⟩, ⟨by omega⟩, ⟨Lib.fresh_isBuilder 40 5 w⟩, ⟨below_alloc (Below.refl _ _) _⟩⟩
   case round =>
    obtain ⟨x, rfl, H0, H1, HG, HI, HB⟩ := hrel
    by_cases hlt : x < (l0.length : Int)
    ·
     have p101 : 0 ≤ x := H0.out
     obtain ⟨ad101, e101, hx101⟩ := Kd.at_int HR.out x p101 hlt
     cases e101
     have hy101 := kc HB hx101
     clear hx101
     have HN : Aside0 (x.toNat < l0.length) := ⟨by omega⟩
     have hget : rd l0 x = l0[x.toNat]'HN.out := by
      show l0.getD x.toNat _ = _
      rw [List.getD_eq_getElem?_getD, List.getElem?_eq_getElem HN.out, Option.getD_some]
     have hc2 : 0 ≤ rd l0 x ∧ rd l0 x < 256 := by
      rw [hget]
      exact of_decide_eq_true (List.all_eq_true.mp HA.out _ (List.getElem_mem HN.out))
     have HGT := Aside0.mk hget
     clear hget
     have c1b0 : decide (x < (l0.length : Int)) = true := decide_eq_true hlt
     have pi101 : (0 ≤ (x : Int)) = True := eq_true p101
     have qi101 : (x < (l0.length : Int)) = True := eq_true hlt
     have d1 : (0 ≤ rd l0 x / 16) = True := eq_true (by omega)
     have d2 : (rd l0 x / 16 < 16) = True := eq_true (by omega)
     have d3 : (0 ≤ bits BinOp.and IntKind.u8 (rd l0 x) 15) = True := eq_true (by rw [script_hex.and15 hc2]; omega)
     have d4 : (bits BinOp.and IntKind.u8 (rd l0 x) 15 < 16) = True := eq_true (by rw [script_hex.and15 hc2]; omega)
     have HC := Aside0.mk hc2
     clear hc2
     have hlen : (Lib.byteCells (script_hex.hexL (l0.take x.toNat))).length + 2 ≤ 140737488355328 := by
      rw [Lib.byteCells_length, script_hex.hex_len, List.length_take]
      have := HL.out
      omega
     have HLN := Aside0.mk hlen
     clear hlen
     go_wp2_with (first | (go_at_call 21; (with_reducible refine (Tryz.Builder_WriteByte w.heap.size w.heap.size _ _ _ HI.out ?len HB.out.size).mono ?_); (case len => have := HLN.out; first | omega | (simp only [List.length_append, List.length_singleton]; omega)); rintro e w2 ⟨rfl, hI2, hB2⟩; have n0_ := Aside0.mk (show Lib.IsBuilder 40 5 w.heap.size w.heap.size _ w2 from Or.inr hI2); have n1_ := Aside0.mk (HB.out.trans hB2); clear HI HB hI2 hB2; have HI := n0_; have HB := n1_; clear n0_ n1_))
     have hw : wrap64 (x + 1) = x + 1 := by have := HL.out; have := H0.out; unfold wrap64; omega
     (try rw [hw])
     clear hw
     go_roundg (l0.length - (x.toNat + 1))
     case measure => have := HG.out; have := H0.out; omega
     case rel =>
      refine ⟨x + 1, by first | rfl | (have := HL.out; have := H0.out; simp; unfold wrap64; omega), ⟨by have := H0.out; omega⟩, ⟨by omega⟩, ⟨by have := H0.out; omega⟩, ⟨?_⟩, HB⟩
      have hx : (x + 1).toNat = x.toNat + 1 := by have := H0.out; omega
      have hi := HI.out
      have hr := HC.out
      rw [hx, script_hex.hex_snoc l0 x.toNat HN.out, ← HGT.out]
      have e1 := script_hex.dig_at ⟨(rd l0 x / 16).toNat, by omega⟩
      have e2 := script_hex.dig_at ⟨(bits BinOp.and IntKind.u8 (rd l0 x) 15).toNat, by rw [script_hex.and15 hr]; omega⟩
      have e3 : Lib.byteCells (script_hex.hexL (l0.take x.toNat) ++ script_hex.hexC (rd l0 x)) = Lib.byteCells (script_hex.hexL (l0.take x.toNat)) ++ [Value.int .u8 ((script_hex.hexD.getD (rd l0 x / 16).toNat 0).toNat : Int)] ++ [Value.int .u8 ((script_hex.hexD.getD (bits BinOp.and IntKind.u8 (rd l0 x) 15).toNat 0).toNat : Int)] := by
       unfold Lib.byteCells script_hex.hexC
       rw [List.map_append, List.append_assoc, script_hex.and15 hr]
       have a1 : (rd l0 x / 16).toNat = (rd l0 x).toNat / 16 := by omega
       have a2 : (rd l0 x % 16).toNat = (rd l0 x).toNat % 16 := by omega
       rw [a1, a2]
       rfl
      rw [e3, ← e1, ← e2]
      exact hi
    ·
     have hx : x = (l0.length : Int) := by have := H1.out; omega
     have c1b0 : decide (x < (l0.length : Int)) = false := decide_eq_false hlt
     have hi := HI.out
     rw [hx, Int.toNat_natCast, List.take_length] at hi
     have HI2 := Aside0.mk hi
     clear hi hlt HI
     go_wp2_with (first | (go_at_call 22; (with_reducible refine (Tryz.Builder_String_any w.heap.size w.heap.size _ _ HI2.out HB.out.size).mono ?_); rintro e w2 ⟨rfl, hB2⟩; have n1_ := Aside0.mk (HB.out.trans hB2); clear HB hB2; have HB := n1_; clear n1_))
     go_ret
     exact ⟨rfl, HB.out⟩
  ·
   rw [if_neg c2] at h
   cases h
def strings_Join.f (l0 : List ByteArray) (a1 : ByteArray) : Option (ByteArray) := if l0.length ≤ 140737488355328 ∧ (Lib.join (l0.map (·.data.toList)) a1.data.toList).length ≤ 140737488355328 then (some (⟨(Lib.join (l0.map (·.data.toList)) a1.data.toList).toArray⟩ : ByteArray)) else (none)
theorem strings_Join.calls (A0 : Option Addr) (c0 : Nat) (l0 : List ByteArray) (a1 : ByteArray) (r : ByteArray) (w : World) (hr0 : Kd.C Kd.string w A0 l0.length l0) (hc0 : l0.length ≤ c0) (h : strings_Join.f l0 a1 = some r) :
 Calls Tryz.prog 39 #[.slice A0 l0.length c0, .string a1] w fun e w' => e = .returned (.string r) ∧ Below w.heap.size w w' := by
 unfold strings_Join.f at h
 by_cases hc : l0.length ≤ 140737488355328 ∧ (Lib.join (l0.map (·.data.toList)) a1.data.toList).length ≤ 140737488355328
 ·
  rw [if_pos hc] at h
  obtain rfl := Option.some.inj h
  cases hl : l0 with
  | nil => exact (Tryz.strings_Join_none A0 c0 a1 w).mono fun e w' hh => ⟨hh.1, hh.2 ▸ Below.refl _ _⟩
  | cons x xs =>
   rw [← hl]
   have hpos : 0 < l0.length := by rw [hl]; simp
   obtain ⟨ad, e0, h0⟩ := Kd.at_string hr0 0 (Int.le_refl _) (by omega)
   subst e0
   obtain ⟨b, o, p⟩ := ad
   have hnn : p = none := by
    cases p with
    | none => rfl
    | some q =>
     exfalso
     revert h0
     unfold World.cell?
     simp only [Addr.add]
     split <;> simp
   subst hnn
   refine Tryz.strings_Join b o c0 l0 a1 w (fun j y hy => ?_) ?_ hc.1 hc0 hc.2
   ·
    obtain ⟨hj, hy2⟩ := List.getElem?_eq_some_iff.mp hy
    obtain ⟨ad2, e2, h2⟩ := Kd.at_string hr0 (j : Int) (by omega) (by omega)
    cases e2
    rw [Int.toNat_natCast, Addr.add_lit] at h2
    rw [h2]
    congr 2
    show l0.getD ((j : Int)).toNat _ = y
    rw [Int.toNat_natCast, List.getD_eq_getElem?_getD, hy, Option.getD_some]
   ·
    exact World.block_lt_of_cell? w _ h0
 ·
  rw [if_neg hc] at h
  exact absurd h (by simp)
def word_Join.f (a0 : ByteArray) (l1 : List ByteArray) : Option (ByteArray) := (strings_Join.f l1 a0).bind fun t116 => (some t116)
theorem word_Join.calls (a0 : ByteArray) (A1 : Option Addr) (c1 : Nat) (l1 : List ByteArray) (r : ByteArray) (w : World) (hr1 : Kd.C Kd.string w A1 l1.length l1) (hc1 : l1.length ≤ c1) (h : word_Join.f a0 l1 = some r) :
 Calls Tryz.prog 20 #[.string a0, .slice A1 l1.length c1] w fun e w' => e = .returned (.string r) ∧ Below w.heap.size w w' := by
 have HR1 := Aside0.mk hr1
 have HC1 := Aside0.mk hc1
 clear hr1 hc1
 have HB := Aside0.mk (Below.refl w.heap.size w)
 have H : ((strings_Join.f l1 a0).bind fun t116 => (some t116)) = some r := h
 clear h
 obtain ⟨t116, A3, H⟩ := bs H
 try dsimp only at H
 obtain rfl := Option.some.inj H
 go_enter Tryz.func20, Tryz.ntmps20
 go_wp2_with (first | (refine gL (some 7) rfl Tryz.func39 #[.slice A1 l1.length c1, .string a0] ?_; (with_reducible refine (strings_Join.calls _ _ l1 a0 t116 _ ?side1 ?side2 A3.out).mono ?_); (case side1 => exact uC <| HR1.out); (case side2 => exact HC1.out); rintro e w4 ⟨rfl, hb⟩; refine ⟨_, rfl, ?_⟩; replace HB := cW HB hb; (try clear hb)))
 go_ret
 exact ⟨re_, uW HB.out⟩
def script_Text.l0 : Nat → ByteArray → List (S37) → Int → Int → Option (ByteArray × Int)
 | 0, _, _, _, _ => none
 | k + 1, x4, x13, x14, x15 => if x15 < x14 then (if 0 ≤ x15 then (if x15 < (x13.length : Int) then ((script_may.f ((rd_T37 x13 x15).f0) ((rd_T37 x13 x15).f1) ((rd_T37 x13 x15).f2)).bind fun t119 => (if t119 = true then ((script_of.f ((rd_T37 x13 x15).f0)).bind fun bt120 => ((sat_Number.f ((rd_T37 x13 x15).f1)).bind fun t125 => ((some (([bt120.1, t125] : List ByteArray) : List ByteArray)).bind fun y126 => (if bt120.2.2.1 = true then ((script_hex.f ((rd_T37 x13 x15).f2)).bind fun t129 => (if y126.length < 8796093022208 then ((word_Join.f (⟨#[32]⟩ : ByteArray) (y126 ++ [t129])).bind fun t133 => (if x4.size + t133.size ≤ 140737488355328 then (if (x4 ++ t133).size + 1 ≤ 140737488355328 then (script_Text.l0 k ((x4 ++ t133) ++ (⟨#[10]⟩ : ByteArray)) x13 x14 (wrap64 (x15 + 1))) else (none)) else (none))) else (none))) else ((word_Join.f (⟨#[32]⟩ : ByteArray) y126).bind fun t134 => (if x4.size + t134.size ≤ 140737488355328 then (if (x4 ++ t134).size + 1 ≤ 140737488355328 then (script_Text.l0 k ((x4 ++ t134) ++ (⟨#[10]⟩ : ByteArray)) x13 x14 (wrap64 (x15 + 1))) else (none)) else (none))))))) else (some ((⟨#[]⟩ : ByteArray), 1)))) else (none)) else (none)) else (some (x4, 0))
def script_Text.f (k : Nat) (l0 : List (S37)) : Option (ByteArray × Int) := if (l0.length : Int) > 2000 then (none) else (script_Text.l0 k (⟨#[]⟩ : ByteArray) l0 (l0.length : Int) 0)
theorem script_Text.mono_l : ∀ k, (∀ y0 y1 y2 y3, LeC (script_Text.l0 k y0 y1 y2 y3) (script_Text.l0 (k + 1) y0 y1 y2 y3))
 | 0 => fun _ _ _ _ => ⟨fun r h => by simp [script_Text.l0] at h⟩
 | k + 1 => by have ih0 := script_Text.mono_l k; exact fun _ _ _ _ => by unfold script_Text.l0; exact lm
theorem script_Text.mono : ∀ a0 k, LeO (script_Text.f k a0) (script_Text.f (k + 1) a0) := by
 intro a0 k
 have ih0 := script_Text.mono_l k
 unfold script_Text.f
 exact lo
instance script_Text.mI {a0 k} : LeC (script_Text.f k a0) (script_Text.f (k + 1) a0) := ⟨script_Text.mono _ _⟩
theorem script_Text.ib {T e : TypeId} {B b : Nat} {bs : List Value} {W W' : World} (h : Lib.IsBuilder T e B b bs W) (hb : Below W.heap.size W W') : Lib.IsBuilder T e B b bs W' := by
 rcases h with h | h
 ·
  have hlt := h.lt
  obtain ⟨hB, v, hv, hown, hne⟩ := h
  exact .inl ⟨hB, v, (hb.block b hlt).trans hv, hown.kept (row := none) ⟨hb.os, hb.tape, hb.output, hb.size, fun k hk _ => hb.block k hk⟩ (Classical.em _), hne⟩
 ·
  have hlt := h.lt
  obtain ⟨hB, v, hv, hown, hne⟩ := h
  exact .inr ⟨hB, v, (hb.block b hlt).trans hv, hown.kept (row := none) ⟨hb.os, hb.tape, hb.output, hb.size, fun k hk _ => hb.block k hk⟩ (Classical.em _), hne⟩
theorem script_Text.cells (a s : ByteArray) (c : UInt8) : Lib.byteCells a.data.toList ++ Lib.strCells s ++ [Value.int .u8 (c.toNat : Int)] = Lib.byteCells ((a ++ s) ++ (⟨#[c]⟩ : ByteArray)).data.toList := by
 rw [Lib.strCells_eq, ByteArray.data_append, ByteArray.data_append, Array.toList_append, Array.toList_append, Lib.byteCells_append, Lib.byteCells_append]
 rfl
theorem script_Text.eta (a : ByteArray) : (⟨a.data.toList.toArray⟩ : ByteArray) = a := by cases a; simp
theorem script_Text.calls (k : Nat) (A0 : Option Addr) (c0 : Nat) (l0 : List (S37)) (r1 : ByteArray) (r2 : Int) (w : World) (hr0 : Kd.C k37 w A0 l0.length l0) (hc0 : l0.length ≤ c0) (hL : LD w) (h : script_Text.f k l0 = some (r1, r2)) :
 Calls Tryz.prog 7 #[.slice A0 l0.length c0] w fun e w' => e = .returned (.tuple #[.string r1, .int .i64 r2]) ∧ Below w.heap.size w w' := by
 have HL0 := Aside0.mk hL
 clear hL
 have hu37 := Tryz.underlying37
 have hu43 := Tryz.underlying43
 have HR0 := Aside0.mk hr0
 have HC0 := Aside0.mk hc0
 clear hr0 hc0
 have HB := Aside0.mk (Below.refl w.heap.size w)
 have H : (if (l0.length : Int) > 2000 then (none) else (script_Text.l0 k (⟨#[]⟩ : ByteArray) l0 (l0.length : Int) 0)) = some (r1, r2) := h
 clear h
 obtain ⟨c2, H⟩ := gn H
 have c2b0 : decide (2000 < (l0.length : Int)) = false := decide_eq_false c2
 have c2b1 : decide (2000 < l0.length) = false := decide_eq_false (by omega)
 clear c2
 have H' := Aside0.mk H
 clear H
 go_enter Tryz.func7, Tryz.ntmps7
 go_wp2_with fail
 go_loopg [15] k (fun kq v15 w' => ∃ (x4_1 : ByteArray) (x15_1 : Int), v15 = .int .i64 x15_1 ∧ Aside0 (script_Text.l0 kq x4_1 l0 (l0.length : Int) x15_1 = some (r1, r2)) ∧ Aside0 (kq ≤ k) ∧ Aside0 (Below w.heap.size w w') ∧ Aside0 (Lib.IsBuilder 40 5 w.heap.size w.heap.size (Lib.byteCells x4_1.data.toList) w'))
 case atStart => exact ⟨((⟨#[]⟩ : ByteArray)), (0), rs_, H', ⟨Nat.le_refl _⟩, ⟨below_alloc (Below.refl _ _) _⟩, ⟨Lib.fresh_isBuilder 40 5 w⟩⟩
 case round =>
  clear H'
  try clear c2
  try clear c2b0
  try clear c2b1
  try clear p2
  obtain ⟨x4_1, x15_1, rfl, HA, HK1, HB0, HI⟩ := hrel
  rename World => w
  replace HR0 := Aside0.mk (Kd.C_below HR0.out HB0.out)
  replace HL0 := Aside0.mk (LD.below HL0.out HB0.out)
  clear HB
  have HB := Aside0.mk (Below.refl w.heap.size w)
  cases gk with
  | zero => exact absurd HA.out (by simp [script_Text.l0])
  | succ k1 =>
   have H := HA.out
   clear HA
   simp only [script_Text.l0] at H
   by_cases c3 : x15_1 < (l0.length : Int)
   ·
    rw [if_pos c3] at H
    have c3b0 : decide (x15_1 < (l0.length : Int)) = true := decide_eq_true c3
    clear c3
    obtain ⟨c4b0, H⟩ := gdd H
    obtain ⟨c5b0, H⟩ := gdd H
    obtain ⟨t119, A6, H⟩ := bs H
    try dsimp only at H
    by_cases c7 : t119 = true
    ·
     subst c7
     rw [if_pos rfl] at H
     obtain ⟨⟨t120, t121, t122, t123⟩, A8, H⟩ := bs H
     try dsimp only at H
     obtain ⟨t125, A9, H⟩ := bs H
     try dsimp only at H
     obtain ⟨y126, Ny126, H⟩ := ys H
     try dsimp only at H
     by_cases c10 : t122 = true
     ·
      subst c10
      rw [if_pos rfl] at H
      obtain ⟨t129, A11, H⟩ := bs H
      try dsimp only at H
      obtain ⟨c12, H⟩ := gd H
      have LMc12 := Aside0.mk c12
      clear c12
      obtain ⟨y130, hy130⟩ : ∃ y_ : List ByteArray, y_ = (y126 ++ [t129]) := ⟨_, rfl⟩
      replace H : ((word_Join.f (⟨#[32]⟩ : ByteArray) y130).bind fun t133 => (if x4_1.size + t133.size ≤ 140737488355328 then (if (x4_1 ++ t133).size + 1 ≤ 140737488355328 then (script_Text.l0 k1 ((x4_1 ++ t133) ++ (⟨#[10]⟩ : ByteArray)) l0 (l0.length : Int) (wrap64 (x15_1 + 1))) else (none)) else (none))) = some (r1, r2) := by first | (rw [hy130]; with_reducible exact H) | (have H2_ := (Option.bind_some _ _).symm.trans H; rw [hy130]; with_reducible exact H2_) | (have H2_ := (Option.bind_some _ _).symm.trans H; with_reducible exact H2_) | with_reducible exact H | (rw [hy130]; exact H) | exact H
      have Ny130 := Aside0.mk hy130
      clear hy130
      obtain ⟨t133, A13, H⟩ := bs H
      try dsimp only at H
      obtain ⟨c14, H⟩ := gd H
      have c14b0 := eq_true c14
      have c14b1 : decide (x4_1.size + t133.size ≤ 140737488355328) = true := decide_eq_true c14
      try have c14b2 : (140737488355328 < x4_1.size + t133.size) = False := eq_false (Nat.not_lt.2 c14)
      obtain ⟨c15, H⟩ := gd H
      have c15b0 := eq_true c15
      have c15b1 : decide ((x4_1 ++ t133).size + 1 ≤ 140737488355328) = true := decide_eq_true c15
      try have c15b2 : (140737488355328 < (x4_1 ++ t133).size + 1) = False := eq_false (Nat.not_lt.2 c15)
      try have c15b8 := c15b2
      try simp only [ByteArray.size_append] at c15b8
      have H' := Aside0.mk H
      clear H
      have p117 : 0 ≤ (x15_1 : Int) := od
      have q117 : x15_1 < (l0.length : Int) := od
      obtain ⟨ad117, A117_2, c117_2, e117, hx117_0, hx117_1, hx117_2, hl117_2, hi117_2⟩ := at_T37 HR0.out x15_1 p117 q117
      cases e117
      replace hx117_0 := kc HB hx117_0
      replace hx117_1 := kc HB hx117_1
      replace hx117_2 := kc HB hx117_2
      have HR117_2 := Aside0.mk hi117_2
      have HC117_2 := Aside0.mk hl117_2
      clear hi117_2 hl117_2
      replace p117 := eq_true p117
      replace q117 := eq_true q117
      try go_wp2_with (first | ((with_reducible refine gate_dst (N := 6) rfl ?_); refine bx (N := 6) #[.int .i64 0, .int .i64 0, .slice none 0 0] 37 ?_; intro gb118 hg w16 hbox hb; have BK118 := Aside0.mk (hbox); have GW118 := gw hg (uW HB.out); have GE118 := GW118; replace HB := cW HB hb; clear hb hbox hg; obtain ⟨hcz17_0, hcz17_1, hcz17_2, hfz17_0, hfz17_1, hfz17_2⟩ := z3 BK118) | (refine gL (some 20) rfl Tryz.func15 #[.agg #[.int .i64 ((rd_T37 l0 x15_1).f0), .int .i64 ((rd_T37 l0 x15_1).f1), .slice A117_2 ((rd_T37 l0 x15_1).f2).length c117_2]] ?_; (with_reducible refine (script_may.calls ((rd_T37 l0 x15_1).f0) ((rd_T37 l0 x15_1).f1) _ _ ((rd_T37 l0 x15_1).f2) true _ ?side1 ?side2 A6.out).mono ?_); (case side1 => exact Kd.C_below HR117_2.out bl); (case side2 => exact HC117_2.out); rintro e w18 ⟨rfl, hb⟩; refine ⟨_, rfl, ?_⟩; replace BK118 := Aside0.mk (blk_below (g := gb118) (o := .cells #[.int .i64 ((rd_T37 l0 x15_1).f0), .int .i64 ((rd_T37 l0 x15_1).f1), .slice A117_2 ((rd_T37 l0 x15_1).f2).length c117_2] 37 (0, 0)) (by (with_reducible repeat (first | refine blk_drewN ?_ _ | refine blk_drew ?_ | refine blk_alloc ?_ _)); refine blk_put (cs := #[.int .i64 ((rd_T37 l0 x15_1).f0), .int .i64 ((rd_T37 l0 x15_1).f1), .slice none 0 0]) ?_ 2 _ rfl; (with_reducible repeat (first | refine blk_drewN ?_ _ | refine blk_drew ?_ | refine blk_alloc ?_ _)); refine blk_put (cs := #[.int .i64 ((rd_T37 l0 x15_1).f0), .int .i64 0, .slice none 0 0]) ?_ 1 _ rfl; (with_reducible repeat (first | refine blk_drewN ?_ _ | refine blk_drew ?_ | refine blk_alloc ?_ _)); refine blk_put (cs := #[.int .i64 0, .int .i64 0, .slice none 0 0]) ?_ 0 _ rfl; exact uB <| BK118.out) hb); replace HB := Aside0.mk (below_step bl hb); (try clear hb); obtain ⟨hcz19_0, hcz19_1, hcz19_2, hfz19_0, hfz19_1, hfz19_2⟩ := z3 BK118) | (refine gL (some 25) rfl Tryz.func16 #[.int .i64 ((rd_T37 l0 x15_1).f0)] ?_; (with_reducible refine (script_of.calls ((rd_T37 l0 x15_1).f0) t120 t121 true t123 _ A8.out).mono ?_); rintro e w20 ⟨rfl, hb⟩; refine ⟨_, rfl, ?_⟩; replace BK118 := cB BK118 hb; replace HB := Aside0.mk (below_step bl hb); (try clear hb)) | ((with_reducible refine gate_dst (N := 7) rfl ?_); refine bx (N := 7) #[.string (⟨#[]⟩ : ByteArray), .int .i64 0, .bool false] 43 ?_; intro gb124 hg w21 hbox hb; have BK124 := Aside0.mk (hbox); have GW124 := gw hg bl; have GE124 := GW124; replace HB := Aside0.mk (below_step bl hb); have NB118_124 := Aside0.mk ((by rw [hg]; exact Nat.ne_of_lt (blk_lt (g := gb118) (o := .cells #[.int .i64 ((rd_T37 l0 x15_1).f0), .int .i64 ((rd_T37 l0 x15_1).f1), .slice A117_2 ((rd_T37 l0 x15_1).f2).length c117_2] 37 (0, 0)) (uB BK118.out)) : gb118 ≠ gb124)); have NB124_118 := Aside0.mk ((by rw [hg]; exact Nat.ne_of_gt (blk_lt (g := gb118) (o := .cells #[.int .i64 ((rd_T37 l0 x15_1).f0), .int .i64 ((rd_T37 l0 x15_1).f1), .slice A117_2 ((rd_T37 l0 x15_1).f2).length c117_2] 37 (0, 0)) (uB BK118.out)) : gb124 ≠ gb118)); replace BK118 := cB BK118 hb; clear hb hbox hg; have hnb22 := NB124_118.out; have hnc22 := NB118_124.out; obtain ⟨hcz23_0, hcz23_1, hcz23_2, hfz23_0, hfz23_1, hfz23_2⟩ := z3 BK124))
      have n0_ : Aside0 ((((w21.setCell ⟨gb124, 0, none⟩ (.string t120)).setCell ⟨gb124, 1, none⟩ (.int .i64 t121)).setCell ⟨gb124, 2, none⟩ (.bool true)).heap[gb118]? = some (.cells #[.int .i64 ((rd_T37 l0 x15_1).f0), .int .i64 ((rd_T37 l0 x15_1).f1), .slice A117_2 ((rd_T37 l0 x15_1).f2).length c117_2] 37 (0, 0))) := ⟨by (with_reducible repeat (first | refine blk_drewN ?_ _ | refine blk_drew ?_ | refine blk_alloc ?_ _)); refine blk_far ?_ NB118_124.out _; (with_reducible repeat (first | refine blk_drewN ?_ _ | refine blk_drew ?_ | refine blk_alloc ?_ _)); refine blk_far ?_ NB118_124.out _; (with_reducible repeat (first | refine blk_drewN ?_ _ | refine blk_drew ?_ | refine blk_alloc ?_ _)); refine blk_far ?_ NB118_124.out _; exact uB <| BK118.out⟩
      have n1_ : Aside0 ((((w21.setCell ⟨gb124, 0, none⟩ (.string t120)).setCell ⟨gb124, 1, none⟩ (.int .i64 t121)).setCell ⟨gb124, 2, none⟩ (.bool true)).heap[gb124]? = some (.cells #[.string t120, .int .i64 t121, .bool true] 43 (0, 0))) := ⟨by (with_reducible repeat (first | refine blk_drewN ?_ _ | refine blk_drew ?_ | refine blk_alloc ?_ _)); refine blk_put (cs := #[.string t120, .int .i64 t121, .bool false]) ?_ 2 _ rfl; (with_reducible repeat (first | refine blk_drewN ?_ _ | refine blk_drew ?_ | refine blk_alloc ?_ _)); refine blk_put (cs := #[.string t120, .int .i64 0, .bool false]) ?_ 1 _ rfl; (with_reducible repeat (first | refine blk_drewN ?_ _ | refine blk_drew ?_ | refine blk_alloc ?_ _)); refine blk_put (cs := #[.string (⟨#[]⟩ : ByteArray), .int .i64 0, .bool false]) ?_ 0 _ rfl; exact uB <| BK124.out⟩
      have n2_ : Aside0 (Below w.heap.size w (((w21.setCell ⟨gb124, 0, none⟩ (.string t120)).setCell ⟨gb124, 1, none⟩ (.int .i64 t121)).setCell ⟨gb124, 2, none⟩ (.bool true))) := ⟨bl⟩
      (try clear BK118)
      (try clear BK124)
      (try clear HB)
      generalize (((w21.setCell ⟨gb124, 0, none⟩ (.string t120)).setCell ⟨gb124, 1, none⟩ (.int .i64 t121)).setCell ⟨gb124, 2, none⟩ (.bool true)) = w24 at n0_ n1_ n2_ ⊢
      have BK118 := n0_
      have BK124 := n1_
      have HB := n2_
      clear n0_ n1_ n2_
      replace BK118 := Aside0.mk (blk_drew BK118.out)
      replace BK124 := Aside0.mk (blk_drew BK124.out)
      replace HB := Aside0.mk (below_drew1 HB.out)
      refine start_ (n := 7) (S := fun w' => w'.cell? ⟨gb124, 0, none⟩ = some (.string t120) ∧ w'.cell? ⟨gb124, 1, none⟩ = some (.int .i64 t121) ∧ w'.cell? ⟨gb124, 2, none⟩ = some (.bool true) ∧ w'.cell? ⟨gb118, 0, none⟩ = some (.int .i64 ((rd_T37 l0 x15_1).f0)) ∧ w'.cell? ⟨gb118, 1, none⟩ = some (.int .i64 ((rd_T37 l0 x15_1).f1)) ∧ w'.cell? ⟨gb118, 2, none⟩ = some (.slice A117_2 ((rd_T37 l0 x15_1).f2).length c117_2)) (ds := []) _ (by kernel_rfl) rfl rfl ⟨(blk_cell BK124.out 0).trans rfl, (blk_cell BK124.out 1).trans rfl, (blk_cell BK124.out 2).trans rfl, (blk_cell BK118.out 0).trans rfl, (blk_cell BK118.out 1).trans rfl, (blk_cell BK118.out 2).trans rfl⟩ (fun hHeld => ?_)
      generalize w24.drew = w25 at BK118 BK124 HB hHeld ⊢
      refine pure_ (i := 0) (N := some 28) (v := ?_) (a' := ?_) #[true, false, false, false, false, false, false] rfl rfl (by kernel_rfl) (fun _ _ _ h => h) (Or.inl ⟨by rfl, ?_⟩) ?_ ?_
      rotate_left
      ·
       intro w'
       go_simp
       with_reducible rfl
      rotate_left
      ·
       simp only [Act.put, List.setIfInBounds_toArray, List.set_cons_zero, List.set_cons_succ, i64_w, i32_w]
       rfl
      refine pure_ (i := 2) (N := some 30) (v := ?_) (a' := ?_) #[true, false, true, false, false, false, false] rfl rfl (by kernel_rfl) (fun _ _ _ h => h) (Or.inl ⟨by rfl, ?_⟩) ?_ ?_
      rotate_left
      ·
       intro w'
       go_simp
       with_reducible rfl
      rotate_left
      ·
       simp only [Act.put, List.setIfInBounds_toArray, List.set_cons_zero, List.set_cons_succ, i64_w, i32_w]
       rfl
      refine take_ (i := 1) (N := some 29) (v := ?_) (a' := ?_) #[true, true, true, false, false, false, false] rfl rfl (by kernel_rfl) (fun _ _ _ h => h) (Or.inl ⟨by rfl, ?_⟩) hHeld ?_ ?_
      rotate_left
      ·
       rintro w' ⟨s0, s1, s2, s3, s4, s5⟩
       go_simp
       with_reducible rfl
      rotate_left
      ·
       simp only [Act.put, List.setIfInBounds_toArray, List.set_cons_zero, List.set_cons_succ, i64_w, i32_w]
       rfl
      refine take_ (i := 3) (N := some 31) (v := ?_) (a' := ?_) #[true, true, true, true, false, false, false] rfl rfl (by kernel_rfl) (fun _ _ _ h => h) (Or.inl ⟨by rfl, ?_⟩) hHeld ?_ ?_
      rotate_left
      ·
       rintro w' ⟨s0, s1, s2, s3, s4, s5⟩
       go_simp
       with_reducible rfl
      rotate_left
      ·
       simp only [Act.put, List.setIfInBounds_toArray, List.set_cons_zero, List.set_cons_succ, i64_w, i32_w]
       rfl
      refine one_ (i := 4) (N := some 32) #[true, true, true, true, true, false, false] rfl rfl (by kernel_rfl) (by decide) (fun K hK => ?_)
      refine gS Tryz.func17 #[.int .i64 ((rd_T37 l0 x15_1).f1)] ?_
      with_reducible refine (sat_Number.calls (hL := ld) ((rd_T37 l0 x15_1).f1) t125 _ A9.out).mono ?_
      rintro e w26 ⟨rfl, hb⟩
      refine ⟨_, rfl, ?_⟩
      replace BK118 := cB BK118 hb
      replace BK124 := cB BK124 hb
      replace HB := Aside0.mk (below_step bl hb)
      (try clear hb)
      refine hK.out _ _ ⟨(blk_cell BK124.out 0).trans rfl, (blk_cell BK124.out 1).trans rfl, (blk_cell BK124.out 2).trans rfl, (blk_cell BK118.out 0).trans rfl, (blk_cell BK118.out 1).trans rfl, (blk_cell BK118.out 2).trans rfl⟩ (fun hHeld => ?_)
      clear hK K
      refine norm_ (a' := ?_) ?_ ?_
      rotate_left
      ·
       show Act.put _ (some 32) _ = _
       simp only [Act.put, List.setIfInBounds_toArray, List.set_cons_zero, List.set_cons_succ, i64_w, i32_w]
       rfl
      refine one_ (i := 5) (N := some 33) #[true, true, true, true, true, true, false] rfl rfl (by kernel_rfl) (by decide) (fun K hK => ?_)
      refine Kd.R_lit_step Kd.string _ 9 ?hg (N := 33) ?hd (xs := ([t120, t125] : List ByteArray)) (inner := [.string t120, .string t125]) (ok := fun _ => True) (okp := fun _ => True) ?hr ?hp (fun _ hk => hk) trivial (Below.refl _ _) (Nat.le_refl _) (by simp) ?_; (case hd => rfl); (case hg => rfl); (case hr => first | (go_simp; done) | (go_simp; rfl)); (case hp => exact (Reps.one (show Kd.M Kd.string _ _ _ t120 [.string t120] from rfl) (Reps.one (show Kd.M Kd.string _ _ _ t125 [.string t125] from rfl) (Reps.none _ _))))
      intro v127 w27 ho28 hb hg_ hnew_
      clear hg_ hnew_
      (first | rw [← Ny126.out] at ho28 | (simp only [Int.reduceToNat] at ho28; rw [← Ny126.out] at ho28))
      have HO128 := Aside0.mk (Kd.R_lower ho28 (below_size bl))
      replace BK118 := cB BK118 hb
      replace BK124 := cB BK124 hb
      replace HB := Aside0.mk (below_step bl hb)
      clear hb ho28
      refine hK.out _ _ ⟨(blk_cell BK124.out 0).trans rfl, (blk_cell BK124.out 1).trans rfl, (blk_cell BK124.out 2).trans rfl, (blk_cell BK118.out 0).trans rfl, (blk_cell BK118.out 1).trans rfl, (blk_cell BK118.out 2).trans rfl⟩ (fun hHeld => ?_)
      clear hK K
      refine norm_ (a' := ?_) ?_ ?_
      rotate_left
      ·
       show Act.put _ (some 33) _ = _
       simp only [Act.put, List.setIfInBounds_toArray, List.set_cons_zero, List.set_cons_succ, i64_w, i32_w]
       rfl
      refine pure_ (i := 6) (N := some 9) (v := ?_) (a' := ?_) #[true, true, true, true, true, true, true] rfl rfl (by kernel_rfl) (fun _ _ _ h => h) (Or.inl ⟨by rfl, ?_⟩) ?_ ?_
      rotate_left
      ·
       intro w'
       go_simp
       with_reducible rfl
      rotate_left
      ·
       simp only [Act.put, List.setIfInBounds_toArray, List.set_cons_zero, List.set_cons_succ, i64_w, i32_w]
       rfl
      refine done_ (by kernel_rfl) ?_
      obtain ⟨hcz29_0, hcz29_1, hcz29_2, hfz29_0, hfz29_1, hfz29_2⟩ := z3 BK124
      obtain ⟨hcz30_0, hcz30_1, hcz30_2, hfz30_0, hfz30_1, hfz30_2⟩ := z3 BK118
      try go_wp2_with (first | (refine gL (some 39) rfl Tryz.func18 #[.slice A117_2 ((rd_T37 l0 x15_1).f2).length c117_2] ?_; (with_reducible refine (script_hex.calls _ _ ((rd_T37 l0 x15_1).f2) t129 _ ?side1 ?side2 A11.out).mono ?_); (case side1 => exact uC <| (Kd.C_below HR117_2.out HB.out)); (case side2 => exact HC117_2.out); rintro e w31 ⟨rfl, hb⟩; refine ⟨_, rfl, ?_⟩; replace HO128 := cR HO128 hb; replace BK118 := cB BK118 hb; replace BK124 := cB BK124 hb; replace HB := Aside0.mk (below_step bl hb); (try clear hb)) | ((with_reducible refine gate_builtin (b := .append) (xs := #[.tmp 36, .tmp 40]) rfl ?_); at_builtin; refine Kd.R_append Kd.string (w0 := w) w.heap.size rfl (.tmp 36) (.tmp 40) 47 9 (.string ⟨#[]⟩) 16 rfl Tryz.underlying47 info9 rfl (by decide) (by omega) v127 y126 t129 [.string t129] (fun _ => True) (fun _ => False) rfl rfl ?aP (fun _ hk => hk.elim) ?aF ?aO ?aB ?aS ?aL ?_; (case aP => exact rfl); (case aB => exact bl); (case aF => exact (fun _ _ => trivial)); (case aO => exact (uR HO128.out)); (case aS => exact (below_size bl)); (case aL => have := LMc12.out; omega); intro v131 w32 ho hb hg hat; rw [← Ny130.out] at ho; replace BK118 := Aside0.mk (blk_grown (g := gb118) (o := .cells #[.int .i64 ((rd_T37 l0 x15_1).f0), .int .i64 ((rd_T37 l0 x15_1).f1), .slice A117_2 ((rd_T37 l0 x15_1).f2).length c117_2] 37 (0, 0)) (uB BK118.out) hg (Kd.R_ne HO128.out BK118.out (by decide))); replace BK124 := Aside0.mk (blk_grown (g := gb124) (o := .cells #[.string t120, .int .i64 t121, .bool true] 43 (0, 0)) (uB BK124.out) hg (Kd.R_ne HO128.out BK124.out (by decide))); replace HB := Aside0.mk (hb); have HO132 := Aside0.mk (ho); clear HO128; clear ho hb hg hat; obtain ⟨Ao33, co33, eo33⟩ := Kd.R_slice HO132.out; subst eo33) | (refine gL (some 43) rfl Tryz.func20 #[.string (⟨#[32]⟩ : ByteArray), .slice Ao33 y130.length co33] ?_; (with_reducible refine (word_Join.calls (⟨#[32]⟩ : ByteArray) _ _ y130 t133 _ ?side1 ?side2 A13.out).mono ?_); (case side1 => exact uC <| (Kd.R_reads' HO132.out).2.2); (case side2 => exact (Kd.R_reads' HO132.out).2.1); rintro e w34 ⟨rfl, hb⟩; refine ⟨_, rfl, ?_⟩; replace HO132 := cR HO132 hb; replace BK118 := cB BK118 hb; replace BK124 := cB BK124 hb; replace HB := Aside0.mk (below_step bl hb); (try clear hb)) | (go_at_call 19; (with_reducible refine (Tryz.Builder_WriteString _ _ _ _ _ (script_Text.ib HI.out bl) ?len ?size).mono ?_); (case len => rw [Lib.byteCells_length, Array.length_toList]; assumption); (case size => exact (below_step HB0.out bl).size); rintro e w1_ ⟨rfl, hI2, hB2⟩; have n0_ := Aside0.mk (show Lib.IsBuilder _ _ _ _ _ w1_ from Or.inr hI2); have n1_ := Aside0.mk ((below_step HB0.out bl).trans hB2); clear HI HB0 HB hI2 hB2; have HI := n0_; have HB0 := n1_; clear n0_ n1_) | (go_at_call 21; (with_reducible refine (Tryz.Builder_WriteByte _ _ _ _ _ HI.out ?len HB0.out.size).mono ?_); (case len => rw [List.length_append, Lib.byteCells_length, Lib.strCells_length, Array.length_toList]; have hs_ := (by assumption : (_ ++ _ : ByteArray).size + 1 ≤ 140737488355328); rw [ByteArray.size_append] at hs_; exact hs_); rintro e w2_ ⟨rfl, hI2, hB2⟩; have n0_ := Aside0.mk (show Lib.IsBuilder _ _ _ _ _ w2_ from Or.inr hI2); have n1_ := Aside0.mk (HB0.out.trans hB2); clear HI HB0 hI2 hB2; have HI := n0_; have HB0 := n1_; clear n0_ n1_))
      go_roundg k1
      case measure => have := HK1.out; omega
      case rel => exact ⟨((x4_1 ++ t133) ++ (⟨#[10]⟩ : ByteArray)), (wrap64 (x15_1 + 1)), rs_, H', ⟨by have := HK1.out; omega⟩, HB0, ⟨by have hi_ := HI.out; first | exact (script_Text.cells _ _ _) ▸ hi_ | (rw [← script_Text.cells]; exact hi_)⟩⟩
     ·
      replace c10 := Bool.eq_false_iff.mpr c10
      subst c10
      rw [if_neg (show ¬ (false = true) by decide)] at H
      obtain ⟨t134, A35, H⟩ := bs H
      try dsimp only at H
      obtain ⟨c36, H⟩ := gd H
      have c36b0 := eq_true c36
      have c36b1 : decide (x4_1.size + t134.size ≤ 140737488355328) = true := decide_eq_true c36
      try have c36b2 : (140737488355328 < x4_1.size + t134.size) = False := eq_false (Nat.not_lt.2 c36)
      obtain ⟨c37, H⟩ := gd H
      have c37b0 := eq_true c37
      have c37b1 : decide ((x4_1 ++ t134).size + 1 ≤ 140737488355328) = true := decide_eq_true c37
      try have c37b2 : (140737488355328 < (x4_1 ++ t134).size + 1) = False := eq_false (Nat.not_lt.2 c37)
      try have c37b8 := c37b2
      try simp only [ByteArray.size_append] at c37b8
      have H' := Aside0.mk H
      clear H
      have p117 : 0 ≤ (x15_1 : Int) := od
      have q117 : x15_1 < (l0.length : Int) := od
      obtain ⟨ad117, A117_2, c117_2, e117, hx117_0, hx117_1, hx117_2, hl117_2, hi117_2⟩ := at_T37 HR0.out x15_1 p117 q117
      cases e117
      replace hx117_0 := kc HB hx117_0
      replace hx117_1 := kc HB hx117_1
      replace hx117_2 := kc HB hx117_2
      have HR117_2 := Aside0.mk hi117_2
      have HC117_2 := Aside0.mk hl117_2
      clear hi117_2 hl117_2
      replace p117 := eq_true p117
      replace q117 := eq_true q117
      try go_wp2_with (first | ((with_reducible refine gate_dst (N := 6) rfl ?_); refine bx (N := 6) #[.int .i64 0, .int .i64 0, .slice none 0 0] 37 ?_; intro gb118 hg w38 hbox hb; have BK118 := Aside0.mk (hbox); have GW118 := gw hg (uW HB.out); have GE118 := GW118; replace HB := cW HB hb; clear hb hbox hg; obtain ⟨hcz39_0, hcz39_1, hcz39_2, hfz39_0, hfz39_1, hfz39_2⟩ := z3 BK118) | (refine gL (some 20) rfl Tryz.func15 #[.agg #[.int .i64 ((rd_T37 l0 x15_1).f0), .int .i64 ((rd_T37 l0 x15_1).f1), .slice A117_2 ((rd_T37 l0 x15_1).f2).length c117_2]] ?_; (with_reducible refine (script_may.calls ((rd_T37 l0 x15_1).f0) ((rd_T37 l0 x15_1).f1) _ _ ((rd_T37 l0 x15_1).f2) true _ ?side1 ?side2 A6.out).mono ?_); (case side1 => exact Kd.C_below HR117_2.out bl); (case side2 => exact HC117_2.out); rintro e w40 ⟨rfl, hb⟩; refine ⟨_, rfl, ?_⟩; replace BK118 := Aside0.mk (blk_below (g := gb118) (o := .cells #[.int .i64 ((rd_T37 l0 x15_1).f0), .int .i64 ((rd_T37 l0 x15_1).f1), .slice A117_2 ((rd_T37 l0 x15_1).f2).length c117_2] 37 (0, 0)) (by (with_reducible repeat (first | refine blk_drewN ?_ _ | refine blk_drew ?_ | refine blk_alloc ?_ _)); refine blk_put (cs := #[.int .i64 ((rd_T37 l0 x15_1).f0), .int .i64 ((rd_T37 l0 x15_1).f1), .slice none 0 0]) ?_ 2 _ rfl; (with_reducible repeat (first | refine blk_drewN ?_ _ | refine blk_drew ?_ | refine blk_alloc ?_ _)); refine blk_put (cs := #[.int .i64 ((rd_T37 l0 x15_1).f0), .int .i64 0, .slice none 0 0]) ?_ 1 _ rfl; (with_reducible repeat (first | refine blk_drewN ?_ _ | refine blk_drew ?_ | refine blk_alloc ?_ _)); refine blk_put (cs := #[.int .i64 0, .int .i64 0, .slice none 0 0]) ?_ 0 _ rfl; exact uB <| BK118.out) hb); replace HB := Aside0.mk (below_step bl hb); (try clear hb); obtain ⟨hcz41_0, hcz41_1, hcz41_2, hfz41_0, hfz41_1, hfz41_2⟩ := z3 BK118) | (refine gL (some 25) rfl Tryz.func16 #[.int .i64 ((rd_T37 l0 x15_1).f0)] ?_; (with_reducible refine (script_of.calls ((rd_T37 l0 x15_1).f0) t120 t121 false t123 _ A8.out).mono ?_); rintro e w42 ⟨rfl, hb⟩; refine ⟨_, rfl, ?_⟩; replace BK118 := cB BK118 hb; replace HB := Aside0.mk (below_step bl hb); (try clear hb)) | ((with_reducible refine gate_dst (N := 7) rfl ?_); refine bx (N := 7) #[.string (⟨#[]⟩ : ByteArray), .int .i64 0, .bool false] 43 ?_; intro gb124 hg w43 hbox hb; have BK124 := Aside0.mk (hbox); have GW124 := gw hg bl; have GE124 := GW124; replace HB := Aside0.mk (below_step bl hb); have NB118_124 := Aside0.mk ((by rw [hg]; exact Nat.ne_of_lt (blk_lt (g := gb118) (o := .cells #[.int .i64 ((rd_T37 l0 x15_1).f0), .int .i64 ((rd_T37 l0 x15_1).f1), .slice A117_2 ((rd_T37 l0 x15_1).f2).length c117_2] 37 (0, 0)) (uB BK118.out)) : gb118 ≠ gb124)); have NB124_118 := Aside0.mk ((by rw [hg]; exact Nat.ne_of_gt (blk_lt (g := gb118) (o := .cells #[.int .i64 ((rd_T37 l0 x15_1).f0), .int .i64 ((rd_T37 l0 x15_1).f1), .slice A117_2 ((rd_T37 l0 x15_1).f2).length c117_2] 37 (0, 0)) (uB BK118.out)) : gb124 ≠ gb118)); replace BK118 := cB BK118 hb; clear hb hbox hg; have hnb44 := NB124_118.out; have hnc44 := NB118_124.out; obtain ⟨hcz45_0, hcz45_1, hcz45_2, hfz45_0, hfz45_1, hfz45_2⟩ := z3 BK124))
      have n0_ : Aside0 ((((w43.setCell ⟨gb124, 0, none⟩ (.string t120)).setCell ⟨gb124, 1, none⟩ (.int .i64 t121)).setCell ⟨gb124, 2, none⟩ (.bool false)).heap[gb118]? = some (.cells #[.int .i64 ((rd_T37 l0 x15_1).f0), .int .i64 ((rd_T37 l0 x15_1).f1), .slice A117_2 ((rd_T37 l0 x15_1).f2).length c117_2] 37 (0, 0))) := ⟨by (with_reducible repeat (first | refine blk_drewN ?_ _ | refine blk_drew ?_ | refine blk_alloc ?_ _)); refine blk_far ?_ NB118_124.out _; (with_reducible repeat (first | refine blk_drewN ?_ _ | refine blk_drew ?_ | refine blk_alloc ?_ _)); refine blk_far ?_ NB118_124.out _; (with_reducible repeat (first | refine blk_drewN ?_ _ | refine blk_drew ?_ | refine blk_alloc ?_ _)); refine blk_far ?_ NB118_124.out _; exact uB <| BK118.out⟩
      have n1_ : Aside0 ((((w43.setCell ⟨gb124, 0, none⟩ (.string t120)).setCell ⟨gb124, 1, none⟩ (.int .i64 t121)).setCell ⟨gb124, 2, none⟩ (.bool false)).heap[gb124]? = some (.cells #[.string t120, .int .i64 t121, .bool false] 43 (0, 0))) := ⟨by (with_reducible repeat (first | refine blk_drewN ?_ _ | refine blk_drew ?_ | refine blk_alloc ?_ _)); refine blk_put (cs := #[.string t120, .int .i64 t121, .bool false]) ?_ 2 _ rfl; (with_reducible repeat (first | refine blk_drewN ?_ _ | refine blk_drew ?_ | refine blk_alloc ?_ _)); refine blk_put (cs := #[.string t120, .int .i64 0, .bool false]) ?_ 1 _ rfl; (with_reducible repeat (first | refine blk_drewN ?_ _ | refine blk_drew ?_ | refine blk_alloc ?_ _)); refine blk_put (cs := #[.string (⟨#[]⟩ : ByteArray), .int .i64 0, .bool false]) ?_ 0 _ rfl; exact uB <| BK124.out⟩
      have n2_ : Aside0 (Below w.heap.size w (((w43.setCell ⟨gb124, 0, none⟩ (.string t120)).setCell ⟨gb124, 1, none⟩ (.int .i64 t121)).setCell ⟨gb124, 2, none⟩ (.bool false))) := ⟨bl⟩
      (try clear BK118)
      (try clear BK124)
      (try clear HB)
      generalize (((w43.setCell ⟨gb124, 0, none⟩ (.string t120)).setCell ⟨gb124, 1, none⟩ (.int .i64 t121)).setCell ⟨gb124, 2, none⟩ (.bool false)) = w46 at n0_ n1_ n2_ ⊢
      have BK118 := n0_
      have BK124 := n1_
      have HB := n2_
      clear n0_ n1_ n2_
      replace BK118 := Aside0.mk (blk_drew BK118.out)
      replace BK124 := Aside0.mk (blk_drew BK124.out)
      replace HB := Aside0.mk (below_drew1 HB.out)
      refine start_ (n := 7) (S := fun w' => w'.cell? ⟨gb124, 0, none⟩ = some (.string t120) ∧ w'.cell? ⟨gb124, 1, none⟩ = some (.int .i64 t121) ∧ w'.cell? ⟨gb124, 2, none⟩ = some (.bool false) ∧ w'.cell? ⟨gb118, 0, none⟩ = some (.int .i64 ((rd_T37 l0 x15_1).f0)) ∧ w'.cell? ⟨gb118, 1, none⟩ = some (.int .i64 ((rd_T37 l0 x15_1).f1)) ∧ w'.cell? ⟨gb118, 2, none⟩ = some (.slice A117_2 ((rd_T37 l0 x15_1).f2).length c117_2)) (ds := []) _ (by kernel_rfl) rfl rfl ⟨(blk_cell BK124.out 0).trans rfl, (blk_cell BK124.out 1).trans rfl, (blk_cell BK124.out 2).trans rfl, (blk_cell BK118.out 0).trans rfl, (blk_cell BK118.out 1).trans rfl, (blk_cell BK118.out 2).trans rfl⟩ (fun hHeld => ?_)
      generalize w46.drew = w47 at BK118 BK124 HB hHeld ⊢
      refine pure_ (i := 0) (N := some 28) (v := ?_) (a' := ?_) #[true, false, false, false, false, false, false] rfl rfl (by kernel_rfl) (fun _ _ _ h => h) (Or.inl ⟨by rfl, ?_⟩) ?_ ?_
      rotate_left
      ·
       intro w'
       go_simp
       with_reducible rfl
      rotate_left
      ·
       simp only [Act.put, List.setIfInBounds_toArray, List.set_cons_zero, List.set_cons_succ, i64_w, i32_w]
       rfl
      refine pure_ (i := 2) (N := some 30) (v := ?_) (a' := ?_) #[true, false, true, false, false, false, false] rfl rfl (by kernel_rfl) (fun _ _ _ h => h) (Or.inl ⟨by rfl, ?_⟩) ?_ ?_
      rotate_left
      ·
       intro w'
       go_simp
       with_reducible rfl
      rotate_left
      ·
       simp only [Act.put, List.setIfInBounds_toArray, List.set_cons_zero, List.set_cons_succ, i64_w, i32_w]
       rfl
      refine take_ (i := 1) (N := some 29) (v := ?_) (a' := ?_) #[true, true, true, false, false, false, false] rfl rfl (by kernel_rfl) (fun _ _ _ h => h) (Or.inl ⟨by rfl, ?_⟩) hHeld ?_ ?_
      rotate_left
      ·
       rintro w' ⟨s0, s1, s2, s3, s4, s5⟩
       go_simp
       with_reducible rfl
      rotate_left
      ·
       simp only [Act.put, List.setIfInBounds_toArray, List.set_cons_zero, List.set_cons_succ, i64_w, i32_w]
       rfl
      refine take_ (i := 3) (N := some 31) (v := ?_) (a' := ?_) #[true, true, true, true, false, false, false] rfl rfl (by kernel_rfl) (fun _ _ _ h => h) (Or.inl ⟨by rfl, ?_⟩) hHeld ?_ ?_
      rotate_left
      ·
       rintro w' ⟨s0, s1, s2, s3, s4, s5⟩
       go_simp
       with_reducible rfl
      rotate_left
      ·
       simp only [Act.put, List.setIfInBounds_toArray, List.set_cons_zero, List.set_cons_succ, i64_w, i32_w]
       rfl
      refine one_ (i := 4) (N := some 32) #[true, true, true, true, true, false, false] rfl rfl (by kernel_rfl) (by decide) (fun K hK => ?_)
      refine gS Tryz.func17 #[.int .i64 ((rd_T37 l0 x15_1).f1)] ?_
      with_reducible refine (sat_Number.calls (hL := ld) ((rd_T37 l0 x15_1).f1) t125 _ A9.out).mono ?_
      rintro e w48 ⟨rfl, hb⟩
      refine ⟨_, rfl, ?_⟩
      replace BK118 := cB BK118 hb
      replace BK124 := cB BK124 hb
      replace HB := Aside0.mk (below_step bl hb)
      (try clear hb)
      refine hK.out _ _ ⟨(blk_cell BK124.out 0).trans rfl, (blk_cell BK124.out 1).trans rfl, (blk_cell BK124.out 2).trans rfl, (blk_cell BK118.out 0).trans rfl, (blk_cell BK118.out 1).trans rfl, (blk_cell BK118.out 2).trans rfl⟩ (fun hHeld => ?_)
      clear hK K
      refine norm_ (a' := ?_) ?_ ?_
      rotate_left
      ·
       show Act.put _ (some 32) _ = _
       simp only [Act.put, List.setIfInBounds_toArray, List.set_cons_zero, List.set_cons_succ, i64_w, i32_w]
       rfl
      refine one_ (i := 5) (N := some 33) #[true, true, true, true, true, true, false] rfl rfl (by kernel_rfl) (by decide) (fun K hK => ?_)
      refine Kd.R_lit_step Kd.string _ 9 ?hg (N := 33) ?hd (xs := ([t120, t125] : List ByteArray)) (inner := [.string t120, .string t125]) (ok := fun _ => True) (okp := fun _ => True) ?hr ?hp (fun _ hk => hk) trivial (Below.refl _ _) (Nat.le_refl _) (by simp) ?_; (case hd => rfl); (case hg => rfl); (case hr => first | (go_simp; done) | (go_simp; rfl)); (case hp => exact (Reps.one (show Kd.M Kd.string _ _ _ t120 [.string t120] from rfl) (Reps.one (show Kd.M Kd.string _ _ _ t125 [.string t125] from rfl) (Reps.none _ _))))
      intro v127 w49 ho50 hb hg_ hnew_
      clear hg_ hnew_
      (first | rw [← Ny126.out] at ho50 | (simp only [Int.reduceToNat] at ho50; rw [← Ny126.out] at ho50))
      have HO128 := Aside0.mk (Kd.R_lower ho50 (below_size bl))
      replace BK118 := cB BK118 hb
      replace BK124 := cB BK124 hb
      replace HB := Aside0.mk (below_step bl hb)
      clear hb ho50
      refine hK.out _ _ ⟨(blk_cell BK124.out 0).trans rfl, (blk_cell BK124.out 1).trans rfl, (blk_cell BK124.out 2).trans rfl, (blk_cell BK118.out 0).trans rfl, (blk_cell BK118.out 1).trans rfl, (blk_cell BK118.out 2).trans rfl⟩ (fun hHeld => ?_)
      clear hK K
      refine norm_ (a' := ?_) ?_ ?_
      rotate_left
      ·
       show Act.put _ (some 33) _ = _
       simp only [Act.put, List.setIfInBounds_toArray, List.set_cons_zero, List.set_cons_succ, i64_w, i32_w]
       rfl
      refine pure_ (i := 6) (N := some 9) (v := ?_) (a' := ?_) #[true, true, true, true, true, true, true] rfl rfl (by kernel_rfl) (fun _ _ _ h => h) (Or.inl ⟨by rfl, ?_⟩) ?_ ?_
      rotate_left
      ·
       intro w'
       go_simp
       with_reducible rfl
      rotate_left
      ·
       simp only [Act.put, List.setIfInBounds_toArray, List.set_cons_zero, List.set_cons_succ, i64_w, i32_w]
       rfl
      refine done_ (by kernel_rfl) ?_
      obtain ⟨hcz51_0, hcz51_1, hcz51_2, hfz51_0, hfz51_1, hfz51_2⟩ := z3 BK124
      obtain ⟨Ao52, co52, eo52⟩ := Kd.R_slice HO128.out
      subst eo52
      try go_wp2_with (first | (refine gL (some 43) rfl Tryz.func20 #[.string (⟨#[32]⟩ : ByteArray), .slice Ao52 y126.length co52] ?_; (with_reducible refine (word_Join.calls (⟨#[32]⟩ : ByteArray) _ _ y126 t134 _ ?side1 ?side2 A35.out).mono ?_); (case side1 => exact uC <| (Kd.R_reads' HO128.out).2.2); (case side2 => exact (Kd.R_reads' HO128.out).2.1); rintro e w53 ⟨rfl, hb⟩; refine ⟨_, rfl, ?_⟩; replace HO128 := cR HO128 hb; replace BK118 := cB BK118 hb; replace BK124 := cB BK124 hb; replace HB := Aside0.mk (below_step bl hb); (try clear hb)) | (go_at_call 19; (with_reducible refine (Tryz.Builder_WriteString _ _ _ _ _ (script_Text.ib HI.out bl) ?len ?size).mono ?_); (case len => rw [Lib.byteCells_length, Array.length_toList]; assumption); (case size => exact (below_step HB0.out bl).size); rintro e w1_ ⟨rfl, hI2, hB2⟩; have n0_ := Aside0.mk (show Lib.IsBuilder _ _ _ _ _ w1_ from Or.inr hI2); have n1_ := Aside0.mk ((below_step HB0.out bl).trans hB2); clear HI HB0 HB hI2 hB2; have HI := n0_; have HB0 := n1_; clear n0_ n1_) | (go_at_call 21; (with_reducible refine (Tryz.Builder_WriteByte _ _ _ _ _ HI.out ?len HB0.out.size).mono ?_); (case len => rw [List.length_append, Lib.byteCells_length, Lib.strCells_length, Array.length_toList]; have hs_ := (by assumption : (_ ++ _ : ByteArray).size + 1 ≤ 140737488355328); rw [ByteArray.size_append] at hs_; exact hs_); rintro e w2_ ⟨rfl, hI2, hB2⟩; have n0_ := Aside0.mk (show Lib.IsBuilder _ _ _ _ _ w2_ from Or.inr hI2); have n1_ := Aside0.mk (HB0.out.trans hB2); clear HI HB0 hI2 hB2; have HI := n0_; have HB0 := n1_; clear n0_ n1_))
      go_roundg k1
      case measure => have := HK1.out; omega
      case rel => exact ⟨((x4_1 ++ t134) ++ (⟨#[10]⟩ : ByteArray)), (wrap64 (x15_1 + 1)), rs_, H', ⟨by have := HK1.out; omega⟩, HB0, ⟨by have hi_ := HI.out; first | exact (script_Text.cells _ _ _) ▸ hi_ | (rw [← script_Text.cells]; exact hi_)⟩⟩
    ·
     replace c7 := Bool.eq_false_iff.mpr c7
     subst c7
     rw [if_neg (show ¬ (false = true) by decide)] at H
     simp only [Option.some.injEq, Prod.mk.injEq] at H
     obtain ⟨rfl, rfl⟩ := H
     have p117 : 0 ≤ (x15_1 : Int) := od
     have q117 : x15_1 < (l0.length : Int) := od
     obtain ⟨ad117, A117_2, c117_2, e117, hx117_0, hx117_1, hx117_2, hl117_2, hi117_2⟩ := at_T37 HR0.out x15_1 p117 q117
     cases e117
     replace hx117_0 := kc HB hx117_0
     replace hx117_1 := kc HB hx117_1
     replace hx117_2 := kc HB hx117_2
     have HR117_2 := Aside0.mk hi117_2
     have HC117_2 := Aside0.mk hl117_2
     clear hi117_2 hl117_2
     replace p117 := eq_true p117
     replace q117 := eq_true q117
     go_wp2_with (first | ((with_reducible refine gate_dst (N := 6) rfl ?_); refine bx (N := 6) #[.int .i64 0, .int .i64 0, .slice none 0 0] 37 ?_; intro gb118 hg w54 hbox hb; have BK118 := Aside0.mk (hbox); have GW118 := gw hg (uW HB.out); have GE118 := GW118; replace HB := cW HB hb; clear hb hbox hg; obtain ⟨hcz55_0, hcz55_1, hcz55_2, hfz55_0, hfz55_1, hfz55_2⟩ := z3 BK118) | (refine gL (some 20) rfl Tryz.func15 #[.agg #[.int .i64 ((rd_T37 l0 x15_1).f0), .int .i64 ((rd_T37 l0 x15_1).f1), .slice A117_2 ((rd_T37 l0 x15_1).f2).length c117_2]] ?_; (with_reducible refine (script_may.calls ((rd_T37 l0 x15_1).f0) ((rd_T37 l0 x15_1).f1) _ _ ((rd_T37 l0 x15_1).f2) false _ ?side1 ?side2 A6.out).mono ?_); (case side1 => exact Kd.C_below HR117_2.out bl); (case side2 => exact HC117_2.out); rintro e w56 ⟨rfl, hb⟩; refine ⟨_, rfl, ?_⟩; replace BK118 := Aside0.mk (blk_below (g := gb118) (o := .cells #[.int .i64 ((rd_T37 l0 x15_1).f0), .int .i64 ((rd_T37 l0 x15_1).f1), .slice A117_2 ((rd_T37 l0 x15_1).f2).length c117_2] 37 (0, 0)) (by (with_reducible repeat (first | refine blk_drewN ?_ _ | refine blk_drew ?_ | refine blk_alloc ?_ _)); refine blk_put (cs := #[.int .i64 ((rd_T37 l0 x15_1).f0), .int .i64 ((rd_T37 l0 x15_1).f1), .slice none 0 0]) ?_ 2 _ rfl; (with_reducible repeat (first | refine blk_drewN ?_ _ | refine blk_drew ?_ | refine blk_alloc ?_ _)); refine blk_put (cs := #[.int .i64 ((rd_T37 l0 x15_1).f0), .int .i64 0, .slice none 0 0]) ?_ 1 _ rfl; (with_reducible repeat (first | refine blk_drewN ?_ _ | refine blk_drew ?_ | refine blk_alloc ?_ _)); refine blk_put (cs := #[.int .i64 0, .int .i64 0, .slice none 0 0]) ?_ 0 _ rfl; exact uB <| BK118.out) hb); replace HB := Aside0.mk (below_step bl hb); (try clear hb)))
     go_ret2
     exact ⟨re_, below_step HB0.out bl⟩
   ·
    rw [if_neg c3] at H
    have c3b0 : decide (x15_1 < (l0.length : Int)) = false := decide_eq_false c3
    clear c3
    simp only [Option.some.injEq, Prod.mk.injEq] at H
    obtain ⟨rfl, rfl⟩ := H
    go_wp2_with (first | (go_at_call 22; (with_reducible refine (Tryz.Builder_String_any _ _ _ _ HI.out HB0.out.size).mono ?_); rintro e w2_ ⟨rfl, hB2⟩; have n1_ := Aside0.mk (HB0.out.trans hB2); clear HB0 hB2; have HB0 := n1_; clear n1_))
    go_ret2
    exact ⟨by first | rfl | (rw [script_Text.eta]; done) | (rw [script_Text.eta]; rfl) | (simp only [script_Text.eta]; done) | (simp only [script_Text.eta]; rfl) | (simp [*, script_Text.eta]), HB0.out⟩
def api_Event_42.Fn (g : Nat) (lb : Array Value) (p : S37 → Bool) (l : List (S37)) (w : World) : Prop :=
 ∀ (W : World) (x : S37), x ∈ l → Below w.heap.size w W → ∀ (A2_ : Option Addr) (c2_ : Nat), x.f2.length ≤ c2_ → Kd.C (Kd.int .u8) W A2_ x.f2.length x.f2 → Calls Tryz.prog g (#[.agg #[.int .i64 x.f0, .int .i64 x.f1, .slice A2_ x.f2.length c2_]] ++ lb) W fun e w' => e = .returned (.bool (p x)) ∧ Below W.heap.size W w'
def api_Event_42.idx (p : S37 → Bool) : List (S37) → Nat → Int
 | [], _ => -1
 | x :: l, i => if p x = true then (i : Int) else api_Event_42.idx p l (i + 1)
theorem api_Event_42.idx_miss {p : S37 → Bool} : ∀ {l : List (S37)} {i : Nat}, api_Event_42.idx p l i = -1 ∨ (i : Int) ≤ api_Event_42.idx p l i
 | [], _ => .inl rfl
 | x :: l, i => by
  unfold api_Event_42.idx
  split
  ·
   exact .inr (Int.le_refl _)
  ·
   rcases api_Event_42.idx_miss (p := p) (l := l) (i := i + 1) with h | h
   ·
    exact .inl h
   ·
    exact .inr (by omega)
theorem api_Event_42.idx_any (p : S37 → Bool) : ∀ (l : List (S37)) (i : Nat), decide (0 ≤ api_Event_42.idx p l i) = l.any p
 | [], _ => rfl
 | x :: l, i => by
  unfold api_Event_42.idx
  by_cases h : p x = true
  ·
   rw [if_pos h, List.any_cons, h, Bool.true_or]
   exact decide_eq_true (by omega)
  ·
   rw [if_neg h, api_Event_42.idx_any p l (i + 1), List.any_cons, Bool.eq_false_iff.2 h, Bool.false_or]
set_option maxHeartbeats 2000000 in
theorem api_Event_42.calls (g : Nat) (lb : Array Value) (eg : ∀ args w, (callFunc g args).run Tryz.prog w = .ok (.enter g args) w) (p : S37 → Bool) (A0 : Option Addr) (c0 : Nat) (l0 : List (S37)) (w : World) (hr0 : Kd.C k37 w A0 l0.length l0) (hp : api_Event_42.Fn g lb p l0 w) :
 Calls Tryz.prog 42 #[.slice A0 l0.length c0, .func (.func g) #[] lb] w fun e w' => e = .returned (.int .i64 (api_Event_42.idx p l0 0)) ∧ Below w.heap.size w w' := by
 have hu37 := Tryz.underlying37
 have HR0 := Aside0.mk hr0
 have HP := Aside0.mk hp
 have HL := Aside0.mk hr0.2.1
 clear hr0 hp
 go_enter Tryz.func42, Tryz.ntmps42
 go_wp2
 go_loopg [5, 8] l0.length (fun gg _ v8 wr => ∃ x : Int, v8 = .int .i64 x ∧ Aside0 (0 ≤ x) ∧ Aside0 (x ≤ (l0.length : Int)) ∧ Aside0 ((l0.length : Int) - x ≤ gg) ∧ Aside0 (api_Event_42.idx p l0 0 = api_Event_42.idx p (l0.drop x.toNat) x.toNat) ∧ Aside0 (Below w.heap.size w wr))
 case atStart => exact ⟨0, rfl, ⟨by omega⟩, ⟨by omega⟩, ⟨by omega⟩, ⟨rfl⟩, ⟨Below.refl _ _⟩⟩
 case round =>
  obtain ⟨x, rfl, H0, H1, HG, HI, HB⟩ := hrel
  by_cases hlt : x < (l0.length : Int)
  ·
   have p101 : 0 ≤ x := H0.out
   obtain ⟨ad101, A2_, c2_, e101, hx101_0, hx101_1, hx101_2, hl101_2, hC101_2⟩ := at_T37 HR0.out x p101 hlt
   cases e101
   have hy101_0 := kc HB hx101_0
   clear hx101_0
   have hy101_1 := kc HB hx101_1
   clear hx101_1
   have hy101_2 := kc HB hx101_2
   clear hx101_2
   have HN : Aside0 (x.toNat < l0.length) := ⟨by omega⟩
   have hget : rd_T37 l0 x = l0[x.toNat]'HN.out := by
    show l0.getD x.toNat _ = _
    rw [List.getD_eq_getElem?_getD, List.getElem?_eq_getElem HN.out, Option.getD_some]
   have hcall := HP.out wr (rd_T37 l0 x) (by rw [hget]; exact List.getElem_mem HN.out) HB.out _ _ hl101_2 (Kd.C_below hC101_2 HB.out)
   have HGE := Aside0.mk hget
   clear hget
   have c1b0 : decide (x < (l0.length : Int)) = true := decide_eq_true hlt
   have pi101 : (0 ≤ (x : Int)) = True := eq_true p101
   have qi101 : (x < (l0.length : Int)) = True := eq_true hlt
   have HLT := Aside0.mk hlt
   clear hlt p101
   cases hq : p (rd_T37 l0 x) with
   | true =>
    rw [hq] at hcall
    have HQ := Aside0.mk hq
    clear hq
    go_wp2_with (go_at_fn g; refine hcall.mono ?_; rintro e w' ⟨rfl, hb'⟩)
    go_ret
    refine ⟨?_, HB.out.trans (hb'.mono HB.out.size)⟩
    rw [HI.out, List.drop_eq_getElem_cons HN.out]
    unfold api_Event_42.idx
    rw [if_pos (by rw [← HGE.out]; exact HQ.out), Int.toNat_of_nonneg H0.out]
    rfl
   | false =>
    rw [hq] at hcall
    have HQ := Aside0.mk hq
    clear hq
    go_wp2_with (go_at_fn g; refine hcall.mono ?_; rintro e w' ⟨rfl, hb'⟩)
    have hw : wrap64 (x + 1) = x + 1 := by have := HLT.out; have := HL.out; have := H0.out; unfold wrap64; omega
    (try rw [hw])
    clear hw
    go_roundg (l0.length - (x.toNat + 1))
    case measure => have := HLT.out; have := HG.out; have := H0.out; omega
    case rel =>
     refine ⟨x + 1, by first | rfl | (have := HLT.out; have := HL.out; have := H0.out; simp; unfold wrap64; omega), ⟨by have := H0.out; omega⟩, ⟨by have := HLT.out; omega⟩, ⟨by have := HLT.out; have := H0.out; omega⟩, ⟨?_⟩, ⟨HB.out.trans (hb'.mono HB.out.size)⟩⟩
     rw [HI.out, List.drop_eq_getElem_cons HN.out, show (x + 1).toNat = x.toNat + 1 from by have := H0.out; omega]
     conv => lhs; unfold api_Event_42.idx
     rw [if_neg (by rw [← HGE.out, HQ.out]; simp)]
  ·
   have hx : x = (l0.length : Int) := by have := H1.out; omega
   have c1b0 : decide (x < (l0.length : Int)) = false := decide_eq_false hlt
   clear hlt
   have HX := Aside0.mk hx
   clear hx
   go_wp2
   go_ret
   refine ⟨?_, HB.out⟩
   rw [HI.out, HX.out, Int.toNat_natCast, List.drop_of_length_le (Nat.le_refl _)]
   rfl
set_option maxHeartbeats 2000000 in
theorem api_Event_27.calls (g : Nat) (lb : Array Value) (eg : ∀ args w, (callFunc g args).run Tryz.prog w = .ok (.enter g args) w) (p : S37 → Bool) (A0 : Option Addr) (c0 : Nat) (l0 : List (S37)) (w : World) (hr0 : Kd.C k37 w A0 l0.length l0) (hp : api_Event_42.Fn g lb p l0 w) :
 Calls Tryz.prog 27 #[.slice A0 l0.length c0, .func (.func g) #[] lb] w fun e w' => e = .returned (.bool (l0.any p)) ∧ Below w.heap.size w w' := by
 have hcall := fun W => api_Event_42.calls g lb eg p A0 c0 l0 W
 rw [← api_Event_42.idx_any p l0 0]
 generalize api_Event_42.idx p l0 0 = r at hcall ⊢
 go_enter Tryz.func27, Tryz.ntmps27
 go_wp2_with (go_at_call 42; refine (hcall _ hr0 hp).mono ?_; rintro e w' ⟨rfl, hb'⟩)
 go_ret
 exact ⟨rfl, hb'⟩
def script_Right_1.f (a0_0 : Int) (a0_1 : Int) (l0_2 : List Int) : Option (Bool) := (script_may.f a0_0 a0_1 l0_2).bind fun t136 => (some (!t136))
theorem script_Right_1.calls (a0_0 : Int) (a0_1 : Int) (A0_2 : Option Addr) (c0_2 : Nat) (l0_2 : List Int) (r : Bool) (w : World) (hr0_2 : Kd.C (Kd.int .u8) w A0_2 l0_2.length l0_2) (hc0_2 : l0_2.length ≤ c0_2) (h : script_Right_1.f a0_0 a0_1 l0_2 = some r) :
 Calls Tryz.prog 28 #[.agg #[.int .i64 a0_0, .int .i64 a0_1, .slice A0_2 l0_2.length c0_2]] w fun e w' => e = .returned (.bool r) ∧ Below w.heap.size w w' := by
 have hu37 := Tryz.underlying37
 have HR0_2 := Aside0.mk hr0_2
 have HC0_2 := Aside0.mk hc0_2
 clear hr0_2 hc0_2
 have HB := Aside0.mk (Below.refl w.heap.size w)
 have H : ((script_may.f a0_0 a0_1 l0_2).bind fun t136 => (some (!t136))) = some r := h
 clear h
 obtain ⟨t136, A2, H⟩ := bs H
 try dsimp only at H
 obtain rfl := Option.some.inj H
 go_enter Tryz.func28, Tryz.ntmps28
 go_wp2_with (first | ((with_reducible refine gate_dst (N := 1) rfl ?_); refine bx (N := 1) #[.int .i64 a0_0, .int .i64 a0_1, .slice A0_2 l0_2.length c0_2] 37 ?_; intro gb135 hg w3 hbox hb; have BK135 := Aside0.mk (hbox); have GW135 := gw hg (uW HB.out); have GE135 := GW135; replace HB := cW HB hb; clear hb hbox hg; obtain ⟨hcz4_0, hcz4_1, hcz4_2, hfz4_0, hfz4_1, hfz4_2⟩ := z3 BK135) | (refine gL (some 4) rfl Tryz.func15 #[.agg #[.int .i64 a0_0, .int .i64 a0_1, .slice A0_2 l0_2.length c0_2]] ?_; (with_reducible refine (script_may.calls a0_0 a0_1 _ _ l0_2 t136 _ ?side1 ?side2 A2.out).mono ?_); (case side1 => exact uC <| (Kd.C_below HR0_2.out HB.out)); (case side2 => exact HC0_2.out); rintro e w5 ⟨rfl, hb⟩; refine ⟨_, rfl, ?_⟩; replace BK135 := cB BK135 hb; replace HB := Aside0.mk (below_step bl hb); (try clear hb)))
 go_ret
 exact ⟨re_, bl⟩
theorem api_Event_with_28_42.goesV_ {P : Program} {ops : Array Oper} {Q : Exit → Act → World → Prop} {oi : Oper} {N : Option Tmp} {a : Act} {w : World} {K : Act → World → Prop} {f : FuncId} {fn : Func} {cal : Operand} {as_ : Array Operand} {ts : Array TypeId} (hf : P.funcs[f]? = some fn) (hname : (fn.name == "runtime.NumGoroutine") = false) (hb : fn.body.isSome = true) (args : Array Value)
 (hw : Region.wanted oi (yielded ops a.tmps) = true) (hN : oi.dst = N) (hop : oi.op = .call { callee := .value cal, args := as_, argTypes := ts }) (hev : a.eval cal = .func (.func f) #[] #[]) (hargs : as_.map a.eval = args)
 (h : Calls P f args w fun e w' => ∃ v, e = .returned v ∧ K (a.put N v) w') : if Region.wanted oi (yielded ops a.tmps) = true then Oper.wp P oi a w K Q else K (a.put N undef) w := by
 refine call_ f args hw hN ?_ h
 have he := enters_ hf hname hb args w
 unfold execOp
 simp [hop, resolve, Deferred.ofValue, invoke, hev, hargs, he]
theorem api_Event_with_28_42.goesVL_ {P : Program} {ops : Array Oper} {Q : Exit → Act → World → Prop} {rest : List Oper} {oi : Oper} {a : Act} {w : World} (N : Option Tmp) (hd : oi.dst = N) (hg : oi.guard = none) {f : FuncId} {fn : Func} {cal : Operand} {as_ : Array Operand} {ts : Array TypeId} (hf : P.funcs[f]? = some fn) (hname : (fn.name == "runtime.NumGoroutine") = false) (hb : fn.body.isSome = true) (args : Array Value)
 (hop : oi.op = .call { callee := .value cal, args := as_, argTypes := ts }) (hev : a.eval cal = .func (.func f) #[] #[]) (hargs : as_.map a.eval = args)
 (h : Calls P f args w fun e w' => ∃ v, e = .returned v ∧ wpList P ops Q rest (a.put N v) w') : wpList P ops Q (oi :: rest) a w := by
 refine wpList_plain hg fun K hK => ?_
 have he := enters_ hf hname hb args w
 have hrun : (execOp a.eval oi).run P w = .ok (.enter f args) w := by
  unfold execOp
  simp [hop, resolve, Deferred.ofValue, invoke, hev, hargs, he]
 unfold Oper.wp
 rw [hrun, Oper.upon_enter]
 refine h.mono fun e w'' hh => ?_
 obtain ⟨v, rfl, hk⟩ := hh
 subst hd
 exact hK _ _ hk
def api_Event_with_28_42.l0 : Nat → List (S37) → Int → Int → Option (Int)
 | 0, _, _, _ => none
 | k + 1, x0, x7, x8 => if x8 < x7 then (if 0 ≤ x8 then (if x8 < (x0.length : Int) then ((script_Right_1.f ((rd_T37 x0 x8).f0) ((rd_T37 x0 x8).f1) ((rd_T37 x0 x8).f2)).bind fun t138 => (if t138 = true then (some x8) else (api_Event_with_28_42.l0 k x0 x7 (wrap64 (x8 + 1))))) else (none)) else (none)) else (some (-1))
def api_Event_with_28_42.f (k : Nat) (l0 : List (S37)) : Option (Int) := api_Event_with_28_42.l0 k l0 (l0.length : Int) 0
theorem api_Event_with_28_42.mono_l : ∀ k, (∀ y0 y1 y2, LeC (api_Event_with_28_42.l0 k y0 y1 y2) (api_Event_with_28_42.l0 (k + 1) y0 y1 y2))
 | 0 => fun _ _ _ => ⟨fun r h => by simp [api_Event_with_28_42.l0] at h⟩
 | k + 1 => by have ih0 := api_Event_with_28_42.mono_l k; exact fun _ _ _ => by unfold api_Event_with_28_42.l0; exact lm
theorem api_Event_with_28_42.mono : ∀ a0 k, LeO (api_Event_with_28_42.f k a0) (api_Event_with_28_42.f (k + 1) a0) := by
 intro a0 k
 have ih0 := api_Event_with_28_42.mono_l k
 unfold api_Event_with_28_42.f
 exact lo
instance api_Event_with_28_42.mI {a0 k} : LeC (api_Event_with_28_42.f k a0) (api_Event_with_28_42.f (k + 1) a0) := ⟨api_Event_with_28_42.mono _ _⟩
theorem api_Event_with_28_42.calls (k : Nat) (A0 : Option Addr) (c0 : Nat) (l0 : List (S37)) (r : Int) (w : World) (hr0 : Kd.C k37 w A0 l0.length l0) (hc0 : l0.length ≤ c0) (h : api_Event_with_28_42.f k l0 = some r) :
 Calls Tryz.prog 42 #[.slice A0 l0.length c0, .func (.func 28) #[] #[]] w fun e w' => e = .returned (.int .i64 r) ∧ Below w.heap.size w w' := by
 have hu37 := Tryz.underlying37
 have HR0 := Aside0.mk hr0
 have HC0 := Aside0.mk hc0
 clear hr0 hc0
 have HB := Aside0.mk (Below.refl w.heap.size w)
 have H : (api_Event_with_28_42.l0 k l0 (l0.length : Int) 0) = some r := h
 clear h
 have H' := Aside0.mk H
 clear H
 have eg28 : ∀ args w, (callFunc 28 args).run Tryz.prog w = .ok (.enter 28 args) w := enters_of Tryz.func28 (by kernel_rfl) rfl
 go_enter Tryz.func42, Tryz.ntmps42
 go_wp2
 go_loopg [8] k (fun kq v8 w' => ∃ (x8_1 : Int), v8 = .int .i64 x8_1 ∧ Aside0 (api_Event_with_28_42.l0 kq l0 (l0.length : Int) x8_1 = some r) ∧ Aside0 (kq ≤ k) ∧ Aside0 (Below w.heap.size w w'))
 case atStart => exact ⟨(0), rs_, H', ⟨Nat.le_refl _⟩, ⟨uW HB.out⟩⟩
 case round =>
  clear H'
  obtain ⟨x8_1, rfl, HA, HK1, HB⟩ := hrel
  cases gk with
  | zero => exact absurd HA.out (by simp [api_Event_with_28_42.l0])
  | succ k1 =>
   have H := HA.out
   clear HA
   simp only [api_Event_with_28_42.l0] at H
   by_cases c2 : x8_1 < (l0.length : Int)
   ·
    rw [if_pos c2] at H
    have c2b0 : decide (x8_1 < (l0.length : Int)) = true := decide_eq_true c2
    clear c2
    obtain ⟨c3b0, H⟩ := gdd H
    obtain ⟨c4b0, H⟩ := gdd H
    obtain ⟨t138, A5, H⟩ := bs H
    try dsimp only at H
    by_cases c6 : t138 = true
    ·
     subst c6
     rw [if_pos rfl] at H
     obtain rfl := Option.some.inj H
     have p137 : 0 ≤ (x8_1 : Int) := od
     have q137 : x8_1 < (l0.length : Int) := od
     obtain ⟨ad137, A137_2, c137_2, e137, hx137_0, hx137_1, hx137_2, hl137_2, hi137_2⟩ := at_T37 HR0.out x8_1 p137 q137
     cases e137
     replace hx137_0 := kc HB hx137_0
     replace hx137_1 := kc HB hx137_1
     replace hx137_2 := kc HB hx137_2
     have HR137_2 := Aside0.mk hi137_2
     have HC137_2 := Aside0.mk hl137_2
     clear hi137_2 hl137_2
     replace p137 := eq_true p137
     replace q137 := eq_true q137
     go_wp2_with (first | (refine api_Event_with_28_42.goesVL_ (some 16) rfl rfl Tryz.func28 (by kernel_rfl) rfl #[.agg #[.int .i64 ((rd_T37 l0 x8_1).f0), .int .i64 ((rd_T37 l0 x8_1).f1), .slice A137_2 ((rd_T37 l0 x8_1).f2).length c137_2]] rfl (by rfl) (by (try simp only [List.map_toArray, List.map_cons, List.map_nil]); first | done | rfl | (simp only [List.length_drop, List.length_take]; rfl)) ?_; (with_reducible refine (script_Right_1.calls ((rd_T37 l0 x8_1).f0) ((rd_T37 l0 x8_1).f1) _ _ ((rd_T37 l0 x8_1).f2) true _ ?side1 ?side2 A5.out).mono ?_); (case side1 => exact uC <| (Kd.C_below HR137_2.out HB.out)); (case side2 => exact HC137_2.out); rintro e w7 ⟨rfl, hb⟩; refine ⟨_, rfl, ?_⟩; replace HB := cW HB hb; (try clear hb)))
     go_ret
     exact ⟨re_, uW HB.out⟩
    ·
     replace c6 := Bool.eq_false_iff.mpr c6
     subst c6
     rw [if_neg (show ¬ (false = true) by decide)] at H
     have H' := Aside0.mk H
     clear H
     have p137 : 0 ≤ (x8_1 : Int) := od
     have q137 : x8_1 < (l0.length : Int) := od
     obtain ⟨ad137, A137_2, c137_2, e137, hx137_0, hx137_1, hx137_2, hl137_2, hi137_2⟩ := at_T37 HR0.out x8_1 p137 q137
     cases e137
     replace hx137_0 := kc HB hx137_0
     replace hx137_1 := kc HB hx137_1
     replace hx137_2 := kc HB hx137_2
     have HR137_2 := Aside0.mk hi137_2
     have HC137_2 := Aside0.mk hl137_2
     clear hi137_2 hl137_2
     replace p137 := eq_true p137
     replace q137 := eq_true q137
     go_wp2_with (first | (refine api_Event_with_28_42.goesVL_ (some 16) rfl rfl Tryz.func28 (by kernel_rfl) rfl #[.agg #[.int .i64 ((rd_T37 l0 x8_1).f0), .int .i64 ((rd_T37 l0 x8_1).f1), .slice A137_2 ((rd_T37 l0 x8_1).f2).length c137_2]] rfl (by rfl) (by (try simp only [List.map_toArray, List.map_cons, List.map_nil]); first | done | rfl | (simp only [List.length_drop, List.length_take]; rfl)) ?_; (with_reducible refine (script_Right_1.calls ((rd_T37 l0 x8_1).f0) ((rd_T37 l0 x8_1).f1) _ _ ((rd_T37 l0 x8_1).f2) false _ ?side1 ?side2 A5.out).mono ?_); (case side1 => exact uC <| (Kd.C_below HR137_2.out HB.out)); (case side2 => exact HC137_2.out); rintro e w8 ⟨rfl, hb⟩; refine ⟨_, rfl, ?_⟩; replace HB := cW HB hb; (try clear hb)))
     go_roundg k1
     case measure => have := HK1.out; omega
     case rel => exact ⟨(wrap64 (x8_1 + 1)), rs_, H', ⟨by have := HK1.out; omega⟩, ⟨uW HB.out⟩⟩
   ·
    rw [if_neg c2] at H
    have c2b0 : decide (x8_1 < (l0.length : Int)) = false := decide_eq_false c2
    clear c2
    obtain rfl := Option.some.inj H
    go_wp2
    go_ret
    exact ⟨re_, uW HB.out⟩
def api_Event_with_28_27.f (k : Nat) (l0 : List (S37)) : Option (Bool) := (api_Event_with_28_42.f k l0).bind fun t139 => (some (decide (t139 ≥ 0)))
theorem api_Event_with_28_27.mono : ∀ a0 k, LeO (api_Event_with_28_27.f k a0) (api_Event_with_28_27.f (k + 1) a0) := by
 intro a0 k
 unfold api_Event_with_28_27.f
 exact lo
instance api_Event_with_28_27.mI {a0 k} : LeC (api_Event_with_28_27.f k a0) (api_Event_with_28_27.f (k + 1) a0) := ⟨api_Event_with_28_27.mono _ _⟩
theorem api_Event_with_28_27.calls (k : Nat) (A0 : Option Addr) (c0 : Nat) (l0 : List (S37)) (r : Bool) (w : World) (hr0 : Kd.C k37 w A0 l0.length l0) (hc0 : l0.length ≤ c0) (h : api_Event_with_28_27.f k l0 = some r) :
 Calls Tryz.prog 27 #[.slice A0 l0.length c0, .func (.func 28) #[] #[]] w fun e w' => e = .returned (.bool r) ∧ Below w.heap.size w w' := by
 have HR0 := Aside0.mk hr0
 have HC0 := Aside0.mk hc0
 clear hr0 hc0
 have HB := Aside0.mk (Below.refl w.heap.size w)
 have H : ((api_Event_with_28_42.f k l0).bind fun t139 => (some (decide (t139 ≥ 0)))) = some r := h
 clear h
 obtain ⟨t139, A2, H⟩ := bs H
 try dsimp only at H
 obtain rfl := Option.some.inj H
 go_enter Tryz.func27, Tryz.ntmps27
 go_wp2_with (first | (refine gL (some 7) rfl Tryz.func42 #[.slice A0 l0.length c0, (.func (.func 28) #[] #[])] ?_; (with_reducible refine (api_Event_with_28_42.calls k _ _ l0 t139 _ ?side1 ?side2 A2.out).mono ?_); (case side1 => exact uC <| HR0.out); (case side2 => exact HC0.out); rintro e w3 ⟨rfl, hb⟩; refine ⟨_, rfl, ?_⟩; replace HB := cW HB hb; (try clear hb)))
 go_ret
 exact ⟨re_, uW HB.out⟩
end Go.Proofs.YtkplklfmhieoaaaGreatDoor.X
