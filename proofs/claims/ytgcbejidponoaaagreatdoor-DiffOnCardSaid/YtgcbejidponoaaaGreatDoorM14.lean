/- Printed by a program of this session's own: what functions of the program compute, and that the machine computes it. No condition of its own. -/
import Derived.Test.YtgcbejidponoaaaGreatDoorM3
import Derived.Test.YtgcbejidponoaaaGreatDoorM6
import Derived.Test.YtgcbejidponoaaaGreatDoorM7
import Derived.Test.YtgcbejidponoaaaGreatDoorM8
import Derived.Test.YtgcbejidponoaaaGreatDoorM10
import Derived.Test.YtgcbejidponoaaaGreatDoorM12
import Derived.Test.YtgcbejidponoaaaGreatDoorM13
namespace Go.Proofs.YtgcbejidponoaaaGreatDoor.X
open Go.RowKit Go.Proofs.YtgcbejidponoaaaGreatDoorW.PrintWords Go.Proofs.YtgcbejidponoaaaGreatDoorW.PrintLast Go.Proofs.YtgcbejidponoaaaGreatDoorW.PrintMore
attribute [local go_sem] max2_int min2_int max_two min_two max_three min_three max_four min_four
set_option linter.unusedVariables false
set_option linter.unusedSimpArgs false
set_option maxHeartbeats 8000000
set_option maxRecDepth 100000
def w09_alive.f (k : Nat)  : Option (Bool) := (r08_Parse.f k (⟨#[51, 124, 124, 53, 59, 52, 124, 124, 55]⟩ : ByteArray)).bind fun bt561 => ((r08_Parse.f k (⟨#[52, 124, 124, 56, 59, 53, 124, 124, 49]⟩ : ByteArray)).bind fun bt565 => ((diff_Of.f k bt561.1 bt565.1).bind fun bt569 => ((diff_Apply.f k bt561.1 bt569.1).bind fun bt573 => ((diff_Parse.f k (⟨#[33, 51, 124, 59, 52, 124, 124, 56, 59, 53, 124, 124, 49]⟩ : ByteArray)).bind fun bt577 => ((diff_Apply.f k bt565.1 bt569.1).bind fun bt581 => ((diff_Of.f k (([(⟨0, (⟨#[]⟩ : ByteArray), (⟨0, false⟩ : S43)⟩ : S45), (⟨0, (⟨#[]⟩ : ByteArray), (⟨0, false⟩ : S43)⟩ : S45)] : List (S45))) bt565.1).bind fun bt588 => (if bt569.2 = 0 then (if bt573.2 = 0 then (if bt577.2 = 0 then (if bt581.2 = 6 then (if bt588.2 = 9 then ((diff_Text.f k bt569.1).bind fun t592 => (if t592.toList = ([33, 51, 124, 59, 52, 124, 124, 56, 59, 53, 124, 124, 49] : List UInt8) then ((r08_Same.f k bt573.1 bt565.1).bind fun t593 => (if t593 = true then ((diff_Same.f k bt569.1 bt577.1).bind fun t594 => (if t594 = true then ((diff_Same.f k bt569.1 ([] : List (S48))).bind fun t595 => (if t595 = true then (none) else ((diff_Text.f k ([] : List (S48))).bind fun t596 => (some (t596.toList == ([45] : List UInt8)))))) else (none))) else (none))) else (none))) else (none)) else (none)) else (none)) else (none)) else (none))))))))
theorem w09_alive.mono : ∀ k, LeO (w09_alive.f k ) (w09_alive.f (k + 1) ) := by
 intro k
 unfold w09_alive.f
 exact lo
instance w09_alive.mI {k} : LeC (w09_alive.f k) (w09_alive.f (k + 1)) := ⟨w09_alive.mono _⟩
theorem w09_alive.calls (k : Nat)  (r : Bool) (w : World) (hL : LD w) (h : w09_alive.f k  = some r) :
 Calls Tryz.prog 8 #[] w fun e w' => e = .returned (.bool r) ∧ Below w.heap.size w w' := by
 have HL0 := Aside0.mk hL
 clear hL
 have hu45 := Tryz.underlying45
 have HB := Aside0.mk (Below.refl w.heap.size w)
 have H : ((r08_Parse.f k (⟨#[51, 124, 124, 53, 59, 52, 124, 124, 55]⟩ : ByteArray)).bind fun bt561 => ((r08_Parse.f k (⟨#[52, 124, 124, 56, 59, 53, 124, 124, 49]⟩ : ByteArray)).bind fun bt565 => ((diff_Of.f k bt561.1 bt565.1).bind fun bt569 => ((diff_Apply.f k bt561.1 bt569.1).bind fun bt573 => ((diff_Parse.f k (⟨#[33, 51, 124, 59, 52, 124, 124, 56, 59, 53, 124, 124, 49]⟩ : ByteArray)).bind fun bt577 => ((diff_Apply.f k bt565.1 bt569.1).bind fun bt581 => ((diff_Of.f k (([(⟨0, (⟨#[]⟩ : ByteArray), (⟨0, false⟩ : S43)⟩ : S45), (⟨0, (⟨#[]⟩ : ByteArray), (⟨0, false⟩ : S43)⟩ : S45)] : List (S45))) bt565.1).bind fun bt588 => (if bt569.2 = 0 then (if bt573.2 = 0 then (if bt577.2 = 0 then (if bt581.2 = 6 then (if bt588.2 = 9 then ((diff_Text.f k bt569.1).bind fun t592 => (if t592.toList = ([33, 51, 124, 59, 52, 124, 124, 56, 59, 53, 124, 124, 49] : List UInt8) then ((r08_Same.f k bt573.1 bt565.1).bind fun t593 => (if t593 = true then ((diff_Same.f k bt569.1 bt577.1).bind fun t594 => (if t594 = true then ((diff_Same.f k bt569.1 ([] : List (S48))).bind fun t595 => (if t595 = true then (none) else ((diff_Text.f k ([] : List (S48))).bind fun t596 => (some (t596.toList == ([45] : List UInt8)))))) else (none))) else (none))) else (none))) else (none)) else (none)) else (none)) else (none)) else (none))))))))) = some r := h
 clear h
 obtain ⟨⟨t561, t562⟩, A1, H⟩ := bs H
 try dsimp only at H
 obtain ⟨⟨t565, t566⟩, A2, H⟩ := bs H
 try dsimp only at H
 obtain ⟨⟨t569, t572⟩, A3, H⟩ := bs H
 try dsimp only at H
 obtain ⟨⟨t573, t576⟩, A4, H⟩ := bs H
 try dsimp only at H
 obtain ⟨⟨t577, t578⟩, A5, H⟩ := bs H
 try dsimp only at H
 obtain ⟨⟨t581, t584⟩, A6, H⟩ := bs H
 try dsimp only at H
 obtain ⟨y585, hy585⟩ : ∃ y_ : List (S45), y_ = (([(⟨0, (⟨#[]⟩ : ByteArray), (⟨0, false⟩ : S43)⟩ : S45), (⟨0, (⟨#[]⟩ : ByteArray), (⟨0, false⟩ : S43)⟩ : S45)] : List (S45))) := ⟨_, rfl⟩
 replace H : ((diff_Of.f k y585 t565).bind fun bt588 => (if t572 = 0 then (if t576 = 0 then (if t578 = 0 then (if t584 = 6 then (if bt588.2 = 9 then ((diff_Text.f k t569).bind fun t592 => (if t592.toList = ([33, 51, 124, 59, 52, 124, 124, 56, 59, 53, 124, 124, 49] : List UInt8) then ((r08_Same.f k t573 t565).bind fun t593 => (if t593 = true then ((diff_Same.f k t569 t577).bind fun t594 => (if t594 = true then ((diff_Same.f k t569 ([] : List (S48))).bind fun t595 => (if t595 = true then (none) else ((diff_Text.f k ([] : List (S48))).bind fun t596 => (some (t596.toList == ([45] : List UInt8)))))) else (none))) else (none))) else (none))) else (none)) else (none)) else (none)) else (none)) else (none))) = some r := by first | (rw [hy585]; with_reducible exact H) | (have H2_ := (Option.bind_some _ _).symm.trans H; rw [hy585]; with_reducible exact H2_) | (have H2_ := (Option.bind_some _ _).symm.trans H; with_reducible exact H2_) | with_reducible exact H | (rw [hy585]; exact H) | exact H
 have Ny585 := Aside0.mk hy585
 clear hy585
 obtain ⟨⟨t588, t591⟩, A7, H⟩ := bs H
 try dsimp only at H
 by_cases c8 : t572 = 0
 ·
  rw [if_pos c8] at H
  have c8b0 : (t572 == 0) = true := beq_iff_eq.mpr c8
  have c8b1 : (t572 != 0) = false := bne_eq_false_iff_eq.mpr c8
  clear c8
  obtain ⟨c9, H⟩ := gd H
  have c9b0 : (t576 == 0) = true := beq_iff_eq.mpr c9
  have c9b1 : (t576 != 0) = false := bne_eq_false_iff_eq.mpr c9
  clear c9
  obtain ⟨c10, H⟩ := gd H
  have c10b0 : (t578 == 0) = true := beq_iff_eq.mpr c10
  have c10b1 : (t578 != 0) = false := bne_eq_false_iff_eq.mpr c10
  clear c10
  obtain ⟨c11, H⟩ := gd H
  have c11b0 : (t584 == 6) = true := beq_iff_eq.mpr c11
  have c11b1 : (t584 != 6) = false := bne_eq_false_iff_eq.mpr c11
  clear c11
  obtain ⟨c12, H⟩ := gd H
  have c12b0 : (t591 == 9) = true := beq_iff_eq.mpr c12
  have c12b1 : (t591 != 9) = false := bne_eq_false_iff_eq.mpr c12
  clear c12
  obtain ⟨t592, A13, H⟩ := bs H
  try dsimp only at H
  obtain ⟨c14, H⟩ := gd H
  have c14b0 : (t592.toList == ([33, 51, 124, 59, 52, 124, 124, 56, 59, 53, 124, 124, 49] : List UInt8)) = true := beq_iff_eq.mpr c14
  have c14b1 : (t592.toList != ([33, 51, 124, 59, 52, 124, 124, 56, 59, 53, 124, 124, 49] : List UInt8)) = false := bne_eq_false_iff_eq.mpr c14
  clear c14
  obtain ⟨t593, A15, H⟩ := bs H
  try dsimp only at H
  by_cases c16 : t593 = true
  ·
   subst c16
   rw [if_pos rfl] at H
   obtain ⟨t594, A17, H⟩ := bs H
   try dsimp only at H
   by_cases c18 : t594 = true
   ·
    subst c18
    rw [if_pos rfl] at H
    obtain ⟨t595, A19, H⟩ := bs H
    try dsimp only at H
    by_cases c20 : t595 = true
    ·
     subst c20
     rw [if_pos rfl] at H
     exact absurd H (by simp)
    ·
     replace c20 := Bool.eq_false_iff.mpr c20
     subst c20
     rw [if_neg (show ¬ (false = true) by decide)] at H
     obtain ⟨t596, A21, H⟩ := bs H
     try dsimp only at H
     obtain rfl := Option.some.inj H
     go_enter Tryz.func8, Tryz.ntmps8
     go_wp2_with (first | (refine gL (some 16) rfl Tryz.func23 #[.string (⟨#[51, 124, 124, 53, 59, 52, 124, 124, 55]⟩ : ByteArray)] ?_; (with_reducible refine (r08_Parse.calls k (⟨#[51, 124, 124, 53, 59, 52, 124, 124, 55]⟩ : ByteArray) t561 t562 _ A1.out).mono ?_); rintro e w22 ⟨v563, rfl, ho0, hb⟩; refine ⟨_, rfl, ?_⟩; have HO564 := Aside0.mk (Kd.R_lower ho0 (below_size (uW HB.out))); replace HB := cW HB hb; (try clear hb); (try clear ho0)) | (refine gL (some 20) rfl Tryz.func23 #[.string (⟨#[52, 124, 124, 56, 59, 53, 124, 124, 49]⟩ : ByteArray)] ?_; (with_reducible refine (r08_Parse.calls k (⟨#[52, 124, 124, 56, 59, 53, 124, 124, 49]⟩ : ByteArray) t565 t566 _ A2.out).mono ?_); rintro e w23 ⟨v567, rfl, ho0, hb⟩; refine ⟨_, rfl, ?_⟩; have HO568 := Aside0.mk (Kd.R_lower (Kd.R_new' ho0 (Kd.R_lt (uR HO564.out))) (below_size (uW HB.out))); replace HO564 := Aside0.mk (Kd.R_elder' (uR HO564.out) (Kd.R_base ho0) hb); replace HB := cW HB hb; (try clear hb); (try clear ho0); obtain ⟨Ao24, co24, eo24⟩ := Kd.R_slice HO564.out; subst eo24; obtain ⟨Ao25, co25, eo25⟩ := Kd.R_slice HO568.out; subst eo25) | (refine gL (some 26) rfl Tryz.func10 #[.slice Ao24 t561.length co24, .slice Ao25 t565.length co25] ?_; (with_reducible refine (diff_Of.calls (hL := ld) k (fun k_ => some k_ = (.slice Ao24 t561.length co24 : Value).ownBlock) _ _ t561 (fun k_ => some k_ = (.slice Ao25 t565.length co25 : Value).ownBlock) _ _ t565 t569 t572 _ ?side1 ?side2 A3.out).mono ?_); (case side1 => exact Kd.R_V (Kd.R_tight rfl (HO564.out))); (case side2 => exact Kd.R_V (Kd.R_tight rfl (HO568.out))); rintro e w26 ⟨v570, rfl, ho0, hb⟩; refine ⟨_, rfl, ?_⟩; replace HO564 := cR HO564 hb; replace HO568 := cR HO568 hb; have HO571 := Aside0.mk (Kd.R_lower (Kd.R_mono (ok' := fun k_ => True) ho0 (fun _ hk_ => trivial)) (below_size (uW HB.out))); replace HB := cW HB hb; (try clear hb); (try clear ho0); obtain ⟨Ao27, co27, eo27⟩ := Kd.R_slice HO571.out; subst eo27) | (refine gL (some 32) rfl Tryz.func17 #[.slice Ao24 t561.length co24, .slice Ao27 t569.length co27] ?_; (with_reducible refine (diff_Apply.calls (hL := ld) k (fun k_ => some k_ = (.slice Ao24 t561.length co24 : Value).ownBlock) _ _ t561 _ _ t569 t573 t576 _ ?side1 ?side2 ?side3 A4.out).mono ?_); (case side1 => exact Kd.R_V (Kd.R_tight rfl (Kd.R_apart' (HO564.out) (Kd.R_typed HO571.out) (by decide)))); (case side2 => exact uC <| (Kd.R_reads' HO571.out).2.2); (case side3 => exact (Kd.R_reads' HO571.out).2.1); rintro e w28 ⟨v574, rfl, ho0, hb⟩; refine ⟨_, rfl, ?_⟩; replace HO571 := cR HO571 hb; have HO575 := Aside0.mk (Kd.R_lower (Kd.R_new' (Kd.R_new' (Kd.R_mono (ok' := fun k_ => True) ho0 (fun _ hk_ => trivial)) (Kd.R_lt (uR HO564.out))) (Kd.R_lt (uR HO568.out))) (below_size (uW HB.out))); replace HO564 := Aside0.mk (Kd.R_elder' (uR HO564.out) (Kd.R_base ho0) hb); replace HO568 := Aside0.mk (Kd.R_elder' (uR HO568.out) (Kd.R_base ho0) hb); replace HB := cW HB hb; (try clear hb); (try clear ho0)) | (refine gL (some 36) rfl Tryz.func20 #[.string (⟨#[33, 51, 124, 59, 52, 124, 124, 56, 59, 53, 124, 124, 49]⟩ : ByteArray)] ?_; (with_reducible refine (diff_Parse.calls (hL := ld) k (⟨#[33, 51, 124, 59, 52, 124, 124, 56, 59, 53, 124, 124, 49]⟩ : ByteArray) t577 t578 _ A5.out).mono ?_); rintro e w29 ⟨v579, rfl, ho0, hb⟩; refine ⟨_, rfl, ?_⟩; replace HO564 := cR HO564 hb; replace HO568 := cR HO568 hb; replace HO575 := cR HO575 hb; have HO580 := Aside0.mk (Kd.R_lower (Kd.R_new' ho0 (Kd.R_lt (uR HO571.out))) (below_size (uW HB.out))); replace HO571 := Aside0.mk (Kd.R_elder' (uR HO571.out) (Kd.R_base ho0) hb); replace HB := cW HB hb; (try clear hb); (try clear ho0)) | (refine gL (some 42) rfl Tryz.func17 #[.slice Ao25 t565.length co25, .slice Ao27 t569.length co27] ?_; (with_reducible refine (diff_Apply.calls (hL := ld) k (fun k_ => some k_ = (.slice Ao25 t565.length co25 : Value).ownBlock) _ _ t565 _ _ t569 t581 t584 _ ?side1 ?side2 ?side3 A6.out).mono ?_); (case side1 => exact Kd.R_V (Kd.R_tight rfl (Kd.R_apart' (Kd.R_apart' (HO568.out) (Kd.R_typed HO571.out) (by decide)) (Kd.R_typed HO580.out) (by decide)))); (case side2 => exact uC <| (Kd.R_reads' HO571.out).2.2); (case side3 => exact (Kd.R_reads' HO571.out).2.1); rintro e w30 ⟨v582, rfl, ho0, hb⟩; refine ⟨_, rfl, ?_⟩; replace HO571 := cR HO571 hb; replace HO580 := cR HO580 hb; have HO583 := Aside0.mk (Kd.R_lower (Kd.R_new' (Kd.R_new' (Kd.R_new' (Kd.R_mono (ok' := fun k_ => True) ho0 (fun _ hk_ => trivial)) (Kd.R_lt (uR HO564.out))) (Kd.R_lt (uR HO568.out))) (Kd.R_lt (uR HO575.out))) (below_size (uW HB.out))); replace HO564 := Aside0.mk (Kd.R_elder' (uR HO564.out) (Kd.R_base ho0) hb); replace HO568 := Aside0.mk (Kd.R_elder' (uR HO568.out) (Kd.R_base ho0) hb); replace HO575 := Aside0.mk (Kd.R_elder' (uR HO575.out) (Kd.R_base ho0) hb); replace HB := cW HB hb; (try clear hb); (try clear ho0)) | ((with_reducible refine gate_dst (N := 48) rfl ?_); refine Kd.R_lit k45 _ 45 ?hg (N := 48) ?hd (xs := ([(⟨0, (⟨#[]⟩ : ByteArray), (⟨0, false⟩ : S43)⟩ : S45), (⟨0, (⟨#[]⟩ : ByteArray), (⟨0, false⟩ : S43)⟩ : S45)] : List (S45))) (inner := [.int .i64 0, .string (⟨#[]⟩ : ByteArray), .int .i64 0, .bool false, .int .i64 0, .string (⟨#[]⟩ : ByteArray), .int .i64 0, .bool false]) (ok := fun _ => True) (okp := fun _ => True) ?hr ?hp (fun _ hk => hk) trivial (Below.refl _ _) (Nat.le_refl _) (by simp) ?_; (case hd => rfl); (case hg => rfl); (case hr => first | (go_simp; done) | (go_simp; rfl)); (case hp => exact (Reps.c4 (show Kd.M k45 _ _ _ (⟨0, (⟨#[]⟩ : ByteArray), (⟨0, false⟩ : S43)⟩ : S45) [.int .i64 0, .string (⟨#[]⟩ : ByteArray), .int .i64 0, .bool false] from (k45_mkM _ _ _ (⟨0, (⟨#[]⟩ : ByteArray), (⟨0, false⟩ : S43)⟩ : S45) )) (Reps.c4 (show Kd.M k45 _ _ _ (⟨0, (⟨#[]⟩ : ByteArray), (⟨0, false⟩ : S43)⟩ : S45) [.int .i64 0, .string (⟨#[]⟩ : ByteArray), .int .i64 0, .bool false] from (k45_mkM _ _ _ (⟨0, (⟨#[]⟩ : ByteArray), (⟨0, false⟩ : S43)⟩ : S45) )) (Reps.none _ _)))); intro v586 w31 ho32 hb hg_ hnew_; clear hg_ hnew_; (first | rw [← Ny585.out] at ho32 | (simp only [Int.reduceToNat] at ho32; rw [← Ny585.out] at ho32)); replace HO571 := cR HO571 hb; replace HO580 := cR HO580 hb; have HO587 := Aside0.mk (Kd.R_lower (Kd.R_new' (Kd.R_new' (Kd.R_new' (Kd.R_new' ho32 (Kd.R_lt (uR HO564.out))) (Kd.R_lt (uR HO568.out))) (Kd.R_lt (uR HO575.out))) (Kd.R_lt (uR HO583.out))) (below_size (uW HB.out))); replace HO564 := Aside0.mk (Kd.R_elder' (uR HO564.out) (Kd.R_base ho32) hb); replace HO568 := Aside0.mk (Kd.R_elder' (uR HO568.out) (Kd.R_base ho32) hb); replace HO575 := Aside0.mk (Kd.R_elder' (uR HO575.out) (Kd.R_base ho32) hb); replace HO583 := Aside0.mk (Kd.R_elder' (uR HO583.out) (Kd.R_base ho32) hb); replace HB := cW HB hb; clear hb ho32; obtain ⟨Ao33, co33, eo33⟩ := Kd.R_slice HO587.out; subst eo33) | (refine gL (some 50) rfl Tryz.func10 #[.slice Ao33 y585.length co33, .slice Ao25 t565.length co25] ?_; (with_reducible refine (diff_Of.calls (hL := ld) k (fun k_ => some k_ = (.slice Ao33 y585.length co33 : Value).ownBlock) _ _ y585 (fun k_ => some k_ = (.slice Ao25 t565.length co25 : Value).ownBlock) _ _ t565 t588 t591 _ ?side1 ?side2 A7.out).mono ?_); (case side1 => exact Kd.R_V (Kd.R_tight rfl (Kd.R_apart' (Kd.R_apart' (HO587.out) (Kd.R_typed HO571.out) (by decide)) (Kd.R_typed HO580.out) (by decide)))); (case side2 => exact Kd.R_V (Kd.R_tight rfl (Kd.R_apart' (Kd.R_apart' (HO568.out) (Kd.R_typed HO571.out) (by decide)) (Kd.R_typed HO580.out) (by decide)))); rintro e w34 ⟨v589, rfl, ho0, hb⟩; refine ⟨_, rfl, ?_⟩; replace HO564 := cR HO564 hb; replace HO568 := cR HO568 hb; replace HO575 := cR HO575 hb; replace HO583 := cR HO583 hb; replace HO587 := cR HO587 hb; have HO590 := Aside0.mk (Kd.R_lower (Kd.R_new' (Kd.R_new' (Kd.R_mono (ok' := fun k_ => True) ho0 (fun _ hk_ => trivial)) (Kd.R_lt (uR HO571.out))) (Kd.R_lt (uR HO580.out))) (below_size (uW HB.out))); replace HO571 := Aside0.mk (Kd.R_elder' (uR HO571.out) (Kd.R_base ho0) hb); replace HO580 := Aside0.mk (Kd.R_elder' (uR HO580.out) (Kd.R_base ho0) hb); replace HB := cW HB hb; (try clear hb); (try clear ho0)) | (go_at_call 14; (with_reducible refine (diff_Text.calls (hL := ld) k _ _ t569 t592 _ ?side1 ?side2 A13.out).mono ?_); (case side1 => exact uC <| (Kd.R_reads' HO571.out).2.2); (case side2 => exact (Kd.R_reads' HO571.out).2.1); rintro e w35 ⟨rfl, hb⟩; replace HO564 := cR HO564 hb; replace HO568 := cR HO568 hb; replace HO571 := cR HO571 hb; replace HO575 := cR HO575 hb; replace HO580 := cR HO580 hb; replace HO583 := cR HO583 hb; replace HO587 := cR HO587 hb; replace HO590 := cR HO590 hb; replace HB := cW HB hb; (try clear hb); obtain ⟨Ao36, co36, eo36⟩ := Kd.R_slice HO575.out; subst eo36) | (go_at_call 13; (with_reducible refine (r08_Same.calls k _ _ t573 _ _ t565 true _ ?side1 ?side2 ?side3 ?side4 A15.out).mono ?_); (case side1 => exact uC <| (Kd.R_reads' HO575.out).2.2); (case side2 => exact (Kd.R_reads' HO575.out).2.1); (case side3 => exact uC <| (Kd.R_reads' HO568.out).2.2); (case side4 => exact (Kd.R_reads' HO568.out).2.1); rintro e w' ⟨rfl, ⟨nd, rfl⟩⟩; obtain ⟨Ao37, co37, eo37⟩ := Kd.R_slice HO580.out; subst eo37) | (go_at_call 19; (with_reducible refine (diff_Same.calls k _ _ t569 _ _ t577 true _ ?side1 ?side2 ?side3 ?side4 A17.out).mono ?_); (case side1 => exact uC <| (Kd.R_reads' HO571.out).2.2); (case side2 => exact (Kd.R_reads' HO571.out).2.1); (case side3 => exact uC <| (Kd.R_reads' HO580.out).2.2); (case side4 => exact (Kd.R_reads' HO580.out).2.1); rintro e w' ⟨rfl, ⟨nd, rfl⟩⟩) | (go_at_call 19; (refine (diff_Same.calls k _ _ t569 _ _ ([] : List (S48)) false _ ?side1 ?side2 ?side3 ?side4 A19.out).mono ?_); (case side1 => exact uC <| (Kd.R_reads' HO571.out).2.2); (case side2 => exact (Kd.R_reads' HO571.out).2.1); (case side3 => exact Kd.C_nil _ _); (case side4 => exact Nat.le_refl _); rintro e w' ⟨rfl, ⟨nd, rfl⟩⟩) | (go_at_call 14; (refine (diff_Text.calls (hL := ld) k _ _ ([] : List (S48)) t596 _ ?side1 ?side2 A21.out).mono ?_); (case side1 => exact Kd.C_nil _ _); (case side2 => exact Nat.le_refl _); rintro e w38 ⟨rfl, hb⟩; replace HO564 := cR HO564 hb; replace HO568 := cR HO568 hb; replace HO571 := cR HO571 hb; replace HO575 := cR HO575 hb; replace HO580 := cR HO580 hb; replace HO583 := cR HO583 hb; replace HO587 := cR HO587 hb; replace HO590 := cR HO590 hb; replace HB := cW HB hb; (try clear hb)))
     go_ret
     exact ⟨re_, uW HB.out⟩
   ·
    replace c18 := Bool.eq_false_iff.mpr c18
    subst c18
    rw [if_neg (show ¬ (false = true) by decide)] at H
    exact absurd H (by simp)
  ·
   replace c16 := Bool.eq_false_iff.mpr c16
   subst c16
   rw [if_neg (show ¬ (false = true) by decide)] at H
   exact absurd H (by simp)
 ·
  rw [if_neg c8] at H
  exact absurd H (by simp)
def r08_Great.l0 : Nat → List (S45) → Int → Option (Bool)
 | 0, _, _ => none
 | k + 1, x0, x3 => if x3 < (x0.length : Int) then (if 0 ≤ x3 then (if (((rd_T45 x0 x3).f1).size : Int) > 300 then (some true) else (r08_Great.l0 k x0 (wrap64 (x3 + 1)))) else (none)) else (some false)
def r08_Great.f (k : Nat) (l0 : List (S45)) : Option (Bool) := if (l0.length : Int) > 100 then (some true) else (r08_Great.l0 k l0 0)
theorem r08_Great.mono_l : ∀ k, (∀ y0 y1, LeC (r08_Great.l0 k y0 y1) (r08_Great.l0 (k + 1) y0 y1))
 | 0 => fun _ _ => ⟨fun r h => by simp [r08_Great.l0] at h⟩
 | k + 1 => by have ih0 := r08_Great.mono_l k; exact fun _ _ => by unfold r08_Great.l0; exact lm
theorem r08_Great.mono : ∀ a0 k, LeO (r08_Great.f k a0) (r08_Great.f (k + 1) a0) := by
 intro a0 k
 have ih0 := r08_Great.mono_l k
 unfold r08_Great.f
 exact lo
instance r08_Great.mI {a0 k} : LeC (r08_Great.f k a0) (r08_Great.f (k + 1) a0) := ⟨r08_Great.mono _ _⟩
theorem r08_Great.calls (k : Nat) (A0 : Option Addr) (c0 : Nat) (l0 : List (S45)) (r : Bool) (w : World) (hr0 : Kd.C k45 w A0 l0.length l0) (hc0 : l0.length ≤ c0) (h : r08_Great.f k l0 = some r) :
 Calls Tryz.prog 9 #[.slice A0 l0.length c0] w fun e w' => e = .returned (.bool r) ∧ Drawn0 w w' := by
 have HR0 := Aside0.mk hr0
 have HC0 := Aside0.mk hc0
 clear hr0 hc0
 have H : (if (l0.length : Int) > 100 then (some true) else (r08_Great.l0 k l0 0)) = some r := h
 clear h
 by_cases c2 : (l0.length : Int) > 100
 ·
  rw [if_pos c2] at H
  have c2b0 : decide (100 < (l0.length : Int)) = true := decide_eq_true c2
  have c2b1 : decide (100 < l0.length) = true := decide_eq_true (by omega)
  clear c2
  obtain rfl := Option.some.inj H
  go_enter Tryz.func9, Tryz.ntmps9
  go_wp2
  go_ret
  exact ⟨rs_, dr_⟩
 ·
  rw [if_neg c2] at H
  have c2b0 : decide (100 < (l0.length : Int)) = false := decide_eq_false c2
  have c2b1 : decide (100 < l0.length) = false := decide_eq_false (by omega)
  clear c2
  have H' := Aside0.mk H
  clear H
  go_enter Tryz.func9, Tryz.ntmps9
  go_wp2
  go_loopg [3] k (fun kq v3 w' => ∃ (x3_1 : Int), v3 = .int .i64 x3_1 ∧ Aside0 (r08_Great.l0 kq l0 x3_1 = some r) ∧ Aside0 (kq ≤ k) ∧ Drawn0 w w')
  case atStart => exact ⟨(0), rs_, H', ⟨Nat.le_refl _⟩, dr_⟩
  case round =>
   clear H'
   try clear c2
   try clear c2b0
   try clear c2b1
   try clear p2
   obtain ⟨x3_1, rfl, HA, HK1, ⟨m1, rfl⟩⟩ := hrel
   cases gk with
   | zero => exact absurd HA.out (by simp [r08_Great.l0])
   | succ k1 =>
    have H := HA.out
    clear HA
    simp only [r08_Great.l0] at H
    by_cases c3 : x3_1 < (l0.length : Int)
    ·
     rw [if_pos c3] at H
     have c3b0 : decide (x3_1 < (l0.length : Int)) = true := decide_eq_true c3
     clear c3
     obtain ⟨c4b0, H⟩ := gdd H
     by_cases c5 : (((rd_T45 l0 x3_1).f1).size : Int) > 300
     ·
      rw [if_pos c5] at H
      have c5b0 : decide (300 < (((rd_T45 l0 x3_1).f1).size : Int)) = true := decide_eq_true c5
      have c5b1 : decide (300 < ((rd_T45 l0 x3_1).f1).size) = true := decide_eq_true (by omega)
      clear c5
      obtain rfl := Option.some.inj H
      have p597 : 0 ≤ (x3_1 : Int) := od
      have q597 : x3_1 < (l0.length : Int) := od
      obtain ⟨ad597, e597, hx597_0, hx597_1, hx597_2, hx597_3⟩ := at_T45 HR0.out x3_1 p597 q597
      cases e597
      replace p597 := eq_true p597
      replace q597 := eq_true q597
      go_wp2
      go_ret
      exact ⟨rs_, dr_⟩
     ·
      rw [if_neg c5] at H
      have c5b0 : decide (300 < (((rd_T45 l0 x3_1).f1).size : Int)) = false := decide_eq_false c5
      have c5b1 : decide (300 < ((rd_T45 l0 x3_1).f1).size) = false := decide_eq_false (by omega)
      clear c5
      have H' := Aside0.mk H
      clear H
      have p597 : 0 ≤ (x3_1 : Int) := od
      have q597 : x3_1 < (l0.length : Int) := od
      obtain ⟨ad597, e597, hx597_0, hx597_1, hx597_2, hx597_3⟩ := at_T45 HR0.out x3_1 p597 q597
      cases e597
      replace p597 := eq_true p597
      replace q597 := eq_true q597
      go_wp2
      go_roundg k1
      case measure => have := HK1.out; omega
      case rel => exact ⟨(wrap64 (x3_1 + 1)), rs_, H', ⟨by have := HK1.out; omega⟩, dr_⟩
    ·
     rw [if_neg c3] at H
     have c3b0 : decide (x3_1 < (l0.length : Int)) = false := decide_eq_false c3
     clear c3
     obtain rfl := Option.some.inj H
     go_wp2
     go_ret
     exact ⟨rs_, dr_⟩
mutual
def w09_DiffOn.j0 : Nat → List (S45) → List (S45) → List (S45) → Bool → Option (Bool)
 | 0, _, _, _, _ => none
 | k + 1, x0, x1, x2, x26 => if x26 = true then (some true) else ((diff_Of.f k x0 x1).bind fun bt602 => ((diff_Of.f k x1 x2).bind fun bt606 => (if bt602.2 = 0 then (w09_DiffOn.j1 k x0 x2 bt602.1 bt602.2 bt606.1 bt606.2 (bt606.2 != 0)) else (w09_DiffOn.j1 k x0 x2 bt602.1 bt602.2 bt606.1 bt606.2 true))))
def w09_DiffOn.j1 : Nat → List (S45) → List (S45) → List (S48) → Int → List (S48) → Int → Bool → Option (Bool)
 | 0, _, _, _, _, _, _, _ => none
 | k + 1, x0, x2, x7, x8, x9, x10, x44 => if x44 = true then (if x8 = 0 then (if x10 = 0 then (none) else (some ((x9.length : Int) == 0))) else (if (x7.length : Int) = 0 then (some true) else (if x10 = 0 then (none) else (some ((x9.length : Int) == 0))))) else ((diff_Apply.f k x0 x7).bind fun bt610 => ((diff_Apply.f k bt610.1 x9).bind fun bt614 => (if bt610.2 = 0 then (if bt614.2 = 0 then ((r08_Same.f k bt614.1 x2).bind fun t618 => (some t618)) else (none)) else (none))))
end
def w09_DiffOn.f (k : Nat) (l0 : List (S45)) (l1 : List (S45)) (l2 : List (S45)) : Option (Bool) := (w09_alive.f k).bind fun t598 => (if t598 = true then ((r08_Great.f k l0).bind fun t599 => (if t599 = true then (w09_DiffOn.j0 k l0 l1 l2 true) else ((r08_Great.f k l1).bind fun t600 => (if t600 = true then (w09_DiffOn.j0 k l0 l1 l2 true) else ((r08_Great.f k l2).bind fun t601 => (w09_DiffOn.j0 k l0 l1 l2 t601)))))) else (none))
theorem w09_DiffOn.mono_l : ∀ k, (∀ y0 y1 y2 y3, LeC (w09_DiffOn.j0 k y0 y1 y2 y3) (w09_DiffOn.j0 (k + 1) y0 y1 y2 y3)) ∧ (∀ y0 y1 y2 y3 y4 y5 y6, LeC (w09_DiffOn.j1 k y0 y1 y2 y3 y4 y5 y6) (w09_DiffOn.j1 (k + 1) y0 y1 y2 y3 y4 y5 y6))
 | 0 => ⟨fun _ _ _ _ => ⟨fun r h => by simp [w09_DiffOn.j0] at h⟩, fun _ _ _ _ _ _ _ => ⟨fun r h => by simp [w09_DiffOn.j1] at h⟩⟩
 | k + 1 => by obtain ⟨ih0, ih1⟩ := w09_DiffOn.mono_l k; exact ⟨fun _ _ _ _ => by unfold w09_DiffOn.j0; exact lm, fun _ _ _ _ _ _ _ => by unfold w09_DiffOn.j1; exact lm⟩
theorem w09_DiffOn.mono : ∀ a0 a1 a2 k, LeO (w09_DiffOn.f k a0 a1 a2) (w09_DiffOn.f (k + 1) a0 a1 a2) := by
 intro a0 a1 a2 k
 obtain ⟨ih0, ih1⟩ := w09_DiffOn.mono_l k
 unfold w09_DiffOn.f
 exact lo
instance w09_DiffOn.mI {a0 a1 a2 k} : LeC (w09_DiffOn.f k a0 a1 a2) (w09_DiffOn.f (k + 1) a0 a1 a2) := ⟨w09_DiffOn.mono _ _ _ _⟩
theorem w09_DiffOn.calls (k : Nat) (A0 : Option Addr) (c0 : Nat) (l0 : List (S45)) (A1 : Option Addr) (c1 : Nat) (l1 : List (S45)) (A2 : Option Addr) (c2 : Nat) (l2 : List (S45)) (r : Bool) (w : World) (hr0 : Kd.C k45 w A0 l0.length l0) (hc0 : l0.length ≤ c0) (hr1 : Kd.C k45 w A1 l1.length l1) (hc1 : l1.length ≤ c1) (hr2 : Kd.C k45 w A2 l2.length l2) (hc2 : l2.length ≤ c2) (hL : LD w) (h : w09_DiffOn.f k l0 l1 l2 = some r) :
 Calls Tryz.prog 7 #[.slice A0 l0.length c0, .slice A1 l1.length c1, .slice A2 l2.length c2] w fun e w' => e = .returned (.bool r) ∧ Below w.heap.size w w' := by
 have HL0 := Aside0.mk hL
 clear hL
 have HR0 := Aside0.mk hr0
 have HC0 := Aside0.mk hc0
 clear hr0 hc0
 have HR1 := Aside0.mk hr1
 have HC1 := Aside0.mk hc1
 clear hr1 hc1
 have HR2 := Aside0.mk hr2
 have HC2 := Aside0.mk hc2
 clear hr2 hc2
 have HB := Aside0.mk (Below.refl w.heap.size w)
 have H : ((w09_alive.f k).bind fun t598 => (if t598 = true then ((r08_Great.f k l0).bind fun t599 => (if t599 = true then (w09_DiffOn.j0 k l0 l1 l2 true) else ((r08_Great.f k l1).bind fun t600 => (if t600 = true then (w09_DiffOn.j0 k l0 l1 l2 true) else ((r08_Great.f k l2).bind fun t601 => (w09_DiffOn.j0 k l0 l1 l2 t601)))))) else (none))) = some r := h
 clear h
 obtain ⟨t598, A4, H⟩ := bs H
 try dsimp only at H
 by_cases c5 : t598 = true
 ·
  subst c5
  rw [if_pos rfl] at H
  have HC6 := Aside0.mk H
  clear H
  go_enter Tryz.func7, Tryz.ntmps7
  go_upto_region 3 with (first | (refine gL (some 15) rfl Tryz.func8 #[] ?_; (with_reducible refine (w09_alive.calls (hL := ld) k  true _ A4.out).mono ?_); rintro e w7 ⟨rfl, hb⟩; refine ⟨_, rfl, ?_⟩; replace HB := cW HB hb; (try clear hb)))
  (try simp only [Act.put, List.setIfInBounds_toArray, List.set_cons_zero, List.set_cons_succ])
  go_cut [26] (fun v26 wc => ∃ (kq : Nat) (x26_5 : Bool), v26 = .bool x26_5 ∧ Aside0 (w09_DiffOn.j0 kq l0 l1 l2 x26_5 = some r) ∧ Aside0 (kq ≤ k) ∧ Aside0 (Below w.heap.size w wc))
  case first =>
   have H := HC6.out
   clear HC6
   obtain ⟨t599, A8, H⟩ := bs H
   try dsimp only at H
   by_cases c9 : t599 = true
   ·
    subst c9
    rw [if_pos rfl] at H
    have H' := Aside0.mk H
    clear H
    go_wp2_with (first | (refine gL (some 18) rfl Tryz.func9 #[.slice A0 l0.length c0] ?_; (with_reducible refine (r08_Great.calls k _ _ l0 true _ ?side1 ?side2 A8.out).mono ?_); (case side1 => exact uC <| (Kd.C_below HR0.out HB.out)); (case side2 => exact HC0.out); rintro e w' ⟨rfl, ⟨nd, rfl⟩⟩; refine ⟨_, rfl, ?_⟩))
    go_meet
    case rel => exact ⟨_, (true), rs_, H', ⟨by first | omega | exact Nat.le_refl _⟩, ⟨uW HB.out⟩⟩
   ·
    replace c9 := Bool.eq_false_iff.mpr c9
    subst c9
    rw [if_neg (show ¬ (false = true) by decide)] at H
    obtain ⟨t600, A10, H⟩ := bs H
    try dsimp only at H
    by_cases c11 : t600 = true
    ·
     subst c11
     rw [if_pos rfl] at H
     have H' := Aside0.mk H
     clear H
     go_wp2_with (first | (refine gL (some 18) rfl Tryz.func9 #[.slice A0 l0.length c0] ?_; (with_reducible refine (r08_Great.calls k _ _ l0 false _ ?side1 ?side2 A8.out).mono ?_); (case side1 => exact uC <| (Kd.C_below HR0.out HB.out)); (case side2 => exact HC0.out); rintro e w' ⟨rfl, ⟨nd, rfl⟩⟩; refine ⟨_, rfl, ?_⟩) | (go_at_call 9; (with_reducible refine (r08_Great.calls k _ _ l1 true _ ?side1 ?side2 A10.out).mono ?_); (case side1 => exact (Kd.C_below HR1.out (uW HB.out))); (case side2 => exact HC1.out); rintro e w' ⟨rfl, ⟨nd, rfl⟩⟩))
     go_meet
     case rel => exact ⟨_, (true), rs_, H', ⟨by first | omega | exact Nat.le_refl _⟩, ⟨uW HB.out⟩⟩
    ·
     replace c11 := Bool.eq_false_iff.mpr c11
     subst c11
     rw [if_neg (show ¬ (false = true) by decide)] at H
     obtain ⟨t601, A12, H⟩ := bs H
     try dsimp only at H
     have H' := Aside0.mk H
     clear H
     go_wp2_with (first | (refine gL (some 18) rfl Tryz.func9 #[.slice A0 l0.length c0] ?_; (with_reducible refine (r08_Great.calls k _ _ l0 false _ ?side1 ?side2 A8.out).mono ?_); (case side1 => exact uC <| (Kd.C_below HR0.out HB.out)); (case side2 => exact HC0.out); rintro e w' ⟨rfl, ⟨nd, rfl⟩⟩; refine ⟨_, rfl, ?_⟩) | (go_at_call 9; (with_reducible refine (r08_Great.calls k _ _ l1 false _ ?side1 ?side2 A10.out).mono ?_); (case side1 => exact (Kd.C_below HR1.out (uW HB.out))); (case side2 => exact HC1.out); rintro e w' ⟨rfl, ⟨nd, rfl⟩⟩) | (go_at_call 9; (with_reducible refine (r08_Great.calls k _ _ l2 t601 _ ?side1 ?side2 A12.out).mono ?_); (case side1 => exact (Kd.C_below HR2.out (uW HB.out))); (case side2 => exact HC2.out); rintro e w' ⟨rfl, ⟨nd, rfl⟩⟩))
     go_meet
     case rel => exact ⟨_, (t601), rs_, H', ⟨by first | omega | exact Nat.le_refl _⟩, ⟨uW HB.out⟩⟩
  case rest =>
   clear HC6
   try clear c1
   try clear c2
   try clear p2
   try clear c5
   try clear c7
   try clear c8
   try clear c9
   try clear c11
   obtain ⟨kq, x26_5, rfl, HA, HJ5, HB⟩ := hcut
   cases kq with
   | zero => exact absurd HA.out (by simp [w09_DiffOn.j0])
   | succ kj5 =>
    have H := HA.out
    clear HA
    simp only [w09_DiffOn.j0] at H
    by_cases c13 : x26_5 = true
    ·
     subst c13
     rw [if_pos rfl] at H
     obtain rfl := Option.some.inj H
     go_wp2
     go_ret
     exact ⟨re_, uW HB.out⟩
    ·
     replace c13 := Bool.eq_false_iff.mpr c13
     subst c13
     rw [if_neg (show ¬ (false = true) by decide)] at H
     obtain ⟨⟨t602, t605⟩, A14, H⟩ := bs H
     try dsimp only at H
     obtain ⟨⟨t606, t609⟩, A15, H⟩ := bs H
     try dsimp only at H
     have HC16 := Aside0.mk H
     clear H
     go_upto_region 7 with (first | (refine gL (some 30) rfl Tryz.func10 #[.slice A0 l0.length c0, .slice A1 l1.length c1] ?_; (with_reducible refine (diff_Of.calls (hL := ld) kj5 (fun k_ => k_ < w.heap.size) _ _ l0 (fun k_ => k_ < w.heap.size) _ _ l1 t602 t605 _ ?side1 ?side2 A14.out).mono ?_); (case side1 => exact Kd.V_mk HC0.out (Kd.F_below (Kd.C_F k45_heap HR0.out) (uW HB.out))); (case side2 => exact Kd.V_mk HC1.out (Kd.F_below (Kd.C_F k45_heap HR1.out) (uW HB.out))); rintro e w17 ⟨v603, rfl, ho0, hb⟩; refine ⟨_, rfl, ?_⟩; have HO604 := Aside0.mk (Kd.R_lower (Kd.R_mono (ok' := fun k_ => True) ho0 (fun _ hk_ => trivial)) (below_size (uW HB.out))); replace HB := cW HB hb; (try clear hb); (try clear ho0)) | (refine gL (some 36) rfl Tryz.func10 #[.slice A1 l1.length c1, .slice A2 l2.length c2] ?_; (with_reducible refine (diff_Of.calls (hL := ld) kj5 (fun k_ => k_ < w.heap.size) _ _ l1 (fun k_ => k_ < w.heap.size) _ _ l2 t606 t609 _ ?side1 ?side2 A15.out).mono ?_); (case side1 => exact Kd.V_mk HC1.out (Kd.F_below (Kd.C_F k45_heap HR1.out) (uW HB.out))); (case side2 => exact Kd.V_mk HC2.out (Kd.F_below (Kd.C_F k45_heap HR2.out) (uW HB.out))); rintro e w18 ⟨v607, rfl, ho0, hb⟩; refine ⟨_, rfl, ?_⟩; have HO608 := Aside0.mk (Kd.R_lower (Kd.R_new' (Kd.R_mono (ok' := fun k_ => True) ho0 (fun _ hk_ => trivial)) (Kd.R_lt (uR HO604.out))) (below_size (uW HB.out))); replace HO604 := Aside0.mk (Kd.R_elder' (uR HO604.out) (Kd.R_base ho0) hb); replace HB := cW HB hb; (try clear hb); (try clear ho0)))
     (try simp only [Act.put, List.setIfInBounds_toArray, List.set_cons_zero, List.set_cons_succ])
     go_cut [44] (fun v44 wc => ∃ (kq : Nat) (x44_15 : Bool), v44 = .bool x44_15 ∧ Aside0 (w09_DiffOn.j1 kq l0 l2 t602 t605 t606 t609 x44_15 = some r) ∧ Aside0 (kq ≤ kj5) ∧ Aside0 (Kd.R k48 48 wc w.heap.size (fun k_ => some k_ ≠ (v607 : Value).ownBlock) v603 t602) ∧ Aside0 (Kd.R k48 48 wc w.heap.size (fun k_ => some k_ ≠ (v603 : Value).ownBlock) v607 t606) ∧ Aside0 (Below w.heap.size w wc))
     case first =>
      have H := HC16.out
      clear HC16
      by_cases c19 : t605 = 0
      ·
       rw [if_pos c19] at H
       have c19b0 : (t605 == 0) = true := beq_iff_eq.mpr c19
       have c19b1 : (t605 != 0) = false := bne_eq_false_iff_eq.mpr c19
       clear c19
       (first | rw [c19b0] | (simp only [i64_w, i32_w]; rw [c19b0]) | skip)
       have H' := Aside0.mk H
       clear H
       go_wp2
       go_meet
       case rel => exact ⟨_, ((t609 != 0)), rs_, H', ⟨by have := HJ5.out; first | omega | exact Nat.le_refl _⟩, ⟨by exact uR <| Kd.R_mono HO604.out (fun _ hk => hk.2)⟩, ⟨by exact uR <| Kd.R_mono HO608.out (fun _ hk => hk.2)⟩, ⟨uW HB.out⟩⟩
      ·
       rw [if_neg c19] at H
       have c19b0 : (t605 == 0) = false := beq_eq_false_iff_ne.mpr c19
       have c19b1 : (t605 != 0) = true := bne_iff_ne.mpr c19
       (first | rw [c19b0] | (simp only [i64_w, i32_w]; rw [c19b0]) | skip)
       have H' := Aside0.mk H
       clear H
       go_wp2
       go_meet
       case rel => exact ⟨_, (true), rs_, H', ⟨by have := HJ5.out; first | omega | exact Nat.le_refl _⟩, ⟨by exact uR <| Kd.R_mono HO604.out (fun _ hk => hk.2)⟩, ⟨by exact uR <| Kd.R_mono HO608.out (fun _ hk => hk.2)⟩, ⟨uW HB.out⟩⟩
     case rest =>
      clear HC16
      try clear c1
      try clear c2
      try clear p2
      try clear c5
      try clear c7
      try clear c8
      try clear c9
      try clear c10
      try clear c11
      try clear c13
      try clear c19
      try clear c19b0
      try clear c19b1
      try clear p2
      obtain ⟨kq, x44_15, rfl, HA, HJ15, HO_7, HO_9, HB⟩ := hcut
      cases kq with
      | zero => exact absurd HA.out (by simp [w09_DiffOn.j1])
      | succ kj15 =>
       have H := HA.out
       clear HA
       simp only [w09_DiffOn.j1] at H
       by_cases c20 : x44_15 = true
       ·
        subst c20
        rw [if_pos rfl] at H
        by_cases c21 : t605 = 0
        ·
         rw [if_pos c21] at H
         have c21b0 : (t605 == 0) = true := beq_iff_eq.mpr c21
         have c21b1 : (t605 != 0) = false := bne_eq_false_iff_eq.mpr c21
         clear c21
         obtain ⟨c22, H⟩ := gn H
         have c22b0 : (t609 == 0) = false := beq_eq_false_iff_ne.mpr c22
         have c22b1 : (t609 != 0) = true := bne_iff_ne.mpr c22
         obtain rfl := Option.some.inj H
         obtain ⟨Ao23, co23, eo23⟩ := Kd.R_slice HO_9.out
         subst eo23
         go_wp2
         go_ret
         exact ⟨re_, uW HB.out⟩
        ·
         rw [if_neg c21] at H
         have c21b0 : (t605 == 0) = false := beq_eq_false_iff_ne.mpr c21
         have c21b1 : (t605 != 0) = true := bne_iff_ne.mpr c21
         by_cases c24 : (t602.length : Int) = 0
         ·
          rw [if_pos c24] at H
          have c24b0 : ((t602.length : Int) == 0) = true := beq_iff_eq.mpr c24
          have c24b1 : ((t602.length : Int) != 0) = false := bne_eq_false_iff_eq.mpr c24
          clear c24
          obtain rfl := Option.some.inj H
          obtain ⟨Ao25, co25, eo25⟩ := Kd.R_slice HO_7.out
          subst eo25
          go_wp2
          go_ret
          exact ⟨re_, uW HB.out⟩
         ·
          rw [if_neg c24] at H
          have c24b0 : ((t602.length : Int) == 0) = false := beq_eq_false_iff_ne.mpr c24
          have c24b1 : ((t602.length : Int) != 0) = true := bne_iff_ne.mpr c24
          have c24b2 : ¬ (t602 = []) := fun h_ => c24 (by rw [h_]; rfl)
          obtain ⟨c26, H⟩ := gn H
          have c26b0 : (t609 == 0) = false := beq_eq_false_iff_ne.mpr c26
          have c26b1 : (t609 != 0) = true := bne_iff_ne.mpr c26
          obtain rfl := Option.some.inj H
          obtain ⟨Ao27, co27, eo27⟩ := Kd.R_slice HO_7.out
          subst eo27
          obtain ⟨Ao28, co28, eo28⟩ := Kd.R_slice HO_9.out
          subst eo28
          go_wp2
          go_ret
          exact ⟨re_, uW HB.out⟩
       ·
        replace c20 := Bool.eq_false_iff.mpr c20
        subst c20
        rw [if_neg (show ¬ (false = true) by decide)] at H
        obtain ⟨⟨t610, t613⟩, A29, H⟩ := bs H
        try dsimp only at H
        obtain ⟨⟨t614, t617⟩, A30, H⟩ := bs H
        try dsimp only at H
        obtain ⟨c31, H⟩ := gd H
        have c31b0 : (t613 == 0) = true := beq_iff_eq.mpr c31
        have c31b1 : (t613 != 0) = false := bne_eq_false_iff_eq.mpr c31
        clear c31
        obtain ⟨c32, H⟩ := gd H
        have c32b0 : (t617 == 0) = true := beq_iff_eq.mpr c32
        have c32b1 : (t617 != 0) = false := bne_eq_false_iff_eq.mpr c32
        clear c32
        obtain ⟨t618, A33, H⟩ := bs H
        try dsimp only at H
        obtain rfl := Option.some.inj H
        obtain ⟨Ao34, co34, eo34⟩ := Kd.R_slice HO_7.out
        subst eo34
        go_wp2_with (first | (refine gL (some 64) rfl Tryz.func17 #[.slice A0 l0.length c0, .slice Ao34 t602.length co34] ?_; (with_reducible refine (diff_Apply.calls (hL := ld) kj15 (fun k_ => k_ < w.heap.size) _ _ l0 _ _ t602 t610 t613 _ ?side1 ?side2 ?side3 A29.out).mono ?_); (case side1 => exact Kd.V_mk HC0.out (Kd.F_below (Kd.C_F k45_heap HR0.out) (uW HB.out))); (case side2 => exact uC <| (Kd.R_reads' HO_7.out).2.2); (case side3 => exact (Kd.R_reads' HO_7.out).2.1); rintro e w35 ⟨v611, rfl, ho0, hb⟩; refine ⟨_, rfl, ?_⟩; replace HO_7 := cR HO_7 hb; replace HO_9 := cR HO_9 hb; have HO612 := Aside0.mk (Kd.R_lower (Kd.R_mono (ok' := fun k_ => True) ho0 (fun _ hk_ => trivial)) (below_size (uW HB.out))); replace HB := cW HB hb; (try clear hb); (try clear ho0); obtain ⟨Ao36, co36, eo36⟩ := Kd.R_slice HO612.out; subst eo36; obtain ⟨Ao37, co37, eo37⟩ := Kd.R_slice HO_9.out; subst eo37) | (refine gL (some 70) rfl Tryz.func17 #[.slice Ao36 t610.length co36, .slice Ao37 t606.length co37] ?_; (with_reducible refine (diff_Apply.calls (hL := ld) kj15 (fun k_ => some k_ = (.slice Ao36 t610.length co36 : Value).ownBlock) _ _ t610 _ _ t606 t614 t617 _ ?side1 ?side2 ?side3 A30.out).mono ?_); (case side1 => exact Kd.R_V (Kd.R_tight rfl (Kd.R_apart' (Kd.R_apart' (HO612.out) (Kd.R_typed HO_7.out) (by decide)) (Kd.R_typed HO_9.out) (by decide)))); (case side2 => exact uC <| (Kd.R_reads' HO_9.out).2.2); (case side3 => exact (Kd.R_reads' HO_9.out).2.1); rintro e w38 ⟨v615, rfl, ho0, hb⟩; refine ⟨_, rfl, ?_⟩; replace HO_7 := cR HO_7 hb; replace HO_9 := cR HO_9 hb; have HO616 := Aside0.mk (Kd.R_lower (Kd.R_new' (Kd.R_mono (ok' := fun k_ => True) ho0 (fun _ hk_ => trivial)) (Kd.R_lt (uR HO612.out))) (below_size (uW HB.out))); replace HO612 := Aside0.mk (Kd.R_elder' (uR HO612.out) (Kd.R_base ho0) hb); replace HB := cW HB hb; (try clear hb); (try clear ho0); obtain ⟨Ao39, co39, eo39⟩ := Kd.R_slice HO616.out; subst eo39) | (go_at_call 13; (with_reducible refine (r08_Same.calls kj15 _ _ t614 _ _ l2 t618 _ ?side1 ?side2 ?side3 ?side4 A33.out).mono ?_); (case side1 => exact uC <| (Kd.R_reads' HO616.out).2.2); (case side2 => exact (Kd.R_reads' HO616.out).2.1); (case side3 => exact uC <| (Kd.C_below HR2.out HB.out)); (case side4 => exact HC2.out); rintro e w' ⟨rfl, ⟨nd, rfl⟩⟩))
        go_ret
        exact ⟨re_, uW HB.out⟩
 ·
  replace c5 := Bool.eq_false_iff.mpr c5
  subst c5
  rw [if_neg (show ¬ (false = true) by decide)] at H
  exact absurd H (by simp)
def w09_DiffOn.Pure : Prop := ∀ (l0 : List (S45)) (l1 : List (S45)) (l2 : List (S45)), (l0.length ≤ maxLen ∧ ∀ x0_ ∈ l0, Q45 x0_) → l0.length * 40 ≤ 140737488351232 → (l1.length ≤ maxLen ∧ ∀ x0_ ∈ l1, Q45 x0_) → l1.length * 40 ≤ 140737488351232 → (l2.length ≤ maxLen ∧ ∀ x0_ ∈ l2, Q45 x0_) → l2.length * 40 ≤ 140737488351232 → ∃ k, w09_DiffOn.f k l0 l1 l2 = some true
theorem w09_DiffOn.walk (P : w09_DiffOn.Pure) (l0 : List (S45)) (l1 : List (S45)) (l2 : List (S45)) (w : World) (hL : LD w) (A0 : Option Addr) (c0 : Nat) (hr0 : Kd.C k45 w A0 l0.length l0) (hc0 : l0.length ≤ c0) (A1 : Option Addr) (c1 : Nat) (hr1 : Kd.C k45 w A1 l1.length l1) (hc1 : l1.length ≤ c1) (A2 : Option Addr) (c2 : Nat) (hr2 : Kd.C k45 w A2 l2.length l2) (hc2 : l2.length ≤ c2) (q0 : l0.length ≤ maxLen ∧ ∀ x0_ ∈ l0, Q45 x0_) (y0 : l0.length * 40 ≤ 140737488351232) (q1 : l1.length ≤ maxLen ∧ ∀ x0_ ∈ l1, Q45 x0_) (y1 : l1.length * 40 ≤ 140737488351232) (q2 : l2.length ≤ maxLen ∧ ∀ x0_ ∈ l2, Q45 x0_) (y2 : l2.length * 40 ≤ 140737488351232) :
 Calls Tryz.prog 7 #[.slice A0 l0.length c0, .slice A1 l1.length c1, .slice A2 l2.length c2] w fun e w' => e = .returned (.bool true) ∧ Below w.heap.size w w' := by
 obtain ⟨k, h⟩ := P l0 l1 l2 q0 y0 q1 y1 q2 y2
 refine (w09_DiffOn.calls (hL := hL) k A0 c0 l0 A1 c1 l1 A2 c2 l2 true w hr0 hc0 hr1 hc1 hr2 hc2 h).mono ?_
 rintro e w' ⟨rfl, hd⟩
 exact ⟨rfl, hd⟩
end Go.Proofs.YtgcbejidponoaaaGreatDoor.X
