/- Printed by a program of this session's own: what functions of the program compute, and that the machine computes it. No condition of its own. -/
import Derived.Test.YtofaindjbhmopaaM3
import Derived.Test.YtofaindjbhmopaaM11
import Derived.Test.YtofaindjbhmopaaM4
import Derived.Test.YtofaindjbhmopaaM7
import Derived.Test.YtofaindjbhmopaaM5
import Derived.Test.YtofaindjbhmopaaM8
import Derived.Test.YtofaindjbhmopaaM9
import Derived.Test.YtofaindjbhmopaaM10
namespace Go.Proofs.Ytofaindjbhmopaa.X
open Go.RowKit Go.Proofs.YtofaindjbhmopaaW.PrintWords Go.Proofs.YtofaindjbhmopaaW.PrintLast Go.Proofs.YtofaindjbhmopaaW.PrintMore
attribute [local go_sem] max2_int min2_int max_two min_two max_three min_three max_four min_four
set_option linter.unusedVariables false
set_option linter.unusedSimpArgs false
set_option maxHeartbeats 8000000
set_option maxRecDepth 100000
def w11_alive.f (k : Nat)  : Option (Bool) := (shard_Apply.f k ([] : List (S59)) 1 0 (⟨#[99, 112, 117]⟩ : ByteArray) 3).bind fun bt285 => ((shard_Apply.f k bt285.1 2 0 (⟨#[99, 112, 117]⟩ : ByteArray) 4).bind fun bt290 => ((shard_Apply.f k bt290.1 2 0 (⟨#[99, 112, 117]⟩ : ByteArray) 0).bind fun bt295 => ((shard_Read.f k bt290.1 2 ([] : List (S39))).bind fun t300 => ((shard_Prune.f k bt290.1 2 ([] : List (S39))).bind fun t303 => ((shard_Prune.f k bt290.1 2 (([(⟨0, 2⟩ : S39)] : List (S39)))).bind fun t310 => (if bt285.2 = 0 then (if bt290.2 = 0 then (if bt295.2 = 9 then (if (t300.length : Int) = 1 then (if 0 < (t300.length : Int) then (if ((rd_T54 t300 0).f2.f1.f0) = 7 then ((shard_Read.f k bt290.1 2 (([(⟨0, 2⟩ : S39)] : List (S39)))).bind fun t318 => (if (t318.length : Int) = 0 then ((shard_Read.f k bt290.1 1 (([(⟨0, 2⟩ : S39)] : List (S39)))).bind fun t324 => (if (t324.length : Int) = 1 then ((shard_Size.f k bt290.1).bind fun t327 => (if t327 = 2 then ((shard_Size.f k t303).bind fun t328 => (if t328 = 1 then ((shard_Size.f k t310).bind fun t329 => (if t329 = 0 then ((shard_Right.f k bt290.1).bind fun t330 => (if t330 = true then ((shard_Same.f k bt290.1 bt290.1).bind fun t331 => (if t331 = true then ((shard_Same.f k bt285.1 bt290.1).bind fun t332 => (some (!t332))) else (none))) else (none))) else (none))) else (none))) else (none))) else (none))) else (none))) else (none)) else (none)) else (none)) else (none)) else (none)) else (none)))))))
theorem w11_alive.mono : ∀ k, LeO (w11_alive.f k ) (w11_alive.f (k + 1) ) := by
 intro k
 unfold w11_alive.f
 exact lo
instance w11_alive.mI {k} : LeC (w11_alive.f k) (w11_alive.f (k + 1)) := ⟨w11_alive.mono _⟩
theorem w11_alive.calls (k : Nat)  (r : Bool) (w : World) (h : w11_alive.f k  = some r) :
 Calls Try.prog 8 #[] w fun e w' => e = .returned (.bool r) ∧ Below w.heap.size w w' := by
 have hu24 := Try.underlying24
 have hu26 := Try.underlying26
 have hu39 := Try.underlying39
 have HB := Aside0.mk (Below.refl w.heap.size w)
 have H : ((shard_Apply.f k ([] : List (S59)) 1 0 (⟨#[99, 112, 117]⟩ : ByteArray) 3).bind fun bt285 => ((shard_Apply.f k bt285.1 2 0 (⟨#[99, 112, 117]⟩ : ByteArray) 4).bind fun bt290 => ((shard_Apply.f k bt290.1 2 0 (⟨#[99, 112, 117]⟩ : ByteArray) 0).bind fun bt295 => ((shard_Read.f k bt290.1 2 ([] : List (S39))).bind fun t300 => ((shard_Prune.f k bt290.1 2 ([] : List (S39))).bind fun t303 => ((shard_Prune.f k bt290.1 2 (([(⟨0, 2⟩ : S39)] : List (S39)))).bind fun t310 => (if bt285.2 = 0 then (if bt290.2 = 0 then (if bt295.2 = 9 then (if (t300.length : Int) = 1 then (if 0 < (t300.length : Int) then (if ((rd_T54 t300 0).f2.f1.f0) = 7 then ((shard_Read.f k bt290.1 2 (([(⟨0, 2⟩ : S39)] : List (S39)))).bind fun t318 => (if (t318.length : Int) = 0 then ((shard_Read.f k bt290.1 1 (([(⟨0, 2⟩ : S39)] : List (S39)))).bind fun t324 => (if (t324.length : Int) = 1 then ((shard_Size.f k bt290.1).bind fun t327 => (if t327 = 2 then ((shard_Size.f k t303).bind fun t328 => (if t328 = 1 then ((shard_Size.f k t310).bind fun t329 => (if t329 = 0 then ((shard_Right.f k bt290.1).bind fun t330 => (if t330 = true then ((shard_Same.f k bt290.1 bt290.1).bind fun t331 => (if t331 = true then ((shard_Same.f k bt285.1 bt290.1).bind fun t332 => (some (!t332))) else (none))) else (none))) else (none))) else (none))) else (none))) else (none))) else (none))) else (none)) else (none)) else (none)) else (none)) else (none)) else (none)))))))) = some r := h
 clear h
 obtain ⟨⟨t285, t288⟩, A1, H⟩ := bs H
 try dsimp only at H
 obtain ⟨⟨t290, t293⟩, A2, H⟩ := bs H
 try dsimp only at H
 obtain ⟨⟨t295, t298⟩, A3, H⟩ := bs H
 try dsimp only at H
 obtain ⟨t300, A4, H⟩ := bs H
 try dsimp only at H
 obtain ⟨t303, A5, H⟩ := bs H
 try dsimp only at H
 obtain ⟨y307, hy307⟩ : ∃ y_ : List (S39), y_ = (([(⟨0, 2⟩ : S39)] : List (S39))) := ⟨_, rfl⟩
 replace H : ((shard_Prune.f k t290 2 y307).bind fun t310 => (if t288 = 0 then (if t293 = 0 then (if t298 = 9 then (if (t300.length : Int) = 1 then (if 0 < (t300.length : Int) then (if ((rd_T54 t300 0).f2.f1.f0) = 7 then ((shard_Read.f k t290 2 (([(⟨0, 2⟩ : S39)] : List (S39)))).bind fun t318 => (if (t318.length : Int) = 0 then ((shard_Read.f k t290 1 (([(⟨0, 2⟩ : S39)] : List (S39)))).bind fun t324 => (if (t324.length : Int) = 1 then ((shard_Size.f k t290).bind fun t327 => (if t327 = 2 then ((shard_Size.f k t303).bind fun t328 => (if t328 = 1 then ((shard_Size.f k t310).bind fun t329 => (if t329 = 0 then ((shard_Right.f k t290).bind fun t330 => (if t330 = true then ((shard_Same.f k t290 t290).bind fun t331 => (if t331 = true then ((shard_Same.f k t285 t290).bind fun t332 => (some (!t332))) else (none))) else (none))) else (none))) else (none))) else (none))) else (none))) else (none))) else (none)) else (none)) else (none)) else (none)) else (none)) else (none))) = some r := by first | (rw [hy307]; with_reducible exact H) | (have H2_ := (Option.bind_some _ _).symm.trans H; rw [hy307]; with_reducible exact H2_) | (have H2_ := (Option.bind_some _ _).symm.trans H; with_reducible exact H2_) | with_reducible exact H | (rw [hy307]; exact H) | exact H
 have Ny307 := Aside0.mk hy307
 clear hy307
 obtain ⟨t310, A6, H⟩ := bs H
 try dsimp only at H
 by_cases c7 : t288 = 0
 ·
  rw [if_pos c7] at H
  have c7b0 : (t288 == 0) = true := beq_iff_eq.mpr c7
  have c7b1 : (t288 != 0) = false := bne_eq_false_iff_eq.mpr c7
  clear c7
  obtain ⟨c8, H⟩ := gd H
  have c8b0 : (t293 == 0) = true := beq_iff_eq.mpr c8
  have c8b1 : (t293 != 0) = false := bne_eq_false_iff_eq.mpr c8
  clear c8
  obtain ⟨c9, H⟩ := gd H
  have c9b0 : (t298 == 9) = true := beq_iff_eq.mpr c9
  have c9b1 : (t298 != 9) = false := bne_eq_false_iff_eq.mpr c9
  clear c9
  obtain ⟨c10, H⟩ := gd H
  have c10b0 : ((t300.length : Int) == 1) = true := beq_iff_eq.mpr c10
  have c10b1 : ((t300.length : Int) != 1) = false := bne_eq_false_iff_eq.mpr c10
  clear c10
  obtain ⟨c11, H⟩ := gd H
  have c11b0 : decide (0 < (t300.length : Int)) = true := decide_eq_true c11
  have c11b1 : decide (0 < t300.length) = true := decide_eq_true (by omega)
  clear c11
  obtain ⟨c12, H⟩ := gd H
  have c12b0 : (((rd_T54 t300 0).f2.f1.f0) == 7) = true := beq_iff_eq.mpr c12
  have c12b1 : (((rd_T54 t300 0).f2.f1.f0) != 7) = false := bne_eq_false_iff_eq.mpr c12
  clear c12
  obtain ⟨y315, hy315⟩ : ∃ y_ : List (S39), y_ = (([(⟨0, 2⟩ : S39)] : List (S39))) := ⟨_, rfl⟩
  replace H : ((shard_Read.f k t290 2 y315).bind fun t318 => (if (t318.length : Int) = 0 then ((shard_Read.f k t290 1 (([(⟨0, 2⟩ : S39)] : List (S39)))).bind fun t324 => (if (t324.length : Int) = 1 then ((shard_Size.f k t290).bind fun t327 => (if t327 = 2 then ((shard_Size.f k t303).bind fun t328 => (if t328 = 1 then ((shard_Size.f k t310).bind fun t329 => (if t329 = 0 then ((shard_Right.f k t290).bind fun t330 => (if t330 = true then ((shard_Same.f k t290 t290).bind fun t331 => (if t331 = true then ((shard_Same.f k t285 t290).bind fun t332 => (some (!t332))) else (none))) else (none))) else (none))) else (none))) else (none))) else (none))) else (none))) = some r := by first | (rw [hy315]; with_reducible exact H) | (have H2_ := (Option.bind_some _ _).symm.trans H; rw [hy315]; with_reducible exact H2_) | (have H2_ := (Option.bind_some _ _).symm.trans H; with_reducible exact H2_) | with_reducible exact H | (rw [hy315]; exact H) | exact H
  have Ny315 := Aside0.mk hy315
  clear hy315
  obtain ⟨t318, A13, H⟩ := bs H
  try dsimp only at H
  obtain ⟨c14, H⟩ := gd H
  have c14b0 : ((t318.length : Int) == 0) = true := beq_iff_eq.mpr c14
  have c14b1 : ((t318.length : Int) != 0) = false := bne_eq_false_iff_eq.mpr c14
  clear c14
  obtain ⟨y321, hy321⟩ : ∃ y_ : List (S39), y_ = (([(⟨0, 2⟩ : S39)] : List (S39))) := ⟨_, rfl⟩
  replace H : ((shard_Read.f k t290 1 y321).bind fun t324 => (if (t324.length : Int) = 1 then ((shard_Size.f k t290).bind fun t327 => (if t327 = 2 then ((shard_Size.f k t303).bind fun t328 => (if t328 = 1 then ((shard_Size.f k t310).bind fun t329 => (if t329 = 0 then ((shard_Right.f k t290).bind fun t330 => (if t330 = true then ((shard_Same.f k t290 t290).bind fun t331 => (if t331 = true then ((shard_Same.f k t285 t290).bind fun t332 => (some (!t332))) else (none))) else (none))) else (none))) else (none))) else (none))) else (none))) = some r := by first | (rw [hy321]; with_reducible exact H) | (have H2_ := (Option.bind_some _ _).symm.trans H; rw [hy321]; with_reducible exact H2_) | (have H2_ := (Option.bind_some _ _).symm.trans H; with_reducible exact H2_) | with_reducible exact H | (rw [hy321]; exact H) | exact H
  have Ny321 := Aside0.mk hy321
  clear hy321
  obtain ⟨t324, A15, H⟩ := bs H
  try dsimp only at H
  obtain ⟨c16, H⟩ := gd H
  have c16b0 : ((t324.length : Int) == 1) = true := beq_iff_eq.mpr c16
  have c16b1 : ((t324.length : Int) != 1) = false := bne_eq_false_iff_eq.mpr c16
  clear c16
  obtain ⟨t327, A17, H⟩ := bs H
  try dsimp only at H
  obtain ⟨c18, H⟩ := gd H
  have c18b0 : (t327 == 2) = true := beq_iff_eq.mpr c18
  have c18b1 : (t327 != 2) = false := bne_eq_false_iff_eq.mpr c18
  clear c18
  obtain ⟨t328, A19, H⟩ := bs H
  try dsimp only at H
  obtain ⟨c20, H⟩ := gd H
  have c20b0 : (t328 == 1) = true := beq_iff_eq.mpr c20
  have c20b1 : (t328 != 1) = false := bne_eq_false_iff_eq.mpr c20
  clear c20
  obtain ⟨t329, A21, H⟩ := bs H
  try dsimp only at H
  obtain ⟨c22, H⟩ := gd H
  have c22b0 : (t329 == 0) = true := beq_iff_eq.mpr c22
  have c22b1 : (t329 != 0) = false := bne_eq_false_iff_eq.mpr c22
  clear c22
  obtain ⟨t330, A23, H⟩ := bs H
  try dsimp only at H
  by_cases c24 : t330 = true
  ·
   subst c24
   rw [if_pos rfl] at H
   obtain ⟨t331, A25, H⟩ := bs H
   try dsimp only at H
   by_cases c26 : t331 = true
   ·
    subst c26
    rw [if_pos rfl] at H
    obtain ⟨t332, A27, H⟩ := bs H
    try dsimp only at H
    obtain rfl := Option.some.inj H
    go_enter Try.func8, Try.ntmps8
    go_wp2_with (first | (refine gL (some 13) rfl Try.func11 #[.agg #[.slice none 0 0], .agg #[.int .i64 1, .int .i64 0, .string (⟨#[99, 112, 117]⟩ : ByteArray), .int .i64 3]] ?_; (refine (shard_Apply.calls k (fun k_ => False) _ _ ([] : List (S59)) 1 0 (⟨#[99, 112, 117]⟩ : ByteArray) 3 t285 t288 _ ?side1 A1.out).mono ?_); (case side1 => exact Kd.V_nil _ _ _ _ _); rintro e w28 ⟨v286, rfl, ho0, hb⟩; refine ⟨_, rfl, ?_⟩; have HO287 := Aside0.mk (Kd.N_lower (Kd.N_mono (ok' := fun k_ => True) ho0 (fun k_ hk_ => trivial)) (below_size (uW HB.out))); replace HB := cW HB hb; (try clear hb); (try clear ho0)) | ((with_reducible refine gate_dst (N := 1) rfl ?_); (try (refine gate_guard (by rfl) ?_; dsimp only)); refine bx (N := 1) #[.slice none 0 0] 24 ?_; intro gb289 hg w29 hbox hb; replace HO287 := Aside0.mk (Kd.N_below (Kd.N_elderB (by (with_reducible repeat (first | apply Kd.N_alloc | apply Kd.N_drewN | apply Kd.N_drew)); exact HO287.out) gb289 (Nat.le_of_eq hg.symm)) hb); have BK289 := Aside0.mk (hbox); have GW289 := gw hg (uW HB.out); have GE289 := GW289; replace HB := cW HB hb; clear hb hbox hg; obtain ⟨Ao30, co30, eo30⟩ := Kd.N_slice HO287.out; subst eo30; obtain ⟨hcz31_0, hfz31_0⟩ := z1 BK289) | ((with_reducible refine gate_store (t := 24) (p := 1) rfl ?_); refine store_event (t := 24) (p := 1) (v := ?vo_w32) (w1 := (w29.setCell ⟨gb289, 0, none⟩ (.slice Ao30 t285.length co30))) ?hg ?ho ?hn ?hr ?_; (case ho => rfl); (case hg => rfl); (case hn => rfl); (case hr => first | (go_simp; done) | (go_simp; rfl)); intro w32 hw; have n0_ : Aside0 (Kd.N k59 59 w32 w.heap.size (fun k_ => k_ ≠ gb289) (.slice Ao30 t285.length co30) t285) := ⟨(by rw [hw]; exact (by (with_reducible repeat (first | apply Kd.N_alloc | apply Kd.N_drewN | apply Kd.N_drew)); exact Kd.N_mono (Kd.N_far (p := ⟨gb289, 0, none⟩) (Kd.N_mono HO287.out (fun k_ hk => (⟨hk, hk.2⟩ : _ ∧ k_ ≠ gb289))) (fun _ hk => hk.2) (.slice Ao30 t285.length co30)) (fun _ hk => hk.1.2)))⟩; have n1_ : Aside0 (w32.heap[gb289]? = some (.cells #[.slice Ao30 t285.length co30] 24 (0, 0))) := ⟨(by rw [hw]; exact (by (with_reducible repeat (first | refine blk_drewN ?_ _ | refine blk_drew ?_ | refine blk_alloc ?_ _)); refine blk_put (cs := #[.slice none 0 0]) ?_ 0 _ rfl; exact uB <| BK289.out))⟩; have n2_ : Aside0 (Below w.heap.size w w32) := ⟨(by rw [hw]; exact bl)⟩; clear hw; clear HO287; clear BK289; clear HB; have HO287 := n0_; have BK289 := n1_; have HB := n2_; clear n0_ n1_ n2_; obtain ⟨hcz33_0, hfz33_0⟩ := z1 BK289) | (refine gL (some 19) rfl Try.func11 #[.agg #[.slice Ao30 t285.length co30], .agg #[.int .i64 2, .int .i64 0, .string (⟨#[99, 112, 117]⟩ : ByteArray), .int .i64 4]] ?_; (with_reducible refine (shard_Apply.calls k (fun k_ => k_ ≠ gb289) _ _ t285 2 0 (⟨#[99, 112, 117]⟩ : ByteArray) 4 t290 t293 _ ?side1 A2.out).mono ?_); (case side1 => exact Kd.N_V (HO287.out)); rintro e w34 ⟨v291, rfl, ho0, hb⟩; refine ⟨_, rfl, ?_⟩; replace HO287 := Aside0.mk (Kd.N_elder' (by (with_reducible repeat (first | apply Kd.N_alloc | apply Kd.N_drewN | apply Kd.N_drew)); exact HO287.out) (Kd.N_base ho0) hb); have HO292 := Aside0.mk (Kd.N_lower (Kd.N_mono (ok' := fun k_ => k_ ≠ gb289) ho0 (fun k_ hk_ => Or.elim hk_ (fun hs_ => hs_) (fun hn_ => (Kd.freshB (g := gb289) (o := .cells #[.slice Ao30 t285.length co30] 24 (0, 0)) (uB BK289.out) k_ hn_)))) (below_size bl)); replace BK289 := cB BK289 hb; replace HB := Aside0.mk (below_step bl hb); (try clear hb); (try clear ho0)) | ((with_reducible refine gate_dst (N := 3) rfl ?_); (try (refine gate_guard (by rfl) ?_; dsimp only)); refine bx (N := 3) #[.slice none 0 0] 24 ?_; intro gb294 hg w35 hbox hb; replace HO287 := Aside0.mk (Kd.N_below (Kd.N_elderB (by (with_reducible repeat (first | apply Kd.N_alloc | apply Kd.N_drewN | apply Kd.N_drew)); exact HO287.out) gb294 (Nat.le_of_eq hg.symm)) hb); replace HO292 := Aside0.mk (Kd.N_below (Kd.N_elderB (by (with_reducible repeat (first | apply Kd.N_alloc | apply Kd.N_drewN | apply Kd.N_drew)); exact HO292.out) gb294 (Nat.le_of_eq hg.symm)) hb); have BK294 := Aside0.mk (hbox); have GW294 := gw hg bl; have GE294 := GW294; replace HB := Aside0.mk (below_step bl hb); have NB289_294 := Aside0.mk ((by rw [hg]; exact Nat.ne_of_lt (blk_lt (g := gb289) (o := .cells #[.slice Ao30 t285.length co30] 24 (0, 0)) (uB BK289.out)) : gb289 ≠ gb294)); have NB294_289 := Aside0.mk ((by rw [hg]; exact Nat.ne_of_gt (blk_lt (g := gb289) (o := .cells #[.slice Ao30 t285.length co30] 24 (0, 0)) (uB BK289.out)) : gb294 ≠ gb289)); replace BK289 := cB BK289 hb; clear hb hbox hg; obtain ⟨Ao36, co36, eo36⟩ := Kd.N_slice HO292.out; subst eo36; have hnb37 := NB294_289.out; have hnc37 := NB289_294.out; obtain ⟨hcz38_0, hfz38_0⟩ := z1 BK294) | ((with_reducible refine gate_store (t := 24) (p := 3) rfl ?_); refine store_event (t := 24) (p := 3) (v := ?vo_w39) (w1 := (w35.setCell ⟨gb294, 0, none⟩ (.slice Ao36 t290.length co36))) ?hg ?ho ?hn ?hr ?_; (case ho => rfl); (case hg => rfl); (case hn => rfl); (case hr => first | (go_simp; done) | (go_simp; rfl)); intro w39 hw; have n0_ : Aside0 (Kd.N k59 59 w39 w.heap.size (fun k_ => some k_ ≠ (.slice Ao36 t290.length co36 : Value).ownBlock ∧ k_ ≠ gb289 ∧ k_ ≠ gb294) (.slice Ao30 t285.length co30) t285) := ⟨(by rw [hw]; exact (by (with_reducible repeat (first | apply Kd.N_alloc | apply Kd.N_drewN | apply Kd.N_drew)); exact Kd.N_mono (Kd.N_far (p := ⟨gb294, 0, none⟩) (Kd.N_mono HO287.out (fun k_ hk => (⟨hk, hk.2⟩ : _ ∧ k_ ≠ gb294))) (fun _ hk => hk.2) (.slice Ao36 t290.length co36)) (fun _ hk => ⟨hk.1.1.2, ⟨hk.1.1.1, hk.1.2⟩⟩)))⟩; have n1_ : Aside0 (Kd.N k59 59 w39 w.heap.size (fun k_ => k_ ≠ gb289 ∧ k_ ≠ gb294) (.slice Ao36 t290.length co36) t290) := ⟨(by rw [hw]; exact (by (with_reducible repeat (first | apply Kd.N_alloc | apply Kd.N_drewN | apply Kd.N_drew)); exact Kd.N_mono (Kd.N_far (p := ⟨gb294, 0, none⟩) (Kd.N_mono HO292.out (fun k_ hk => (⟨hk, hk.2⟩ : _ ∧ k_ ≠ gb294))) (fun _ hk => hk.2) (.slice Ao36 t290.length co36)) (fun _ hk => ⟨hk.1.1, hk.1.2⟩)))⟩; have n2_ : Aside0 (w39.heap[gb289]? = some (.cells #[.slice Ao30 t285.length co30] 24 (0, 0))) := ⟨(by rw [hw]; exact (by (with_reducible repeat (first | refine blk_drewN ?_ _ | refine blk_drew ?_ | refine blk_alloc ?_ _)); refine blk_far ?_ NB289_294.out _; exact uB <| BK289.out))⟩; have n3_ : Aside0 (w39.heap[gb294]? = some (.cells #[.slice Ao36 t290.length co36] 24 (0, 0))) := ⟨(by rw [hw]; exact (by (with_reducible repeat (first | refine blk_drewN ?_ _ | refine blk_drew ?_ | refine blk_alloc ?_ _)); refine blk_put (cs := #[.slice none 0 0]) ?_ 0 _ rfl; exact uB <| BK294.out))⟩; have n4_ : Aside0 (Below w.heap.size w w39) := ⟨(by rw [hw]; exact bl)⟩; clear hw; clear HO287; clear HO292; clear BK289; clear BK294; clear HB; have HO287 := n0_; have HO292 := n1_; have BK289 := n2_; have BK294 := n3_; have HB := n4_; clear n0_ n1_ n2_ n3_ n4_; obtain ⟨hcz40_0, hfz40_0⟩ := z1 BK294) | (refine gL (some 25) rfl Try.func11 #[.agg #[.slice Ao36 t290.length co36], .agg #[.int .i64 2, .int .i64 0, .string (⟨#[99, 112, 117]⟩ : ByteArray), .int .i64 0]] ?_; (with_reducible refine (shard_Apply.calls k (fun k_ => (k_ ≠ gb289 ∧ k_ ≠ gb294)) _ _ t290 2 0 (⟨#[99, 112, 117]⟩ : ByteArray) 0 t295 t298 _ ?side1 A3.out).mono ?_); (case side1 => exact Kd.N_V (HO292.out)); rintro e w41 ⟨v296, rfl, ho0, hb⟩; refine ⟨_, rfl, ?_⟩; replace HO287 := Aside0.mk (Kd.N_elder' (by (with_reducible repeat (first | apply Kd.N_alloc | apply Kd.N_drewN | apply Kd.N_drew)); exact HO287.out) (Kd.N_base ho0) hb); replace HO292 := Aside0.mk (Kd.N_elder' (by (with_reducible repeat (first | apply Kd.N_alloc | apply Kd.N_drewN | apply Kd.N_drew)); exact HO292.out) (Kd.N_base ho0) hb); have HO297 := Aside0.mk (Kd.N_lower (Kd.N_mono (ok' := fun k_ => k_ ≠ gb289 ∧ k_ ≠ gb294) ho0 (fun k_ hk_ => ⟨Or.elim hk_ (fun hs_ => hs_.1) (fun hn_ => (Kd.freshB (g := gb289) (o := .cells #[.slice Ao30 t285.length co30] 24 (0, 0)) (uB BK289.out) k_ hn_)), Or.elim hk_ (fun hs_ => hs_.2) (fun hn_ => (Kd.freshB (g := gb294) (o := .cells #[.slice Ao36 t290.length co36] 24 (0, 0)) (uB BK294.out) k_ hn_))⟩)) (below_size bl)); replace BK289 := cB BK289 hb; replace BK294 := cB BK294 hb; replace HB := Aside0.mk (below_step bl hb); (try clear hb); (try clear ho0)) | ((with_reducible refine gate_dst (N := 5) rfl ?_); (try (refine gate_guard (by rfl) ?_; dsimp only)); refine bx (N := 5) #[.slice none 0 0] 24 ?_; intro gb299 hg w42 hbox hb; replace HO287 := Aside0.mk (Kd.N_below (Kd.N_elderB (by (with_reducible repeat (first | apply Kd.N_alloc | apply Kd.N_drewN | apply Kd.N_drew)); exact HO287.out) gb299 (Nat.le_of_eq hg.symm)) hb); replace HO292 := Aside0.mk (Kd.N_below (Kd.N_elderB (by (with_reducible repeat (first | apply Kd.N_alloc | apply Kd.N_drewN | apply Kd.N_drew)); exact HO292.out) gb299 (Nat.le_of_eq hg.symm)) hb); replace HO297 := Aside0.mk (Kd.N_below (Kd.N_elderB (by (with_reducible repeat (first | apply Kd.N_alloc | apply Kd.N_drewN | apply Kd.N_drew)); exact HO297.out) gb299 (Nat.le_of_eq hg.symm)) hb); have BK299 := Aside0.mk (hbox); have GW299 := gw hg bl; have GE299 := GW299; replace HB := Aside0.mk (below_step bl hb); have NB289_299 := Aside0.mk ((by rw [hg]; exact Nat.ne_of_lt (blk_lt (g := gb289) (o := .cells #[.slice Ao30 t285.length co30] 24 (0, 0)) (uB BK289.out)) : gb289 ≠ gb299)); have NB299_289 := Aside0.mk ((by rw [hg]; exact Nat.ne_of_gt (blk_lt (g := gb289) (o := .cells #[.slice Ao30 t285.length co30] 24 (0, 0)) (uB BK289.out)) : gb299 ≠ gb289)); replace BK289 := cB BK289 hb; have NB294_299 := Aside0.mk ((by rw [hg]; exact Nat.ne_of_lt (blk_lt (g := gb294) (o := .cells #[.slice Ao36 t290.length co36] 24 (0, 0)) (uB BK294.out)) : gb294 ≠ gb299)); have NB299_294 := Aside0.mk ((by rw [hg]; exact Nat.ne_of_gt (blk_lt (g := gb294) (o := .cells #[.slice Ao36 t290.length co36] 24 (0, 0)) (uB BK294.out)) : gb299 ≠ gb294)); replace BK294 := cB BK294 hb; clear hb hbox hg; obtain ⟨Ao43, co43, eo43⟩ := Kd.N_slice HO297.out; subst eo43; have hnb44 := NB299_289.out; have hnc44 := NB289_299.out; have hnb45 := NB299_294.out; have hnc45 := NB294_299.out; obtain ⟨hcz46_0, hfz46_0⟩ := z1 BK299; obtain ⟨hcz47_0, hfz47_0⟩ := z1 BK294) | (refine gL (some 29) rfl Try.func16 #[.agg #[.slice Ao36 t290.length co36], .int .i64 2, .slice none 0 0] ?_; (refine (shard_Read.calls k _ _ t290 2 _ _ ([] : List (S39)) t300 _ ?side1 ?side2 ?side3 ?side4 A4.out).mono ?_); (case side1 => refine (Kd.N_reads' (e := 59) (base := w.heap.size) (ok := fun k_ => (((k_ ≠ gb289 ∧ k_ ≠ gb294) ∧ some k_ ≠ (.slice Ao43 t295.length co43 : Value).ownBlock) ∧ k_ ≠ gb299)) (n := t290.length) (c := co36) ?_).2.2; exact (by (with_reducible repeat (first | apply Kd.N_alloc | apply Kd.N_drewN | apply Kd.N_drew)); exact (Kd.N_mono (Kd.N_far (p := ⟨gb299, 0, none⟩) (Kd.N_mono HO292.out (fun k_ hk => (⟨hk, hk.2⟩ : _ ∧ k_ ≠ gb299))) (fun _ hk => hk.2) (.slice Ao43 t295.length co43)) (fun _ h_ => h_.1)))); (case side2 => exact (Kd.N_reads' HO292.out).2.1); (case side3 => exact Kd.C_nil _ _); (case side4 => exact Nat.le_refl _); rintro e w48 ⟨v301, rfl, ho0, hb⟩; refine ⟨_, rfl, ?_⟩; replace HO287 := Aside0.mk (Kd.N_elder' (by (with_reducible repeat (first | apply Kd.N_alloc | apply Kd.N_drewN | apply Kd.N_drew)); exact (Kd.N_mono (Kd.N_far (p := ⟨gb299, 0, none⟩) (Kd.N_mono HO287.out (fun k_ hk => (⟨hk, hk.2⟩ : _ ∧ k_ ≠ gb299))) (fun _ hk => hk.2) (.slice Ao43 t295.length co43)) (fun _ h_ => h_.1))) (Kd.R_base ho0) hb); replace HO292 := Aside0.mk (Kd.N_elder' (by (with_reducible repeat (first | apply Kd.N_alloc | apply Kd.N_drewN | apply Kd.N_drew)); exact (Kd.N_mono (Kd.N_far (p := ⟨gb299, 0, none⟩) (Kd.N_mono HO292.out (fun k_ hk => (⟨hk, hk.2⟩ : _ ∧ k_ ≠ gb299))) (fun _ hk => hk.2) (.slice Ao43 t295.length co43)) (fun _ h_ => h_.1))) (Kd.R_base ho0) hb); replace HO297 := Aside0.mk (Kd.N_elder' (by (with_reducible repeat (first | apply Kd.N_alloc | apply Kd.N_drewN | apply Kd.N_drew)); exact (Kd.N_mono (Kd.N_far (p := ⟨gb299, 0, none⟩) (Kd.N_mono HO297.out (fun k_ hk => (⟨hk, hk.2⟩ : _ ∧ k_ ≠ gb299))) (fun _ hk => hk.2) (.slice Ao43 t295.length co43)) (fun _ h_ => h_.1))) (Kd.R_base ho0) hb); have HO302 := Aside0.mk (Kd.R_lower ho0 (below_size bl)); replace BK289 := Aside0.mk (blk_below (g := gb289) (o := .cells #[.slice Ao30 t285.length co30] 24 (0, 0)) (by (with_reducible repeat (first | refine blk_drewN ?_ _ | refine blk_drew ?_ | refine blk_alloc ?_ _)); refine blk_far ?_ NB289_299.out _; exact uB <| BK289.out) hb); replace BK294 := Aside0.mk (blk_below (g := gb294) (o := .cells #[.slice Ao36 t290.length co36] 24 (0, 0)) (by (with_reducible repeat (first | refine blk_drewN ?_ _ | refine blk_drew ?_ | refine blk_alloc ?_ _)); refine blk_far ?_ NB294_299.out _; exact uB <| BK294.out) hb); replace BK299 := Aside0.mk (blk_below (g := gb299) (o := .cells #[.slice Ao43 t295.length co43] 24 (0, 0)) (by (with_reducible repeat (first | refine blk_drewN ?_ _ | refine blk_drew ?_ | refine blk_alloc ?_ _)); refine blk_put (cs := #[.slice none 0 0]) ?_ 0 _ rfl; exact uB <| BK299.out) hb); replace HB := Aside0.mk (below_step bl hb); (try clear hb); (try clear ho0); obtain ⟨hcz49_0, hfz49_0⟩ := z1 BK294) | (refine gL (some 31) rfl Try.func21 #[.agg #[.slice Ao36 t290.length co36], .int .i64 2, .slice none 0 0] ?_; (refine (shard_Prune.calls k _ _ t290 2 _ _ ([] : List (S39)) t303 _ ?side1 ?side2 ?side3 ?side4 A5.out).mono ?_); (case side1 => exact uC <| (Kd.N_reads' HO292.out).2.2); (case side2 => exact (Kd.N_reads' HO292.out).2.1); (case side3 => exact Kd.C_nil _ _); (case side4 => exact Nat.le_refl _); rintro e w50 ⟨v304, rfl, ho0, hb⟩; refine ⟨_, rfl, ?_⟩; have HO305 := Aside0.mk (Kd.N_lower (Kd.N_mono (ok' := fun k_ => some k_ ≠ (.slice Ao30 t285.length co30 : Value).ownBlock ∧ some k_ ≠ (.slice Ao36 t290.length co36 : Value).ownBlock ∧ some k_ ≠ (.slice Ao43 t295.length co43 : Value).ownBlock ∧ some k_ ≠ (v301 : Value).ownBlock ∧ k_ ≠ gb289 ∧ k_ ≠ gb294 ∧ k_ ≠ gb299) (Kd.S_N (Kd.S_bound ho0)) (fun k_ hk_ => ⟨(Kd.fresh' (Kd.N_lt (by (with_reducible repeat (first | apply Kd.N_alloc | apply Kd.N_drewN | apply Kd.N_drew)); exact HO287.out)) k_ hk_.2.1), (Kd.fresh' (Kd.N_lt (by (with_reducible repeat (first | apply Kd.N_alloc | apply Kd.N_drewN | apply Kd.N_drew)); exact HO292.out)) k_ hk_.2.1), (Kd.fresh' (Kd.N_lt (by (with_reducible repeat (first | apply Kd.N_alloc | apply Kd.N_drewN | apply Kd.N_drew)); exact HO297.out)) k_ hk_.2.1), (Kd.fresh' (Kd.R_lt (uR HO302.out)) k_ hk_.2.1), (Kd.freshB (g := gb289) (o := .cells #[.slice Ao30 t285.length co30] 24 (0, 0)) (uB BK289.out) k_ hk_.2.1), (Kd.freshB (g := gb294) (o := .cells #[.slice Ao36 t290.length co36] 24 (0, 0)) (uB BK294.out) k_ hk_.2.1), (Kd.freshB (g := gb299) (o := .cells #[.slice Ao43 t295.length co43] 24 (0, 0)) (uB BK299.out) k_ hk_.2.1)⟩)) (below_size bl)); replace HO287 := Aside0.mk (Kd.N_elder' (by (with_reducible repeat (first | apply Kd.N_alloc | apply Kd.N_drewN | apply Kd.N_drew)); exact HO287.out) (Kd.S_base ho0) hb); replace HO292 := Aside0.mk (Kd.N_elder' (by (with_reducible repeat (first | apply Kd.N_alloc | apply Kd.N_drewN | apply Kd.N_drew)); exact HO292.out) (Kd.S_base ho0) hb); replace HO297 := Aside0.mk (Kd.N_elder' (by (with_reducible repeat (first | apply Kd.N_alloc | apply Kd.N_drewN | apply Kd.N_drew)); exact HO297.out) (Kd.S_base ho0) hb); replace HO302 := cR HO302 hb; replace BK289 := cB BK289 hb; replace BK294 := cB BK294 hb; replace BK299 := cB BK299 hb; replace HB := Aside0.mk (below_step bl hb); (try clear hb); (try clear ho0)) | ((with_reducible refine gate_dst (N := 8) rfl ?_); (try (refine gate_guard (by rfl) ?_; dsimp only)); refine bx (N := 8) #[.slice none 0 0] 24 ?_; intro gb306 hg w51 hbox hb; replace HO287 := Aside0.mk (Kd.N_below (Kd.N_elderB (by (with_reducible repeat (first | apply Kd.N_alloc | apply Kd.N_drewN | apply Kd.N_drew)); exact HO287.out) gb306 (Nat.le_of_eq hg.symm)) hb); replace HO292 := Aside0.mk (Kd.N_below (Kd.N_elderB (by (with_reducible repeat (first | apply Kd.N_alloc | apply Kd.N_drewN | apply Kd.N_drew)); exact HO292.out) gb306 (Nat.le_of_eq hg.symm)) hb); replace HO297 := Aside0.mk (Kd.N_below (Kd.N_elderB (by (with_reducible repeat (first | apply Kd.N_alloc | apply Kd.N_drewN | apply Kd.N_drew)); exact HO297.out) gb306 (Nat.le_of_eq hg.symm)) hb); replace HO302 := cR HO302 hb; replace HO305 := Aside0.mk (Kd.N_below (Kd.N_elderB (by (with_reducible repeat (first | apply Kd.N_alloc | apply Kd.N_drewN | apply Kd.N_drew)); exact HO305.out) gb306 (Nat.le_of_eq hg.symm)) hb); have BK306 := Aside0.mk (hbox); have GW306 := gw hg bl; have GE306 := GW306; replace HB := Aside0.mk (below_step bl hb); have NB289_306 := Aside0.mk ((by rw [hg]; exact Nat.ne_of_lt (blk_lt (g := gb289) (o := .cells #[.slice Ao30 t285.length co30] 24 (0, 0)) (uB BK289.out)) : gb289 ≠ gb306)); have NB306_289 := Aside0.mk ((by rw [hg]; exact Nat.ne_of_gt (blk_lt (g := gb289) (o := .cells #[.slice Ao30 t285.length co30] 24 (0, 0)) (uB BK289.out)) : gb306 ≠ gb289)); replace BK289 := cB BK289 hb; have NB294_306 := Aside0.mk ((by rw [hg]; exact Nat.ne_of_lt (blk_lt (g := gb294) (o := .cells #[.slice Ao36 t290.length co36] 24 (0, 0)) (uB BK294.out)) : gb294 ≠ gb306)); have NB306_294 := Aside0.mk ((by rw [hg]; exact Nat.ne_of_gt (blk_lt (g := gb294) (o := .cells #[.slice Ao36 t290.length co36] 24 (0, 0)) (uB BK294.out)) : gb306 ≠ gb294)); replace BK294 := cB BK294 hb; have NB299_306 := Aside0.mk ((by rw [hg]; exact Nat.ne_of_lt (blk_lt (g := gb299) (o := .cells #[.slice Ao43 t295.length co43] 24 (0, 0)) (uB BK299.out)) : gb299 ≠ gb306)); have NB306_299 := Aside0.mk ((by rw [hg]; exact Nat.ne_of_gt (blk_lt (g := gb299) (o := .cells #[.slice Ao43 t295.length co43] 24 (0, 0)) (uB BK299.out)) : gb306 ≠ gb299)); replace BK299 := cB BK299 hb; clear hb hbox hg; obtain ⟨Ao52, co52, eo52⟩ := Kd.N_slice HO305.out; subst eo52; have hnb53 := NB306_289.out; have hnc53 := NB289_306.out; have hnb54 := NB306_294.out; have hnc54 := NB294_306.out; have hnb55 := NB306_299.out; have hnc55 := NB299_306.out; obtain ⟨hcz56_0, hfz56_0⟩ := z1 BK306; obtain ⟨hcz57_0, hfz57_0⟩ := z1 BK294) | ((with_reducible refine gate_dst (N := 34) rfl ?_); (try (refine gate_guard (by rfl) ?_; dsimp only)); refine Kd.R_lit k39 _ 39 ?hg (N := 34) ?hd (xs := ([(⟨0, 2⟩ : S39)] : List (S39))) (inner := [.int .i64 0, .int .i64 2]) (ok := fun _ => True) (okp := fun _ => True) ?hr ?hp (fun _ hk => hk) trivial (Below.refl _ _) (Nat.le_refl _) (by simp) ?_; (case hd => rfl); (case hg => rfl); (case hr => first | (go_simp; done) | (go_simp; rfl)); (case hp => exact (Reps.c2 (show Kd.M k39 _ _ _ (⟨0, 2⟩ : S39) [.int .i64 0, .int .i64 2] from (k39_mkM _ _ _ (⟨0, 2⟩ : S39) )) (Reps.none _ _))); intro v308 w58 ho59 hb hg_ hnew_; clear hg_ hnew_; (first | rw [← Ny307.out] at ho59 | (simp only [Int.reduceToNat] at ho59; rw [← Ny307.out] at ho59)); replace HO287 := Aside0.mk (Kd.N_elder' (by (with_reducible repeat (first | apply Kd.N_alloc | apply Kd.N_drewN | apply Kd.N_drew)); exact (Kd.N_mono (Kd.N_far (p := ⟨gb306, 0, none⟩) (Kd.N_mono HO287.out (fun k_ hk => (⟨hk, hk.2⟩ : _ ∧ k_ ≠ gb306))) (fun _ hk => hk.2) (.slice Ao52 t303.length co52)) (fun _ h_ => h_.1))) (Kd.R_base ho59) hb); replace HO292 := Aside0.mk (Kd.N_elder' (by (with_reducible repeat (first | apply Kd.N_alloc | apply Kd.N_drewN | apply Kd.N_drew)); exact (Kd.N_mono (Kd.N_far (p := ⟨gb306, 0, none⟩) (Kd.N_mono HO292.out (fun k_ hk => (⟨hk, hk.2⟩ : _ ∧ k_ ≠ gb306))) (fun _ hk => hk.2) (.slice Ao52 t303.length co52)) (fun _ h_ => h_.1))) (Kd.R_base ho59) hb); replace HO297 := Aside0.mk (Kd.N_elder' (by (with_reducible repeat (first | apply Kd.N_alloc | apply Kd.N_drewN | apply Kd.N_drew)); exact (Kd.N_mono (Kd.N_far (p := ⟨gb306, 0, none⟩) (Kd.N_mono HO297.out (fun k_ hk => (⟨hk, hk.2⟩ : _ ∧ k_ ≠ gb306))) (fun _ hk => hk.2) (.slice Ao52 t303.length co52)) (fun _ h_ => h_.1))) (Kd.R_base ho59) hb); replace HO302 := Aside0.mk (Kd.R_below (by exact uR <| (Kd.R_mono (Kd.R_far (p := ⟨gb306, 0, none⟩) (Kd.R_types HO302.out BK306.out (by decide)) (fun _ hk => hk.2) (.slice Ao52 t303.length co52)) (fun _ h_ => h_.1))) hb); replace HO305 := Aside0.mk (Kd.N_elder' (by (with_reducible repeat (first | apply Kd.N_alloc | apply Kd.N_drewN | apply Kd.N_drew)); exact (Kd.N_mono (Kd.N_far (p := ⟨gb306, 0, none⟩) (Kd.N_mono HO305.out (fun k_ hk => (⟨hk, hk.2⟩ : _ ∧ k_ ≠ gb306))) (fun _ hk => hk.2) (.slice Ao52 t303.length co52)) (fun _ h_ => h_.1))) (Kd.R_base ho59) hb); have HO309 := Aside0.mk (Kd.R_lower ho59 (below_size bl)); replace BK289 := Aside0.mk (blk_below (g := gb289) (o := .cells #[.slice Ao30 t285.length co30] 24 (0, 0)) (by (with_reducible repeat (first | refine blk_drewN ?_ _ | refine blk_drew ?_ | refine blk_alloc ?_ _)); refine blk_far ?_ NB289_306.out _; exact uB <| BK289.out) hb); replace BK294 := Aside0.mk (blk_below (g := gb294) (o := .cells #[.slice Ao36 t290.length co36] 24 (0, 0)) (by (with_reducible repeat (first | refine blk_drewN ?_ _ | refine blk_drew ?_ | refine blk_alloc ?_ _)); refine blk_far ?_ NB294_306.out _; exact uB <| BK294.out) hb); replace BK299 := Aside0.mk (blk_below (g := gb299) (o := .cells #[.slice Ao43 t295.length co43] 24 (0, 0)) (by (with_reducible repeat (first | refine blk_drewN ?_ _ | refine blk_drew ?_ | refine blk_alloc ?_ _)); refine blk_far ?_ NB299_306.out _; exact uB <| BK299.out) hb); replace BK306 := Aside0.mk (blk_below (g := gb306) (o := .cells #[.slice Ao52 t303.length co52] 24 (0, 0)) (by (with_reducible repeat (first | refine blk_drewN ?_ _ | refine blk_drew ?_ | refine blk_alloc ?_ _)); refine blk_put (cs := #[.slice none 0 0]) ?_ 0 _ rfl; exact uB <| BK306.out) hb); replace HB := Aside0.mk (below_step bl hb); clear hb ho59; obtain ⟨Ao60, co60, eo60⟩ := Kd.R_slice HO309.out; subst eo60) | (refine gL (some 35) rfl Try.func21 #[.agg #[.slice Ao36 t290.length co36], .int .i64 2, .slice Ao60 y307.length co60] ?_; (with_reducible refine (shard_Prune.calls k _ _ t290 2 _ _ y307 t310 _ ?side1 ?side2 ?side3 ?side4 A6.out).mono ?_); (case side1 => exact uC <| (Kd.N_reads' HO292.out).2.2); (case side2 => exact (Kd.N_reads' HO292.out).2.1); (case side3 => exact uC <| (Kd.R_reads' HO309.out).2.2); (case side4 => exact (Kd.R_reads' HO309.out).2.1); rintro e w61 ⟨v311, rfl, ho0, hb⟩; refine ⟨_, rfl, ?_⟩; have HO312 := Aside0.mk (Kd.N_lower (Kd.N_mono (ok' := fun k_ => some k_ ≠ (.slice Ao30 t285.length co30 : Value).ownBlock ∧ some k_ ≠ (.slice Ao36 t290.length co36 : Value).ownBlock ∧ some k_ ≠ (.slice Ao43 t295.length co43 : Value).ownBlock ∧ some k_ ≠ (v301 : Value).ownBlock ∧ some k_ ≠ (.slice Ao52 t303.length co52 : Value).ownBlock ∧ some k_ ≠ (.slice Ao60 y307.length co60 : Value).ownBlock ∧ k_ ≠ gb289 ∧ k_ ≠ gb294 ∧ k_ ≠ gb299 ∧ k_ ≠ gb306) (Kd.S_N (Kd.S_bound ho0)) (fun k_ hk_ => ⟨(Kd.fresh' (Kd.N_lt (by (with_reducible repeat (first | apply Kd.N_alloc | apply Kd.N_drewN | apply Kd.N_drew)); exact HO287.out)) k_ hk_.2.1), (Kd.fresh' (Kd.N_lt (by (with_reducible repeat (first | apply Kd.N_alloc | apply Kd.N_drewN | apply Kd.N_drew)); exact HO292.out)) k_ hk_.2.1), (Kd.fresh' (Kd.N_lt (by (with_reducible repeat (first | apply Kd.N_alloc | apply Kd.N_drewN | apply Kd.N_drew)); exact HO297.out)) k_ hk_.2.1), (Kd.fresh' (Kd.R_lt (uR HO302.out)) k_ hk_.2.1), (Kd.fresh' (Kd.N_lt (by (with_reducible repeat (first | apply Kd.N_alloc | apply Kd.N_drewN | apply Kd.N_drew)); exact HO305.out)) k_ hk_.2.1), (Kd.fresh' (Kd.R_lt (uR HO309.out)) k_ hk_.2.1), (Kd.freshB (g := gb289) (o := .cells #[.slice Ao30 t285.length co30] 24 (0, 0)) (uB BK289.out) k_ hk_.2.1), (Kd.freshB (g := gb294) (o := .cells #[.slice Ao36 t290.length co36] 24 (0, 0)) (uB BK294.out) k_ hk_.2.1), (Kd.freshB (g := gb299) (o := .cells #[.slice Ao43 t295.length co43] 24 (0, 0)) (uB BK299.out) k_ hk_.2.1), (Kd.freshB (g := gb306) (o := .cells #[.slice Ao52 t303.length co52] 24 (0, 0)) (uB BK306.out) k_ hk_.2.1)⟩)) (below_size bl)); replace HO287 := Aside0.mk (Kd.N_elder' (by (with_reducible repeat (first | apply Kd.N_alloc | apply Kd.N_drewN | apply Kd.N_drew)); exact HO287.out) (Kd.S_base ho0) hb); replace HO292 := Aside0.mk (Kd.N_elder' (by (with_reducible repeat (first | apply Kd.N_alloc | apply Kd.N_drewN | apply Kd.N_drew)); exact HO292.out) (Kd.S_base ho0) hb); replace HO297 := Aside0.mk (Kd.N_elder' (by (with_reducible repeat (first | apply Kd.N_alloc | apply Kd.N_drewN | apply Kd.N_drew)); exact HO297.out) (Kd.S_base ho0) hb); replace HO302 := cR HO302 hb; replace HO305 := Aside0.mk (Kd.N_elder' (by (with_reducible repeat (first | apply Kd.N_alloc | apply Kd.N_drewN | apply Kd.N_drew)); exact HO305.out) (Kd.S_base ho0) hb); replace HO309 := cR HO309 hb; replace BK289 := cB BK289 hb; replace BK294 := cB BK294 hb; replace BK299 := cB BK299 hb; replace BK306 := cB BK306 hb; replace HB := Aside0.mk (below_step bl hb); (try clear hb); (try clear ho0)) | ((with_reducible refine gate_dst (N := 9) rfl ?_); (try (refine gate_guard (by rfl) ?_; dsimp only)); refine bx (N := 9) #[.slice none 0 0] 24 ?_; intro gb313 hg w62 hbox hb; replace HO287 := Aside0.mk (Kd.N_below (Kd.N_elderB (by (with_reducible repeat (first | apply Kd.N_alloc | apply Kd.N_drewN | apply Kd.N_drew)); exact HO287.out) gb313 (Nat.le_of_eq hg.symm)) hb); replace HO292 := Aside0.mk (Kd.N_below (Kd.N_elderB (by (with_reducible repeat (first | apply Kd.N_alloc | apply Kd.N_drewN | apply Kd.N_drew)); exact HO292.out) gb313 (Nat.le_of_eq hg.symm)) hb); replace HO297 := Aside0.mk (Kd.N_below (Kd.N_elderB (by (with_reducible repeat (first | apply Kd.N_alloc | apply Kd.N_drewN | apply Kd.N_drew)); exact HO297.out) gb313 (Nat.le_of_eq hg.symm)) hb); replace HO302 := cR HO302 hb; replace HO305 := Aside0.mk (Kd.N_below (Kd.N_elderB (by (with_reducible repeat (first | apply Kd.N_alloc | apply Kd.N_drewN | apply Kd.N_drew)); exact HO305.out) gb313 (Nat.le_of_eq hg.symm)) hb); replace HO309 := cR HO309 hb; replace HO312 := Aside0.mk (Kd.N_below (Kd.N_elderB (by (with_reducible repeat (first | apply Kd.N_alloc | apply Kd.N_drewN | apply Kd.N_drew)); exact HO312.out) gb313 (Nat.le_of_eq hg.symm)) hb); have BK313 := Aside0.mk (hbox); have GW313 := gw hg bl; have GE313 := GW313; replace HB := Aside0.mk (below_step bl hb); have NB289_313 := Aside0.mk ((by rw [hg]; exact Nat.ne_of_lt (blk_lt (g := gb289) (o := .cells #[.slice Ao30 t285.length co30] 24 (0, 0)) (uB BK289.out)) : gb289 ≠ gb313)); have NB313_289 := Aside0.mk ((by rw [hg]; exact Nat.ne_of_gt (blk_lt (g := gb289) (o := .cells #[.slice Ao30 t285.length co30] 24 (0, 0)) (uB BK289.out)) : gb313 ≠ gb289)); replace BK289 := cB BK289 hb; have NB294_313 := Aside0.mk ((by rw [hg]; exact Nat.ne_of_lt (blk_lt (g := gb294) (o := .cells #[.slice Ao36 t290.length co36] 24 (0, 0)) (uB BK294.out)) : gb294 ≠ gb313)); have NB313_294 := Aside0.mk ((by rw [hg]; exact Nat.ne_of_gt (blk_lt (g := gb294) (o := .cells #[.slice Ao36 t290.length co36] 24 (0, 0)) (uB BK294.out)) : gb313 ≠ gb294)); replace BK294 := cB BK294 hb; have NB299_313 := Aside0.mk ((by rw [hg]; exact Nat.ne_of_lt (blk_lt (g := gb299) (o := .cells #[.slice Ao43 t295.length co43] 24 (0, 0)) (uB BK299.out)) : gb299 ≠ gb313)); have NB313_299 := Aside0.mk ((by rw [hg]; exact Nat.ne_of_gt (blk_lt (g := gb299) (o := .cells #[.slice Ao43 t295.length co43] 24 (0, 0)) (uB BK299.out)) : gb313 ≠ gb299)); replace BK299 := cB BK299 hb; have NB306_313 := Aside0.mk ((by rw [hg]; exact Nat.ne_of_lt (blk_lt (g := gb306) (o := .cells #[.slice Ao52 t303.length co52] 24 (0, 0)) (uB BK306.out)) : gb306 ≠ gb313)); have NB313_306 := Aside0.mk ((by rw [hg]; exact Nat.ne_of_gt (blk_lt (g := gb306) (o := .cells #[.slice Ao52 t303.length co52] 24 (0, 0)) (uB BK306.out)) : gb313 ≠ gb306)); replace BK306 := cB BK306 hb; clear hb hbox hg; obtain ⟨Ao63, co63, eo63⟩ := Kd.N_slice HO312.out; subst eo63; have hnb64 := NB313_289.out; have hnc64 := NB289_313.out; have hnb65 := NB313_294.out; have hnc65 := NB294_313.out; have hnb66 := NB313_299.out; have hnc66 := NB299_313.out; have hnb67 := NB313_306.out; have hnc67 := NB306_313.out; obtain ⟨hcz68_0, hfz68_0⟩ := z1 BK313; obtain ⟨Ao69, co69, eo69⟩ := Kd.R_slice HO302.out; subst eo69; have p314 : 0 ≤ (0 : Int) := (by omega); have q314 : 0 < (t300.length : Int) := od; obtain ⟨ad314, e314, hx314_0, hx314_1, hx314_2, hx314_3, hx314_4, hx314_5, hx314_6⟩ := at_T54 (Kd.R_reads' HO302.out).2.2 0 p314 q314; cases e314; have qi314 : (0 < t300.length) = True := eq_true (by omega); (try rw [show ((0 : Int)).toNat = 0 from rfl] at hx314_0); (try rw [show 0 * 7 = 0 from rfl] at hx314_0); (try rw [Addr.add_zero'] at hx314_0); (try rw [show ((0 : Int)).toNat = 0 from rfl] at hx314_1); (try rw [show 0 * 7 = 0 from rfl] at hx314_1); (try rw [Addr.add_zero'] at hx314_1); (try rw [show ((0 : Int)).toNat = 0 from rfl] at hx314_2); (try rw [show 0 * 7 = 0 from rfl] at hx314_2); (try rw [Addr.add_zero'] at hx314_2); (try rw [show ((0 : Int)).toNat = 0 from rfl] at hx314_3); (try rw [show 0 * 7 = 0 from rfl] at hx314_3); (try rw [Addr.add_zero'] at hx314_3); (try rw [show ((0 : Int)).toNat = 0 from rfl] at hx314_4); (try rw [show 0 * 7 = 0 from rfl] at hx314_4); (try rw [Addr.add_zero'] at hx314_4); (try rw [show ((0 : Int)).toNat = 0 from rfl] at hx314_5); (try rw [show 0 * 7 = 0 from rfl] at hx314_5); (try rw [Addr.add_zero'] at hx314_5); (try rw [show ((0 : Int)).toNat = 0 from rfl] at hx314_6); (try rw [show 0 * 7 = 0 from rfl] at hx314_6); (try rw [Addr.add_zero'] at hx314_6); have hn314_0 : ad314.block ≠ gb313 := Kd.own_blk (Kd.R_ne HO302.out BK313.out (by decide)); replace hx314_0 := (cell_far (p := ⟨gb313, 0, none⟩) (by first | (rw [add_block]; exact hn314_0) | (show (Addr.add _ _).block ≠ _; rw [add_block]; exact hn314_0) | exact hn314_0) (.slice Ao63 t310.length co63)).trans hx314_0; replace hx314_1 := (cell_far (p := ⟨gb313, 0, none⟩) (by first | (rw [add_block]; exact hn314_0) | (show (Addr.add _ _).block ≠ _; rw [add_block]; exact hn314_0) | exact hn314_0) (.slice Ao63 t310.length co63)).trans hx314_1; replace hx314_2 := (cell_far (p := ⟨gb313, 0, none⟩) (by first | (rw [add_block]; exact hn314_0) | (show (Addr.add _ _).block ≠ _; rw [add_block]; exact hn314_0) | exact hn314_0) (.slice Ao63 t310.length co63)).trans hx314_2; replace hx314_3 := (cell_far (p := ⟨gb313, 0, none⟩) (by first | (rw [add_block]; exact hn314_0) | (show (Addr.add _ _).block ≠ _; rw [add_block]; exact hn314_0) | exact hn314_0) (.slice Ao63 t310.length co63)).trans hx314_3; replace hx314_4 := (cell_far (p := ⟨gb313, 0, none⟩) (by first | (rw [add_block]; exact hn314_0) | (show (Addr.add _ _).block ≠ _; rw [add_block]; exact hn314_0) | exact hn314_0) (.slice Ao63 t310.length co63)).trans hx314_4; replace hx314_5 := (cell_far (p := ⟨gb313, 0, none⟩) (by first | (rw [add_block]; exact hn314_0) | (show (Addr.add _ _).block ≠ _; rw [add_block]; exact hn314_0) | exact hn314_0) (.slice Ao63 t310.length co63)).trans hx314_5; replace hx314_6 := (cell_far (p := ⟨gb313, 0, none⟩) (by first | (rw [add_block]; exact hn314_0) | (show (Addr.add _ _).block ≠ _; rw [add_block]; exact hn314_0) | exact hn314_0) (.slice Ao63 t310.length co63)).trans hx314_6; clear hn314_0; replace p314 := eq_true p314; replace q314 := eq_true q314; obtain ⟨hcz70_0, hfz70_0⟩ := z1 BK294) | (go_at_call 16; (with_reducible refine Kd.R_lit_call k39 _ 39 (A := (fun a_ b_ v_ => #[.agg #[a_], b_, v_]) _ _) (m := 1) (xs := ([(⟨0, 2⟩ : S39)] : List (S39))) (inner := [.int .i64 0, .int .i64 2]) (ok := fun _ => True) (okp := fun _ => True) ?hg0 ?hl ?hc ?hp ?hok ?hfr (Below.refl _ _) (Nat.le_refl _) ?hm ?_); (case hg0 => first | rfl | (go_simp; done) | simp); (case hl => rfl); (case hc => rfl); (case hok => exact (fun _ hk => hk)); (case hfr => exact trivial); (case hm => simp); (case hp => exact (Reps.c2 (show Kd.M k39 _ _ _ (⟨0, 2⟩ : S39) [.int .i64 0, .int .i64 2] from (k39_mkM _ _ _ (⟨0, 2⟩ : S39) )) (Reps.none _ _))); intro v316 w71 ho72 hb hg_ hnew_; clear hg_ hnew_; (first | rw [← Ny315.out] at ho72 | (simp only [Int.reduceToNat] at ho72; rw [← Ny315.out] at ho72)); replace HO287 := Aside0.mk (Kd.N_elder' (by (with_reducible repeat (first | apply Kd.N_alloc | apply Kd.N_drewN | apply Kd.N_drew)); exact (Kd.N_mono (Kd.N_far (p := ⟨gb313, 0, none⟩) (Kd.N_mono HO287.out (fun k_ hk => (⟨hk, hk.2⟩ : _ ∧ k_ ≠ gb313))) (fun _ hk => hk.2) (.slice Ao63 t310.length co63)) (fun _ h_ => h_.1))) (Kd.R_base ho72) hb); replace HO292 := Aside0.mk (Kd.N_elder' (by (with_reducible repeat (first | apply Kd.N_alloc | apply Kd.N_drewN | apply Kd.N_drew)); exact (Kd.N_mono (Kd.N_far (p := ⟨gb313, 0, none⟩) (Kd.N_mono HO292.out (fun k_ hk => (⟨hk, hk.2⟩ : _ ∧ k_ ≠ gb313))) (fun _ hk => hk.2) (.slice Ao63 t310.length co63)) (fun _ h_ => h_.1))) (Kd.R_base ho72) hb); replace HO297 := Aside0.mk (Kd.N_elder' (by (with_reducible repeat (first | apply Kd.N_alloc | apply Kd.N_drewN | apply Kd.N_drew)); exact (Kd.N_mono (Kd.N_far (p := ⟨gb313, 0, none⟩) (Kd.N_mono HO297.out (fun k_ hk => (⟨hk, hk.2⟩ : _ ∧ k_ ≠ gb313))) (fun _ hk => hk.2) (.slice Ao63 t310.length co63)) (fun _ h_ => h_.1))) (Kd.R_base ho72) hb); replace HO302 := Aside0.mk (Kd.R_below (by exact uR <| (Kd.R_mono (Kd.R_far (p := ⟨gb313, 0, none⟩) (Kd.R_types HO302.out BK313.out (by decide)) (fun _ hk => hk.2) (.slice Ao63 t310.length co63)) (fun _ h_ => h_.1))) hb); replace HO305 := Aside0.mk (Kd.N_elder' (by (with_reducible repeat (first | apply Kd.N_alloc | apply Kd.N_drewN | apply Kd.N_drew)); exact (Kd.N_mono (Kd.N_far (p := ⟨gb313, 0, none⟩) (Kd.N_mono HO305.out (fun k_ hk => (⟨hk, hk.2⟩ : _ ∧ k_ ≠ gb313))) (fun _ hk => hk.2) (.slice Ao63 t310.length co63)) (fun _ h_ => h_.1))) (Kd.R_base ho72) hb); replace HO312 := Aside0.mk (Kd.N_elder' (by (with_reducible repeat (first | apply Kd.N_alloc | apply Kd.N_drewN | apply Kd.N_drew)); exact (Kd.N_mono (Kd.N_far (p := ⟨gb313, 0, none⟩) (Kd.N_mono HO312.out (fun k_ hk => (⟨hk, hk.2⟩ : _ ∧ k_ ≠ gb313))) (fun _ hk => hk.2) (.slice Ao63 t310.length co63)) (fun _ h_ => h_.1))) (Kd.R_base ho72) hb); have HO317 := Aside0.mk (Kd.R_lower (Kd.R_new' ho72 (Kd.R_lt (by exact uR <| (Kd.R_mono (Kd.R_far (p := ⟨gb313, 0, none⟩) (Kd.R_types HO309.out BK313.out (by decide)) (fun _ hk => hk.2) (.slice Ao63 t310.length co63)) (fun _ h_ => h_.1))))) (below_size bl)); replace HO309 := Aside0.mk (Kd.R_elder' (by exact uR <| (Kd.R_mono (Kd.R_far (p := ⟨gb313, 0, none⟩) (Kd.R_types HO309.out BK313.out (by decide)) (fun _ hk => hk.2) (.slice Ao63 t310.length co63)) (fun _ h_ => h_.1))) (Kd.R_base ho72) hb); replace BK289 := Aside0.mk (blk_below (g := gb289) (o := .cells #[.slice Ao30 t285.length co30] 24 (0, 0)) (by (with_reducible repeat (first | refine blk_drewN ?_ _ | refine blk_drew ?_ | refine blk_alloc ?_ _)); refine blk_far ?_ NB289_313.out _; exact uB <| BK289.out) hb); replace BK294 := Aside0.mk (blk_below (g := gb294) (o := .cells #[.slice Ao36 t290.length co36] 24 (0, 0)) (by (with_reducible repeat (first | refine blk_drewN ?_ _ | refine blk_drew ?_ | refine blk_alloc ?_ _)); refine blk_far ?_ NB294_313.out _; exact uB <| BK294.out) hb); replace BK299 := Aside0.mk (blk_below (g := gb299) (o := .cells #[.slice Ao43 t295.length co43] 24 (0, 0)) (by (with_reducible repeat (first | refine blk_drewN ?_ _ | refine blk_drew ?_ | refine blk_alloc ?_ _)); refine blk_far ?_ NB299_313.out _; exact uB <| BK299.out) hb); replace BK306 := Aside0.mk (blk_below (g := gb306) (o := .cells #[.slice Ao52 t303.length co52] 24 (0, 0)) (by (with_reducible repeat (first | refine blk_drewN ?_ _ | refine blk_drew ?_ | refine blk_alloc ?_ _)); refine blk_far ?_ NB306_313.out _; exact uB <| BK306.out) hb); replace BK313 := Aside0.mk (blk_below (g := gb313) (o := .cells #[.slice Ao63 t310.length co63] 24 (0, 0)) (by (with_reducible repeat (first | refine blk_drewN ?_ _ | refine blk_drew ?_ | refine blk_alloc ?_ _)); refine blk_put (cs := #[.slice none 0 0]) ?_ 0 _ rfl; exact uB <| BK313.out) hb); replace HB := Aside0.mk (below_step bl hb); clear hb ho72; obtain ⟨Ao73, co73, eo73⟩ := Kd.R_slice HO317.out; subst eo73; (with_reducible refine (shard_Read.calls k _ _ t290 2 _ _ y315 t318 _ ?side1 ?side2 ?side3 ?side4 A13.out).mono ?_); (case side1 => exact uC <| (Kd.N_reads' HO292.out).2.2); (case side2 => exact (Kd.N_reads' HO292.out).2.1); (case side3 => exact uC <| (Kd.R_reads' HO317.out).2.2); (case side4 => exact (Kd.R_reads' HO317.out).2.1); rintro e w74 ⟨v319, rfl, ho0, hb⟩; replace HO287 := Aside0.mk (Kd.N_elder' (by (with_reducible repeat (first | apply Kd.N_alloc | apply Kd.N_drewN | apply Kd.N_drew)); exact HO287.out) (Kd.R_base ho0) hb); replace HO292 := Aside0.mk (Kd.N_elder' (by (with_reducible repeat (first | apply Kd.N_alloc | apply Kd.N_drewN | apply Kd.N_drew)); exact HO292.out) (Kd.R_base ho0) hb); replace HO297 := Aside0.mk (Kd.N_elder' (by (with_reducible repeat (first | apply Kd.N_alloc | apply Kd.N_drewN | apply Kd.N_drew)); exact HO297.out) (Kd.R_base ho0) hb); replace HO305 := Aside0.mk (Kd.N_elder' (by (with_reducible repeat (first | apply Kd.N_alloc | apply Kd.N_drewN | apply Kd.N_drew)); exact HO305.out) (Kd.R_base ho0) hb); replace HO309 := cR HO309 hb; replace HO312 := Aside0.mk (Kd.N_elder' (by (with_reducible repeat (first | apply Kd.N_alloc | apply Kd.N_drewN | apply Kd.N_drew)); exact HO312.out) (Kd.R_base ho0) hb); replace HO317 := cR HO317 hb; have HO320 := Aside0.mk (Kd.R_lower (Kd.R_new' ho0 (Kd.R_lt (uR HO302.out))) (below_size bl)); replace HO302 := Aside0.mk (Kd.R_elder' (uR HO302.out) (Kd.R_base ho0) hb); replace BK289 := cB BK289 hb; replace BK294 := cB BK294 hb; replace BK299 := cB BK299 hb; replace BK306 := cB BK306 hb; replace BK313 := cB BK313 hb; replace HB := Aside0.mk (below_step bl hb); (try clear hb); (try clear ho0); obtain ⟨Ao75, co75, eo75⟩ := Kd.R_slice HO320.out; subst eo75; obtain ⟨hcz76_0, hfz76_0⟩ := z1 BK294) | (go_at_call 16; (with_reducible refine Kd.R_lit_call k39 _ 39 (A := (fun a_ b_ v_ => #[.agg #[a_], b_, v_]) _ _) (m := 1) (xs := ([(⟨0, 2⟩ : S39)] : List (S39))) (inner := [.int .i64 0, .int .i64 2]) (ok := fun _ => True) (okp := fun _ => True) ?hg0 ?hl ?hc ?hp ?hok ?hfr (Below.refl _ _) (Nat.le_refl _) ?hm ?_); (case hg0 => first | rfl | (go_simp; done) | simp); (case hl => rfl); (case hc => rfl); (case hok => exact (fun _ hk => hk)); (case hfr => exact trivial); (case hm => simp); (case hp => exact (Reps.c2 (show Kd.M k39 _ _ _ (⟨0, 2⟩ : S39) [.int .i64 0, .int .i64 2] from (k39_mkM _ _ _ (⟨0, 2⟩ : S39) )) (Reps.none _ _))); intro v322 w77 ho78 hb hg_ hnew_; clear hg_ hnew_; (first | rw [← Ny321.out] at ho78 | (simp only [Int.reduceToNat] at ho78; rw [← Ny321.out] at ho78)); replace HO287 := Aside0.mk (Kd.N_elder' (by (with_reducible repeat (first | apply Kd.N_alloc | apply Kd.N_drewN | apply Kd.N_drew)); exact HO287.out) (Kd.R_base ho78) hb); replace HO292 := Aside0.mk (Kd.N_elder' (by (with_reducible repeat (first | apply Kd.N_alloc | apply Kd.N_drewN | apply Kd.N_drew)); exact HO292.out) (Kd.R_base ho78) hb); replace HO297 := Aside0.mk (Kd.N_elder' (by (with_reducible repeat (first | apply Kd.N_alloc | apply Kd.N_drewN | apply Kd.N_drew)); exact HO297.out) (Kd.R_base ho78) hb); replace HO302 := cR HO302 hb; replace HO305 := Aside0.mk (Kd.N_elder' (by (with_reducible repeat (first | apply Kd.N_alloc | apply Kd.N_drewN | apply Kd.N_drew)); exact HO305.out) (Kd.R_base ho78) hb); replace HO312 := Aside0.mk (Kd.N_elder' (by (with_reducible repeat (first | apply Kd.N_alloc | apply Kd.N_drewN | apply Kd.N_drew)); exact HO312.out) (Kd.R_base ho78) hb); replace HO320 := cR HO320 hb; have HO323 := Aside0.mk (Kd.R_lower (Kd.R_new' (Kd.R_new' ho78 (Kd.R_lt (uR HO309.out))) (Kd.R_lt (uR HO317.out))) (below_size bl)); replace HO309 := Aside0.mk (Kd.R_elder' (uR HO309.out) (Kd.R_base ho78) hb); replace HO317 := Aside0.mk (Kd.R_elder' (uR HO317.out) (Kd.R_base ho78) hb); replace BK289 := cB BK289 hb; replace BK294 := cB BK294 hb; replace BK299 := cB BK299 hb; replace BK306 := cB BK306 hb; replace BK313 := cB BK313 hb; replace HB := Aside0.mk (below_step bl hb); clear hb ho78; obtain ⟨Ao79, co79, eo79⟩ := Kd.R_slice HO323.out; subst eo79; (with_reducible refine (shard_Read.calls k _ _ t290 1 _ _ y321 t324 _ ?side1 ?side2 ?side3 ?side4 A15.out).mono ?_); (case side1 => exact uC <| (Kd.N_reads' HO292.out).2.2); (case side2 => exact (Kd.N_reads' HO292.out).2.1); (case side3 => exact uC <| (Kd.R_reads' HO323.out).2.2); (case side4 => exact (Kd.R_reads' HO323.out).2.1); rintro e w80 ⟨v325, rfl, ho0, hb⟩; replace HO287 := Aside0.mk (Kd.N_elder' (by (with_reducible repeat (first | apply Kd.N_alloc | apply Kd.N_drewN | apply Kd.N_drew)); exact HO287.out) (Kd.R_base ho0) hb); replace HO292 := Aside0.mk (Kd.N_elder' (by (with_reducible repeat (first | apply Kd.N_alloc | apply Kd.N_drewN | apply Kd.N_drew)); exact HO292.out) (Kd.R_base ho0) hb); replace HO297 := Aside0.mk (Kd.N_elder' (by (with_reducible repeat (first | apply Kd.N_alloc | apply Kd.N_drewN | apply Kd.N_drew)); exact HO297.out) (Kd.R_base ho0) hb); replace HO305 := Aside0.mk (Kd.N_elder' (by (with_reducible repeat (first | apply Kd.N_alloc | apply Kd.N_drewN | apply Kd.N_drew)); exact HO305.out) (Kd.R_base ho0) hb); replace HO309 := cR HO309 hb; replace HO312 := Aside0.mk (Kd.N_elder' (by (with_reducible repeat (first | apply Kd.N_alloc | apply Kd.N_drewN | apply Kd.N_drew)); exact HO312.out) (Kd.R_base ho0) hb); replace HO317 := cR HO317 hb; replace HO323 := cR HO323 hb; have HO326 := Aside0.mk (Kd.R_lower (Kd.R_new' (Kd.R_new' ho0 (Kd.R_lt (uR HO302.out))) (Kd.R_lt (uR HO320.out))) (below_size bl)); replace HO302 := Aside0.mk (Kd.R_elder' (uR HO302.out) (Kd.R_base ho0) hb); replace HO320 := Aside0.mk (Kd.R_elder' (uR HO320.out) (Kd.R_base ho0) hb); replace BK289 := cB BK289 hb; replace BK294 := cB BK294 hb; replace BK299 := cB BK299 hb; replace BK306 := cB BK306 hb; replace BK313 := cB BK313 hb; replace HB := Aside0.mk (below_step bl hb); (try clear hb); (try clear ho0); obtain ⟨Ao81, co81, eo81⟩ := Kd.R_slice HO326.out; subst eo81; obtain ⟨hcz82_0, hfz82_0⟩ := z1 BK294) | (go_at_call 19; (with_reducible refine (shard_Size.calls k _ _ t290 t327 _ ?side1 ?side2 A17.out).mono ?_); (case side1 => exact uC <| (Kd.N_reads' HO292.out).2.2); (case side2 => exact (Kd.N_reads' HO292.out).2.1); rintro e w83 ⟨rfl, hb⟩; replace HO287 := Aside0.mk (Kd.N_below (by (with_reducible repeat (first | apply Kd.N_alloc | apply Kd.N_drewN | apply Kd.N_drew)); exact HO287.out) hb); replace HO292 := Aside0.mk (Kd.N_below (by (with_reducible repeat (first | apply Kd.N_alloc | apply Kd.N_drewN | apply Kd.N_drew)); exact HO292.out) hb); replace HO297 := Aside0.mk (Kd.N_below (by (with_reducible repeat (first | apply Kd.N_alloc | apply Kd.N_drewN | apply Kd.N_drew)); exact HO297.out) hb); replace HO302 := cR HO302 hb; replace HO305 := Aside0.mk (Kd.N_below (by (with_reducible repeat (first | apply Kd.N_alloc | apply Kd.N_drewN | apply Kd.N_drew)); exact HO305.out) hb); replace HO309 := cR HO309 hb; replace HO312 := Aside0.mk (Kd.N_below (by (with_reducible repeat (first | apply Kd.N_alloc | apply Kd.N_drewN | apply Kd.N_drew)); exact HO312.out) hb); replace HO317 := cR HO317 hb; replace HO320 := cR HO320 hb; replace HO323 := cR HO323 hb; replace HO326 := cR HO326 hb; replace BK289 := cB BK289 hb; replace BK294 := cB BK294 hb; replace BK299 := cB BK299 hb; replace BK306 := cB BK306 hb; replace BK313 := cB BK313 hb; replace HB := Aside0.mk (below_step bl hb); (try clear hb); obtain ⟨hcz84_0, hfz84_0⟩ := z1 BK306) | (go_at_call 19; (with_reducible refine (shard_Size.calls k _ _ t303 t328 _ ?side1 ?side2 A19.out).mono ?_); (case side1 => exact uC <| (Kd.N_reads' HO305.out).2.2); (case side2 => exact (Kd.N_reads' HO305.out).2.1); rintro e w85 ⟨rfl, hb⟩; replace HO287 := Aside0.mk (Kd.N_below (by (with_reducible repeat (first | apply Kd.N_alloc | apply Kd.N_drewN | apply Kd.N_drew)); exact HO287.out) hb); replace HO292 := Aside0.mk (Kd.N_below (by (with_reducible repeat (first | apply Kd.N_alloc | apply Kd.N_drewN | apply Kd.N_drew)); exact HO292.out) hb); replace HO297 := Aside0.mk (Kd.N_below (by (with_reducible repeat (first | apply Kd.N_alloc | apply Kd.N_drewN | apply Kd.N_drew)); exact HO297.out) hb); replace HO302 := cR HO302 hb; replace HO305 := Aside0.mk (Kd.N_below (by (with_reducible repeat (first | apply Kd.N_alloc | apply Kd.N_drewN | apply Kd.N_drew)); exact HO305.out) hb); replace HO309 := cR HO309 hb; replace HO312 := Aside0.mk (Kd.N_below (by (with_reducible repeat (first | apply Kd.N_alloc | apply Kd.N_drewN | apply Kd.N_drew)); exact HO312.out) hb); replace HO317 := cR HO317 hb; replace HO320 := cR HO320 hb; replace HO323 := cR HO323 hb; replace HO326 := cR HO326 hb; replace BK289 := cB BK289 hb; replace BK294 := cB BK294 hb; replace BK299 := cB BK299 hb; replace BK306 := cB BK306 hb; replace BK313 := cB BK313 hb; replace HB := Aside0.mk (below_step bl hb); (try clear hb); obtain ⟨hcz86_0, hfz86_0⟩ := z1 BK313) | (go_at_call 19; (with_reducible refine (shard_Size.calls k _ _ t310 t329 _ ?side1 ?side2 A21.out).mono ?_); (case side1 => exact uC <| (Kd.N_reads' HO312.out).2.2); (case side2 => exact (Kd.N_reads' HO312.out).2.1); rintro e w87 ⟨rfl, hb⟩; replace HO287 := Aside0.mk (Kd.N_below (by (with_reducible repeat (first | apply Kd.N_alloc | apply Kd.N_drewN | apply Kd.N_drew)); exact HO287.out) hb); replace HO292 := Aside0.mk (Kd.N_below (by (with_reducible repeat (first | apply Kd.N_alloc | apply Kd.N_drewN | apply Kd.N_drew)); exact HO292.out) hb); replace HO297 := Aside0.mk (Kd.N_below (by (with_reducible repeat (first | apply Kd.N_alloc | apply Kd.N_drewN | apply Kd.N_drew)); exact HO297.out) hb); replace HO302 := cR HO302 hb; replace HO305 := Aside0.mk (Kd.N_below (by (with_reducible repeat (first | apply Kd.N_alloc | apply Kd.N_drewN | apply Kd.N_drew)); exact HO305.out) hb); replace HO309 := cR HO309 hb; replace HO312 := Aside0.mk (Kd.N_below (by (with_reducible repeat (first | apply Kd.N_alloc | apply Kd.N_drewN | apply Kd.N_drew)); exact HO312.out) hb); replace HO317 := cR HO317 hb; replace HO320 := cR HO320 hb; replace HO323 := cR HO323 hb; replace HO326 := cR HO326 hb; replace BK289 := cB BK289 hb; replace BK294 := cB BK294 hb; replace BK299 := cB BK299 hb; replace BK306 := cB BK306 hb; replace BK313 := cB BK313 hb; replace HB := Aside0.mk (below_step bl hb); (try clear hb); obtain ⟨hcz88_0, hfz88_0⟩ := z1 BK294) | (go_at_call 14; (with_reducible refine (shard_Right.calls k _ _ t290 true _ ?side1 ?side2 A23.out).mono ?_); (case side1 => exact uC <| (Kd.N_reads' HO292.out).2.2); (case side2 => exact (Kd.N_reads' HO292.out).2.1); rintro e w89 ⟨rfl, hb⟩; replace HO287 := Aside0.mk (Kd.N_below (by (with_reducible repeat (first | apply Kd.N_alloc | apply Kd.N_drewN | apply Kd.N_drew)); exact HO287.out) hb); replace HO292 := Aside0.mk (Kd.N_below (by (with_reducible repeat (first | apply Kd.N_alloc | apply Kd.N_drewN | apply Kd.N_drew)); exact HO292.out) hb); replace HO297 := Aside0.mk (Kd.N_below (by (with_reducible repeat (first | apply Kd.N_alloc | apply Kd.N_drewN | apply Kd.N_drew)); exact HO297.out) hb); replace HO302 := cR HO302 hb; replace HO305 := Aside0.mk (Kd.N_below (by (with_reducible repeat (first | apply Kd.N_alloc | apply Kd.N_drewN | apply Kd.N_drew)); exact HO305.out) hb); replace HO309 := cR HO309 hb; replace HO312 := Aside0.mk (Kd.N_below (by (with_reducible repeat (first | apply Kd.N_alloc | apply Kd.N_drewN | apply Kd.N_drew)); exact HO312.out) hb); replace HO317 := cR HO317 hb; replace HO320 := cR HO320 hb; replace HO323 := cR HO323 hb; replace HO326 := cR HO326 hb; replace BK289 := cB BK289 hb; replace BK294 := cB BK294 hb; replace BK299 := cB BK299 hb; replace BK306 := cB BK306 hb; replace BK313 := cB BK313 hb; replace HB := Aside0.mk (below_step bl hb); (try clear hb); obtain ⟨hcz90_0, hfz90_0⟩ := z1 BK294) | (go_at_call 23; (with_reducible refine (shard_Same.calls k _ _ t290 _ _ t290 true _ ?side1 ?side2 ?side3 ?side4 A25.out).mono ?_); (case side1 => exact uC <| (Kd.N_reads' HO292.out).2.2); (case side2 => exact (Kd.N_reads' HO292.out).2.1); (case side3 => exact uC <| (Kd.N_reads' HO292.out).2.2); (case side4 => exact (Kd.N_reads' HO292.out).2.1); rintro e w91 ⟨rfl, hb⟩; replace HO287 := Aside0.mk (Kd.N_below (by (with_reducible repeat (first | apply Kd.N_alloc | apply Kd.N_drewN | apply Kd.N_drew)); exact HO287.out) hb); replace HO292 := Aside0.mk (Kd.N_below (by (with_reducible repeat (first | apply Kd.N_alloc | apply Kd.N_drewN | apply Kd.N_drew)); exact HO292.out) hb); replace HO297 := Aside0.mk (Kd.N_below (by (with_reducible repeat (first | apply Kd.N_alloc | apply Kd.N_drewN | apply Kd.N_drew)); exact HO297.out) hb); replace HO302 := cR HO302 hb; replace HO305 := Aside0.mk (Kd.N_below (by (with_reducible repeat (first | apply Kd.N_alloc | apply Kd.N_drewN | apply Kd.N_drew)); exact HO305.out) hb); replace HO309 := cR HO309 hb; replace HO312 := Aside0.mk (Kd.N_below (by (with_reducible repeat (first | apply Kd.N_alloc | apply Kd.N_drewN | apply Kd.N_drew)); exact HO312.out) hb); replace HO317 := cR HO317 hb; replace HO320 := cR HO320 hb; replace HO323 := cR HO323 hb; replace HO326 := cR HO326 hb; replace BK289 := cB BK289 hb; replace BK294 := cB BK294 hb; replace BK299 := cB BK299 hb; replace BK306 := cB BK306 hb; replace BK313 := cB BK313 hb; replace HB := Aside0.mk (below_step bl hb); (try clear hb); obtain ⟨hcz92_0, hfz92_0⟩ := z1 BK289; obtain ⟨hcz93_0, hfz93_0⟩ := z1 BK294) | (go_at_call 23; (with_reducible refine (shard_Same.calls k _ _ t285 _ _ t290 t332 _ ?side1 ?side2 ?side3 ?side4 A27.out).mono ?_); (case side1 => exact uC <| (Kd.N_reads' HO287.out).2.2); (case side2 => exact (Kd.N_reads' HO287.out).2.1); (case side3 => exact uC <| (Kd.N_reads' HO292.out).2.2); (case side4 => exact (Kd.N_reads' HO292.out).2.1); rintro e w94 ⟨rfl, hb⟩; replace HO287 := Aside0.mk (Kd.N_below (by (with_reducible repeat (first | apply Kd.N_alloc | apply Kd.N_drewN | apply Kd.N_drew)); exact HO287.out) hb); replace HO292 := Aside0.mk (Kd.N_below (by (with_reducible repeat (first | apply Kd.N_alloc | apply Kd.N_drewN | apply Kd.N_drew)); exact HO292.out) hb); replace HO297 := Aside0.mk (Kd.N_below (by (with_reducible repeat (first | apply Kd.N_alloc | apply Kd.N_drewN | apply Kd.N_drew)); exact HO297.out) hb); replace HO302 := cR HO302 hb; replace HO305 := Aside0.mk (Kd.N_below (by (with_reducible repeat (first | apply Kd.N_alloc | apply Kd.N_drewN | apply Kd.N_drew)); exact HO305.out) hb); replace HO309 := cR HO309 hb; replace HO312 := Aside0.mk (Kd.N_below (by (with_reducible repeat (first | apply Kd.N_alloc | apply Kd.N_drewN | apply Kd.N_drew)); exact HO312.out) hb); replace HO317 := cR HO317 hb; replace HO320 := cR HO320 hb; replace HO323 := cR HO323 hb; replace HO326 := cR HO326 hb; replace BK289 := cB BK289 hb; replace BK294 := cB BK294 hb; replace BK299 := cB BK299 hb; replace BK306 := cB BK306 hb; replace BK313 := cB BK313 hb; replace HB := Aside0.mk (below_step bl hb); (try clear hb)))
    go_ret
    exact ⟨re_, bl⟩
   ·
    replace c26 := Bool.eq_false_iff.mpr c26
    subst c26
    rw [if_neg (show ¬ (false = true) by decide)] at H
    exact absurd H (by simp)
  ·
   replace c24 := Bool.eq_false_iff.mpr c24
   subst c24
   rw [if_neg (show ¬ (false = true) by decide)] at H
   exact absurd H (by simp)
 ·
  rw [if_neg c7] at H
  exact absurd H (by simp)
def w11_ShardStays.j0 : Nat → List (S39) → Bool → List (S59) → Int → Int → Option (Bool)
 | 0, _, _, _, _, _ => none
 | k + 1, x2, x24, x359000, x360000, x360001 => if x24 = true then (some true) else ((shard_Prune.f k x359000 (mn x360000 x360001) x2).bind fun t363 => ((shard_Prune.f k t363 (mx x360000 x360001) x2).bind fun t367 => ((r11_Right.f k t363).bind fun t371 => (if t371 = true then ((shard_Read.f k t363 (mx x360000 x360001) x2).bind fun t372 => ((shard_Read.f k x359000 (mx x360000 x360001) x2).bind fun t375 => ((r08_Items.f k t372 t375).bind fun t378 => (if t378 = true then ((shard_Read.f k t363 (mn x360000 x360001) x2).bind fun t379 => ((shard_Read.f k x359000 (mn x360000 x360001) x2).bind fun t382 => ((r08_Items.f k t379 t382).bind fun t385 => (if t385 = true then ((shard_Prune.f k x359000 (mx x360000 x360001) x2).bind fun t386 => ((r11_Same.f k t367 t386).bind fun t389 => (some t389))) else (none))))) else (none))))) else (none)))))
def w11_ShardStays.f (k : Nat) (l0_0 : List (S59)) (a1_0 : Int) (a1_1 : Int) (l2 : List (S39)) : Option (Bool) := (w11_alive.f k).bind fun t360 => (if t360 = true then ((r11_Great.f k l0_0).bind fun t361 => (if t361 = true then (w11_ShardStays.j0 k l2 true l0_0 a1_0 a1_1) else (if (l2.length : Int) > 50 then (w11_ShardStays.j0 k l2 true l0_0 a1_0 a1_1) else ((r11_Right.f k l0_0).bind fun t362 => (w11_ShardStays.j0 k l2 (!t362) l0_0 a1_0 a1_1))))) else (none))
theorem w11_ShardStays.mono_l : ∀ k, (∀ y0 y1 y2 y3 y4, LeC (w11_ShardStays.j0 k y0 y1 y2 y3 y4) (w11_ShardStays.j0 (k + 1) y0 y1 y2 y3 y4))
 | 0 => fun _ _ _ _ _ => ⟨fun r h => by simp [w11_ShardStays.j0] at h⟩
 | k + 1 => by have ih0 := w11_ShardStays.mono_l k; exact fun _ _ _ _ _ => by unfold w11_ShardStays.j0; exact lm
theorem w11_ShardStays.mono : ∀ a0 a1 a2 a3 k, LeO (w11_ShardStays.f k a0 a1 a2 a3) (w11_ShardStays.f (k + 1) a0 a1 a2 a3) := by
 intro a0 a1 a2 a3 k
 have ih0 := w11_ShardStays.mono_l k
 unfold w11_ShardStays.f
 exact lo
instance w11_ShardStays.mI {a0 a1 a2 a3 k} : LeC (w11_ShardStays.f k a0 a1 a2 a3) (w11_ShardStays.f (k + 1) a0 a1 a2 a3) := ⟨w11_ShardStays.mono _ _ _ _ _⟩
def w11_ShardStays.T5 : Bool × List (List Nat × List Nat) := (true, [([], []), ([0], [0]), ([], []), ([2], [2]), ([1, 3], [1, 3]), ([], []), ([5], [5]), ([], []), ([7], [7]), ([6, 8], [6, 8]), ([4, 0, 1, 2, 3, 4], [4]), ([9, 10, 0, 1, 2, 3, 4, 5, 6, 7, 8, 9, 10], [9])])
def w11_ShardStays.B5 : List Nat := [0, 1, 0, 4, 15, 0, 32, 0, 128, 480, 31, 2047]
theorem w11_ShardStays.tab5 : rtab .any (opsOf Try.f6 5) = w11_ShardStays.T5 := by kernel_rfl
theorem w11_ShardStays.bits5 : waitsOk w11_ShardStays.T5.2 w11_ShardStays.B5 = true := by kernel_rfl
def w11_ShardStays.T8 : Bool × List (List Nat × List Nat) := (true, [([], []), ([0], [0]), ([1, 1], [1]), ([2], [2]), ([2], [2]), ([2], [2]), ([3, 4, 5, 2, 2], [2, 3, 4, 5]), ([2], [2]), ([2], [2]), ([2], [2]), ([7, 8, 9, 6, 2], [2, 7, 8, 9]), ([6, 10, 10, 2], [2, 6, 10]), ([2, 11], [2, 11]), ([12, 11], [12]), ([13], [13]), ([13], [13]), ([13], [13]), ([14, 15, 16, 13, 13], [13, 14, 15, 16]), ([13], [13]), ([13], [13]), ([13], [13]), ([18, 19, 20, 17, 13], [13, 18, 19, 20]), ([17, 21, 21, 13], [13, 17, 21]), ([13, 22], [13, 22]), ([23, 22], [23]), ([24], [24]), ([24], [24]), ([24], [24]), ([24], [24]), ([26, 27, 28, 24, 24], [24, 26, 27, 28]), ([25, 29, 29, 24], [24, 25, 29]), ([24, 30], [24, 30]), ([31, 30, 0, 1, 2, 3, 4, 5, 6, 7, 8, 9, 10, 11, 12, 13, 14, 15, 16, 17, 18, 19, 20, 21, 22, 23, 24, 25, 26, 27, 28, 29, 30, 31], [31])])
def w11_ShardStays.B8 : List Nat := [0, 1, 3, 7, 7, 7, 63, 7, 7, 7, 1023, 2047, 4095, 8191, 16383, 16383, 16383, 131071, 16383, 16383, 16383, 2097151, 4194303, 8388607, 16777215, 33554431, 33554431, 33554431, 33554431, 503316479, 1073741823, 2147483647, 4294967295]
theorem w11_ShardStays.tab8 : rtab .any (opsOf Try.f6 8) = w11_ShardStays.T8 := by kernel_rfl
theorem w11_ShardStays.bits8 : waitsOk w11_ShardStays.T8.2 w11_ShardStays.B8 = true := by kernel_rfl
theorem w11_ShardStays.calls (k : Nat) (A0_0 : Option Addr) (c0_0 : Nat) (l0_0 : List (S59)) (a1_0 : Int) (a1_1 : Int) (A2 : Option Addr) (c2 : Nat) (l2 : List (S39)) (r : Bool) (w : World) (hr0_0 : Kd.C k59 w A0_0 l0_0.length l0_0) (hc0_0 : l0_0.length ≤ c0_0) (hr2 : Kd.C k39 w A2 l2.length l2) (hc2 : l2.length ≤ c2) (h : w11_ShardStays.f k l0_0 a1_0 a1_1 l2 = some r) :
 Calls Try.prog 6 #[.agg #[.slice A0_0 l0_0.length c0_0], .agg #[.int .i64 a1_0, .int .i64 a1_1], .slice A2 l2.length c2] w fun e w' => e = .returned (.bool r) ∧ Below w.heap.size w w' := by
 have hu24 := Try.underlying24
 have hu47 := Try.underlying47
 have HR0_0 := Aside0.mk hr0_0
 have HC0_0 := Aside0.mk hc0_0
 clear hr0_0 hc0_0
 have HR2 := Aside0.mk hr2
 have HC2 := Aside0.mk hc2
 clear hr2 hc2
 have HB := Aside0.mk (Below.refl w.heap.size w)
 have H : ((w11_alive.f k).bind fun t360 => (if t360 = true then ((r11_Great.f k l0_0).bind fun t361 => (if t361 = true then (w11_ShardStays.j0 k l2 true l0_0 a1_0 a1_1) else (if (l2.length : Int) > 50 then (w11_ShardStays.j0 k l2 true l0_0 a1_0 a1_1) else ((r11_Right.f k l0_0).bind fun t362 => (w11_ShardStays.j0 k l2 (!t362) l0_0 a1_0 a1_1))))) else (none))) = some r := h
 clear h
 obtain ⟨t360, A4, H⟩ := bs H
 try dsimp only at H
 by_cases c5 : t360 = true
 ·
  subst c5
  rw [if_pos rfl] at H
  have HC6 := Aside0.mk H
  clear H
  go_enter Try.func6, Try.ntmps6
  go_upto_region 3 with (first | ((with_reducible refine gate_dst (N := 3) rfl ?_); (try (refine gate_guard (by rfl) ?_; dsimp only)); refine bx (N := 3) #[.slice A0_0 l0_0.length c0_0] 24 ?_; intro gb358 hg w7 hbox hb; have BK358 := Aside0.mk (hbox); have GW358 := gw hg (uW HB.out); have GE358 := GW358; replace HB := cW HB hb; clear hb hbox hg) | ((with_reducible refine gate_dst (N := 4) rfl ?_); (try (refine gate_guard (by rfl) ?_; dsimp only)); refine bx (N := 4) #[.int .i64 a1_0, .int .i64 a1_1] 47 ?_; intro gb359 hg w8 hbox hb; have BK359 := Aside0.mk (hbox); have GW359 := gw hg bl; have GE359 := GW359; replace HB := Aside0.mk (below_step bl hb); have NB358_359 := Aside0.mk ((by rw [hg]; exact Nat.ne_of_lt (blk_lt (g := gb358) (o := .cells #[.slice A0_0 l0_0.length c0_0] 24 (0, 0)) (uB BK358.out)) : gb358 ≠ gb359)); have NB359_358 := Aside0.mk ((by rw [hg]; exact Nat.ne_of_gt (blk_lt (g := gb358) (o := .cells #[.slice A0_0 l0_0.length c0_0] 24 (0, 0)) (uB BK358.out)) : gb359 ≠ gb358)); replace BK358 := cB BK358 hb; clear hb hbox hg) | (refine gL (some 11) rfl Try.func8 #[] ?_; (with_reducible refine (w11_alive.calls k  true _ A4.out).mono ?_); rintro e w9 ⟨rfl, hb⟩; refine ⟨_, rfl, ?_⟩; replace BK358 := cB BK358 hb; replace BK359 := cB BK359 hb; replace HB := Aside0.mk (below_step bl hb); (try clear hb)))
  (try simp only [Act.put, List.setIfInBounds_toArray, List.set_cons_zero, List.set_cons_succ])
  go_cut [24] (fun v24 wc => ∃ (kq : Nat) (x24_5 : Bool), v24 = .bool x24_5 ∧ Aside0 (w11_ShardStays.j0 kq l2 x24_5 l0_0 a1_0 a1_1 = some r) ∧ Aside0 (kq ≤ k) ∧ Aside0 (wc.heap[gb358]? = some (.cells #[(.slice A0_0 l0_0.length c0_0)] 24 (0, 0))) ∧ Aside0 (wc.heap[gb359]? = some (.cells #[.int .i64 a1_0, .int .i64 a1_1] 47 (0, 0))) ∧ Aside0 (Below w.heap.size w wc))
  case first =>
   have H := HC6.out
   clear HC6
   obtain ⟨t361, A10, H⟩ := bs H
   try dsimp only at H
   by_cases c11 : t361 = true
   ·
    subst c11
    rw [if_pos rfl] at H
    have H' := Aside0.mk H
    clear H
    have hnb12 := NB358_359.out
    have hnc12 := NB359_358.out
    obtain ⟨hcz13_0, hfz13_0⟩ := z1 BK358
    go_wp2_with (first | (refine gL (some 14) rfl Try.func9 #[.agg #[.slice A0_0 l0_0.length c0_0]] ?_; (with_reducible refine (r11_Great.calls k _ _ l0_0 true _ ?side1 ?side2 A10.out).mono ?_); (case side1 => exact uC <| (Kd.C_below HR0_0.out HB.out)); (case side2 => exact HC0_0.out); rintro e w14 ⟨rfl, hb⟩; refine ⟨_, rfl, ?_⟩; replace BK358 := cB BK358 hb; replace BK359 := cB BK359 hb; replace HB := Aside0.mk (below_step bl hb); (try clear hb)))
    go_meet
    case rel => exact ⟨_, (true), rs_, H', ⟨by first | omega | exact Nat.le_refl _⟩, ⟨uB BK358.out⟩, ⟨uB BK359.out⟩, ⟨bl⟩⟩
   ·
    replace c11 := Bool.eq_false_iff.mpr c11
    subst c11
    rw [if_neg (show ¬ (false = true) by decide)] at H
    by_cases c15 : (l2.length : Int) > 50
    ·
     rw [if_pos c15] at H
     have c15b0 : decide (50 < (l2.length : Int)) = true := decide_eq_true c15
     have c15b1 : decide (50 < l2.length) = true := decide_eq_true (by omega)
     clear c15
     (first | rw [c15b0] | (simp only [i64_w, i32_w]; rw [c15b0]) | skip)
     have H' := Aside0.mk H
     clear H
     have hnb16 := NB358_359.out
     have hnc16 := NB359_358.out
     obtain ⟨hcz17_0, hfz17_0⟩ := z1 BK358
     go_wp2_with (first | (refine gL (some 14) rfl Try.func9 #[.agg #[.slice A0_0 l0_0.length c0_0]] ?_; (with_reducible refine (r11_Great.calls k _ _ l0_0 false _ ?side1 ?side2 A10.out).mono ?_); (case side1 => exact uC <| (Kd.C_below HR0_0.out HB.out)); (case side2 => exact HC0_0.out); rintro e w18 ⟨rfl, hb⟩; refine ⟨_, rfl, ?_⟩; replace BK358 := cB BK358 hb; replace BK359 := cB BK359 hb; replace HB := Aside0.mk (below_step bl hb); (try clear hb)))
     go_meet
     case rel => exact ⟨_, (true), rs_, H', ⟨by first | omega | exact Nat.le_refl _⟩, ⟨uB BK358.out⟩, ⟨uB BK359.out⟩, ⟨bl⟩⟩
    ·
     rw [if_neg c15] at H
     have c15b0 : decide (50 < (l2.length : Int)) = false := decide_eq_false c15
     have c15b1 : decide (50 < l2.length) = false := decide_eq_false (by omega)
     clear c15
     (first | rw [c15b0] | (simp only [i64_w, i32_w]; rw [c15b0]) | skip)
     obtain ⟨t362, A19, H⟩ := bs H
     try dsimp only at H
     have H' := Aside0.mk H
     clear H
     have hnb20 := NB358_359.out
     have hnc20 := NB359_358.out
     have hcz21_0 : w9.cell? ⟨gb358, 0, none⟩ = some (.slice A0_0 l0_0.length c0_0) := (blk_cell BK358.out 0).trans rfl
     have hfz21_0 := blk_frozen BK358.out 0
     go_wp2_with (first | (refine gL (some 14) rfl Try.func9 #[.agg #[.slice A0_0 l0_0.length c0_0]] ?_; (with_reducible refine (r11_Great.calls k _ _ l0_0 false _ ?side1 ?side2 A10.out).mono ?_); (case side1 => exact uC <| (Kd.C_below HR0_0.out HB.out)); (case side2 => exact HC0_0.out); rintro e w22 ⟨rfl, hb⟩; refine ⟨_, rfl, ?_⟩; replace BK358 := cB BK358 hb; replace BK359 := cB BK359 hb; replace HB := Aside0.mk (below_step bl hb); (try clear hb); obtain ⟨hcz23_0, hfz23_0⟩ := z1 BK358) | (go_at_call 15; (with_reducible refine (r11_Right.calls k _ _ l0_0 t362 _ ?side1 ?side2 A19.out).mono ?_); (case side1 => exact uC <| (Kd.C_below HR0_0.out HB.out)); (case side2 => exact HC0_0.out); rintro e w24 ⟨rfl, hb⟩; replace BK358 := cB BK358 hb; replace BK359 := cB BK359 hb; replace HB := Aside0.mk (below_step bl hb); (try clear hb)))
     go_meet
     case rel => exact ⟨_, (!t362), rs_, H', ⟨by first | omega | exact Nat.le_refl _⟩, ⟨uB BK358.out⟩, ⟨uB BK359.out⟩, ⟨bl⟩⟩
  case rest =>
   clear HC6
   try clear c1
   try clear c2
   try clear p2
   try clear c5
   try clear c6
   try clear c8
   try clear c9
   try clear c11
   try clear c12
   try clear c15
   try clear c15b0
   try clear c15b1
   try clear c16
   try clear c20
   try clear hcz13_0
   try clear hcz17_0
   try clear hcz21_0
   try clear hcz23_0
   try clear hfz13_0
   try clear hfz17_0
   try clear hfz21_0
   try clear hfz23_0
   obtain ⟨kq, x24_5, rfl, HA, HJ5, BK358, BK359, HB⟩ := hcut
   cases kq with
   | zero => exact absurd HA.out (by simp [w11_ShardStays.j0])
   | succ kj5 =>
    have H := HA.out
    clear HA
    simp only [w11_ShardStays.j0] at H
    by_cases c25 : x24_5 = true
    ·
     subst c25
     rw [if_pos rfl] at H
     obtain rfl := Option.some.inj H
     go_wp2
     go_ret
     exact ⟨re_, bl⟩
    ·
     replace c25 := Bool.eq_false_iff.mpr c25
     subst c25
     rw [if_neg (show ¬ (false = true) by decide)] at H
     obtain ⟨ji26, hji26⟩ : ∃ j_ : Int, (mn a1_0 a1_1) = j_ := ⟨_, rfl⟩
     (first | rw [hji26] at H | simp only [hji26] at H)
     have hji26_ : (if a1_1 < a1_0 then a1_1 else a1_0) = ji26 := hji26
     obtain ⟨ji27, hji27⟩ : ∃ j_ : Int, (mx a1_0 a1_1) = j_ := ⟨_, rfl⟩
     (first | rw [hji27] at H | simp only [hji27] at H)
     have hji27_ : (if a1_0 < a1_1 then a1_1 else a1_0) = ji27 := hji27
     obtain ⟨t363, A28, H⟩ := bs H
     try dsimp only at H
     obtain ⟨t367, A29, H⟩ := bs H
     try dsimp only at H
     obtain ⟨t371, A30, H⟩ := bs H
     try dsimp only at H
     by_cases c31 : t371 = true
     ·
      subst c31
      rw [if_pos rfl] at H
      obtain ⟨t372, A32, H⟩ := bs H
      try dsimp only at H
      obtain ⟨t375, A33, H⟩ := bs H
      try dsimp only at H
      obtain ⟨t378, A34, H⟩ := bs H
      try dsimp only at H
      by_cases c35 : t378 = true
      ·
       subst c35
       rw [if_pos rfl] at H
       obtain ⟨t379, A36, H⟩ := bs H
       try dsimp only at H
       obtain ⟨t382, A37, H⟩ := bs H
       try dsimp only at H
       obtain ⟨t385, A38, H⟩ := bs H
       try dsimp only at H
       by_cases c39 : t385 = true
       ·
        subst c39
        rw [if_pos rfl] at H
        obtain ⟨t386, A40, H⟩ := bs H
        try dsimp only at H
        obtain ⟨t389, A41, H⟩ := bs H
        try dsimp only at H
        obtain rfl := Option.some.inj H
        try go_wp2
        replace BK358 := Aside0.mk (blk_drew BK358.out)
        replace BK359 := Aside0.mk (blk_drew BK359.out)
        replace HB := Aside0.mk (below_drew1 HB.out)
        refine start_ (n := 12) (S := fun w' => w'.cell? ⟨gb359, 0, none⟩ = some (.int .i64 a1_0) ∧ w'.cell? ⟨gb359, 1, none⟩ = some (.int .i64 a1_1)) (ds := []) _ (by kernel_rfl) rfl rfl ⟨(blk_cell BK359.out 0).trans rfl, (blk_cell BK359.out 1).trans rfl⟩ (fun hHeld => ?_); refine with_tabW w11_ShardStays.tab5 w11_ShardStays.bits5 (fun HT_ HW_ => ?_)
        generalize wc.drew = w42 at BK358 BK359 HB hHeld ⊢
        refine p1 0 (some 25) ?_
        refine p1 2 (some 27) ?_
        refine p1 5 (some 30) ?_
        refine p1 7 (some 32) ?_
        refine t1 1 (some 26) rfl rfl hHeld (Or.inl ⟨by rfl, by rintro w' ⟨s0, s1⟩; go_simp; with_reducible rfl⟩) ?_
        refine t1 3 (some 28) rfl rfl hHeld (Or.inl ⟨by rfl, by rintro w' ⟨s0, s1⟩; go_simp; with_reducible rfl⟩) ?_
        refine p1 4 (some 29) ?_
        refine p1 10 (some 7) ?_
        refine t1 6 (some 31) rfl rfl hHeld (Or.inl ⟨by rfl, by rintro w' ⟨s0, s1⟩; go_simp; with_reducible rfl⟩) ?_
        refine t1 8 (some 33) rfl rfl hHeld (Or.inl ⟨by rfl, by rintro w' ⟨s0, s1⟩; go_simp; with_reducible rfl⟩) ?_
        refine p1 9 (some 34) ?_
        refine p1 11 (some 8) ?_
        refine done_ (done_of HT_.out (by kernel_rfl)) ?_
        have hnb43 := NB358_359.out
        have hnc43 := NB359_358.out
        obtain ⟨hcz44_0, hfz44_0⟩ := z1 BK358
        try go_wp2_with (first | (refine gL (some 38) rfl Try.func21 #[.agg #[.slice A0_0 l0_0.length c0_0], .int .i64 ji26, .slice A2 l2.length c2] ?_ (hargs := by (try simp only [List.map_toArray, List.map_cons, List.map_nil]); first | done | (simp only [hji26]; rfl) | rfl); (with_reducible refine (shard_Prune.calls kj5 _ _ l0_0 ji26 _ _ l2 t363 _ ?side1 ?side2 ?side3 ?side4 A28.out).mono ?_); (case side1 => exact uC <| (Kd.C_below HR0_0.out HB.out)); (case side2 => exact HC0_0.out); (case side3 => exact uC <| (Kd.C_below HR2.out HB.out)); (case side4 => exact HC2.out); rintro e w45 ⟨v364, rfl, ho0, hb⟩; refine ⟨_, rfl, ?_⟩; have HO365 := Aside0.mk (Kd.S_lower ho0 (below_size bl)); replace BK358 := cB BK358 hb; replace BK359 := cB BK359 hb; replace HB := Aside0.mk (below_step bl hb); (try clear hb); (try clear ho0)) | ((with_reducible refine gate_dst (N := 9) rfl ?_); (try (refine gate_guard (by rfl) ?_; dsimp only)); refine bx (N := 9) #[.slice none 0 0] 24 ?_; intro gb366 hg w46 hbox hb; replace HO365 := cS HO365 hb; have BK366 := Aside0.mk (hbox); have GW366 := gw hg bl; have GE366 := GW366; replace HB := Aside0.mk (below_step bl hb); have NB358_366 := Aside0.mk ((by rw [hg]; exact Nat.ne_of_lt (blk_lt (g := gb358) (o := .cells #[.slice A0_0 l0_0.length c0_0] 24 (0, 0)) (uB BK358.out)) : gb358 ≠ gb366)); have NB366_358 := Aside0.mk ((by rw [hg]; exact Nat.ne_of_gt (blk_lt (g := gb358) (o := .cells #[.slice A0_0 l0_0.length c0_0] 24 (0, 0)) (uB BK358.out)) : gb366 ≠ gb358)); replace BK358 := cB BK358 hb; have NB359_366 := Aside0.mk ((by rw [hg]; exact Nat.ne_of_lt (blk_lt (g := gb359) (o := .cells #[.int .i64 a1_0, .int .i64 a1_1] 47 (0, 0)) (uB BK359.out)) : gb359 ≠ gb366)); have NB366_359 := Aside0.mk ((by rw [hg]; exact Nat.ne_of_gt (blk_lt (g := gb359) (o := .cells #[.int .i64 a1_0, .int .i64 a1_1] 47 (0, 0)) (uB BK359.out)) : gb366 ≠ gb359)); replace BK359 := cB BK359 hb; clear hb hbox hg; obtain ⟨Ao47, co47, eo47⟩ := Kd.S_slice HO365.out; subst eo47; have hnb48 := NB366_358.out; have hnc48 := NB358_366.out; have hnb49 := NB366_359.out; have hnc49 := NB359_366.out; obtain ⟨hcz50_0, hfz50_0⟩ := z1 BK366) | (refine gL (some 42) rfl Try.func21 #[.agg #[.slice Ao47 t363.length co47], .int .i64 ji27, .slice A2 l2.length c2] ?_ (hargs := by (try simp only [List.map_toArray, List.map_cons, List.map_nil]); first | done | (simp only [hji27]; rfl) | rfl); (with_reducible refine (shard_Prune.calls kj5 _ _ t363 ji27 _ _ l2 t367 _ ?side1 ?side2 ?side3 ?side4 A29.out).mono ?_); (case side1 => refine (Kd.S_reads' (e := 59) (base := w.heap.size) (ok := fun k_ => True) (n := t363.length) (c := co47) ?_).2.2; exact (by exact uS <| (Kd.S_mono (Kd.S_far (p := ⟨gb366, 0, none⟩) (Kd.S_types HO365.out BK366.out (by decide)) (fun _ hk => hk.2) (.slice Ao47 t363.length co47)) (fun _ h_ => h_.1)))); (case side2 => exact (Kd.S_reads' HO365.out).2.1); (case side3 => exact Kd.C_below HR2.out bl); (case side4 => exact HC2.out); rintro e w51 ⟨v368, rfl, ho0, hb⟩; refine ⟨_, rfl, ?_⟩; have HO369 := Aside0.mk (Kd.S_lower (Kd.S_new' ho0 (Kd.S_lt (by exact uS <| (Kd.S_mono (Kd.S_far (p := ⟨gb366, 0, none⟩) (Kd.S_types HO365.out BK366.out (by decide)) (fun _ hk => hk.2) (.slice Ao47 t363.length co47)) (fun _ h_ => h_.1))))) (below_size bl)); replace HO365 := Aside0.mk (Kd.S_elder' (by exact uS <| (Kd.S_mono (Kd.S_far (p := ⟨gb366, 0, none⟩) (Kd.S_types HO365.out BK366.out (by decide)) (fun _ hk => hk.2) (.slice Ao47 t363.length co47)) (fun _ h_ => h_.1))) (Kd.S_base ho0) hb); replace BK358 := Aside0.mk (blk_below (g := gb358) (o := .cells #[.slice A0_0 l0_0.length c0_0] 24 (0, 0)) (by (with_reducible repeat (first | refine blk_drewN ?_ _ | refine blk_drew ?_ | refine blk_alloc ?_ _)); refine blk_far ?_ NB358_366.out _; exact uB <| BK358.out) hb); replace BK359 := Aside0.mk (blk_below (g := gb359) (o := .cells #[.int .i64 a1_0, .int .i64 a1_1] 47 (0, 0)) (by (with_reducible repeat (first | refine blk_drewN ?_ _ | refine blk_drew ?_ | refine blk_alloc ?_ _)); refine blk_far ?_ NB359_366.out _; exact uB <| BK359.out) hb); replace BK366 := Aside0.mk (blk_below (g := gb366) (o := .cells #[.slice Ao47 t363.length co47] 24 (0, 0)) (by (with_reducible repeat (first | refine blk_drewN ?_ _ | refine blk_drew ?_ | refine blk_alloc ?_ _)); refine blk_put (cs := #[.slice none 0 0]) ?_ 0 _ rfl; exact uB <| BK366.out) hb); replace HB := Aside0.mk (below_step bl hb); (try clear hb); (try clear ho0)) | ((with_reducible refine gate_dst (N := 10) rfl ?_); (try (refine gate_guard (by rfl) ?_; dsimp only)); refine bx (N := 10) #[.slice none 0 0] 24 ?_; intro gb370 hg w52 hbox hb; replace HO365 := cS HO365 hb; replace HO369 := cS HO369 hb; have BK370 := Aside0.mk (hbox); have GW370 := gw hg bl; have GE370 := GW370; replace HB := Aside0.mk (below_step bl hb); have NB358_370 := Aside0.mk ((by rw [hg]; exact Nat.ne_of_lt (blk_lt (g := gb358) (o := .cells #[.slice A0_0 l0_0.length c0_0] 24 (0, 0)) (uB BK358.out)) : gb358 ≠ gb370)); have NB370_358 := Aside0.mk ((by rw [hg]; exact Nat.ne_of_gt (blk_lt (g := gb358) (o := .cells #[.slice A0_0 l0_0.length c0_0] 24 (0, 0)) (uB BK358.out)) : gb370 ≠ gb358)); replace BK358 := cB BK358 hb; have NB359_370 := Aside0.mk ((by rw [hg]; exact Nat.ne_of_lt (blk_lt (g := gb359) (o := .cells #[.int .i64 a1_0, .int .i64 a1_1] 47 (0, 0)) (uB BK359.out)) : gb359 ≠ gb370)); have NB370_359 := Aside0.mk ((by rw [hg]; exact Nat.ne_of_gt (blk_lt (g := gb359) (o := .cells #[.int .i64 a1_0, .int .i64 a1_1] 47 (0, 0)) (uB BK359.out)) : gb370 ≠ gb359)); replace BK359 := cB BK359 hb; have NB366_370 := Aside0.mk ((by rw [hg]; exact Nat.ne_of_lt (blk_lt (g := gb366) (o := .cells #[.slice Ao47 t363.length co47] 24 (0, 0)) (uB BK366.out)) : gb366 ≠ gb370)); have NB370_366 := Aside0.mk ((by rw [hg]; exact Nat.ne_of_gt (blk_lt (g := gb366) (o := .cells #[.slice Ao47 t363.length co47] 24 (0, 0)) (uB BK366.out)) : gb370 ≠ gb366)); replace BK366 := cB BK366 hb; clear hb hbox hg; obtain ⟨Ao53, co53, eo53⟩ := Kd.S_slice HO369.out; subst eo53; have hnb54 := NB370_358.out; have hnc54 := NB358_370.out; have hnb55 := NB370_359.out; have hnc55 := NB359_370.out; have hnb56 := NB370_366.out; have hnc56 := NB366_370.out; obtain ⟨hcz57_0, hfz57_0⟩ := z1 BK370))
        have n0_ : Aside0 (Kd.S k59 59 (w52.setCell ⟨gb370, 0, none⟩ (.slice Ao53 t367.length co53)) w.heap.size (fun k_ => some k_ ≠ (.slice Ao53 t367.length co53 : Value).ownBlock) (.slice Ao47 t363.length co47) t363) := ⟨by exact uS <| Kd.S_mono (Kd.S_far (p := ⟨gb370, 0, none⟩) (Kd.S_types HO365.out BK370.out (by decide)) (fun _ hk => hk.2) (.slice Ao53 t367.length co53)) (fun _ hk => hk.1.2)⟩
        have n1_ : Aside0 (Kd.S k59 59 (w52.setCell ⟨gb370, 0, none⟩ (.slice Ao53 t367.length co53)) w.heap.size (fun k_ => some k_ ≠ (.slice Ao47 t363.length co47 : Value).ownBlock) (.slice Ao53 t367.length co53) t367) := ⟨by exact uS <| Kd.S_mono (Kd.S_far (p := ⟨gb370, 0, none⟩) (Kd.S_types HO369.out BK370.out (by decide)) (fun _ hk => hk.2) (.slice Ao53 t367.length co53)) (fun _ hk => hk.1.2)⟩
        have n2_ : Aside0 ((w52.setCell ⟨gb370, 0, none⟩ (.slice Ao53 t367.length co53)).heap[gb358]? = some (.cells #[.slice A0_0 l0_0.length c0_0] 24 (0, 0))) := ⟨by (with_reducible repeat (first | refine blk_drewN ?_ _ | refine blk_drew ?_ | refine blk_alloc ?_ _)); refine blk_far ?_ NB358_370.out _; exact uB <| BK358.out⟩
        have n3_ : Aside0 ((w52.setCell ⟨gb370, 0, none⟩ (.slice Ao53 t367.length co53)).heap[gb359]? = some (.cells #[.int .i64 a1_0, .int .i64 a1_1] 47 (0, 0))) := ⟨by (with_reducible repeat (first | refine blk_drewN ?_ _ | refine blk_drew ?_ | refine blk_alloc ?_ _)); refine blk_far ?_ NB359_370.out _; exact uB <| BK359.out⟩
        have n4_ : Aside0 ((w52.setCell ⟨gb370, 0, none⟩ (.slice Ao53 t367.length co53)).heap[gb366]? = some (.cells #[.slice Ao47 t363.length co47] 24 (0, 0))) := ⟨by (with_reducible repeat (first | refine blk_drewN ?_ _ | refine blk_drew ?_ | refine blk_alloc ?_ _)); refine blk_far ?_ NB366_370.out _; exact uB <| BK366.out⟩
        have n5_ : Aside0 ((w52.setCell ⟨gb370, 0, none⟩ (.slice Ao53 t367.length co53)).heap[gb370]? = some (.cells #[.slice Ao53 t367.length co53] 24 (0, 0))) := ⟨by (with_reducible repeat (first | refine blk_drewN ?_ _ | refine blk_drew ?_ | refine blk_alloc ?_ _)); refine blk_put (cs := #[.slice none 0 0]) ?_ 0 _ rfl; exact uB <| BK370.out⟩
        have n6_ : Aside0 (Below w.heap.size w (w52.setCell ⟨gb370, 0, none⟩ (.slice Ao53 t367.length co53))) := ⟨bl⟩
        (try clear HO365)
        (try clear HO369)
        (try clear BK358)
        (try clear BK359)
        (try clear BK366)
        (try clear BK370)
        (try clear HB)
        generalize (w52.setCell ⟨gb370, 0, none⟩ (.slice Ao53 t367.length co53)) = w58 at n0_ n1_ n2_ n3_ n4_ n5_ n6_ ⊢
        have HO365 := n0_
        have HO369 := n1_
        have BK358 := n2_
        have BK359 := n3_
        have BK366 := n4_
        have BK370 := n5_
        have HB := n6_
        clear n0_ n1_ n2_ n3_ n4_ n5_ n6_
        replace HO365 := Aside0.mk (Kd.S_drew HO365.out)
        replace HO369 := Aside0.mk (Kd.S_drew HO369.out)
        replace BK358 := Aside0.mk (blk_drew BK358.out)
        replace BK359 := Aside0.mk (blk_drew BK359.out)
        replace BK366 := Aside0.mk (blk_drew BK366.out)
        replace BK370 := Aside0.mk (blk_drew BK370.out)
        replace HB := Aside0.mk (below_drew1 HB.out)
        refine start_ (n := 33) (S := fun w' => w'.cell? ⟨gb366, 0, none⟩ = some (.slice Ao47 t363.length co47) ∧ w'.cell? ⟨gb358, 0, none⟩ = some (.slice A0_0 l0_0.length c0_0) ∧ w'.cell? ⟨gb370, 0, none⟩ = some (.slice Ao53 t367.length co53)) (ds := []) _ (by kernel_rfl) rfl rfl ⟨(blk_cell BK366.out 0).trans rfl, (blk_cell BK358.out 0).trans rfl, (blk_cell BK370.out 0).trans rfl⟩ (fun hHeld => ?_); refine with_tabW w11_ShardStays.tab8 w11_ShardStays.bits8 (fun HT_ HW_ => ?_)
        generalize w58.drew = w59 at HO365 HO369 BK358 BK359 BK366 BK370 HB hHeld ⊢
        refine t1 0 (some 43) rfl rfl hHeld (Or.inl ⟨by rfl, by rintro w' ⟨s0, s1, s2⟩; go_simp; with_reducible rfl⟩) ?_
        refine o1 1 (some 44) rfl rfl (fun K hK => ?_)
        refine gS Try.func15 #[.agg #[.slice Ao47 t363.length co47]] ?_
        with_reducible refine (r11_Right.calls kj5 _ _ t363 true _ ?side1 ?side2 A30.out).mono ?_
        (case side1 => exact uC <| (Kd.S_reads' HO365.out).2.2)
        (case side2 => exact (Kd.S_reads' HO365.out).2.1)
        rintro e w60 ⟨rfl, hb⟩
        refine ⟨_, rfl, ?_⟩
        replace HO365 := cS HO365 hb
        replace HO369 := cS HO369 hb
        replace BK358 := cB BK358 hb
        replace BK359 := cB BK359 hb
        replace BK366 := cB BK366 hb
        replace BK370 := cB BK370 hb
        replace HB := Aside0.mk (below_step bl hb)
        (try clear hb)
        refine hK.out _ _ ⟨(blk_cell BK366.out 0).trans rfl, (blk_cell BK358.out 0).trans rfl, (blk_cell BK370.out 0).trans rfl⟩ (fun hHeld => ?_)
        clear hK K
        refine norm_ (a' := ?_) ?_ ?_
        rotate_left
        ·
         show Act.put _ (some 44) _ = _
         simp only [Act.put, List.setIfInBounds_toArray, List.set_cons_zero, List.set_cons_succ, i64_w, i32_w]
         rfl
        refine p1 2 (some 45) ?_
        refine p1 4 (some 47) ?_
        refine p1 5 (some 48) ?_
        refine p1 8 (some 51) ?_
        refine p1 9 (some 52) ?_
        refine t1 3 (some 46) rfl rfl hHeld (Or.inl ⟨by rfl, by rintro w' ⟨s0, s1, s2⟩; go_simp; with_reducible rfl⟩) ?_
        refine t1 7 (some 50) rfl rfl hHeld (Or.inl ⟨by rfl, by rintro w' ⟨s0, s1, s2⟩; go_simp; with_reducible rfl⟩) ?_
        refine o1 6 (some 49) rfl rfl (fun K hK => ?_)
        refine goes_ Try.func16 (by kernel_rfl) rfl #[.agg #[.slice Ao47 t363.length co47], .int .i64 ji27, .slice A2 l2.length c2] (by rfl) rfl rfl (by (try simp only [List.map_toArray, List.map_cons, List.map_nil]); first | done | (simp only [hji27]; rfl) | rfl | (simp only [List.length_drop, List.length_take]; rfl)) ?_
        with_reducible refine (shard_Read.calls kj5 _ _ t363 ji27 _ _ l2 t372 _ ?side1 ?side2 ?side3 ?side4 A32.out).mono ?_
        (case side1 => exact uC <| (Kd.S_reads' HO365.out).2.2)
        (case side2 => exact (Kd.S_reads' HO365.out).2.1)
        (case side3 => exact uC <| (Kd.C_below HR2.out HB.out))
        (case side4 => exact HC2.out)
        rintro e w61 ⟨v373, rfl, ho0, hb⟩
        refine ⟨_, rfl, ?_⟩
        replace HO365 := cS HO365 hb
        replace HO369 := cS HO369 hb
        have HO374 := Aside0.mk (Kd.R_lower ho0 (below_size bl))
        replace BK358 := cB BK358 hb
        replace BK359 := cB BK359 hb
        replace BK366 := cB BK366 hb
        replace BK370 := cB BK370 hb
        replace HB := Aside0.mk (below_step bl hb)
        (try clear hb)
        (try clear ho0)
        refine hK.out _ _ ⟨(blk_cell BK366.out 0).trans rfl, (blk_cell BK358.out 0).trans rfl, (blk_cell BK370.out 0).trans rfl⟩ (fun hHeld => ?_)
        clear hK K
        refine norm_ (a' := ?_) ?_ ?_
        rotate_left
        ·
         show Act.put _ (some 49) _ = _
         simp only [Act.put, List.setIfInBounds_toArray, List.set_cons_zero, List.set_cons_succ, i64_w, i32_w]
         rfl
        refine o1 10 (some 53) rfl rfl (fun K hK => ?_)
        refine goes_ Try.func16 (by kernel_rfl) rfl #[.agg #[.slice A0_0 l0_0.length c0_0], .int .i64 ji27, .slice A2 l2.length c2] (by rfl) rfl rfl (by (try simp only [List.map_toArray, List.map_cons, List.map_nil]); first | done | (simp only [hji27]; rfl) | rfl | (simp only [List.length_drop, List.length_take]; rfl)) ?_
        with_reducible refine (shard_Read.calls kj5 _ _ l0_0 ji27 _ _ l2 t375 _ ?side1 ?side2 ?side3 ?side4 A33.out).mono ?_
        (case side1 => exact uC <| (Kd.C_below HR0_0.out HB.out))
        (case side2 => exact HC0_0.out)
        (case side3 => exact uC <| (Kd.C_below HR2.out HB.out))
        (case side4 => exact HC2.out)
        rintro e w62 ⟨v376, rfl, ho0, hb⟩
        refine ⟨_, rfl, ?_⟩
        replace HO365 := cS HO365 hb
        replace HO369 := cS HO369 hb
        have HO377 := Aside0.mk (Kd.R_lower (Kd.R_new' ho0 (Kd.R_lt (uR HO374.out))) (below_size bl))
        replace HO374 := Aside0.mk (Kd.R_elder' (uR HO374.out) (Kd.R_base ho0) hb)
        replace BK358 := cB BK358 hb
        replace BK359 := cB BK359 hb
        replace BK366 := cB BK366 hb
        replace BK370 := cB BK370 hb
        replace HB := Aside0.mk (below_step bl hb)
        (try clear hb)
        (try clear ho0)
        obtain ⟨Ao63, co63, eo63⟩ := Kd.R_slice HO374.out
        (first | subst eo63 | (injection eo63 with f1_ f2_ f3_; have f4_ := f1_.symm; have f5_ := f3_.symm; clear f1_ f2_ f3_; subst f4_; subst f5_))
        obtain ⟨Ao64, co64, eo64⟩ := Kd.R_slice HO377.out
        (first | subst eo64 | (injection eo64 with f1_ f2_ f3_; have f4_ := f1_.symm; have f5_ := f3_.symm; clear f1_ f2_ f3_; subst f4_; subst f5_))
        refine hK.out _ _ ⟨(blk_cell BK366.out 0).trans rfl, (blk_cell BK358.out 0).trans rfl, (blk_cell BK370.out 0).trans rfl⟩ (fun hHeld => ?_)
        clear hK K
        refine norm_ (a' := ?_) ?_ ?_
        rotate_left
        ·
         show Act.put _ (some 53) _ = _
         simp only [Act.put, List.setIfInBounds_toArray, List.set_cons_zero, List.set_cons_succ, i64_w, i32_w]
         rfl
        refine o1 11 (some 54) rfl rfl (fun K hK => ?_)
        refine gS Try.func17 #[.slice Ao63 t372.length co63, .slice Ao64 t375.length co64] ?_
        with_reducible refine (r08_Items.calls kj5 _ _ t372 _ _ t375 true _ ?side1 ?side2 ?side3 ?side4 A34.out).mono ?_
        (case side1 => exact uC <| (Kd.R_reads' HO374.out).2.2)
        (case side2 => exact (Kd.R_reads' HO374.out).2.1)
        (case side3 => exact uC <| (Kd.R_reads' HO377.out).2.2)
        (case side4 => exact (Kd.R_reads' HO377.out).2.1)
        rintro e w' ⟨rfl, ⟨nd, rfl⟩⟩
        refine ⟨_, rfl, ?_⟩
        refine hK.out _ _ ⟨(blk_cell BK366.out 0).trans rfl, (blk_cell BK358.out 0).trans rfl, (blk_cell BK370.out 0).trans rfl⟩ (fun hHeld => ?_)
        clear hK K
        refine norm_ (a' := ?_) ?_ ?_
        rotate_left
        ·
         show Act.put _ (some 54) _ = _
         simp only [Act.put, List.setIfInBounds_toArray, List.set_cons_zero, List.set_cons_succ, i64_w, i32_w]
         rfl
        refine p1 12 (some 55) ?_
        refine p1 13 (some 56) ?_
        refine p1 15 (some 58) ?_
        refine p1 16 (some 59) ?_
        refine p1 19 (some 62) ?_
        refine p1 20 (some 63) ?_
        refine t1 14 (some 57) rfl rfl hHeld (Or.inl ⟨by rfl, by rintro w' ⟨s0, s1, s2⟩; go_simp; with_reducible rfl⟩) ?_
        refine t1 18 (some 61) rfl rfl hHeld (Or.inl ⟨by rfl, by rintro w' ⟨s0, s1, s2⟩; go_simp; with_reducible rfl⟩) ?_
        refine o1 17 (some 60) rfl rfl (fun K hK => ?_)
        refine goes_ Try.func16 (by kernel_rfl) rfl #[.agg #[.slice Ao47 t363.length co47], .int .i64 ji26, .slice A2 l2.length c2] (by rfl) rfl rfl (by (try simp only [List.map_toArray, List.map_cons, List.map_nil]); first | done | (simp only [hji26]; rfl) | rfl | (simp only [List.length_drop, List.length_take]; rfl)) ?_
        with_reducible refine (shard_Read.calls kj5 _ _ t363 ji26 _ _ l2 t379 _ ?side1 ?side2 ?side3 ?side4 A36.out).mono ?_
        (case side1 => exact uC <| (Kd.S_reads' HO365.out).2.2)
        (case side2 => exact (Kd.S_reads' HO365.out).2.1)
        (case side3 => exact (Kd.C_below HR2.out bl))
        (case side4 => exact HC2.out)
        rintro e w65 ⟨v380, rfl, ho0, hb⟩
        refine ⟨_, rfl, ?_⟩
        replace HO365 := cS HO365 hb
        replace HO369 := cS HO369 hb
        have HO381 := Aside0.mk (Kd.R_lower (Kd.R_new' (Kd.R_new' ho0 (Kd.R_lt (uR HO374.out))) (Kd.R_lt (uR HO377.out))) (below_size bl))
        replace HO374 := Aside0.mk (Kd.R_elder' (uR HO374.out) (Kd.R_base ho0) hb)
        replace HO377 := Aside0.mk (Kd.R_elder' (uR HO377.out) (Kd.R_base ho0) hb)
        replace BK358 := cB BK358 hb
        replace BK359 := cB BK359 hb
        replace BK366 := cB BK366 hb
        replace BK370 := cB BK370 hb
        replace HB := Aside0.mk (below_step bl hb)
        (try clear hb)
        (try clear ho0)
        refine hK.out _ _ ⟨(blk_cell BK366.out 0).trans rfl, (blk_cell BK358.out 0).trans rfl, (blk_cell BK370.out 0).trans rfl⟩ (fun hHeld => ?_)
        clear hK K
        refine norm_ (a' := ?_) ?_ ?_
        rotate_left
        ·
         show Act.put _ (some 60) _ = _
         simp only [Act.put, List.setIfInBounds_toArray, List.set_cons_zero, List.set_cons_succ, i64_w, i32_w]
         rfl
        refine o1 21 (some 64) rfl rfl (fun K hK => ?_)
        refine goes_ Try.func16 (by kernel_rfl) rfl #[.agg #[.slice A0_0 l0_0.length c0_0], .int .i64 ji26, .slice A2 l2.length c2] (by rfl) rfl rfl (by (try simp only [List.map_toArray, List.map_cons, List.map_nil]); first | done | (simp only [hji26]; rfl) | rfl | (simp only [List.length_drop, List.length_take]; rfl)) ?_
        with_reducible refine (shard_Read.calls kj5 _ _ l0_0 ji26 _ _ l2 t382 _ ?side1 ?side2 ?side3 ?side4 A37.out).mono ?_
        (case side1 => exact uC <| (Kd.C_below HR0_0.out HB.out))
        (case side2 => exact HC0_0.out)
        (case side3 => exact uC <| (Kd.C_below HR2.out HB.out))
        (case side4 => exact HC2.out)
        rintro e w66 ⟨v383, rfl, ho0, hb⟩
        refine ⟨_, rfl, ?_⟩
        replace HO365 := cS HO365 hb
        replace HO369 := cS HO369 hb
        have HO384 := Aside0.mk (Kd.R_lower (Kd.R_new' (Kd.R_new' (Kd.R_new' ho0 (Kd.R_lt (uR HO374.out))) (Kd.R_lt (uR HO377.out))) (Kd.R_lt (uR HO381.out))) (below_size bl))
        replace HO374 := Aside0.mk (Kd.R_elder' (uR HO374.out) (Kd.R_base ho0) hb)
        replace HO377 := Aside0.mk (Kd.R_elder' (uR HO377.out) (Kd.R_base ho0) hb)
        replace HO381 := Aside0.mk (Kd.R_elder' (uR HO381.out) (Kd.R_base ho0) hb)
        replace BK358 := cB BK358 hb
        replace BK359 := cB BK359 hb
        replace BK366 := cB BK366 hb
        replace BK370 := cB BK370 hb
        replace HB := Aside0.mk (below_step bl hb)
        (try clear hb)
        (try clear ho0)
        obtain ⟨Ao67, co67, eo67⟩ := Kd.R_slice HO381.out
        (first | subst eo67 | (injection eo67 with f1_ f2_ f3_; have f4_ := f1_.symm; have f5_ := f3_.symm; clear f1_ f2_ f3_; subst f4_; subst f5_))
        obtain ⟨Ao68, co68, eo68⟩ := Kd.R_slice HO384.out
        (first | subst eo68 | (injection eo68 with f1_ f2_ f3_; have f4_ := f1_.symm; have f5_ := f3_.symm; clear f1_ f2_ f3_; subst f4_; subst f5_))
        refine hK.out _ _ ⟨(blk_cell BK366.out 0).trans rfl, (blk_cell BK358.out 0).trans rfl, (blk_cell BK370.out 0).trans rfl⟩ (fun hHeld => ?_)
        clear hK K
        refine norm_ (a' := ?_) ?_ ?_
        rotate_left
        ·
         show Act.put _ (some 64) _ = _
         simp only [Act.put, List.setIfInBounds_toArray, List.set_cons_zero, List.set_cons_succ, i64_w, i32_w]
         rfl
        refine o1 22 (some 65) rfl rfl (fun K hK => ?_)
        refine gS Try.func17 #[.slice Ao67 t379.length co67, .slice Ao68 t382.length co68] ?_
        with_reducible refine (r08_Items.calls kj5 _ _ t379 _ _ t382 true _ ?side1 ?side2 ?side3 ?side4 A38.out).mono ?_
        (case side1 => exact uC <| (Kd.R_reads' HO381.out).2.2)
        (case side2 => exact (Kd.R_reads' HO381.out).2.1)
        (case side3 => exact uC <| (Kd.R_reads' HO384.out).2.2)
        (case side4 => exact (Kd.R_reads' HO384.out).2.1)
        rintro e w' ⟨rfl, ⟨nd, rfl⟩⟩
        refine ⟨_, rfl, ?_⟩
        refine hK.out _ _ ⟨(blk_cell BK366.out 0).trans rfl, (blk_cell BK358.out 0).trans rfl, (blk_cell BK370.out 0).trans rfl⟩ (fun hHeld => ?_)
        clear hK K
        refine norm_ (a' := ?_) ?_ ?_
        rotate_left
        ·
         show Act.put _ (some 65) _ = _
         simp only [Act.put, List.setIfInBounds_toArray, List.set_cons_zero, List.set_cons_succ, i64_w, i32_w]
         rfl
        refine p1 23 (some 66) ?_
        refine p1 24 (some 67) ?_
        refine p1 27 (some 70) ?_
        refine p1 28 (some 71) ?_
        refine t1 25 (some 68) rfl rfl hHeld (Or.inl ⟨by rfl, by rintro w' ⟨s0, s1, s2⟩; go_simp; with_reducible rfl⟩) ?_
        refine t1 26 (some 69) rfl rfl hHeld (Or.inl ⟨by rfl, by rintro w' ⟨s0, s1, s2⟩; go_simp; with_reducible rfl⟩) ?_
        refine o1 29 (some 72) rfl rfl (fun K hK => ?_)
        refine goes_ Try.func21 (by kernel_rfl) rfl #[.agg #[.slice A0_0 l0_0.length c0_0], .int .i64 ji27, .slice A2 l2.length c2] (by rfl) rfl rfl (by (try simp only [List.map_toArray, List.map_cons, List.map_nil]); first | done | (simp only [hji27]; rfl) | rfl | (simp only [List.length_drop, List.length_take]; rfl)) ?_
        with_reducible refine (shard_Prune.calls kj5 _ _ l0_0 ji27 _ _ l2 t386 _ ?side1 ?side2 ?side3 ?side4 A40.out).mono ?_
        (case side1 => exact (Kd.C_below HR0_0.out bl))
        (case side2 => exact HC0_0.out)
        (case side3 => exact (Kd.C_below HR2.out bl))
        (case side4 => exact HC2.out)
        rintro e w69 ⟨v387, rfl, ho0, hb⟩
        refine ⟨_, rfl, ?_⟩
        replace HO374 := cR HO374 hb
        replace HO377 := cR HO377 hb
        replace HO381 := cR HO381 hb
        replace HO384 := cR HO384 hb
        have HO388 := Aside0.mk (Kd.S_lower (Kd.S_new' (Kd.S_new' ho0 (Kd.S_lt (uS HO365.out))) (Kd.S_lt (uS HO369.out))) (below_size bl))
        replace HO365 := Aside0.mk (Kd.S_elder' (uS HO365.out) (Kd.S_base ho0) hb)
        replace HO369 := Aside0.mk (Kd.S_elder' (uS HO369.out) (Kd.S_base ho0) hb)
        replace BK358 := cB BK358 hb
        replace BK359 := cB BK359 hb
        replace BK366 := cB BK366 hb
        replace BK370 := cB BK370 hb
        replace HB := Aside0.mk (below_step bl hb)
        (try clear hb)
        (try clear ho0)
        obtain ⟨Ao70, co70, eo70⟩ := Kd.S_slice HO388.out
        (first | subst eo70 | (injection eo70 with f1_ f2_ f3_; have f4_ := f1_.symm; have f5_ := f3_.symm; clear f1_ f2_ f3_; subst f4_; subst f5_))
        refine hK.out _ _ ⟨(blk_cell BK366.out 0).trans rfl, (blk_cell BK358.out 0).trans rfl, (blk_cell BK370.out 0).trans rfl⟩ (fun hHeld => ?_)
        clear hK K
        refine norm_ (a' := ?_) ?_ ?_
        rotate_left
        ·
         show Act.put _ (some 72) _ = _
         simp only [Act.put, List.setIfInBounds_toArray, List.set_cons_zero, List.set_cons_succ, i64_w, i32_w]
         rfl
        refine o1 30 (some 73) rfl rfl (fun K hK => ?_)
        refine gS Try.func13 #[.agg #[.slice Ao53 t367.length co53], .agg #[.slice Ao70 t386.length co70]] ?_
        with_reducible refine (r11_Same.calls kj5 _ _ t367 _ _ t386 t389 _ ?side1 ?side2 ?side3 ?side4 A41.out).mono ?_
        (case side1 => exact uC <| (Kd.S_reads' HO369.out).2.2)
        (case side2 => exact (Kd.S_reads' HO369.out).2.1)
        (case side3 => exact uC <| (Kd.S_reads' HO388.out).2.2)
        (case side4 => exact (Kd.S_reads' HO388.out).2.1)
        rintro e w71 ⟨rfl, hb⟩
        refine ⟨_, rfl, ?_⟩
        replace HO365 := cS HO365 hb
        replace HO369 := cS HO369 hb
        replace HO374 := cR HO374 hb
        replace HO377 := cR HO377 hb
        replace HO381 := cR HO381 hb
        replace HO384 := cR HO384 hb
        replace HO388 := cS HO388 hb
        replace BK358 := cB BK358 hb
        replace BK359 := cB BK359 hb
        replace BK366 := cB BK366 hb
        replace BK370 := cB BK370 hb
        replace HB := Aside0.mk (below_step bl hb)
        (try clear hb)
        refine hK.out _ _ ⟨(blk_cell BK366.out 0).trans rfl, (blk_cell BK358.out 0).trans rfl, (blk_cell BK370.out 0).trans rfl⟩ (fun hHeld => ?_)
        clear hK K
        refine norm_ (a' := ?_) ?_ ?_
        rotate_left
        ·
         show Act.put _ (some 73) _ = _
         simp only [Act.put, List.setIfInBounds_toArray, List.set_cons_zero, List.set_cons_succ, i64_w, i32_w]
         rfl
        refine p1 31 (some 74) ?_
        refine p1 32 (some 6) ?_
        refine done_ (done_of HT_.out (by kernel_rfl)) ?_
        try go_wp2
        go_ret
        exact ⟨by first | rfl | (simp [errW_none, errW_some] <;> rfl) | (simp only [← hji26, ← hji27]; first | rfl | (simp [errW_none, errW_some] <;> rfl)) | (simp [*, errW_none, errW_some] <;> rfl), bl⟩
       ·
        replace c39 := Bool.eq_false_iff.mpr c39
        subst c39
        rw [if_neg (show ¬ (false = true) by decide)] at H
        exact absurd H (by simp)
      ·
       replace c35 := Bool.eq_false_iff.mpr c35
       subst c35
       rw [if_neg (show ¬ (false = true) by decide)] at H
       exact absurd H (by simp)
     ·
      replace c31 := Bool.eq_false_iff.mpr c31
      subst c31
      rw [if_neg (show ¬ (false = true) by decide)] at H
      exact absurd H (by simp)
 ·
  replace c5 := Bool.eq_false_iff.mpr c5
  subst c5
  rw [if_neg (show ¬ (false = true) by decide)] at H
  exact absurd H (by simp)
def w11_ShardStays.Pure : Prop := ∀ (x0 : S24) (x1 : S47) (l2 : List (S39)), Q24 x0 → Q47 x1 → (l2.length ≤ maxLen ∧ ∀ x0_ ∈ l2, Q39 x0_) → l2.length * 16 ≤ 140737488351232 → ∃ k, w11_ShardStays.f k x0.f0 x1.f0 x1.f1 l2 = some true
theorem w11_ShardStays.walk (P : w11_ShardStays.Pure) (x0 : S24) (x1 : S47) (l2 : List (S39)) (w : World) (A0_0 : Option Addr) (c0_0 : Nat) (hr0_0 : Kd.C k59 w A0_0 x0.f0.length x0.f0) (hc0_0 : x0.f0.length ≤ c0_0) (A2 : Option Addr) (c2 : Nat) (hr2 : Kd.C k39 w A2 l2.length l2) (hc2 : l2.length ≤ c2) (q0 : Q24 x0) (q1 : Q47 x1) (q2 : l2.length ≤ maxLen ∧ ∀ x0_ ∈ l2, Q39 x0_) (y2 : l2.length * 16 ≤ 140737488351232) :
 Calls Try.prog 6 #[.agg #[.slice A0_0 x0.f0.length c0_0], .agg #[.int .i64 x1.f0, .int .i64 x1.f1], .slice A2 l2.length c2] w fun e w' => e = .returned (.bool true) ∧ Below w.heap.size w w' := by
 obtain ⟨k, h⟩ := P x0 x1 l2 q0 q1 q2 y2
 refine (w11_ShardStays.calls k A0_0 c0_0 x0.f0 x1.f0 x1.f1 A2 c2 l2 true w hr0_0 hc0_0 hr2 hc2 h).mono ?_
 rintro e w' ⟨rfl, hd⟩
 exact ⟨rfl, hd⟩
end Go.Proofs.Ytofaindjbhmopaa.X
