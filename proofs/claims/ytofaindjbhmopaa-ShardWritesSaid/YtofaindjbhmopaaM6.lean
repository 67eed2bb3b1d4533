/- Printed by a program of this session's own: what functions of the program compute, and that the machine computes it. No condition of its own. -/
import Derived.Test.YtofaindjbhmopaaM3
import Derived.Test.YtofaindjbhmopaaM5
import Derived.Test.YtofaindjbhmopaaM4
namespace Go.Proofs.Ytofaindjbhmopaa.X
open Go.RowKit Go.Proofs.YtofaindjbhmopaaW.PrintWords Go.Proofs.YtofaindjbhmopaaW.PrintLast Go.Proofs.YtofaindjbhmopaaW.PrintMore
attribute [local go_sem] max2_int min2_int max_two min_two max_three min_three max_four min_four
set_option linter.unusedVariables false
set_option linter.unusedSimpArgs false
set_option maxHeartbeats 8000000
set_option maxRecDepth 100000
def chain_Fold.f (k : Nat) (l0 : List (S82)) (a1 : Int) (a2 : Int) : Option ((List (S82)) × Int) := if (l0.length : Int) > 0 then (if 0 ≤ (wrap64 ((l0.length : Int) - 1)) then (if (wrap64 ((l0.length : Int) - 1)) < (l0.length : Int) then ((cell_Fold.f k ((rd_T82 l0 (wrap64 ((l0.length : Int) - 1))).f1.f0) ((rd_T82 l0 (wrap64 ((l0.length : Int) - 1))).f1.f1.f0) ((rd_T82 l0 (wrap64 ((l0.length : Int) - 1))).f1.f1.f1) ((rd_T82 l0 (wrap64 ((l0.length : Int) - 1))).f1.f2) ((rd_T82 l0 (wrap64 ((l0.length : Int) - 1))).f1.f3) a2).bind fun bt171 => ((chain_Put.f k l0 (([(⟨a1, (⟨bt171.1, (⟨bt171.2.1, bt171.2.2.1⟩ : S50), bt171.2.2.2.1, bt171.2.2.2.2⟩ : S52)⟩ : S82)] : List (S82)))).bind fun bt179 => (some (bt179.1, bt179.2)))) else (none)) else (none)) else ((cell_Fold.f k 0 0 false 0 0 a2).bind fun bt183 => ((chain_Put.f k l0 (([(⟨a1, (⟨bt183.1, (⟨bt183.2.1, bt183.2.2.1⟩ : S50), bt183.2.2.2.1, bt183.2.2.2.2⟩ : S52)⟩ : S82)] : List (S82)))).bind fun bt191 => (some (bt191.1, bt191.2))))
theorem chain_Fold.mono : ∀ a0 a1 a2 k, LeO (chain_Fold.f k a0 a1 a2) (chain_Fold.f (k + 1) a0 a1 a2) := by
 intro a0 a1 a2 k
 unfold chain_Fold.f
 exact lo
instance chain_Fold.mI {a0 a1 a2 k} : LeC (chain_Fold.f k a0 a1 a2) (chain_Fold.f (k + 1) a0 a1 a2) := ⟨chain_Fold.mono _ _ _ _⟩
theorem chain_Fold.calls (k : Nat) (A0 : Option Addr) (c0 : Nat) (l0 : List (S82)) (a1 : Int) (a2 : Int) (r1 : List (S82)) (r2 : Int) (w : World) (hr0 : Kd.C k82 w A0 l0.length l0) (hc0 : l0.length ≤ c0) (h : chain_Fold.f k l0 a1 a2 = some (r1, r2)) :
 Calls Try.prog 27 #[.slice A0 l0.length c0, .int .i64 a1, .int .i64 a2] w fun e w' => ∃ v0_ : Value, e = .returned (.tuple #[v0_, .int .i64 r2]) ∧ Kd.R k82 82 w' w.heap.size (fun _ => True) v0_ r1 ∧ Below w.heap.size w w' := by
 have hu52 := Try.underlying52
 have hu82 := Try.underlying82
 have HR0 := Aside0.mk hr0
 have HC0 := Aside0.mk hc0
 clear hr0 hc0
 have HB := Aside0.mk (Below.refl w.heap.size w)
 have H : (if (l0.length : Int) > 0 then (if 0 ≤ (wrap64 ((l0.length : Int) - 1)) then (if (wrap64 ((l0.length : Int) - 1)) < (l0.length : Int) then ((cell_Fold.f k ((rd_T82 l0 (wrap64 ((l0.length : Int) - 1))).f1.f0) ((rd_T82 l0 (wrap64 ((l0.length : Int) - 1))).f1.f1.f0) ((rd_T82 l0 (wrap64 ((l0.length : Int) - 1))).f1.f1.f1) ((rd_T82 l0 (wrap64 ((l0.length : Int) - 1))).f1.f2) ((rd_T82 l0 (wrap64 ((l0.length : Int) - 1))).f1.f3) a2).bind fun bt171 => ((chain_Put.f k l0 (([(⟨a1, (⟨bt171.1, (⟨bt171.2.1, bt171.2.2.1⟩ : S50), bt171.2.2.2.1, bt171.2.2.2.2⟩ : S52)⟩ : S82)] : List (S82)))).bind fun bt179 => (some (bt179.1, bt179.2)))) else (none)) else (none)) else ((cell_Fold.f k 0 0 false 0 0 a2).bind fun bt183 => ((chain_Put.f k l0 (([(⟨a1, (⟨bt183.1, (⟨bt183.2.1, bt183.2.2.1⟩ : S50), bt183.2.2.2.1, bt183.2.2.2.2⟩ : S52)⟩ : S82)] : List (S82)))).bind fun bt191 => (some (bt191.1, bt191.2))))) = some (r1, r2) := h
 clear h
 by_cases c4 : (l0.length : Int) > 0
 ·
  rw [if_pos c4] at H
  have c4b0 : decide (0 < (l0.length : Int)) = true := decide_eq_true c4
  have c4b1 : decide (0 < l0.length) = true := decide_eq_true (by omega)
  clear c4
  obtain ⟨ji5, hji5⟩ : ∃ j_ : Int, (wrap64 ((l0.length : Int) - 1)) = j_ := ⟨_, rfl⟩
  (first | rw [hji5] at H | simp only [hji5] at H)
  have hji5w : (IntKind.i64.wrap ((l0.length : Int) - 1)) = ji5 := (i64_w _).trans hji5
  obtain ⟨c6b0, H⟩ := gdd H
  obtain ⟨c7b0, H⟩ := gdd H
  obtain ⟨⟨t171, t172, t173, t174, t175⟩, A8, H⟩ := bs H
  try dsimp only at H
  obtain ⟨y176, hy176⟩ : ∃ y_ : List (S82), y_ = (([(⟨a1, (⟨t171, (⟨t172, t173⟩ : S50), t174, t175⟩ : S52)⟩ : S82)] : List (S82))) := ⟨_, rfl⟩
  replace H : ((chain_Put.f k l0 y176).bind fun bt179 => (some (bt179.1, bt179.2))) = some (r1, r2) := by first | (rw [hy176]; with_reducible exact H) | (have H2_ := (Option.bind_some _ _).symm.trans H; rw [hy176]; with_reducible exact H2_) | (have H2_ := (Option.bind_some _ _).symm.trans H; with_reducible exact H2_) | with_reducible exact H | (rw [hy176]; exact H) | exact H
  have Ny176 := Aside0.mk hy176
  clear hy176
  obtain ⟨⟨t179, t182⟩, A9, H⟩ := bs H
  try dsimp only at H
  simp only [Option.some.injEq, Prod.mk.injEq] at H
  obtain ⟨rfl, rfl⟩ := H
  go_enter Try.func27, Try.ntmps27
  go_wp2_with (first | ((with_reducible refine gate_dst (N := 8) rfl ?_); refine bx (N := 8) #[.int .i64 0, .int .i64 0, .bool false, .int .i64 0, .int .i64 0] 52 ?_; intro gb169 hg w10 hbox hb; have BK169 := Aside0.mk (hbox); have GW169 := gw hg (uW HB.out); have GE169 := GW169; replace HB := cW HB hb; clear hb hbox hg; have p170 : 0 ≤ ((ji5) : Int) := od; have q170 : (ji5) < (l0.length : Int) := od; obtain ⟨ad170, e170, hx170_0, hx170_1, hx170_2, hx170_3, hx170_4, hx170_5⟩ := at_T82 HR0.out (ji5) p170 q170; cases e170; replace hx170_0 := kc HB hx170_0; replace hx170_1 := kc HB hx170_1; replace hx170_2 := kc HB hx170_2; replace hx170_3 := kc HB hx170_3; replace hx170_4 := kc HB hx170_4; replace hx170_5 := kc HB hx170_5; replace p170 := eq_true p170; replace q170 := eq_true q170; obtain ⟨hcz11_0, hcz11_1, hcz11_2, hcz11_3, hcz11_4, hfz11_0, hfz11_1, hfz11_2, hfz11_3, hfz11_4⟩ := z5 BK169) | ((with_reducible refine gate_store (t := 52) (p := 8) rfl ?_); refine store_event (t := 52) (p := 8) (v := ?vo_w12) (w1 := (((((w10.setCell ⟨gb169, 0, none⟩ (.int .i64 ((rd_T82 l0 (ji5)).f1.f0))).setCell ⟨gb169, 1, none⟩ (.int .i64 ((rd_T82 l0 (ji5)).f1.f1.f0))).setCell ⟨gb169, 2, none⟩ (.bool ((rd_T82 l0 (ji5)).f1.f1.f1))).setCell ⟨gb169, 3, none⟩ (.int .i64 ((rd_T82 l0 (ji5)).f1.f2))).setCell ⟨gb169, 4, none⟩ (.int .i64 ((rd_T82 l0 (ji5)).f1.f3)))) ?hg ?ho ?hn ?hr ?_; (case ho => rfl); (case hg => rfl); (case hn => rfl); (case hr => first | (go_simp; done) | (go_simp; rfl)); intro w12 hw; have n0_ : Aside0 (w12.heap[gb169]? = some (.cells #[.int .i64 ((rd_T82 l0 (ji5)).f1.f0), .int .i64 ((rd_T82 l0 (ji5)).f1.f1.f0), .bool ((rd_T82 l0 (ji5)).f1.f1.f1), .int .i64 ((rd_T82 l0 (ji5)).f1.f2), .int .i64 ((rd_T82 l0 (ji5)).f1.f3)] 52 (0, 0))) := ⟨(by rw [hw]; exact (by (with_reducible repeat (first | refine blk_drewN ?_ _ | refine blk_drew ?_ | refine blk_alloc ?_ _)); refine blk_put (cs := #[.int .i64 ((rd_T82 l0 (ji5)).f1.f0), .int .i64 ((rd_T82 l0 (ji5)).f1.f1.f0), .bool ((rd_T82 l0 (ji5)).f1.f1.f1), .int .i64 ((rd_T82 l0 (ji5)).f1.f2), .int .i64 0]) ?_ 4 _ rfl; (with_reducible repeat (first | refine blk_drewN ?_ _ | refine blk_drew ?_ | refine blk_alloc ?_ _)); refine blk_put (cs := #[.int .i64 ((rd_T82 l0 (ji5)).f1.f0), .int .i64 ((rd_T82 l0 (ji5)).f1.f1.f0), .bool ((rd_T82 l0 (ji5)).f1.f1.f1), .int .i64 0, .int .i64 0]) ?_ 3 _ rfl; (with_reducible repeat (first | refine blk_drewN ?_ _ | refine blk_drew ?_ | refine blk_alloc ?_ _)); refine blk_put (cs := #[.int .i64 ((rd_T82 l0 (ji5)).f1.f0), .int .i64 ((rd_T82 l0 (ji5)).f1.f1.f0), .bool false, .int .i64 0, .int .i64 0]) ?_ 2 _ rfl; (with_reducible repeat (first | refine blk_drewN ?_ _ | refine blk_drew ?_ | refine blk_alloc ?_ _)); refine blk_put (cs := #[.int .i64 ((rd_T82 l0 (ji5)).f1.f0), .int .i64 0, .bool false, .int .i64 0, .int .i64 0]) ?_ 1 _ rfl; (with_reducible repeat (first | refine blk_drewN ?_ _ | refine blk_drew ?_ | refine blk_alloc ?_ _)); refine blk_put (cs := #[.int .i64 0, .int .i64 0, .bool false, .int .i64 0, .int .i64 0]) ?_ 0 _ rfl; exact uB <| BK169.out))⟩; have n1_ : Aside0 (Below w.heap.size w w12) := ⟨(by rw [hw]; exact bl)⟩; clear hw; clear BK169; clear HB; have BK169 := n0_; have HB := n1_; clear n0_ n1_; obtain ⟨hcz13_0, hcz13_1, hcz13_2, hcz13_3, hcz13_4, hfz13_0, hfz13_1, hfz13_2, hfz13_3, hfz13_4⟩ := z5 BK169) | (refine gL (some 23) rfl Try.func50 #[.agg #[.int .i64 ((rd_T82 l0 (ji5)).f1.f0), .int .i64 ((rd_T82 l0 (ji5)).f1.f1.f0), .bool ((rd_T82 l0 (ji5)).f1.f1.f1), .int .i64 ((rd_T82 l0 (ji5)).f1.f2), .int .i64 ((rd_T82 l0 (ji5)).f1.f3)], .int .i64 a2] ?_ (hargs := by (try simp only [List.map_toArray, List.map_cons, List.map_nil]); first | done | (simp only [hji5]; rfl) | rfl); (with_reducible refine (cell_Fold.calls k ((rd_T82 l0 (ji5)).f1.f0) ((rd_T82 l0 (ji5)).f1.f1.f0) ((rd_T82 l0 (ji5)).f1.f1.f1) ((rd_T82 l0 (ji5)).f1.f2) ((rd_T82 l0 (ji5)).f1.f3) a2 t171 t172 t173 t174 t175 _ A8.out).mono ?_); rintro e w14 ⟨rfl, hb⟩; refine ⟨_, rfl, ?_⟩; replace BK169 := cB BK169 hb; replace HB := Aside0.mk (below_step bl hb); (try clear hb)) | ((with_reducible refine gate_dst (N := 25) rfl ?_); refine Kd.R_lit k82 _ 82 ?hg (N := 25) ?hd (xs := ([(⟨a1, (⟨t171, (⟨t172, t173⟩ : S50), t174, t175⟩ : S52)⟩ : S82)] : List (S82))) (inner := [.int .i64 a1, .int .i64 t171, .int .i64 t172, .bool t173, .int .i64 t174, .int .i64 t175]) (ok := fun _ => True) (okp := fun _ => True) ?hr ?hp (fun _ hk => hk) trivial (Below.refl _ _) (Nat.le_refl _) (by simp) ?_; (case hd => rfl); (case hg => rfl); (case hr => first | (go_simp; done) | (go_simp; rfl)); (case hp => exact (Reps.c6 (show Kd.M k82 _ _ _ (⟨a1, (⟨t171, (⟨t172, t173⟩ : S50), t174, t175⟩ : S52)⟩ : S82) [.int .i64 a1, .int .i64 t171, .int .i64 t172, .bool t173, .int .i64 t174, .int .i64 t175] from (k82_mkM _ _ _ (⟨a1, (⟨t171, (⟨t172, t173⟩ : S50), t174, t175⟩ : S52)⟩ : S82) )) (Reps.none _ _))); intro v177 w15 ho16 hb hg_ hnew_; clear hg_ hnew_; (first | rw [← Ny176.out] at ho16 | (simp only [Int.reduceToNat] at ho16; rw [← Ny176.out] at ho16)); have HO178 := Aside0.mk (Kd.R_lower ho16 (below_size bl)); replace BK169 := cB BK169 hb; replace HB := Aside0.mk (below_step bl hb); clear hb ho16; obtain ⟨Ao17, co17, eo17⟩ := Kd.R_slice HO178.out; subst eo17) | (refine gL (some 26) rfl Try.func49 #[.slice (some ad170) l0.length c0, .slice Ao17 y176.length co17] ?_; (with_reducible refine (chain_Put.calls k (fun k_ => k_ < w.heap.size) _ _ l0 (fun k_ => some k_ = (.slice Ao17 y176.length co17 : Value).ownBlock) _ _ y176 t179 t182 _ ?side1 ?side2 A9.out).mono ?_); (case side1 => exact Kd.V_mk HC0.out (Kd.F_below (Kd.C_F k82_heap HR0.out) bl)); (case side2 => exact Kd.R_V (Kd.R_tight rfl (Kd.R_types (HO178.out) BK169.out (by decide)))); rintro e w18 ⟨v180, rfl, ho0, hb⟩; refine ⟨_, rfl, ?_⟩; have HO181 := Aside0.mk (Kd.R_lower (Kd.R_new' (Kd.R_mono (ok' := fun k_ => True) ho0 (fun _ hk_ => trivial)) (Kd.R_lt (uR HO178.out))) (below_size bl)); replace HO178 := Aside0.mk (Kd.R_elder' (uR HO178.out) (Kd.R_base ho0) hb); replace BK169 := cB BK169 hb; replace HB := Aside0.mk (below_step bl hb); (try clear hb); (try clear ho0)))
  go_ret2
  exact ⟨_, by first | rfl | (simp [errW_none, errW_some] <;> rfl) | (simp only [← hji5]; first | rfl | (simp [errW_none, errW_some] <;> rfl)) | (simp [*, errW_none, errW_some] <;> rfl), by exact uR <| Kd.R_mono HO181.out (fun _ hk => trivial), bl⟩
 ·
  rw [if_neg c4] at H
  have c4b0 : decide (0 < (l0.length : Int)) = false := decide_eq_false c4
  have c4b1 : decide (0 < l0.length) = false := decide_eq_false (by omega)
  clear c4
  obtain ⟨⟨t183, t184, t185, t186, t187⟩, A19, H⟩ := bs H
  try dsimp only at H
  obtain ⟨y188, hy188⟩ : ∃ y_ : List (S82), y_ = (([(⟨a1, (⟨t183, (⟨t184, t185⟩ : S50), t186, t187⟩ : S52)⟩ : S82)] : List (S82))) := ⟨_, rfl⟩
  replace H : ((chain_Put.f k l0 y188).bind fun bt191 => (some (bt191.1, bt191.2))) = some (r1, r2) := by first | (rw [hy188]; with_reducible exact H) | (have H2_ := (Option.bind_some _ _).symm.trans H; rw [hy188]; with_reducible exact H2_) | (have H2_ := (Option.bind_some _ _).symm.trans H; with_reducible exact H2_) | with_reducible exact H | (rw [hy188]; exact H) | exact H
  have Ny188 := Aside0.mk hy188
  clear hy188
  obtain ⟨⟨t191, t194⟩, A20, H⟩ := bs H
  try dsimp only at H
  simp only [Option.some.injEq, Prod.mk.injEq] at H
  obtain ⟨rfl, rfl⟩ := H
  go_enter Try.func27, Try.ntmps27
  go_wp2_with (first | ((with_reducible refine gate_dst (N := 8) rfl ?_); refine bx (N := 8) #[.int .i64 0, .int .i64 0, .bool false, .int .i64 0, .int .i64 0] 52 ?_; intro gb169 hg w21 hbox hb; have BK169 := Aside0.mk (hbox); have GW169 := gw hg (uW HB.out); have GE169 := GW169; replace HB := cW HB hb; clear hb hbox hg; obtain ⟨hcz22_0, hcz22_1, hcz22_2, hcz22_3, hcz22_4, hfz22_0, hfz22_1, hfz22_2, hfz22_3, hfz22_4⟩ := z5 BK169) | (refine gL (some 23) rfl Try.func50 #[.agg #[.int .i64 0, .int .i64 0, .bool false, .int .i64 0, .int .i64 0], .int .i64 a2] ?_; (with_reducible refine (cell_Fold.calls k 0 0 false 0 0 a2 t183 t184 t185 t186 t187 _ A19.out).mono ?_); rintro e w23 ⟨rfl, hb⟩; refine ⟨_, rfl, ?_⟩; replace BK169 := cB BK169 hb; replace HB := Aside0.mk (below_step bl hb); (try clear hb)) | ((with_reducible refine gate_dst (N := 25) rfl ?_); refine Kd.R_lit k82 _ 82 ?hg (N := 25) ?hd (xs := ([(⟨a1, (⟨t183, (⟨t184, t185⟩ : S50), t186, t187⟩ : S52)⟩ : S82)] : List (S82))) (inner := [.int .i64 a1, .int .i64 t183, .int .i64 t184, .bool t185, .int .i64 t186, .int .i64 t187]) (ok := fun _ => True) (okp := fun _ => True) ?hr ?hp (fun _ hk => hk) trivial (Below.refl _ _) (Nat.le_refl _) (by simp) ?_; (case hd => rfl); (case hg => rfl); (case hr => first | (go_simp; done) | (go_simp; rfl)); (case hp => exact (Reps.c6 (show Kd.M k82 _ _ _ (⟨a1, (⟨t183, (⟨t184, t185⟩ : S50), t186, t187⟩ : S52)⟩ : S82) [.int .i64 a1, .int .i64 t183, .int .i64 t184, .bool t185, .int .i64 t186, .int .i64 t187] from (k82_mkM _ _ _ (⟨a1, (⟨t183, (⟨t184, t185⟩ : S50), t186, t187⟩ : S52)⟩ : S82) )) (Reps.none _ _))); intro v189 w24 ho25 hb hg_ hnew_; clear hg_ hnew_; (first | rw [← Ny188.out] at ho25 | (simp only [Int.reduceToNat] at ho25; rw [← Ny188.out] at ho25)); have HO190 := Aside0.mk (Kd.R_lower ho25 (below_size bl)); replace BK169 := cB BK169 hb; replace HB := Aside0.mk (below_step bl hb); clear hb ho25; obtain ⟨Ao26, co26, eo26⟩ := Kd.R_slice HO190.out; subst eo26) | (refine gL (some 26) rfl Try.func49 #[.slice A0 l0.length c0, .slice Ao26 y188.length co26] ?_; (with_reducible refine (chain_Put.calls k (fun k_ => k_ < w.heap.size) _ _ l0 (fun k_ => some k_ = (.slice Ao26 y188.length co26 : Value).ownBlock) _ _ y188 t191 t194 _ ?side1 ?side2 A20.out).mono ?_); (case side1 => exact Kd.V_mk HC0.out (Kd.F_below (Kd.C_F k82_heap HR0.out) bl)); (case side2 => exact Kd.R_V (Kd.R_tight rfl (Kd.R_types (HO190.out) BK169.out (by decide)))); rintro e w27 ⟨v192, rfl, ho0, hb⟩; refine ⟨_, rfl, ?_⟩; have HO193 := Aside0.mk (Kd.R_lower (Kd.R_new' (Kd.R_mono (ok' := fun k_ => True) ho0 (fun _ hk_ => trivial)) (Kd.R_lt (uR HO190.out))) (below_size bl)); replace HO190 := Aside0.mk (Kd.R_elder' (uR HO190.out) (Kd.R_base ho0) hb); replace BK169 := cB BK169 hb; replace HB := Aside0.mk (below_step bl hb); (try clear hb); (try clear ho0)))
  go_ret2
  exact ⟨_, re_, by exact uR <| Kd.R_mono HO193.out (fun _ hk => trivial), bl⟩
def api_Entry_28.f (l0 : List (S59)) : Option ((List (S59))) := if l0.length < 2932031007402 then (some l0) else (none)
theorem api_Entry_28.calls (P0_ : Nat → Prop) (A0 : Option Addr) (c0 : Nat) (l0 : List (S59)) (r : List (S59)) (w : World) (hs0 : Kd.V k59 59 w w.heap.size (fun k_ => P0_ k_) (.slice A0 l0.length c0) l0) (h : api_Entry_28.f l0 = some r) :
 Calls Try.prog 28 #[.slice A0 l0.length c0] w fun e w' => ∃ v0_ : Value, e = .returned (v0_) ∧ Kd.N k59 59 w' w.heap.size (fun k_ => (P0_ k_ ∨ w.heap.size ≤ k_)) v0_ r ∧ Below w.heap.size w w' := by
 unfold api_Entry_28.f at h
 by_cases hl : l0.length < 2932031007402
 ·
  rw [if_pos hl] at h
  obtain rfl := Option.some.inj h
  have HL := Aside0.mk hl
  clear h hl
  have HR0 := Aside0.mk hs0
  clear hs0
  cases A0 with
  | none =>
   have e : l0 = [] := by
    have h2 := (Kd.V_reads' HR0.out).2.2.2.2
    cases l0 with
    | nil => rfl
    | cons x l => obtain ⟨_, h3, _⟩ := h2 (by simp); cases h3
   subst e
   have heq : ∀ (n c : Nat) (W : World), (binOp .eql 22 (.slice none n c) (.slice none 0 0)).run Try.prog W = .ok (.bool true) W := fun n c W => Lib.run_eql_slice_nil W 22 59 none n c 0 0 Try.underlying22
   go_enter Try.func28, Try.ntmps28
   go_wp2
   go_ret
   exact ⟨_, rfl, Kd.N_nil _ _ _ _ _, Below.refl _ _⟩
  | some a =>
   have HB := Aside0.mk (Below.refl w.heap.size w)
   have heq : ∀ (n c : Nat) (W : World), (binOp .eql 22 (.slice (some a) n c) (.slice none 0 0)).run Try.prog W = .ok (.bool false) W := fun n c W => Lib.run_eql_slice_nil W 22 59 (some a) n c 0 0 Try.underlying22
   go_enter Try.func28, Try.ntmps28
   go_wp2_with (first | ((with_reducible refine gate_dst (N := 5) rfl ?_); refine Kd.R_lit k59 _ 59 ?hg (N := 5) ?hd (xs := ([] : List (S59))) (inner := []) (ok := fun k_ => P0_ k_ ∨ w.heap.size ≤ k_) (okp := fun _ => False) ?hr ?hp (fun _ hk => hk.elim) (Or.inr (Nat.le_refl _)) (Below.refl _ _) (Nat.le_refl _) (by simp) ?_; (case hd => rfl); (case hg => rfl); (case hr => first | (go_simp; done) | (go_simp; rfl)); (case hp => exact (Reps.none _ _)); intro v129 w7 ho8 hb hg_ hnew_; clear hg_ hnew_; have n0_ := Aside0.mk (Kd.R_N (Kd.R_lower ho8 (Nat.le_refl _))); have n1_ := Aside0.mk hb; clear HB ho8 hb; have HB := n1_; have HO130 := n0_; clear n0_ n1_) | ((with_reducible refine gate_builtin (b := .append) (xs := #[.tmp 5, .tmp 6]) rfl ?_); at_builtin; refine Kd.N_append_rows k59 (w0 := w) w.heap.size rfl (.tmp 5) (.tmp 6) 22 59 (.agg #[(.int .i64 0), (.string ⟨#[]⟩), (.slice none 0 0)]) 48 rfl Try.underlying22 info59 rfl (by decide) (by decide) v129 [] l0 _ _ _ (fun k_ => P0_ k_ ∨ w.heap.size ≤ k_) (fun k_ => P0_ k_ ∧ k_ < w.heap.size) rfl rfl ?aO ?aR ?aK ?aF ?aB ?aS ?aL ?_; (case aR => exact Kd.F_old (Kd.V_at HR0.out).2.2 HB.out); (case aK => exact fun k_ hk => ⟨.inl hk.1, fun e_ => Nat.not_le.2 hk.2 (Kd.N_base HO130.out k_ e_.symm)⟩); (case aB => exact HB.out); (case aF => exact (fun _ hk => .inr (Nat.le_trans (below_size HB.out) hk))); (case aO => exact HO130.out); (case aS => exact (below_size HB.out)); (case aL => have := HL.out; simp only [List.length_nil, Nat.zero_add]; omega); intro v132 w9 ho hb hg hat; clear hg hat; have n0_ := Aside0.mk hb; have n1_ := Aside0.mk ho; clear HB HO130; have HB := n0_; have HO133 := n1_; clear n0_ n1_ ho hb))
   go_ret
   exact ⟨_, rfl, HO133.out, HB.out⟩
 ·
  rw [if_neg hl] at h
  exact absurd h (by simp)
open Go.Proofs.Ytofaindjbhmopaa.InsDel
set_option maxHeartbeats 4000000 in
theorem api_Entry_29.shift (b n c i vb m vc : Nat) (cs vs : List Value) (cur curv : Array Value) (w : World) (hi : i < n) (hm : 0 < m) (hroom : n + m ≤ c) (hc63 : c ≤ 9223372036854775807) (hvb : vb ≠ b)
 (hcl : cs.length = n * 3) (hvl : vs.length = m * 3) (hh : w.heap[b]? = some (.cells cur 59 (0, 0))) (hsz : cur.size = c * 3) (hcs : cur.toList.take (n * 3) = cs)
 (hhv : w.heap[vb]? = some (.cells curv 59 (0, 0))) (hvs : curv.toList.take (m * 3) = vs) (h1c : ∀ v ∈ cs, v.oneCell' = true) (h1v : ∀ v ∈ vs, v.oneCell' = true) :
 Calls Try.prog 29 #[.slice (some ⟨b, 0, none⟩) n c, .int .i64 i, .slice (some ⟨vb, 0, none⟩) m vc] w fun e w' =>
  e = .returned (.slice (some ⟨b, 0, none⟩) (n + m) c) ∧ w' = (w.drew.setCells b ((i + m) * 3) (cs.drop (i * 3))).setCells b (i * 3) vs := by
 have mixed : Try.prog.follows .mixedOrders = true := by kernel_rfl
 have hz1 : ¬ ((m : Int) = 0) := by omega
 have hz2 : ¬ ((i : Int) = (n : Int)) := by omega
 have hinf : (Try.prog.info? 59).map (·.size) = some 3 := by kernel_rfl
 have hzz : ∀ w, (Go.sizeOf 59).run Try.prog w = .ok 3 w := fun w => by kernel_rfl
 have hov : ∀ lb cb, (callFunc 51 #[.slice (some ⟨vb, 0, none⟩) m vc, .slice (some ⟨b, (i + m) * 3, none⟩) lb cb]).run Try.prog w = .ok (.value (.bool false)) w := fun lb cb => by
  rw [run_callFunc_extern Try.func51 (by kernel_rfl) (by kernel_rfl) (by kernel_rfl) (e := Extern.SlicesOverlaps.overlaps #[22, 22] #[4]) (by kernel_rfl),
   Lib.run_overlaps_apart w 22 4 59 Try.underlying22 3 hzz ⟨vb, 0, none⟩ ⟨b, (i + m) * 3, none⟩ m vc lb cb hvb 59 59 curv.size cur.size (by simp [World.shape?, hhv]) (by simp [World.shape?, hh]) (by omega) (blk_frozen hhv _) (blk_frozen hhv _)]
  rfl
 have hdl : (cs.drop (i * 3)).length = (n - i) * 3 := by rw [List.length_drop, hcl]; omega
 have hw1 : IntKind.i64.wrap ((i : Int) + (m : Int)) = (i : Int) + (m : Int) := by rw [IntKind.wrap_i64]; omega
 have hb1 : (0 : Int) ≤ (i : Int) + (m : Int) := by omega
 have hin : i ≤ n := by omega
 have htn : ((i : Int) + (m : Int)).toNat = i + m := by omega
 have hb2 : ¬ (c = i + m) := by omega
 have hb3 : (i : Int) ≤ (n : Int) + (m : Int) := by omega
 have hb4 : ¬ (c = i) := by omega
 have hcp1 : ∀ ty dc sc, (Builtin.copy_ #[22, 22] ty #[.slice (some ⟨b, (i + m) * 3, none⟩) (n + m - (i + m)) dc, .slice (some ⟨b, i * 3, none⟩) (n + m - i) sc]).run Try.prog w.drew = .ok (goInt (n - i : Nat)) (w.drew.setCells b ((i + m) * 3) (cs.drop (i * 3))) := fun ty dc sc =>
  run_copy_k w.drew _ _ ty 59 3 b ((i + m) * 3) (n + m - (i + m)) dc ⟨b, i * 3, none⟩ (n + m - i) sc (cs.drop (i * 3)) (n - i) Try.underlying22 hinf (by simp only [Nat.min_def]; split <;> omega) hdl
   (blk_of (w := w.drew) (n := (n - i) * 3) hh (by rw [← hcs, List.drop_take]; congr 1; omega))
   (fun j hj => blk_some (w := w.drew) hh (by rw [hdl] at hj; omega)) (fun j hj => blk_frozen (w := w.drew) hh _) (fun v hv => h1c v (List.mem_of_mem_drop hv))
 obtain ⟨W1, hW1⟩ : ∃ W1, W1 = w.drew.setCells b ((i + m) * 3) (cs.drop (i * 3)) := ⟨_, rfl⟩
 obtain ⟨cur1, hh1, hz11, _⟩ := set_blk (w := w.drew) hh ((i + m) * 3) (cs.drop (i * 3)) (by rw [hdl]; omega)
 rw [← hW1] at hh1
 have hhv1 : W1.heap[vb]? = some (.cells curv 59 (0, 0)) := by rw [hW1, setCells_far _ _ _ hvb]; exact hhv
 have hcp2 : ∀ ty dc, (Builtin.copy_ #[22, 22] ty #[.slice (some ⟨b, i * 3, none⟩) (n + m - i) dc, .slice (some ⟨vb, 0, none⟩) m vc]).run Try.prog W1 = .ok (goInt (m : Nat)) (W1.setCells b (i * 3) vs) := fun ty dc =>
  run_copy_k W1 _ _ ty 59 3 b (i * 3) (n + m - i) dc ⟨vb, 0, none⟩ m vc vs m Try.underlying22 hinf (by simp only [Nat.min_def]; split <;> omega) hvl
   (blk_of (n := m * 3) hhv1 (by rw [List.drop_zero]; exact hvs))
   (fun j hj => blk_some hh1 (by rw [hz11]; rw [hvl] at hj; omega)) (fun j hj => blk_frozen hh1 _) h1v
 rw [← hW1] at hcp1
 have HW1 := Aside0.mk hW1
 clear hW1
 clear hh1 hz11 hhv1 hdl hcs hvs hh hhv hcl hvl hsz h1c h1v
 go_enter Try.func29, Try.ntmps29
 go_wp2_with (simp only [hov])
 go_region_law_o (refine step_copy_r rfl _ _ 22 22 rfl _ _ (by simp [Act.eval, Act.put]) (by simp [Act.eval, Act.put]) (hcp1 _ _ _) ?_)
 go_wp2_with (at_builtin; refine wpList_copy_r _ rfl _ _ 22 22 rfl _ _ rfl rfl (hcp2 _ _) ?_)
 go_ret
 exact ⟨rfl, by rw [HW1.out]⟩
set_option maxHeartbeats 4000000 in
theorem api_Entry_29.grow (b n c i vb m vc : Nat) (cs vs : List Value) (cur curv : Array Value) (w : World) (hi : i < n) (hm : 0 < m) (hnc : n ≤ c) (hroom : c < n + m) (hbig : (n + m) * 48 ≤ 140737488355328)
 (hcl : cs.length = n * 3) (hvl : vs.length = m * 3) (hh : w.heap[b]? = some (.cells cur 59 (0, 0))) (hsz : cur.size = c * 3) (hcs : cur.toList.take (n * 3) = cs)
 (hhv : w.heap[vb]? = some (.cells curv 59 (0, 0))) (hvs : curv.toList.take (m * 3) = vs) (h1c : ∀ v ∈ cs, v.oneCell' = true) (h1v : ∀ v ∈ vs, v.oneCell' = true) :
 Calls Try.prog 29 #[.slice (some ⟨b, 0, none⟩) n c, .int .i64 i, .slice (some ⟨vb, 0, none⟩) m vc] w fun e w' =>
  ∃ G ROW, e = .returned (.slice (some ⟨w.heap.size, 0, none⟩) (n + m) G) ∧ w' = (((w.alloc (.cells ROW 59)).drew.setCells w.heap.size (i * 3) vs).drew).setCells w.heap.size ((i + m) * 3) (cs.drop (i * 3)) ∧
   n + m ≤ G ∧ G ≤ maxLen ∧ ROW.size = G * 3 ∧ ROW.toList.take (i * 3) = cs.take (i * 3) := by
 have mixed : Try.prog.follows .mixedOrders = true := by kernel_rfl
 obtain ⟨i0, hi0, hz0, hzs, hzb⟩ := info_parts info59
 have hz1 : ¬ ((m : Int) = 0) := by omega
 have hz2 : ¬ ((i : Int) = (n : Int)) := by omega
 have hz3 : (c : Int) < (n : Int) + (m : Int) := by omega
 have hinf : (Try.prog.info? 59).map (·.size) = some 3 := by kernel_rfl
 have hbw : b < w.heap.size := blk_lt hh
 have hvw : vb < w.heap.size := blk_lt hhv
 have hkk : (n : Int) + (m : Int) - (i : Int) = ((n + m - i : Nat) : Int) := by omega
 have hik : i + (n + m - i) = n + m := by omega
 have hold : (Builtin.firstCells i0.size i (.slice (some ⟨b, 0, none⟩) i c)).run Try.prog w.drew = .ok (cs.take (i * 3)).toArray w.drew := by
  rw [hzs]
  exact run_firstCells_some w.drew 3 i ⟨b, 0, none⟩ i c (cs.take (i * 3)) (by rw [List.length_take]; omega)
   (blk_of (w := w.drew) (n := i * 3) hh (by rw [← hcs, List.drop_zero, List.take_take]; congr 1; omega))
 have hrz : ∀ ty, (Builtin.append_ #[22, 3] ty #[.slice (some ⟨b, 0, none⟩) i c, .int .i64 ((n : Int) + (m : Int) - (i : Int))]).run Try.prog w =
  .ok (.slice (some ⟨w.heap.size, 0, none⟩) (n + m) (grownCap w (n + m) c 59)) (w.drew.alloc (.cells ((cs.take (i * 3)).toArray ++ Builtin.zeroCells ((.agg #[(.int .i64 0), (.string ⟨#[]⟩), (.slice none 0 0)]) : Value).cells (n + m - i) ++ Builtin.zeroCells ((.agg #[(.int .i64 0), (.string ⟨#[]⟩), (.slice none 0 0)]) : Value).cells (grownCap w (n + m) c 59 - (n + m))) 59)) := fun ty => by
  have h := Lib.run_append_grow_zeros w 22 3 ty 59 i0 _ .i64 .i64 Try.underlying22 Try.underlying3 hi0 hz0 (some ⟨b, 0, none⟩) i c (cs.take (i * 3)) hold (n + m - i) (by omega) (by omega) (by omega) (by omega) (by rw [hzb]; omega) (by rw [hzb, hik]; exact growslice_fits hroom hbig)
  rw [hik] at h
  rw [hkk]
  exact h
 obtain ⟨G, hG⟩ : ∃ G, G = grownCap w (n + m) c 59 := ⟨_, rfl⟩
 have hGn : n + m ≤ G := by rw [hG]; exact grownCap_ge w _ _ _
 have hGm : G ≤ maxLen := by
  rw [hG]
  exact grownCap_le_maxLen w (n + m) c 59 (by unfold maxLen; omega)
 have hG63 : G ≤ 9223372036854775807 := by
  have := hGm
  unfold maxLen at this
  omega
 obtain ⟨ROW, hROW⟩ : ∃ ROW : Array Value, ROW = (cs.take (i * 3)).toArray ++ Builtin.zeroCells ((.agg #[(.int .i64 0), (.string ⟨#[]⟩), (.slice none 0 0)]) : Value).cells (n + m - i) ++ Builtin.zeroCells ((.agg #[(.int .i64 0), (.string ⟨#[]⟩), (.slice none 0 0)]) : Value).cells (G - (n + m)) := ⟨_, rfl⟩
 rw [← hG] at hrz
 rw [← hROW] at hrz
 have hzc : ((.agg #[(.int .i64 0), (.string ⟨#[]⟩), (.slice none 0 0)]) : Value).cells.size = 3 := by kernel_rfl
 have hRl : ROW.size = G * 3 := by
  rw [hROW, Array.size_append, Array.size_append, List.size_toArray, size_zeroCells, size_zeroCells, hzc, List.length_take, hcl]
  omega
 have hRt : ROW.toList.take (i * 3) = cs.take (i * 3) := by
  rw [hROW, Array.toList_append, Array.toList_append, List.append_assoc, List.take_append_of_le_length (by rw [List.length_take, hcl]; omega)]
  rw [List.take_take, Nat.min_self]
 have hdl : (cs.drop (i * 3)).length = (n - i) * 3 := by rw [List.length_drop, hcl]; omega
 obtain ⟨W1, hW1⟩ : ∃ W1, W1 = w.drew.alloc (.cells ROW 59) := ⟨_, rfl⟩
 rw [← hW1] at hrz
 have hN : W1.heap[w.heap.size]? = some (.cells ROW 59 (0, 0)) := by rw [hW1]; exact heap_alloc_new w.drew _
 have hOb : W1.heap[b]? = some (.cells cur 59 (0, 0)) := by rw [hW1]; exact (Below.heap_alloc w.drew _ b hbw).trans hh
 have hOv : W1.heap[vb]? = some (.cells curv 59 (0, 0)) := by rw [hW1]; exact (Below.heap_alloc w.drew _ vb hvw).trans hhv
 have hcpA : ∀ ty dc, (Builtin.copy_ #[22, 22] ty #[.slice (some ⟨w.heap.size, i * 3, none⟩) (n + m - i) dc, .slice (some ⟨vb, 0, none⟩) m vc]).run Try.prog W1 = .ok (goInt (m : Nat)) (W1.setCells w.heap.size (i * 3) vs) := fun ty dc =>
  run_copy_k W1 _ _ ty 59 3 w.heap.size (i * 3) (n + m - i) dc ⟨vb, 0, none⟩ m vc vs m Try.underlying22 hinf (by simp only [Nat.min_def]; split <;> omega) hvl
   (blk_of (n := m * 3) hOv (by rw [List.drop_zero]; exact hvs))
   (fun j hj => blk_some hN (by rw [hRl]; rw [hvl] at hj; omega)) (fun j hj => blk_frozen hN _) h1v
 obtain ⟨W2, hW2⟩ : ∃ W2, W2 = W1.setCells w.heap.size (i * 3) vs := ⟨_, rfl⟩
 rw [← hW2] at hcpA
 obtain ⟨cur2, hh2, hz22, _⟩ := set_blk hN (i * 3) vs (by rw [hvl, hRl]; omega)
 rw [← hW2] at hh2
 have hOb2 : W2.heap[b]? = some (.cells cur 59 (0, 0)) := by rw [hW2, setCells_far _ _ _ (by omega)]; exact hOb
 have hcpB : ∀ ty dc sc, (Builtin.copy_ #[22, 22] ty #[.slice (some ⟨w.heap.size, (i + m) * 3, none⟩) (n + m - (i + m)) dc, .slice (some ⟨b, i * 3, none⟩) (n - i) sc]).run Try.prog W2.drew = .ok (goInt (n - i : Nat)) (W2.drew.setCells w.heap.size ((i + m) * 3) (cs.drop (i * 3))) := fun ty dc sc =>
  run_copy_k W2.drew _ _ ty 59 3 w.heap.size ((i + m) * 3) (n + m - (i + m)) dc ⟨b, i * 3, none⟩ (n - i) sc (cs.drop (i * 3)) (n - i) Try.underlying22 hinf (by simp only [Nat.min_def]; split <;> omega) hdl
   (blk_of (w := W2.drew) (n := (n - i) * 3) hOb2 (by rw [← hcs, List.drop_take]; congr 1; omega))
   (fun j hj => blk_some (w := W2.drew) hh2 (by rw [hz22, hRl]; rw [hdl] at hj; omega)) (fun j hj => blk_frozen (w := W2.drew) hh2 _) (fun v hv => h1c v (List.mem_of_mem_drop hv))
 have hGi : ¬ (G = i) := by omega
 have hGim : ¬ (G = i + m) := by omega
 have hci : ¬ (c = i) := by omega
 have hbN : b ≠ w.heap.size := by omega
 have hw1 : IntKind.i64.wrap ((i : Int) + (m : Int)) = (i : Int) + (m : Int) := by rw [IntKind.wrap_i64]; omega
 have hb1 : (0 : Int) ≤ (i : Int) + (m : Int) := by omega
 have hin : i ≤ n := by omega
 have htn : ((i : Int) + (m : Int)).toNat = i + m := by omega
 have hb3 : (i : Int) ≤ (n : Int) := by omega
 have HW1 := Aside0.mk hW1
 have HW2 := Aside0.mk hW2
 have HF := Aside0.mk (And.intro hGn (And.intro hGm (And.intro hRl hRt)))
 obtain ⟨s, hs⟩ : ∃ s, s = w.heap.size := ⟨_, rfl⟩
 rw [← hs] at hcpA hcpB hrz hbN
 have HS := Aside0.mk hs
 clear hW1 hW2 hs hh2 hz22 hOb2 hOb hOv hN hdl hRt hRl hROW hG hold hkk hik hi0 hz0 hzs hzb hcs hvs hh hhv hcl hvl hsz h1c h1v hbw hvw hGm hbig
 go_enter Try.func29, Try.ntmps29
 go_wp2_with (first
  | (at_builtin; refine Lib.wpList_append_run _ rfl _ _ _ _ rfl _ _ rfl rfl _ _ (hrz _) ?_)
  | (at_builtin; refine wpList_copy_r _ rfl _ _ 22 22 rfl _ _ rfl rfl (hcpA _ _) ?_))
 go_region_law_o (refine step_copy_r rfl _ _ 22 22 rfl _ _ (by simp [Act.eval, Act.put]) (by simp [Act.eval, Act.put]) (hcpB _ _ _) ?_)
 go_wp2
 go_ret
 refine ⟨G, ROW, by rw [HS.out]; rfl, ?_, HF.out.1, HF.out.2.1, HF.out.2.2.1, HF.out.2.2.2⟩
 rw [HW2.out, HW1.out, HS.out]
 rfl
def api_Entry_29.F {α : Type} (l0 : List α) (a1 : Int) (l2 : List α) : Option (List α) := if 0 < l2.length then (if 0 ≤ a1 then (if a1 ≤ (l0.length : Int) then (if (l0.length + l2.length) * 48 ≤ 140737488355328 then (some (l0.take a1.toNat ++ l2 ++ l0.drop a1.toNat)) else (none)) else (none)) else (none)) else (none)
theorem api_Entry_29.F_eq {α β : Type} {l0 l2 r : List α} {m0 m2 : List β} {a1 : Int} (h0 : m0.length = l0.length) (h2 : m2.length = l2.length) (h : api_Entry_29.F l0 a1 l2 = some r) :
 r = l0.take a1.toNat ++ l2 ++ l0.drop a1.toNat ∧ api_Entry_29.F m0 a1 m2 = some (m0.take a1.toNat ++ m2 ++ m0.drop a1.toNat) := by
 unfold api_Entry_29.F at h ⊢
 rw [h0, h2]
 by_cases c1 : 0 < l2.length
 ·
  rw [if_pos c1] at h ⊢
  by_cases c2 : 0 ≤ a1
  ·
   rw [if_pos c2] at h ⊢
   by_cases c3 : a1 ≤ (l0.length : Int)
   ·
    rw [if_pos c3] at h ⊢
    by_cases c4 : (l0.length + l2.length) * 48 ≤ 140737488355328
    ·
     rw [if_pos c4] at h ⊢
     exact ⟨(Option.some.inj h).symm, rfl⟩
    ·
     rw [if_neg c4] at h
     cases h
   ·
    rw [if_neg c3] at h
    cases h
  ·
   rw [if_neg c2] at h
   cases h
 ·
  rw [if_neg c1] at h
  cases h
theorem api_Entry_29.ins_at {α β : Type} {l0 l2 : List α} {m0 m2 : List β} {i : Nat} (h0 : m0.length = l0.length) (h2 : m2.length = l2.length) {j : Nat} {x : α} {c : β} (hx : (l0.take i ++ l2 ++ l0.drop i)[j]? = some x) (hc : (m0.take i ++ m2 ++ m0.drop i)[j]? = some c) :
 (∃ j' : Nat, l0[j']? = some x ∧ m0[j']? = some c) ∨ (∃ j' : Nat, l2[j']? = some x ∧ m2[j']? = some c) := by
 have e0 : (m0.take i).length = (l0.take i).length := by rw [List.length_take, List.length_take, h0]
 rw [List.append_assoc] at hx hc
 by_cases c1 : j < (l0.take i).length
 ·
  rw [List.getElem?_append_left c1] at hx
  rw [List.getElem?_append_left (by rw [e0]; exact c1)] at hc
  have hji : j < i := by rw [List.length_take] at c1; omega
  rw [List.getElem?_take_of_lt hji] at hx hc
  exact .inl ⟨j, hx, hc⟩
 ·
  rw [List.getElem?_append_right (Nat.le_of_not_lt c1)] at hx
  rw [List.getElem?_append_right (by rw [e0]; exact Nat.le_of_not_lt c1), e0] at hc
  by_cases c2 : j - (l0.take i).length < l2.length
  ·
   rw [List.getElem?_append_left c2] at hx
   rw [List.getElem?_append_left (by rw [h2]; exact c2)] at hc
   exact .inr ⟨_, hx, hc⟩
  ·
   rw [List.getElem?_append_right (Nat.le_of_not_lt c2), List.getElem?_drop] at hx
   rw [List.getElem?_append_right (by rw [h2]; exact Nat.le_of_not_lt c2), h2, List.getElem?_drop] at hc
   exact .inl ⟨_, hx, hc⟩
theorem api_Entry_29.raw (P0_ : Nat → Prop) (u9000_ : Value) (l0 : List (List Value)) (a1 : Int) (P2_ : Nat → Prop) (u9001_ : Value) (l2 r : List (List Value)) (w0 w : World) (hB : Below w0.heap.size w0 w) (ho0 : Kd.R (Kd.raw 3) 59 w w0.heap.size P0_ u9000_ l0) (hp0_2 : ∀ k_, P0_ k_ → ¬ P2_ k_) (ho2 : Kd.R (Kd.raw 3) 59 w w0.heap.size P2_ u9001_ l2) (hp2_0 : ∀ k_, P2_ k_ → ¬ P0_ k_) (h : api_Entry_29.F l0 a1 l2 = some r) :
 Calls Try.prog 29 #[u9000_, .int .i64 a1, u9001_] w fun e w' => ∃ v0_ : Value, e = .returned (v0_) ∧ Kd.R (Kd.raw 3) 59 w' w0.heap.size (fun k_ => ((P0_ k_ ∨ P2_ k_) ∨ w.heap.size ≤ k_)) v0_ r ∧ Below w0.heap.size w0 w' ∧ Kept w w' (fun k_ => P0_ k_ ∨ P2_ k_) := by
 unfold api_Entry_29.F at h
 by_cases hm : 0 < l2.length
 ·
  rw [if_pos hm] at h
  by_cases h0 : 0 ≤ a1
  ·
   rw [if_pos h0] at h
   by_cases hle : a1 ≤ (l0.length : Int)
   ·
    rw [if_pos hle] at h
    by_cases hbig : (l0.length + l2.length) * 48 ≤ 140737488355328
    ·
     rw [if_pos hbig] at h
     obtain rfl := Option.some.inj h
     clear h
     obtain ⟨i, rfl⟩ : ∃ i : Nat, a1 = (i : Int) := ⟨a1.toNat, by omega⟩
     rw [Int.toNat_natCast]
     have hin : i ≤ l0.length := by omega
     clear h0 hle
     obtain ⟨h0ok, inner, hown, hr⟩ := ho0
     have ho2' := ho2
     obtain ⟨h2ok, innv, hownv, hrv⟩ := ho2'
     rcases hownv.2 with ⟨_, hz⟩ | ⟨vb, vc, curv, hve, hvbb, hhv, hvn, hvm, hvs, hvt⟩
     ·
      omega
     subst hve
     have hP2 : P2_ vb := h2ok vb rfl
     have hr' : Reps ((Kd.raw 3).M w w0.heap.size (fun _ => True)) (Kd.raw 3).sz l0 inner := hr.imp_ (fun _ _ h => free rfl h)
     have hrv' : Reps ((Kd.raw 3).M w w0.heap.size (fun _ => True)) (Kd.raw 3).sz l2 innv := hrv.imp_ (fun _ _ h => free rfl h)
     have hcl : inner.length = l0.length * 3 := hr.1
     have hvl : innv.length = l2.length * 3 := hrv.1
     have h1c : ∀ v ∈ inner, v.oneCell' = true := Kd.reps_one hr (by decide) (fun _ _ h => (Kd.raw 3).K_one ((Kd.raw 3).K_of_M h))
     have h1v : ∀ v ∈ innv, v.oneCell' = true := Kd.reps_one hrv (by decide) (fun _ _ h => (Kd.raw 3).K_one ((Kd.raw 3).K_of_M h))
     by_cases hi : i = l0.length
     ·
      subst hi
      rw [List.take_length, List.drop_length, List.append_nil]
      have hO0 : Kd.R (Kd.raw 3) 59 w w0.heap.size (fun k_ => P0_ k_) u9000_ l0 := ⟨h0ok, inner, hown, hr⟩
      obtain ⟨A0, c0, he0⟩ := Kd.R_slice hO0
      subst he0
      have hz1 : ¬ ((l2.length : Int) = 0) := by omega
      have hcc := (Kd.R_reads' hO0).2.1
      have HC := (Kd.R_reads' ho2).2.2
      have HX0 := Aside0.mk hO0
      have HXC := Aside0.mk HC
      have HXB := Aside0.mk hB
      have HXP := Aside0.mk h0ok
      have HBG := Aside0.mk hbig
      obtain ⟨n0, hn0⟩ : ∃ n0, n0 = l0.length := ⟨_, rfl⟩
      obtain ⟨m0, hm0⟩ : ∃ m0, m0 = l2.length := ⟨_, rfl⟩
      have HN0 := Aside0.mk hn0
      have HM0 := Aside0.mk hm0
      rw [← hn0, ← hm0]
      rw [← hn0] at hcc
      rw [← hm0] at hz1
      have hcut : ∀ W : World, ∃ A' : Option Addr, (Instr.slice 22 (.slice A0 n0 c0) (some (.int .i64 (n0 : Int))) none none).run Try.prog W = .ok (.slice A' (n0 - n0) (c0 - n0)) W := fun W => by
       obtain ⟨i0, hi0, _, hz, _⟩ := info_parts info59
       have hel : Try.prog.elem 22 = 59 := by simp [Program.elem, Try.underlying22]
       have hu : Try.prog.underlying 22 = some (.slice (Try.prog.elem 22)) := by rw [hel]; exact Try.underlying22
       refine ⟨if c0 = n0 then A0 else A0.map (·.add (n0 * 3)), ?_⟩
       rw [run_slice_l W 22 A0 n0 c0 hu .i64 (n0 : Int) (Int.natCast_nonneg _) (by omega), hel]
       simp [sizeOf, typeInfo, hi0, hz, sliced, Result.andThen]
      obtain ⟨A', hcut'⟩ := hcut w
      clear hn0 hm0 hm hbig h0ok hown hr ho2 h2ok hownv hrv hhv hvn hvm hvs hvt hr' hrv' hcl hvl h1c h1v hO0 HC hin hB hp0_2 hp2_0 hP2 hvbb hcut
      go_enter Try.func29, Try.ntmps29
      go_wp2_with (at_builtin; refine Kd.R_append_rows (Kd.raw 3) (w0 := w0) w0.heap.size rfl (.tmp 23) (.tmp 24) 22 59 (.agg #[(.int .i64 0), (.string ⟨#[]⟩), (.slice none 0 0)]) 48 rfl Try.underlying22 info59 rfl (by decide) (by decide) (.slice A0 n0 c0) l0 l2 _ _ _ (fun k_ => (P0_ k_ ∨ P2_ k_) ∨ w.heap.size ≤ k_) (fun _ => False) rfl rfl ?aO ?aR (fun _ _ h => h) (fun _ h => h.elim) ?aF ?aB ?aS ?aL ?_; (case aO => rw [HN0.out]; exact Kd.R_mono HX0.out (fun _ hk => .inl (.inl hk))); (case aR => rw [HM0.out]; exact HXC.out); (case aF => exact (fun _ hk => .inr hk)); (case aB => exact HXB.out); (case aS => exact HXB.out.size); (case aL => rw [HM0.out]; exact HBG.out); intro v1 w1 ho hb hg hat; have QO := Aside0.mk ho; have QB := Aside0.mk hb; have QG := Aside0.mk hg; clear ho hb hg hat)
      go_ret
      refine ⟨_, rfl, QO.out, QB.out, Kept.of_grown QG.out (Kept.refl _ _) (fun k hk => .inl (.inl (HXP.out k (by rw [← HN0.out]; exact hk))))⟩
     ·
      rcases hown.2 with ⟨_, hz⟩ | ⟨b, c, cur, he, hb, hh, hnc, hcm, hsz, hct⟩
      ·
       omega
      subst he
      replace hsz : cur.size = c * 3 := hsz
      have hP0 : P0_ b := h0ok b rfl
      have hne : vb ≠ b := fun e => hp0_2 b hP0 (e ▸ hP2)
      have hdl : (inner.drop (i * 3)).length = (l0.length - i) * 3 := by rw [List.length_drop, hcl]; omega
      have hc63 : c ≤ 9223372036854775807 := by have := hcm; unfold maxLen at this; omega
      by_cases hroom : l0.length + l2.length ≤ c
      ·
       refine (api_Entry_29.shift b l0.length c i vb l2.length vc inner innv cur curv w (by omega) hm hroom hc63 hne hcl hvl hh hsz hct hhv hvt h1c h1v).mono ?_
       rintro e w' ⟨rfl, rfl⟩
       obtain ⟨cur1, hh1, hz1, ht1⟩ := set_blk (w := w.drew) hh ((i + l2.length) * 3) (inner.drop (i * 3)) (by rw [hdl, hsz]; omega)
       obtain ⟨cur2, hh2, hz2, ht2⟩ := set_blk hh1 (i * 3) innv (by rw [hz1, hsz, hvl]; omega)
       refine ⟨_, rfl, of_cells rfl (.inl (.inl hP0)) hb hh2 (reps_ins hr' hrv' hin) (by simp only [List.length_append, List.length_take, List.length_drop]; omega) hroom hcm (by rw [hz2, hz1, hsz]; rfl) ?_, setCells_below (setCells_below (w := w.drew) (below_drew hB) hb _ _) hb _ _, setCells_kept (setCells_kept (w := w.drew) (Kept.refl w _) (.inl (.inl hP0)) _ _) (.inl (.inl hP0)) _ _⟩
       change cur2.toList.take ((l0.length + l2.length) * 3) = inner.take (i * 3) ++ innv ++ inner.drop (i * 3)
       rw [ht2, ht1]
       have e := take_ins cur.toList (i * 3) (l0.length * 3) (l2.length * 3) inner innv hct (by omega) (by have e_ := Array.length_toList (xs := cur); omega) hvl hcl
       rw [show (i + l2.length) * 3 = i * 3 + l2.length * 3 by omega]
       rw [show (l0.length + l2.length) * 3 = l0.length * 3 + l2.length * 3 by omega]
       exact e
      ·
       refine (api_Entry_29.grow b l0.length c i vb l2.length vc inner innv cur curv w (by omega) hm hnc (by omega) hbig hcl hvl hh hsz hct hhv hvt h1c h1v).mono ?_
       rintro e w' ⟨G, ROW, rfl, rfl, hGn, hGm, hRs, hRt⟩
       have hhR : (w.alloc (.cells ROW 59)).drew.heap[w.heap.size]? = some (.cells ROW 59 (0, 0)) := heap_alloc_new w _
       obtain ⟨cur1, hh1, hz1, ht1⟩ := set_blk hhR (i * 3) innv (by rw [hRs, hvl]; omega)
       have hh1' : ((w.alloc (.cells ROW 59)).drew.setCells w.heap.size (i * 3) innv).drew.heap[w.heap.size]? = some (.cells cur1 59 (0, 0)) := hh1
       obtain ⟨cur2, hh2, hz2, ht2⟩ := set_blk hh1' ((i + l2.length) * 3) (inner.drop (i * 3)) (by rw [hz1, hRs, hdl]; omega)
       have hbw : w0.heap.size ≤ w.heap.size := hB.size
       refine ⟨_, rfl, of_cells rfl (.inr (Nat.le_refl _)) hbw hh2 (reps_ins hr' hrv' hin) (by simp only [List.length_append, List.length_take, List.length_drop]; omega) hGn hGm (by rw [hz2, hz1, hRs]; rfl) ?_, setCells_below (below_drew (setCells_below (below_drew (below_alloc hB _)) hbw _ _)) hbw _ _, setCells_kept (w := ((w.alloc (.cells ROW 59)).drew.setCells w.heap.size (i * 3) innv).drew) (setCells_kept (w := (w.alloc (.cells ROW 59)).drew) ((Kept.refl w _).alloc _) (.inr (Nat.le_refl _)) _ _) (.inr (Nat.le_refl _)) _ _⟩
       change cur2.toList.take ((l0.length + l2.length) * 3) = inner.take (i * 3) ++ innv ++ inner.drop (i * 3)
       rw [ht2, ht1]
       have e := take_grow ROW.toList innv (inner.drop (i * 3)) (i * 3) (l0.length * 3) (l2.length * 3) (by omega) (by have e_ := Array.length_toList (xs := ROW); omega) hvl (by rw [hdl]; omega)
       rw [show (i + l2.length) * 3 = i * 3 + l2.length * 3 by omega]
       rw [show (l0.length + l2.length) * 3 = l0.length * 3 + l2.length * 3 by omega]
       rw [← hRt]
       exact e
    ·
     rw [if_neg hbig] at h
     exact absurd h (by simp)
   ·
    rw [if_neg hle] at h
    exact absurd h (by simp)
  ·
   rw [if_neg h0] at h
   exact absurd h (by simp)
 ·
  rw [if_neg hm] at h
  exact absurd h (by simp)
def api_Entry_29.f (l0 : List (S59)) (a1 : Int) (l2 : List (S59)) : Option ((List (S59))) := api_Entry_29.F l0 a1 l2
theorem api_Entry_29.calls (P0_ : Nat → Prop) (u9000_ : Value) (l0 : List (S59)) (a1 : Int) (P2_ : Nat → Prop) (u9001_ : Value) (l2 : List (S59)) (r : List (S59)) (w0 w : World) (hB : Below w0.heap.size w0 w) (ho0 : Kd.N k59 59 w w0.heap.size P0_ u9000_ l0) (hp0_2 : ∀ k_, some k_ = (u9000_ : Value).ownBlock → ¬ P2_ k_) (ho2 : Kd.N k59 59 w w0.heap.size P2_ u9001_ l2) (hp2_0 : ∀ k_, some k_ = (u9001_ : Value).ownBlock → ¬ P0_ k_) (h : api_Entry_29.f l0 a1 l2 = some r) :
 Calls Try.prog 29 #[u9000_, .int .i64 a1, u9001_] w fun e w' => ∃ v0_ : Value, e = .returned (v0_) ∧ Kd.N k59 59 w' w0.heap.size (fun k_ => ((P0_ k_ ∨ P2_ k_) ∨ w.heap.size ≤ k_)) v0_ r ∧ Below w0.heap.size w0 w' ∧ Kept w w' (fun k_ => some k_ = (u9000_ : Value).ownBlock ∨ some k_ = (u9001_ : Value).ownBlock) := by
 unfold api_Entry_29.f at h
 obtain ⟨h0ok, m0, hl0, hR0, hf0⟩ := ho0
 obtain ⟨h2ok, m2, hl2, hR2, hf2⟩ := ho2
 obtain ⟨rfl, hF⟩ := api_Entry_29.F_eq hl0 hl2 h
 refine (api_Entry_29.raw (fun k_ => some k_ = u9000_.ownBlock) u9000_ m0 a1 (fun k_ => some k_ = u9001_.ownBlock) u9001_ m2 _ w0 w hB hR0 (fun k_ e e2 => hp0_2 k_ e (h2ok k_ e2.symm)) hR2 (fun k_ e e2 => hp0_2 k_ e2 (h2ok k_ e.symm)) hF).mono ?_
 rintro e w' ⟨v0_, rfl, hR, hb, hk⟩
 refine ⟨v0_, rfl, ⟨fun k_ hk_ => ?_, _, ?_, Kd.raw_tight hR, fun j x c hx hc => ?_⟩, hb, hk⟩
 ·
  rcases hR.1 k_ hk_ with (h_ | h_) | h_
  ·
   exact .inl (.inl (h0ok k_ h_.symm))
  ·
   exact .inl (.inr (h2ok k_ h_.symm))
  ·
   exact .inr h_
 ·
  simp only [List.length_append, List.length_take, List.length_drop, hl0, hl2]
 ·
  rcases api_Entry_29.ins_at hl0 hl2 hx hc with ⟨j', hx', hc'⟩ | ⟨j', hx', hc'⟩
  ·
   refine Kd.FK_mono (Kd.FK_step (Kd.FK_bound (hf0 j' x c hx' hc')) (fun k_ hk_ hlt => hk.2 k_ hlt (fun hs => hs.elim (fun e_ => hk_.1.2 e_) (fun e_ => hp2_0 k_ e_ hk_.1.1)))) (fun k_ hk_ => ⟨.inl (.inl hk_.1.1), fun e_ => ?_⟩)
   rcases hR.1 k_ e_.symm with (h_ | h_) | h_
   ·
    exact hk_.1.2 h_
   ·
    exact hp2_0 k_ h_ hk_.1.1
   ·
    exact Nat.not_le.2 hk_.2 h_
  ·
   refine Kd.FK_mono (Kd.FK_step (Kd.FK_bound (hf2 j' x c hx' hc')) (fun k_ hk_ hlt => hk.2 k_ hlt (fun hs => hs.elim (fun e_ => hp0_2 k_ e_ hk_.1.1) (fun e_ => hk_.1.2 e_)))) (fun k_ hk_ => ⟨.inl (.inr hk_.1.1), fun e_ => ?_⟩)
   rcases hR.1 k_ e_.symm with (h_ | h_) | h_
   ·
    exact hp0_2 k_ h_ hk_.1.1
   ·
    exact hk_.1.2 h_
   ·
    exact Nat.not_le.2 hk_.2 h_
theorem api_Entry_with_26.goesV_ {P : Program} {ops : Array Oper} {Q : Exit → Act → World → Prop} {oi : Oper} {N : Option Tmp} {a : Act} {w : World} {K : Act → World → Prop} {f : FuncId} {fn : Func} {cal : Operand} {as_ : Array Operand} {ts : Array TypeId} (hf : P.funcs[f]? = some fn) (hname : (fn.name == "runtime.NumGoroutine") = false) (hb : fn.body.isSome = true) (args : Array Value)
 (hw : Region.wanted oi (yielded ops a.tmps) = true) (hN : oi.dst = N) (hop : oi.op = .call { callee := .value cal, args := as_, argTypes := ts }) (hev : a.eval cal = .func (.func f) #[] #[]) (hargs : as_.map a.eval = args)
 (h : Calls P f args w fun e w' => ∃ v, e = .returned v ∧ K (a.put N v) w') : if Region.wanted oi (yielded ops a.tmps) = true then Oper.wp P oi a w K Q else K (a.put N undef) w := by
 refine call_ f args hw hN ?_ h
 have he := enters_ hf hname hb args w
 unfold execOp
 simp [hop, resolve, Deferred.ofValue, invoke, hev, hargs, he]
theorem api_Entry_with_26.goesVL_ {P : Program} {ops : Array Oper} {Q : Exit → Act → World → Prop} {rest : List Oper} {oi : Oper} {a : Act} {w : World} (N : Option Tmp) (hd : oi.dst = N) (hg : oi.guard = none) {f : FuncId} {fn : Func} {cal : Operand} {as_ : Array Operand} {ts : Array TypeId} (hf : P.funcs[f]? = some fn) (hname : (fn.name == "runtime.NumGoroutine") = false) (hb : fn.body.isSome = true) (args : Array Value)
 (hop : oi.op = .call { callee := .value cal, args := as_, argTypes := ts }) (hev : a.eval cal = .func (.func f) #[] #[]) (hargs : as_.map a.eval = args)
 (h : Calls P f args w fun e w' => ∃ v, e = .returned v ∧ wpList P ops Q rest (a.put N v) w') : wpList P ops Q (oi :: rest) a w := by
 refine wpList_plain hg fun K hK => ?_
 have he := enters_ hf hname hb args w
 have hrun : (execOp a.eval oi).run P w = .ok (.enter f args) w := by
  unfold execOp
  simp [hop, resolve, Deferred.ofValue, invoke, hev, hargs, he]
 unfold Oper.wp
 rw [hrun, Oper.upon_enter]
 refine h.mono fun e w'' hh => ?_
 obtain ⟨v, rfl, hk⟩ := hh
 subst hd
 exact hK _ _ hk
def api_Entry_with_26.l0 : Nat → List (S59) → Int → Int → Int → Int → ByteArray → List (S82) → Option (Int × Bool)
 | 0, _, _, _, _, _, _, _ => none
 | k + 1, x0, x8, x9, x10, x196000, x196001, x196002 => if x9 < x10 then (if 0 ≤ (wrap64 ((IntKind.u64.wrap (wrap64 (x9 + x10))) / 2)) then (if (wrap64 ((IntKind.u64.wrap (wrap64 (x9 + x10))) / 2)) < (x0.length : Int) then ((shard_order.f k ((rd_T59 x0 (wrap64 ((IntKind.u64.wrap (wrap64 (x9 + x10))) / 2))).f0) ((rd_T59 x0 (wrap64 ((IntKind.u64.wrap (wrap64 (x9 + x10))) / 2))).f1) ((rd_T59 x0 (wrap64 ((IntKind.u64.wrap (wrap64 (x9 + x10))) / 2))).f2) x196000 x196001 x196002).bind fun t197 => (if t197 < 0 then (api_Entry_with_26.l0 k x0 x8 (wrap64 ((wrap64 ((IntKind.u64.wrap (wrap64 (x9 + x10))) / 2)) + 1)) x10 x196000 x196001 x196002) else (api_Entry_with_26.l0 k x0 x8 x9 (wrap64 ((IntKind.u64.wrap (wrap64 (x9 + x10))) / 2)) x196000 x196001 x196002))) else (none)) else (none)) else (if x9 < x8 then (if 0 ≤ x9 then (if x9 < (x0.length : Int) then ((shard_order.f k ((rd_T59 x0 x9).f0) ((rd_T59 x0 x9).f1) ((rd_T59 x0 x9).f2) x196000 x196001 x196002).bind fun t199 => (some (x9, (t199 == 0)))) else (none)) else (none)) else (some (x9, false)))
def api_Entry_with_26.f (k : Nat) (l0 : List (S59)) (a1_0 : Int) (a1_1 : ByteArray) (l1_2 : List (S82)) : Option (Int × Bool) := api_Entry_with_26.l0 k l0 (l0.length : Int) 0 (l0.length : Int) a1_0 a1_1 l1_2
theorem api_Entry_with_26.mono_l : ∀ k, (∀ y0 y1 y2 y3 y4 y5 y6, LeC (api_Entry_with_26.l0 k y0 y1 y2 y3 y4 y5 y6) (api_Entry_with_26.l0 (k + 1) y0 y1 y2 y3 y4 y5 y6))
 | 0 => fun _ _ _ _ _ _ _ => ⟨fun r h => by simp [api_Entry_with_26.l0] at h⟩
 | k + 1 => by have ih0 := api_Entry_with_26.mono_l k; exact fun _ _ _ _ _ _ _ => by unfold api_Entry_with_26.l0; exact lm
theorem api_Entry_with_26.mono : ∀ a0 a1 a2 a3 k, LeO (api_Entry_with_26.f k a0 a1 a2 a3) (api_Entry_with_26.f (k + 1) a0 a1 a2 a3) := by
 intro a0 a1 a2 a3 k
 have ih0 := api_Entry_with_26.mono_l k
 unfold api_Entry_with_26.f
 exact lo
instance api_Entry_with_26.mI {a0 a1 a2 a3 k} : LeC (api_Entry_with_26.f k a0 a1 a2 a3) (api_Entry_with_26.f (k + 1) a0 a1 a2 a3) := ⟨api_Entry_with_26.mono _ _ _ _ _⟩
def api_Entry_with_26.T5 : Bool × List (List Nat × List Nat) := (true, [([], []), ([], []), ([], []), ([1, 2], [1, 2]), ([3], [3]), ([], []), ([0, 4, 5], [0, 4, 5]), ([6], [6])])
def api_Entry_with_26.B5 : List Nat := [0, 0, 0, 6, 14, 0, 63, 127]
theorem api_Entry_with_26.tab5 : rtab .any (opsOf Try.f25 5) = api_Entry_with_26.T5 := by kernel_rfl
theorem api_Entry_with_26.bits5 : waitsOk api_Entry_with_26.T5.2 api_Entry_with_26.B5 = true := by kernel_rfl
def api_Entry_with_26.T8 : Bool × List (List Nat × List Nat) := (true, [([], []), ([], []), ([], []), ([1, 2], [1, 2]), ([3], [3]), ([4], [4]), ([4], [4]), ([4], [4]), ([6, 7, 4], [4, 6, 7]), ([8, 4], [4, 8]), ([4], [4]), ([5, 9, 10, 4, 4], [4, 5, 9, 10]), ([11, 4], [4, 11]), ([4, 12], [4, 12]), ([0, 11, 0], [0]), ([13, 14, 0, 1, 2, 3, 4, 5, 6, 7, 8, 9, 10, 11, 12, 13, 14], [13])])
def api_Entry_with_26.B8 : List Nat := [0, 0, 0, 6, 14, 30, 30, 30, 222, 478, 30, 2046, 4094, 8190, 4095, 32767]
theorem api_Entry_with_26.tab8 : rtab .any (opsOf Try.f25 8) = api_Entry_with_26.T8 := by kernel_rfl
theorem api_Entry_with_26.bits8 : waitsOk api_Entry_with_26.T8.2 api_Entry_with_26.B8 = true := by kernel_rfl
theorem api_Entry_with_26.calls (k : Nat) (A0 : Option Addr) (c0 : Nat) (l0 : List (S59)) (a1_0 : Int) (a1_1 : ByteArray) (A1_2 : Option Addr) (c1_2 : Nat) (l1_2 : List (S82)) (r1 : Int) (r2 : Bool) (w : World) (hr0 : Kd.C k59 w A0 l0.length l0) (hc0 : l0.length ≤ c0) (hr1_2 : Kd.C k82 w A1_2 l1_2.length l1_2) (hc1_2 : l1_2.length ≤ c1_2) (h : api_Entry_with_26.f k l0 a1_0 a1_1 l1_2 = some (r1, r2)) :
 Calls Try.prog 25 #[.slice A0 l0.length c0, .agg #[.int .i64 a1_0, .string a1_1, .slice A1_2 l1_2.length c1_2], .func (.func 26) #[] #[]] w fun e w' => e = .returned (.tuple #[.int .i64 r1, .bool r2]) ∧ Below w.heap.size w w' := by
 have hu59 := Try.underlying59
 have HR0 := Aside0.mk hr0
 have HC0 := Aside0.mk hc0
 clear hr0 hc0
 have HR1_2 := Aside0.mk hr1_2
 have HC1_2 := Aside0.mk hc1_2
 clear hr1_2 hc1_2
 have HB := Aside0.mk (Below.refl w.heap.size w)
 have H : (api_Entry_with_26.l0 k l0 (l0.length : Int) 0 (l0.length : Int) a1_0 a1_1 l1_2) = some (r1, r2) := h
 clear h
 have H' := Aside0.mk H
 clear H
 have eg26 : ∀ args w, (callFunc 26 args).run Try.prog w = .ok (.enter 26 args) w := enters_of Try.func26 (by kernel_rfl) rfl
 go_enter Try.func25, Try.ntmps25
 go_wp2_with (first | ((with_reducible refine gate_dst (N := 4) rfl ?_); refine bx (N := 4) #[.int .i64 a1_0, .string a1_1, .slice A1_2 l1_2.length c1_2] 59 ?_; intro gb195 hg w3 hbox hb; have BK195 := Aside0.mk (hbox); have GW195 := gw hg (uW HB.out); have GE195 := GW195; replace HB := cW HB hb; clear hb hbox hg))
 go_loopg [9, 10] k (fun kq v9 v10 w' => ∃ (x9_1 : Int) (x10_1 : Int), v9 = .int .i64 x9_1 ∧ v10 = .int .i64 x10_1 ∧ Aside0 (api_Entry_with_26.l0 kq l0 (l0.length : Int) x9_1 x10_1 a1_0 a1_1 l1_2 = some (r1, r2)) ∧ Aside0 (kq ≤ k) ∧ Aside0 (w'.heap[gb195]? = some (.cells #[.int .i64 a1_0, .string a1_1, (.slice A1_2 l1_2.length c1_2)] 59 (0, 0))) ∧ Aside0 (Below w.heap.size w w'))
 case atStart => exact ⟨(0), ((l0.length : Int)), rs_, rs_, H', ⟨Nat.le_refl _⟩, ⟨uB BK195.out⟩, ⟨bl⟩⟩
 case round =>
  clear H'
  try clear c1
  try clear p2
  obtain ⟨x9_1, x10_1, rfl, rfl, HA, HK1, BK195, HB⟩ := hrel
  cases gk with
  | zero => exact absurd HA.out (by simp [api_Entry_with_26.l0])
  | succ k1 =>
   have H := HA.out
   clear HA
   simp only [api_Entry_with_26.l0] at H
   by_cases c4 : x9_1 < x10_1
   ·
    rw [if_pos c4] at H
    have c4b0 : decide (x9_1 < x10_1) = true := decide_eq_true c4
    clear c4
    obtain ⟨ji5, hji5⟩ : ∃ j_ : Int, (wrap64 ((IntKind.u64.wrap (wrap64 (x9_1 + x10_1))) / 2)) = j_ := ⟨_, rfl⟩
    (first | rw [hji5] at H | simp only [hji5] at H)
    have hji5w : (IntKind.i64.wrap ((IntKind.u64.wrap (wrap64 (x9_1 + x10_1))) / 2)) = ji5 := (i64_w _).trans hji5
    obtain ⟨c6b0, H⟩ := gdd H
    obtain ⟨c7b0, H⟩ := gdd H
    obtain ⟨t197, A8, H⟩ := bs H
    try dsimp only at H
    by_cases c9 : t197 < 0
    ·
     rw [if_pos c9] at H
     have c9b0 : decide (t197 < 0) = true := decide_eq_true c9
     clear c9
     have H' := Aside0.mk H
     clear H
     try go_wp2
     replace BK195 := Aside0.mk (blk_drew BK195.out)
     replace HB := Aside0.mk (below_drew1 HB.out)
     have p196 : 0 ≤ ((ji5) : Int) := od
     have q196 : (ji5) < (l0.length : Int) := od
     obtain ⟨ad196, A196_2, c196_2, e196, hx196_0, hx196_1, hx196_2, hl196_2, hi196_2⟩ := at_T59 HR0.out (ji5) p196 q196
     have hw196_2 := hx196_2
     have hw196_1 := hx196_1
     have hw196_0 := hx196_0
     cases e196
     replace hx196_0 := kc HB hx196_0
     replace hx196_1 := kc HB hx196_1
     replace hx196_2 := kc HB hx196_2
     have HR196_2 := Aside0.mk hi196_2
     have HC196_2 := Aside0.mk hl196_2
     clear hi196_2 hl196_2
     replace p196 := eq_true p196
     replace q196 := eq_true q196
     refine start_ (n := 8) (S := fun w' => w'.cell? ⟨gb195, 0, none⟩ = some (.int .i64 a1_0) ∧ w'.cell? ⟨gb195, 1, none⟩ = some (.string a1_1) ∧ w'.cell? ⟨gb195, 2, none⟩ = some (.slice A1_2 l1_2.length c1_2) ∧ w'.cell? (ad196.add (((ji5)).toNat * 3)) = some (.int .i64 ((rd_T59 l0 (ji5)).f0)) ∧ w'.cell? ⟨(ad196.add (((ji5)).toNat * 3)).block, (ad196.add (((ji5)).toNat * 3)).off + 1, none⟩ = some (.string ((rd_T59 l0 (ji5)).f1)) ∧ w'.cell? ⟨(ad196.add (((ji5)).toNat * 3)).block, (ad196.add (((ji5)).toNat * 3)).off + 2, none⟩ = some (.slice A196_2 ((rd_T59 l0 (ji5)).f2).length c196_2)) (ds := []) _ (by kernel_rfl) rfl rfl ⟨(blk_cell BK195.out 0).trans rfl, (blk_cell BK195.out 1).trans rfl, (blk_cell BK195.out 2).trans rfl, (kc HB hw196_0), (kc HB hw196_1), (kc HB hw196_2)⟩ (fun hHeld => ?_); refine with_tabW api_Entry_with_26.tab5 api_Entry_with_26.bits5 (fun HT_ HW_ => ?_)
     generalize wr.drew = w10 at BK195 HB HR196_2 hx196_0 hx196_1 hx196_2 hHeld ⊢
     refine p1 0 (some 24) ?_
     refine p1 1 (some 25) ?_
     refine p1 2 (some 26) ?_
     refine p1 3 (some 27) ?_
     refine t1 4 (some 28) rfl rfl hHeld (Or.inl ⟨by rfl, by rintro w' ⟨s0, s1, s2, s3, s4, s5⟩; go_simp; with_reducible rfl⟩) ?_
     refine t1 5 (some 29) rfl rfl hHeld (Or.inl ⟨by rfl, by rintro w' ⟨s0, s1, s2, s3, s4, s5⟩; go_simp; with_reducible rfl⟩) ?_
     refine o1 6 (some 30) rfl rfl (fun K hK => ?_)
     refine api_Entry_with_26.goesV_ Try.func26 (by kernel_rfl) rfl #[.agg #[.int .i64 ((rd_T59 l0 (ji5)).f0), .string ((rd_T59 l0 (ji5)).f1), .slice A196_2 ((rd_T59 l0 (ji5)).f2).length c196_2], .agg #[.int .i64 a1_0, .string a1_1, .slice A1_2 l1_2.length c1_2]] (by rfl) rfl rfl (by rfl) (by (try simp only [List.map_toArray, List.map_cons, List.map_nil]); first | done | (simp only [hji5]; rfl) | rfl | (simp only [List.length_drop, List.length_take]; rfl)) ?_
     with_reducible refine (shard_order.calls k1 ((rd_T59 l0 (ji5)).f0) ((rd_T59 l0 (ji5)).f1) _ _ ((rd_T59 l0 (ji5)).f2) a1_0 a1_1 _ _ l1_2 t197 _ ?side1 ?side2 ?side3 ?side4 A8.out).mono ?_
     (case side1 => exact uC <| (Kd.C_below HR196_2.out HB.out))
     (case side2 => exact HC196_2.out)
     (case side3 => exact uC <| (Kd.C_below HR1_2.out HB.out))
     (case side4 => exact HC1_2.out)
     rintro e w11 ⟨rfl, hb⟩
     refine ⟨_, rfl, ?_⟩
     replace BK195 := cB BK195 hb
     replace HB := Aside0.mk (below_step bl hb)
     (try clear hb)
     refine hK.out _ _ ⟨(blk_cell BK195.out 0).trans rfl, (blk_cell BK195.out 1).trans rfl, (blk_cell BK195.out 2).trans rfl, (kc HB hw196_0), (kc HB hw196_1), (kc HB hw196_2)⟩ (fun hHeld => ?_)
     clear hK K
     refine norm_ (a' := ?_) ?_ ?_
     rotate_left
     ·
      show Act.put _ (some 30) _ = _
      simp only [Act.put, List.setIfInBounds_toArray, List.set_cons_zero, List.set_cons_succ, i64_w, i32_w]
      rfl
     refine p1 7 (some 31) ?_
     refine done_ (done_of HT_.out (by kernel_rfl)) ?_
     try go_wp2
     go_roundg k1
     case measure => have := HK1.out; omega
     case rel => exact ⟨(wrap64 ((ji5) + 1)), (x10_1), (by first | rfl | (simp; done) | (simp only [← hji5] <;> (first | rfl | simp)) | (simp [*]; done)), rs_, H', ⟨by have := HK1.out; omega⟩, ⟨uB BK195.out⟩, ⟨bl⟩⟩
    ·
     rw [if_neg c9] at H
     have c9b0 : decide (t197 < 0) = false := decide_eq_false c9
     clear c9
     have H' := Aside0.mk H
     clear H
     try go_wp2
     replace BK195 := Aside0.mk (blk_drew BK195.out)
     replace HB := Aside0.mk (below_drew1 HB.out)
     have p196 : 0 ≤ ((ji5) : Int) := od
     have q196 : (ji5) < (l0.length : Int) := od
     obtain ⟨ad196, A196_2, c196_2, e196, hx196_0, hx196_1, hx196_2, hl196_2, hi196_2⟩ := at_T59 HR0.out (ji5) p196 q196
     have hw196_2 := hx196_2
     have hw196_1 := hx196_1
     have hw196_0 := hx196_0
     cases e196
     replace hx196_0 := kc HB hx196_0
     replace hx196_1 := kc HB hx196_1
     replace hx196_2 := kc HB hx196_2
     have HR196_2 := Aside0.mk hi196_2
     have HC196_2 := Aside0.mk hl196_2
     clear hi196_2 hl196_2
     replace p196 := eq_true p196
     replace q196 := eq_true q196
     refine start_ (n := 8) (S := fun w' => w'.cell? ⟨gb195, 0, none⟩ = some (.int .i64 a1_0) ∧ w'.cell? ⟨gb195, 1, none⟩ = some (.string a1_1) ∧ w'.cell? ⟨gb195, 2, none⟩ = some (.slice A1_2 l1_2.length c1_2) ∧ w'.cell? (ad196.add (((ji5)).toNat * 3)) = some (.int .i64 ((rd_T59 l0 (ji5)).f0)) ∧ w'.cell? ⟨(ad196.add (((ji5)).toNat * 3)).block, (ad196.add (((ji5)).toNat * 3)).off + 1, none⟩ = some (.string ((rd_T59 l0 (ji5)).f1)) ∧ w'.cell? ⟨(ad196.add (((ji5)).toNat * 3)).block, (ad196.add (((ji5)).toNat * 3)).off + 2, none⟩ = some (.slice A196_2 ((rd_T59 l0 (ji5)).f2).length c196_2)) (ds := []) _ (by kernel_rfl) rfl rfl ⟨(blk_cell BK195.out 0).trans rfl, (blk_cell BK195.out 1).trans rfl, (blk_cell BK195.out 2).trans rfl, (kc HB hw196_0), (kc HB hw196_1), (kc HB hw196_2)⟩ (fun hHeld => ?_); refine with_tabW api_Entry_with_26.tab5 api_Entry_with_26.bits5 (fun HT_ HW_ => ?_)
     generalize wr.drew = w12 at BK195 HB HR196_2 hx196_0 hx196_1 hx196_2 hHeld ⊢
     refine p1 0 (some 24) ?_
     refine p1 1 (some 25) ?_
     refine p1 2 (some 26) ?_
     refine p1 3 (some 27) ?_
     refine t1 4 (some 28) rfl rfl hHeld (Or.inl ⟨by rfl, by rintro w' ⟨s0, s1, s2, s3, s4, s5⟩; go_simp; with_reducible rfl⟩) ?_
     refine t1 5 (some 29) rfl rfl hHeld (Or.inl ⟨by rfl, by rintro w' ⟨s0, s1, s2, s3, s4, s5⟩; go_simp; with_reducible rfl⟩) ?_
     refine o1 6 (some 30) rfl rfl (fun K hK => ?_)
     refine api_Entry_with_26.goesV_ Try.func26 (by kernel_rfl) rfl #[.agg #[.int .i64 ((rd_T59 l0 (ji5)).f0), .string ((rd_T59 l0 (ji5)).f1), .slice A196_2 ((rd_T59 l0 (ji5)).f2).length c196_2], .agg #[.int .i64 a1_0, .string a1_1, .slice A1_2 l1_2.length c1_2]] (by rfl) rfl rfl (by rfl) (by (try simp only [List.map_toArray, List.map_cons, List.map_nil]); first | done | (simp only [hji5]; rfl) | rfl | (simp only [List.length_drop, List.length_take]; rfl)) ?_
     with_reducible refine (shard_order.calls k1 ((rd_T59 l0 (ji5)).f0) ((rd_T59 l0 (ji5)).f1) _ _ ((rd_T59 l0 (ji5)).f2) a1_0 a1_1 _ _ l1_2 t197 _ ?side1 ?side2 ?side3 ?side4 A8.out).mono ?_
     (case side1 => exact uC <| (Kd.C_below HR196_2.out HB.out))
     (case side2 => exact HC196_2.out)
     (case side3 => exact uC <| (Kd.C_below HR1_2.out HB.out))
     (case side4 => exact HC1_2.out)
     rintro e w13 ⟨rfl, hb⟩
     refine ⟨_, rfl, ?_⟩
     replace BK195 := cB BK195 hb
     replace HB := Aside0.mk (below_step bl hb)
     (try clear hb)
     refine hK.out _ _ ⟨(blk_cell BK195.out 0).trans rfl, (blk_cell BK195.out 1).trans rfl, (blk_cell BK195.out 2).trans rfl, (kc HB hw196_0), (kc HB hw196_1), (kc HB hw196_2)⟩ (fun hHeld => ?_)
     clear hK K
     refine norm_ (a' := ?_) ?_ ?_
     rotate_left
     ·
      show Act.put _ (some 30) _ = _
      simp only [Act.put, List.setIfInBounds_toArray, List.set_cons_zero, List.set_cons_succ, i64_w, i32_w]
      rfl
     refine p1 7 (some 31) ?_
     refine done_ (done_of HT_.out (by kernel_rfl)) ?_
     try go_wp2
     go_roundg k1
     case measure => have := HK1.out; omega
     case rel => exact ⟨(x9_1), (ji5), rs_, (by first | rfl | (simp; done) | (simp only [← hji5] <;> (first | rfl | simp)) | (simp [*]; done)), H', ⟨by have := HK1.out; omega⟩, ⟨uB BK195.out⟩, ⟨bl⟩⟩
   ·
    rw [if_neg c4] at H
    have c4b0 : decide (x9_1 < x10_1) = false := decide_eq_false c4
    clear c4
    by_cases c14 : x9_1 < (l0.length : Int)
    ·
     rw [if_pos c14] at H
     have c14b0 : decide (x9_1 < (l0.length : Int)) = true := decide_eq_true c14
     clear c14
     obtain ⟨c15b0, H⟩ := gdd H
     obtain ⟨c16b0, H⟩ := gdd H
     obtain ⟨t199, A17, H⟩ := bs H
     try dsimp only at H
     simp only [Option.some.injEq, Prod.mk.injEq] at H
     obtain ⟨rfl, rfl⟩ := H
     try go_wp2
     replace BK195 := Aside0.mk (blk_drew BK195.out)
     replace HB := Aside0.mk (below_drew1 HB.out)
     have p198 : 0 ≤ (x9_1 : Int) := od
     have q198 : x9_1 < (l0.length : Int) := od
     obtain ⟨ad198, A198_2, c198_2, e198, hx198_0, hx198_1, hx198_2, hl198_2, hi198_2⟩ := at_T59 HR0.out x9_1 p198 q198
     have hw198_2 := hx198_2
     have hw198_1 := hx198_1
     have hw198_0 := hx198_0
     cases e198
     replace hx198_0 := kc HB hx198_0
     replace hx198_1 := kc HB hx198_1
     replace hx198_2 := kc HB hx198_2
     have HR198_2 := Aside0.mk hi198_2
     have HC198_2 := Aside0.mk hl198_2
     clear hi198_2 hl198_2
     replace p198 := eq_true p198
     replace q198 := eq_true q198
     refine start_ (n := 16) (S := fun w' => w'.cell? ⟨gb195, 0, none⟩ = some (.int .i64 a1_0) ∧ w'.cell? ⟨gb195, 1, none⟩ = some (.string a1_1) ∧ w'.cell? ⟨gb195, 2, none⟩ = some (.slice A1_2 l1_2.length c1_2) ∧ w'.cell? (ad198.add ((x9_1).toNat * 3)) = some (.int .i64 ((rd_T59 l0 x9_1).f0)) ∧ w'.cell? ⟨(ad198.add ((x9_1).toNat * 3)).block, (ad198.add ((x9_1).toNat * 3)).off + 1, none⟩ = some (.string ((rd_T59 l0 x9_1).f1)) ∧ w'.cell? ⟨(ad198.add ((x9_1).toNat * 3)).block, (ad198.add ((x9_1).toNat * 3)).off + 2, none⟩ = some (.slice A198_2 ((rd_T59 l0 x9_1).f2).length c198_2)) (ds := []) _ (by kernel_rfl) rfl rfl ⟨(blk_cell BK195.out 0).trans rfl, (blk_cell BK195.out 1).trans rfl, (blk_cell BK195.out 2).trans rfl, (kc HB hw198_0), (kc HB hw198_1), (kc HB hw198_2)⟩ (fun hHeld => ?_); refine with_tabW api_Entry_with_26.tab8 api_Entry_with_26.bits8 (fun HT_ HW_ => ?_)
     generalize wr.drew = w18 at BK195 HB HR198_2 hx198_0 hx198_1 hx198_2 hHeld ⊢
     refine p1 0 (some 35) ?_
     refine p1 1 (some 36) ?_
     refine p1 2 (some 37) ?_
     refine p1 3 (some 38) ?_
     refine p1 4 (some 39) ?_
     refine p1 5 (some 40) ?_
     refine p1 6 (some 41) ?_
     refine p1 7 (some 42) ?_
     refine p1 8 (some 43) ?_
     refine t1 9 (some 44) rfl rfl hHeld (Or.inl ⟨by rfl, by rintro w' ⟨s0, s1, s2, s3, s4, s5⟩; go_simp; with_reducible rfl⟩) ?_
     refine t1 10 (some 45) rfl rfl hHeld (Or.inl ⟨by rfl, by rintro w' ⟨s0, s1, s2, s3, s4, s5⟩; go_simp; with_reducible rfl⟩) ?_
     refine o1 11 (some 46) rfl rfl (fun K hK => ?_)
     refine api_Entry_with_26.goesV_ Try.func26 (by kernel_rfl) rfl #[.agg #[.int .i64 ((rd_T59 l0 x9_1).f0), .string ((rd_T59 l0 x9_1).f1), .slice A198_2 ((rd_T59 l0 x9_1).f2).length c198_2], .agg #[.int .i64 a1_0, .string a1_1, .slice A1_2 l1_2.length c1_2]] (by rfl) rfl rfl (by rfl) (by (try simp only [List.map_toArray, List.map_cons, List.map_nil]); first | done | rfl | (simp only [List.length_drop, List.length_take]; rfl)) ?_
     with_reducible refine (shard_order.calls k1 ((rd_T59 l0 x9_1).f0) ((rd_T59 l0 x9_1).f1) _ _ ((rd_T59 l0 x9_1).f2) a1_0 a1_1 _ _ l1_2 t199 _ ?side1 ?side2 ?side3 ?side4 A17.out).mono ?_
     (case side1 => exact uC <| (Kd.C_below HR198_2.out HB.out))
     (case side2 => exact HC198_2.out)
     (case side3 => exact uC <| (Kd.C_below HR1_2.out HB.out))
     (case side4 => exact HC1_2.out)
     rintro e w19 ⟨rfl, hb⟩
     refine ⟨_, rfl, ?_⟩
     replace BK195 := cB BK195 hb
     replace HB := Aside0.mk (below_step bl hb)
     (try clear hb)
     refine hK.out _ _ ⟨(blk_cell BK195.out 0).trans rfl, (blk_cell BK195.out 1).trans rfl, (blk_cell BK195.out 2).trans rfl, (kc HB hw198_0), (kc HB hw198_1), (kc HB hw198_2)⟩ (fun hHeld => ?_)
     clear hK K
     refine norm_ (a' := ?_) ?_ ?_
     rotate_left
     ·
      show Act.put _ (some 46) _ = _
      simp only [Act.put, List.setIfInBounds_toArray, List.set_cons_zero, List.set_cons_succ, i64_w, i32_w]
      rfl
     refine p1 12 (some 47) ?_
     refine p1 13 (some 48) ?_
     refine p1 14 (some 6) ?_
     refine p1 15 (some 7) ?_
     refine done_ (done_of HT_.out (by kernel_rfl)) ?_
     try go_wp2
     go_ret2
     exact ⟨re_, bl⟩
    ·
     rw [if_neg c14] at H
     have c14b0 : decide (x9_1 < (l0.length : Int)) = false := decide_eq_false c14
     clear c14
     simp only [Option.some.injEq, Prod.mk.injEq] at H
     obtain ⟨rfl, rfl⟩ := H
     try go_wp2
     replace BK195 := Aside0.mk (blk_drew BK195.out)
     replace HB := Aside0.mk (below_drew1 HB.out)
     refine start_ (n := 16) (S := fun w' => True) (ds := []) _ (by kernel_rfl) rfl rfl trivial (fun hHeld => ?_); refine with_tabW api_Entry_with_26.tab8 api_Entry_with_26.bits8 (fun HT_ HW_ => ?_)
     generalize wr.drew = w20 at BK195 HB hHeld ⊢
     refine p1 0 (some 35) ?_
     refine p1 1 (some 36) ?_
     refine p1 2 (some 37) ?_
     refine p1 3 (some 38) ?_
     refine p1 4 (some 39) ?_
     refine p2 5 (some 40) ?_
     refine p2 6 (some 41) ?_
     refine p2 7 (some 42) ?_
     refine p2 8 (some 43) ?_
     refine p2 9 (some 44) ?_
     refine p2 10 (some 45) ?_
     refine p2 11 (some 46) ?_
     refine p2 12 (some 47) ?_
     refine p1 13 (some 48) ?_
     refine p1 14 (some 6) ?_
     refine p1 15 (some 7) ?_
     refine done_ (done_of HT_.out (by kernel_rfl)) ?_
     try go_wp2
     go_ret2
     exact ⟨re_, bl⟩
end Go.Proofs.Ytofaindjbhmopaa.X
