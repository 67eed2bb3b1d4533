/- Printed by a program of this session's own: what functions of the program compute, and that the machine computes it. No condition of its own. -/
import Derived.Test.YteckidchnicjeaaGreatDoorM3
import Derived.Test.YteckidchnicjeaaGreatDoorM4
import Derived.Test.YteckidchnicjeaaGreatDoorM8
import Derived.Test.YteckidchnicjeaaGreatDoorM9
import Derived.Test.YteckidchnicjeaaGreatDoorM10
namespace Go.Proofs.YteckidchnicjeaaGreatDoor.X
open Go.RowKit Go.Proofs.YteckidchnicjeaaGreatDoorW.PrintWords Go.Proofs.YteckidchnicjeaaGreatDoorW.PrintLast Go.Proofs.YteckidchnicjeaaGreatDoorW.PrintMore
attribute [local go_sem] max2_int min2_int max_two min_two max_three min_three max_four min_four
set_option linter.unusedVariables false
set_option linter.unusedSimpArgs false
set_option maxHeartbeats 8000000
set_option maxRecDepth 100000
def w23_ReplyWrites.j0 : Nat → Bool → Int → Int → List (S60) → Int → Int → Int → List (S60) → List (S78) → Option (Bool)
 | 0, _, _, _, _, _, _, _, _, _ => none
 | k + 1, x14, x427000, x427001, x427002, x428000, x428001, x428002, x428003, x428004 => if x14 = true then (some true) else ((reply_Rows.f k x427000 x427001 x427002).bind fun t434 => ((r23_Rows.f k x427000 x427001 x427002).bind fun t435 => (if t434.toList = t435.toList then ((reply_Message.f k x428000 x428001 x428002 x428003 x428004).bind fun t436 => ((r23_Message.f k x428000 x428001 x428002 x428003 x428004).bind fun t437 => (some (t436.toList == t437.toList)))) else (none))))
def w23_ReplyWrites.f (k : Nat) (a0_0 : Int) (a0_1 : Int) (l0_2 : List (S60)) (a1_0 : Int) (a1_1 : Int) (a1_2 : Int) (l1_3 : List (S60)) (l1_4 : List (S78)) : Option (Bool) := (w23_alive.f k).bind fun t428 => (if t428 = true then ((r08_Great.f k l0_2).bind fun t429 => (if t429 = true then (w23_ReplyWrites.j0 k true a0_0 a0_1 l0_2 a1_0 a1_1 a1_2 l1_3 l1_4) else ((r19_Much.f k (([(⟨a1_0, a1_1, a1_2, l1_3, l1_4⟩ : S36)] : List (S36)))).bind fun t433 => (w23_ReplyWrites.j0 k t433 a0_0 a0_1 l0_2 a1_0 a1_1 a1_2 l1_3 l1_4)))) else (none))
theorem w23_ReplyWrites.mono_l : ∀ k, (∀ y0 y1 y2 y3 y4 y5 y6 y7 y8, LeC (w23_ReplyWrites.j0 k y0 y1 y2 y3 y4 y5 y6 y7 y8) (w23_ReplyWrites.j0 (k + 1) y0 y1 y2 y3 y4 y5 y6 y7 y8))
 | 0 => fun _ _ _ _ _ _ _ _ _ => ⟨fun r h => by simp [w23_ReplyWrites.j0] at h⟩
 | k + 1 => by have ih0 := w23_ReplyWrites.mono_l k; exact fun _ _ _ _ _ _ _ _ _ => by unfold w23_ReplyWrites.j0; exact lm
theorem w23_ReplyWrites.mono : ∀ a0 a1 a2 a3 a4 a5 a6 a7 k, LeO (w23_ReplyWrites.f k a0 a1 a2 a3 a4 a5 a6 a7) (w23_ReplyWrites.f (k + 1) a0 a1 a2 a3 a4 a5 a6 a7) := by
 intro a0 a1 a2 a3 a4 a5 a6 a7 k
 have ih0 := w23_ReplyWrites.mono_l k
 unfold w23_ReplyWrites.f
 exact lo
instance w23_ReplyWrites.mI {a0 a1 a2 a3 a4 a5 a6 a7 k} : LeC (w23_ReplyWrites.f k a0 a1 a2 a3 a4 a5 a6 a7) (w23_ReplyWrites.f (k + 1) a0 a1 a2 a3 a4 a5 a6 a7) := ⟨w23_ReplyWrites.mono _ _ _ _ _ _ _ _ _⟩
def w23_ReplyWrites.T5 : Bool × List (List Nat × List Nat) := (true, [([], []), ([0], [0]), ([], []), ([2, 1], [2]), ([1, 3], [1, 3]), ([4, 3], [4]), ([5], [5]), ([6, 5, 5], [5, 6]), ([5], [5]), ([8, 7, 5], [5, 8]), ([7, 9, 5], [5, 7, 9]), ([5, 10], [5, 10]), ([11, 9, 0, 1, 2, 3, 4, 5, 6, 7, 8, 9, 10, 11], [11])])
def w23_ReplyWrites.B5 : List Nat := [0, 1, 0, 7, 15, 31, 63, 127, 63, 511, 1023, 2047, 4095]
theorem w23_ReplyWrites.tab5 : rtab .any (opsOf Tryz.f4 5) = w23_ReplyWrites.T5 := by kernel_rfl
theorem w23_ReplyWrites.bits5 : waitsOk w23_ReplyWrites.T5.2 w23_ReplyWrites.B5 = true := by kernel_rfl
theorem w23_ReplyWrites.calls (k : Nat) (a0_0 : Int) (a0_1 : Int) (A0_2 : Option Addr) (c0_2 : Nat) (l0_2 : List (S60)) (a1_0 : Int) (a1_1 : Int) (a1_2 : Int) (P1_3_ : Nat → Prop) (A1_3 : Option Addr) (c1_3 : Nat) (l1_3 : List (S60)) (P1_4_ : Nat → Prop) (A1_4 : Option Addr) (c1_4 : Nat) (l1_4 : List (S78)) (r : Bool) (w : World) (hr0_2 : Kd.C k60 w A0_2 l0_2.length l0_2) (hc0_2 : l0_2.length ≤ c0_2) (hs1_3 : Kd.V k60 60 w w.heap.size (fun k_ => P1_3_ k_) (.slice A1_3 l1_3.length c1_3) l1_3) (hs1_4 : Kd.V k78 78 w w.heap.size (fun k_ => P1_4_ k_) (.slice A1_4 l1_4.length c1_4) l1_4) (hL : LD w) (h : w23_ReplyWrites.f k a0_0 a0_1 l0_2 a1_0 a1_1 a1_2 l1_3 l1_4 = some r) :
 Calls Tryz.prog 4 #[.agg #[.int .i64 a0_0, .int .i64 a0_1, .slice A0_2 l0_2.length c0_2], .agg #[.int .i64 a1_0, .int .i64 a1_1, .int .i64 a1_2, .slice A1_3 l1_3.length c1_3, .slice A1_4 l1_4.length c1_4]] w fun e w' => e = .returned (.bool r) ∧ Below w.heap.size w w' := by
 have HL0 := Aside0.mk hL
 clear hL
 have hu33 := Tryz.underlying33
 have hu36 := Tryz.underlying36
 have HR0_2 := Aside0.mk hr0_2
 have HC0_2 := Aside0.mk hc0_2
 clear hr0_2 hc0_2
 have HO1_3 := Aside0.mk (show Kd.V k60 60 w w.heap.size (fun k_ => ((P1_3_ k_ ∨ P1_4_ k_) ∨ w.heap.size ≤ k_)) (.slice A1_3 l1_3.length c1_3) l1_3 from Kd.V_mono hs1_3 (fun k_ hk => .inl (.inl hk)))
 have HO1_4 := Aside0.mk (show Kd.V k78 78 w w.heap.size (fun k_ => ((P1_3_ k_ ∨ P1_4_ k_) ∨ w.heap.size ≤ k_)) (.slice A1_4 l1_4.length c1_4) l1_4 from Kd.V_mono hs1_4 (fun k_ hk => .inl (.inr hk)))
 have HB := Aside0.mk (Below.refl w.heap.size w)
 have H : ((w23_alive.f k).bind fun t428 => (if t428 = true then ((r08_Great.f k l0_2).bind fun t429 => (if t429 = true then (w23_ReplyWrites.j0 k true a0_0 a0_1 l0_2 a1_0 a1_1 a1_2 l1_3 l1_4) else ((r19_Much.f k (([(⟨a1_0, a1_1, a1_2, l1_3, l1_4⟩ : S36)] : List (S36)))).bind fun t433 => (w23_ReplyWrites.j0 k t433 a0_0 a0_1 l0_2 a1_0 a1_1 a1_2 l1_3 l1_4)))) else (none))) = some r := h
 clear h
 obtain ⟨t428, A3, H⟩ := bs H
 try dsimp only at H
 by_cases c4 : t428 = true
 ·
  subst c4
  rw [if_pos rfl] at H
  have HC5 := Aside0.mk H
  clear H
  go_enter Tryz.func4, Tryz.ntmps4
  go_upto_region 3 with (first | ((with_reducible refine gate_dst (N := 2) rfl ?_); (try (refine gate_guard (by rfl) ?_; dsimp only)); refine bx (N := 2) #[.int .i64 a0_0, .int .i64 a0_1, .slice A0_2 l0_2.length c0_2] 33 ?_; intro gb426 hg w6 hbox hb; replace HO1_3 := Aside0.mk (Kd.V_below (Kd.V_elderB (uV HO1_3.out) gb426 (Nat.le_of_eq hg.symm)) hb); replace HO1_4 := Aside0.mk (Kd.V_below (Kd.V_elderB (uV HO1_4.out) gb426 (Nat.le_of_eq hg.symm)) hb); have BK426 := Aside0.mk (hbox); have GW426 := gw hg (uW HB.out); have GE426 := GW426; replace HB := cW HB hb; clear hb hbox hg) | ((with_reducible refine gate_dst (N := 3) rfl ?_); (try (refine gate_guard (by rfl) ?_; dsimp only)); refine bx (N := 3) #[.int .i64 a1_0, .int .i64 a1_1, .int .i64 a1_2, .slice A1_3 l1_3.length c1_3, .slice A1_4 l1_4.length c1_4] 36 ?_; intro gb427 hg w7 hbox hb; replace HO1_3 := Aside0.mk (Kd.V_below (Kd.V_elderB (uV HO1_3.out) gb427 (Nat.le_of_eq hg.symm)) hb); replace HO1_4 := Aside0.mk (Kd.V_below (Kd.V_elderB (uV HO1_4.out) gb427 (Nat.le_of_eq hg.symm)) hb); have BK427 := Aside0.mk (hbox); have GW427 := gw hg bl; have GE427 := GW427; replace HB := Aside0.mk (below_step bl hb); have NB426_427 := Aside0.mk ((by rw [hg]; exact Nat.ne_of_lt (blk_lt (g := gb426) (o := .cells #[.int .i64 a0_0, .int .i64 a0_1, .slice A0_2 l0_2.length c0_2] 33 (0, 0)) (uB BK426.out)) : gb426 ≠ gb427)); have NB427_426 := Aside0.mk ((by rw [hg]; exact Nat.ne_of_gt (blk_lt (g := gb426) (o := .cells #[.int .i64 a0_0, .int .i64 a0_1, .slice A0_2 l0_2.length c0_2] 33 (0, 0)) (uB BK426.out)) : gb427 ≠ gb426)); replace BK426 := cB BK426 hb; clear hb hbox hg) | (refine gL (some 5) rfl Tryz.func7 #[] ?_; (with_reducible refine (w23_alive.calls (hL := ld) k  true _ A3.out).mono ?_); rintro e w8 ⟨rfl, hb⟩; refine ⟨_, rfl, ?_⟩; replace HO1_3 := cV HO1_3 hb; replace HO1_4 := cV HO1_4 hb; replace BK426 := cB BK426 hb; replace BK427 := cB BK427 hb; replace HB := Aside0.mk (below_step bl hb); (try clear hb)))
  (try simp only [Act.put, List.setIfInBounds_toArray, List.set_cons_zero, List.set_cons_succ])
  go_cut [14] (fun v14 wc => ∃ (kq : Nat) (x14_4 : Bool), v14 = .bool x14_4 ∧ Aside0 (w23_ReplyWrites.j0 kq x14_4 a0_0 a0_1 l0_2 a1_0 a1_1 a1_2 l1_3 l1_4 = some r) ∧ Aside0 (kq ≤ k) ∧ Aside0 (Kd.V k60 60 wc w.heap.size (fun k_ => ((P1_3_ k_ ∨ P1_4_ k_) ∨ w.heap.size ≤ k_) ∧ k_ ≠ gb426 ∧ k_ ≠ gb427) (.slice A1_3 l1_3.length c1_3) l1_3) ∧ Aside0 (Kd.V k78 78 wc w.heap.size (fun k_ => ((P1_3_ k_ ∨ P1_4_ k_) ∨ w.heap.size ≤ k_) ∧ k_ ≠ gb426 ∧ k_ ≠ gb427) (.slice A1_4 l1_4.length c1_4) l1_4) ∧ Aside0 (wc.heap[gb426]? = some (.cells #[.int .i64 a0_0, .int .i64 a0_1, (.slice A0_2 l0_2.length c0_2)] 33 (0, 0))) ∧ Aside0 (wc.heap[gb427]? = some (.cells #[.int .i64 a1_0, .int .i64 a1_1, .int .i64 a1_2, (.slice A1_3 l1_3.length c1_3), (.slice A1_4 l1_4.length c1_4)] 36 (0, 0))) ∧ Aside0 (Below w.heap.size w wc))
  case first =>
   have H := HC5.out
   clear HC5
   obtain ⟨t429, A9, H⟩ := bs H
   try dsimp only at H
   by_cases c10 : t429 = true
   ·
    subst c10
    rw [if_pos rfl] at H
    have H' := Aside0.mk H
    clear H
    have hnb11 := NB426_427.out
    have hnc11 := NB427_426.out
    obtain ⟨hcz12_0, hcz12_1, hcz12_2, hfz12_0, hfz12_1, hfz12_2⟩ := z3 BK426
    go_wp2_with (first | (refine gL (some 9) rfl Tryz.func16 #[.slice A0_2 l0_2.length c0_2] ?_; (with_reducible refine (r08_Great.calls k _ _ l0_2 true _ ?side1 ?side2 A9.out).mono ?_); (case side1 => exact uC <| (Kd.C_below HR0_2.out HB.out)); (case side2 => exact HC0_2.out); rintro e w' ⟨rfl, ⟨nd, rfl⟩⟩; refine ⟨_, rfl, ?_⟩))
    go_meet
    case rel => exact ⟨_, (true), rs_, H', ⟨by first | omega | exact Nat.le_refl _⟩, ⟨by exact uV <| Kd.V_mono HO1_3.out (fun _ hk => ⟨hk.1.1, ⟨hk.1.2, hk.2⟩⟩)⟩, ⟨by exact uV <| Kd.V_mono HO1_4.out (fun _ hk => ⟨hk.1.1, ⟨hk.1.2, hk.2⟩⟩)⟩, ⟨uB BK426.out⟩, ⟨uB BK427.out⟩, ⟨bl⟩⟩
   ·
    replace c10 := Bool.eq_false_iff.mpr c10
    subst c10
    rw [if_neg (show ¬ (false = true) by decide)] at H
    obtain ⟨y430, hy430⟩ : ∃ y_ : List (S36), y_ = (([(⟨a1_0, a1_1, a1_2, l1_3, l1_4⟩ : S36)] : List (S36))) := ⟨_, rfl⟩
    replace H : ((r19_Much.f k y430).bind fun t433 => (w23_ReplyWrites.j0 k t433 a0_0 a0_1 l0_2 a1_0 a1_1 a1_2 l1_3 l1_4)) = some r := by first | (rw [hy430]; with_reducible exact H) | (have H2_ := (Option.bind_some _ _).symm.trans H; rw [hy430]; with_reducible exact H2_) | (have H2_ := (Option.bind_some _ _).symm.trans H; with_reducible exact H2_) | with_reducible exact H | (rw [hy430]; exact H) | exact H
    have Ny430 := Aside0.mk hy430
    clear hy430
    obtain ⟨t433, A13, H⟩ := bs H
    try dsimp only at H
    have H' := Aside0.mk H
    clear H
    have hnb14 := NB426_427.out
    have hnc14 := NB427_426.out
    obtain ⟨hcz15_0, hcz15_1, hcz15_2, hfz15_0, hfz15_1, hfz15_2⟩ := z3 BK426
    go_wp2_with (first | (refine gL (some 9) rfl Tryz.func16 #[.slice A0_2 l0_2.length c0_2] ?_; (with_reducible refine (r08_Great.calls k _ _ l0_2 false _ ?side1 ?side2 A9.out).mono ?_); (case side1 => exact uC <| (Kd.C_below HR0_2.out HB.out)); (case side2 => exact HC0_2.out); rintro e w' ⟨rfl, ⟨nd, rfl⟩⟩; refine ⟨_, rfl, ?_⟩; obtain ⟨hcz16_0, hcz16_1, hcz16_2, hcz16_3, hcz16_4, hfz16_0, hfz16_1, hfz16_2, hfz16_3, hfz16_4⟩ := z5 BK427) | ((with_reducible refine gate_dst (N := 12) rfl ?_); (try (refine gate_guard (by rfl) ?_; dsimp only)); refine Kd.N_lit k36 _ 36 ?hg (N' := 12) ?hd (xs := ([(⟨a1_0, a1_1, a1_2, l1_3, l1_4⟩ : S36)] : List (S36))) (inner := [.int .i64 a1_0, .int .i64 a1_1, .int .i64 a1_2, .slice A1_3 l1_3.length c1_3, .slice A1_4 l1_4.length c1_4]) (ok := (fun k_ => ((P1_3_ k_ ∨ P1_4_ k_) ∨ w.heap.size ≤ k_) ∧ k_ ≠ gb426 ∧ k_ ≠ gb427)) (okp := (fun k_ => ((P1_3_ k_ ∨ P1_4_ k_) ∨ w.heap.size ≤ k_) ∧ k_ ≠ gb426 ∧ k_ ≠ gb427)) ?hr ?hp (fun _ hk => hk) ((show ∀ k_, w8.heap.size ≤ k_ → (fun k_ => ((P1_3_ k_ ∨ P1_4_ k_) ∨ w.heap.size ≤ k_) ∧ k_ ≠ gb426 ∧ k_ ≠ gb427) k_ from fun k_ hk => ⟨(.inr (Nat.le_trans (below_size bl) hk)), Kd.freshB (g := gb426) (o := .cells #[.int .i64 a0_0, .int .i64 a0_1, .slice A0_2 l0_2.length c0_2] 33 (0, 0)) (uB BK426.out) k_ hk, Kd.freshB (g := gb427) (o := .cells #[.int .i64 a1_0, .int .i64 a1_1, .int .i64 a1_2, .slice A1_3 l1_3.length c1_3, .slice A1_4 l1_4.length c1_4] 36 (0, 0)) (uB BK427.out) k_ hk⟩) _ (Nat.le_refl _)) (Below.refl _ _) (Nat.le_refl _) (by simp) ?_; (case hd => rfl); (case hg => rfl); (case hr => first | (go_simp; done) | (go_simp; rfl)); (case hp => exact (Reps.c5 (show Kd.FK k36 _ _ (⟨a1_0, a1_1, a1_2, l1_3, l1_4⟩ : S36) [.int .i64 a1_0, .int .i64 a1_1, .int .i64 a1_2, .slice A1_3 l1_3.length c1_3, .slice A1_4 l1_4.length c1_4] from (k36_mkF _ _ (⟨a1_0, a1_1, a1_2, l1_3, l1_4⟩ : S36) (Kd.V_reads' (Kd.V_mono (ok' := (fun k_ => ((P1_3_ k_ ∨ P1_4_ k_) ∨ w.heap.size ≤ k_) ∧ k_ ≠ gb426 ∧ k_ ≠ gb427)) (HO1_3.out) (fun k_ hk => ⟨hk.1.1, ⟨hk.1.2, hk.2⟩⟩))).2.1 (Kd.V_F (Kd.V_mono (ok' := (fun k_ => ((P1_3_ k_ ∨ P1_4_ k_) ∨ w.heap.size ≤ k_) ∧ k_ ≠ gb426 ∧ k_ ≠ gb427)) (HO1_3.out) (fun k_ hk => ⟨hk.1.1, ⟨hk.1.2, hk.2⟩⟩))) (Kd.V_reads' (Kd.V_mono (ok' := (fun k_ => ((P1_3_ k_ ∨ P1_4_ k_) ∨ w.heap.size ≤ k_) ∧ k_ ≠ gb426 ∧ k_ ≠ gb427)) (HO1_4.out) (fun k_ hk => ⟨hk.1.1, ⟨hk.1.2, hk.2⟩⟩))).2.1 (Kd.V_F (Kd.V_mono (ok' := (fun k_ => ((P1_3_ k_ ∨ P1_4_ k_) ∨ w.heap.size ≤ k_) ∧ k_ ≠ gb426 ∧ k_ ≠ gb427)) (HO1_4.out) (fun k_ hk => ⟨hk.1.1, ⟨hk.1.2, hk.2⟩⟩))))) (Reps.none _ _))); intro v431 w17 ho18 hb hg_ hnew_; clear hg_ hnew_; (first | rw [← Ny430.out] at ho18 | (simp only [Int.reduceToNat] at ho18; rw [← Ny430.out] at ho18)); replace HO1_3 := Aside0.mk (Kd.V_elder' (uV HO1_3.out) (Kd.N_base ho18) hb); replace HO1_4 := Aside0.mk (Kd.V_elder' (uV HO1_4.out) (Kd.N_base ho18) hb); have HO432 := Aside0.mk (Kd.N_lower ho18 (below_size bl)); replace BK426 := cB BK426 hb; replace BK427 := cB BK427 hb; replace HB := Aside0.mk (below_step bl hb); clear hb ho18; obtain ⟨Ao19, co19, eo19⟩ := Kd.N_slice HO432.out; subst eo19) | (go_at_call 17; (with_reducible refine (r19_Much.calls k _ _ y430 t433 _ ?side1 ?side2 A13.out).mono ?_); (case side1 => exact uC <| (Kd.N_reads' HO432.out).2.2); (case side2 => exact (Kd.N_reads' HO432.out).2.1); rintro e w' ⟨rfl, ⟨nd, rfl⟩⟩))
    go_meet
    case rel => exact ⟨_, (t433), rs_, H', ⟨by first | omega | exact Nat.le_refl _⟩, ⟨by exact uV <| Kd.V_mono HO1_3.out (fun _ hk => ⟨hk.1.1.1, ⟨hk.1.1.2, hk.1.2⟩⟩)⟩, ⟨by exact uV <| Kd.V_mono HO1_4.out (fun _ hk => ⟨hk.1.1.1, ⟨hk.1.1.2, hk.1.2⟩⟩)⟩, ⟨uB BK426.out⟩, ⟨uB BK427.out⟩, ⟨bl⟩⟩
  case rest =>
   clear HC5
   try clear c1
   try clear p2
   try clear c4
   try clear c5
   try clear c7
   try clear c10
   try clear c11
   try clear c14
   try clear c16
   try clear hcz12_0
   try clear hcz12_1
   try clear hcz12_2
   try clear hcz15_0
   try clear hcz15_1
   try clear hcz15_2
   try clear hcz16_0
   try clear hcz16_1
   try clear hcz16_2
   try clear hcz16_3
   try clear hcz16_4
   try clear hfz12_0
   try clear hfz12_1
   try clear hfz12_2
   try clear hfz15_0
   try clear hfz15_1
   try clear hfz15_2
   try clear hfz16_0
   try clear hfz16_1
   try clear hfz16_2
   try clear hfz16_3
   try clear hfz16_4
   obtain ⟨kq, x14_4, rfl, HA, HJ4, HO_428003, HO_428004, BK426, BK427, HB⟩ := hcut
   cases kq with
   | zero => exact absurd HA.out (by simp [w23_ReplyWrites.j0])
   | succ kj4 =>
    have H := HA.out
    clear HA
    simp only [w23_ReplyWrites.j0] at H
    by_cases c20 : x14_4 = true
    ·
     subst c20
     rw [if_pos rfl] at H
     obtain rfl := Option.some.inj H
     go_wp2
     go_ret
     exact ⟨re_, bl⟩
    ·
     replace c20 := Bool.eq_false_iff.mpr c20
     subst c20
     rw [if_neg (show ¬ (false = true) by decide)] at H
     obtain ⟨t434, A21, H⟩ := bs H
     try dsimp only at H
     obtain ⟨t435, A22, H⟩ := bs H
     try dsimp only at H
     by_cases c23 : t434.toList = t435.toList
     ·
      rw [if_pos c23] at H
      have c23b0 : (t434.toList == t435.toList) = true := beq_iff_eq.mpr c23
      have c23b1 : (t434.toList != t435.toList) = false := bne_eq_false_iff_eq.mpr c23
      clear c23
      obtain ⟨t436, A24, H⟩ := bs H
      try dsimp only at H
      obtain ⟨t437, A25, H⟩ := bs H
      try dsimp only at H
      obtain rfl := Option.some.inj H
      try go_wp2
      replace HO_428003 := Aside0.mk (Kd.V_drew HO_428003.out)
      replace HO_428004 := Aside0.mk (Kd.V_drew HO_428004.out)
      replace BK426 := Aside0.mk (blk_drew BK426.out)
      replace BK427 := Aside0.mk (blk_drew BK427.out)
      replace HB := Aside0.mk (below_drew1 HB.out)
      refine start_ (n := 13) (S := fun w' => w'.cell? ⟨gb426, 0, none⟩ = some (.int .i64 a0_0) ∧ w'.cell? ⟨gb426, 1, none⟩ = some (.int .i64 a0_1) ∧ w'.cell? ⟨gb426, 2, none⟩ = some (.slice A0_2 l0_2.length c0_2) ∧ w'.cell? ⟨gb427, 0, none⟩ = some (.int .i64 a1_0) ∧ w'.cell? ⟨gb427, 1, none⟩ = some (.int .i64 a1_1) ∧ w'.cell? ⟨gb427, 2, none⟩ = some (.int .i64 a1_2) ∧ w'.cell? ⟨gb427, 3, none⟩ = some (.slice A1_3 l1_3.length c1_3) ∧ w'.cell? ⟨gb427, 4, none⟩ = some (.slice A1_4 l1_4.length c1_4)) (ds := []) _ (by kernel_rfl) rfl rfl ⟨(blk_cell BK426.out 0).trans rfl, (blk_cell BK426.out 1).trans rfl, (blk_cell BK426.out 2).trans rfl, (blk_cell BK427.out 0).trans rfl, (blk_cell BK427.out 1).trans rfl, (blk_cell BK427.out 2).trans rfl, (blk_cell BK427.out 3).trans rfl, (blk_cell BK427.out 4).trans rfl⟩ (fun hHeld => ?_); refine with_tabW w23_ReplyWrites.tab5 w23_ReplyWrites.bits5 (fun HT_ HW_ => ?_)
      generalize wc.drew = w26 at HO_428003 HO_428004 BK426 BK427 HB hHeld ⊢
      refine t1 0 (some 15) rfl rfl hHeld (Or.inl ⟨by rfl, by rintro w' ⟨s0, s1, s2, s3, s4, s5, s6, s7⟩; go_simp; with_reducible rfl⟩) ?_
      refine t1 2 (some 17) rfl rfl hHeld (Or.inl ⟨by rfl, by rintro w' ⟨s0, s1, s2, s3, s4, s5, s6, s7⟩; go_simp; with_reducible rfl⟩) ?_
      refine o1 1 (some 16) rfl rfl (fun K hK => ?_)
      refine gS Tryz.func18 #[.agg #[.int .i64 a0_0, .int .i64 a0_1, .slice A0_2 l0_2.length c0_2]] ?_
      with_reducible refine (reply_Rows.calls (hL := ld) kj4 a0_0 a0_1 _ _ l0_2 t434 _ ?side1 ?side2 A21.out).mono ?_
      (case side1 => exact uC <| (Kd.C_below HR0_2.out HB.out))
      (case side2 => exact HC0_2.out)
      rintro e w27 ⟨rfl, hb⟩
      refine ⟨_, rfl, ?_⟩
      replace HO_428003 := cV HO_428003 hb
      replace HO_428004 := cV HO_428004 hb
      replace BK426 := cB BK426 hb
      replace BK427 := cB BK427 hb
      replace HB := Aside0.mk (below_step bl hb)
      (try clear hb)
      refine hK.out _ _ ⟨(blk_cell BK426.out 0).trans rfl, (blk_cell BK426.out 1).trans rfl, (blk_cell BK426.out 2).trans rfl, (blk_cell BK427.out 0).trans rfl, (blk_cell BK427.out 1).trans rfl, (blk_cell BK427.out 2).trans rfl, (blk_cell BK427.out 3).trans rfl, (blk_cell BK427.out 4).trans rfl⟩ (fun hHeld => ?_)
      clear hK K
      refine norm_ (a' := ?_) ?_ ?_
      rotate_left
      ·
       show Act.put _ (some 16) _ = _
       simp only [Act.put, List.setIfInBounds_toArray, List.set_cons_zero, List.set_cons_succ, i64_w, i32_w]
       rfl
      refine o1 3 (some 18) rfl rfl (fun K hK => ?_)
      refine gS Tryz.func19 #[.agg #[.int .i64 a0_0, .int .i64 a0_1, .slice A0_2 l0_2.length c0_2]] ?_
      with_reducible refine (r23_Rows.calls kj4 a0_0 a0_1 _ _ l0_2 t435 _ ?side1 ?side2 A22.out).mono ?_
      (case side1 => exact uC <| (Kd.C_below HR0_2.out HB.out))
      (case side2 => exact HC0_2.out)
      rintro e w28 ⟨rfl, hb⟩
      refine ⟨_, rfl, ?_⟩
      replace HO_428003 := cV HO_428003 hb
      replace HO_428004 := cV HO_428004 hb
      replace BK426 := cB BK426 hb
      replace BK427 := cB BK427 hb
      replace HB := Aside0.mk (below_step bl hb)
      (try clear hb)
      refine hK.out _ _ ⟨(blk_cell BK426.out 0).trans rfl, (blk_cell BK426.out 1).trans rfl, (blk_cell BK426.out 2).trans rfl, (blk_cell BK427.out 0).trans rfl, (blk_cell BK427.out 1).trans rfl, (blk_cell BK427.out 2).trans rfl, (blk_cell BK427.out 3).trans rfl, (blk_cell BK427.out 4).trans rfl⟩ (fun hHeld => ?_)
      clear hK K
      refine norm_ (a' := ?_) ?_ ?_
      rotate_left
      ·
       show Act.put _ (some 18) _ = _
       simp only [Act.put, List.setIfInBounds_toArray, List.set_cons_zero, List.set_cons_succ, i64_w, i32_w]
       rfl
      refine p1 4 (some 19) ?_
      refine p1 5 (some 20) ?_
      refine t1 6 (some 21) rfl rfl hHeld (Or.inl ⟨by rfl, by rintro w' ⟨s0, s1, s2, s3, s4, s5, s6, s7⟩; go_simp; with_reducible rfl⟩) ?_
      refine t1 8 (some 23) rfl rfl hHeld (Or.inl ⟨by rfl, by rintro w' ⟨s0, s1, s2, s3, s4, s5, s6, s7⟩; go_simp; with_reducible rfl⟩) ?_
      refine o1 7 (some 22) rfl rfl (fun K hK => ?_)
      refine gS Tryz.func20 #[.agg #[.int .i64 a1_0, .int .i64 a1_1, .int .i64 a1_2, .slice A1_3 l1_3.length c1_3, .slice A1_4 l1_4.length c1_4]] ?_
      with_reducible refine (reply_Message.calls (hL := ld) kj4 a1_0 a1_1 a1_2 _ _ l1_3 _ _ l1_4 t436 _ ?side1 ?side2 ?side3 ?side4 A24.out).mono ?_
      (case side1 => exact uC <| (Kd.V_reads' HO_428003.out).2.2)
      (case side2 => exact (Kd.V_reads' HO_428003.out).2.1)
      (case side3 => exact uC <| (Kd.V_reads' HO_428004.out).2.2)
      (case side4 => exact (Kd.V_reads' HO_428004.out).2.1)
      rintro e w29 ⟨rfl, hb⟩
      refine ⟨_, rfl, ?_⟩
      replace HO_428003 := cV HO_428003 hb
      replace HO_428004 := cV HO_428004 hb
      replace BK426 := cB BK426 hb
      replace BK427 := cB BK427 hb
      replace HB := Aside0.mk (below_step bl hb)
      (try clear hb)
      refine hK.out _ _ ⟨(blk_cell BK426.out 0).trans rfl, (blk_cell BK426.out 1).trans rfl, (blk_cell BK426.out 2).trans rfl, (blk_cell BK427.out 0).trans rfl, (blk_cell BK427.out 1).trans rfl, (blk_cell BK427.out 2).trans rfl, (blk_cell BK427.out 3).trans rfl, (blk_cell BK427.out 4).trans rfl⟩ (fun hHeld => ?_)
      clear hK K
      refine norm_ (a' := ?_) ?_ ?_
      rotate_left
      ·
       show Act.put _ (some 22) _ = _
       simp only [Act.put, List.setIfInBounds_toArray, List.set_cons_zero, List.set_cons_succ, i64_w, i32_w]
       rfl
      refine o1 9 (some 24) rfl rfl (fun K hK => ?_)
      refine gS Tryz.func21 #[.agg #[.int .i64 a1_0, .int .i64 a1_1, .int .i64 a1_2, .slice A1_3 l1_3.length c1_3, .slice A1_4 l1_4.length c1_4]] ?_
      with_reducible refine (r23_Message.calls kj4 a1_0 a1_1 a1_2 _ _ l1_3 _ _ l1_4 t437 _ ?side1 ?side2 ?side3 ?side4 A25.out).mono ?_
      (case side1 => exact uC <| (Kd.V_reads' HO_428003.out).2.2)
      (case side2 => exact (Kd.V_reads' HO_428003.out).2.1)
      (case side3 => exact uC <| (Kd.V_reads' HO_428004.out).2.2)
      (case side4 => exact (Kd.V_reads' HO_428004.out).2.1)
      rintro e w30 ⟨rfl, hb⟩
      refine ⟨_, rfl, ?_⟩
      replace HO_428003 := cV HO_428003 hb
      replace HO_428004 := cV HO_428004 hb
      replace BK426 := cB BK426 hb
      replace BK427 := cB BK427 hb
      replace HB := Aside0.mk (below_step bl hb)
      (try clear hb)
      refine hK.out _ _ ⟨(blk_cell BK426.out 0).trans rfl, (blk_cell BK426.out 1).trans rfl, (blk_cell BK426.out 2).trans rfl, (blk_cell BK427.out 0).trans rfl, (blk_cell BK427.out 1).trans rfl, (blk_cell BK427.out 2).trans rfl, (blk_cell BK427.out 3).trans rfl, (blk_cell BK427.out 4).trans rfl⟩ (fun hHeld => ?_)
      clear hK K
      refine norm_ (a' := ?_) ?_ ?_
      rotate_left
      ·
       show Act.put _ (some 24) _ = _
       simp only [Act.put, List.setIfInBounds_toArray, List.set_cons_zero, List.set_cons_succ, i64_w, i32_w]
       rfl
      refine p1 10 (some 25) ?_
      refine p1 11 (some 26) ?_
      refine p1 12 (some 4) ?_
      refine done_ (done_of HT_.out (by kernel_rfl)) ?_
      try go_wp2
      go_ret
      exact ⟨re_, bl⟩
     ·
      rw [if_neg c23] at H
      have c23b0 : (t434.toList == t435.toList) = false := beq_eq_false_iff_ne.mpr c23
      have c23b1 : (t434.toList != t435.toList) = true := bne_iff_ne.mpr c23
      exact absurd H (by simp)
 ·
  replace c4 := Bool.eq_false_iff.mpr c4
  subst c4
  rw [if_neg (show ¬ (false = true) by decide)] at H
  exact absurd H (by simp)
def w23_ReplyWrites.Pure : Prop := ∀ (x0 : S33) (x1 : S36), Q33 x0 → Q36 x1 → ∃ k, w23_ReplyWrites.f k x0.f0 x0.f1 x0.f2 x1.f0 x1.f1 x1.f2 x1.f3 x1.f4 = some true
theorem k58_heap : Kd.Heap k58 := Kd.heap_iso _ (Kd.heap_pair (Kd.heap_int .i64) Kd.heap_bool)
theorem k60_heap : Kd.Heap k60 := Kd.heap_iso _ (Kd.heap_pair (Kd.heap_int .i64) (Kd.heap_pair Kd.heap_string k58_heap))
theorem k78_heap : Kd.Heap k78 := Kd.heap_iso _ (Kd.heap_pair k60_heap Kd.heap_bool)
theorem w23_ReplyWrites.walk (P : w23_ReplyWrites.Pure) (x0 : S33) (x1 : S36) (w : World) (hL : LD w) (A0_2 : Option Addr) (c0_2 : Nat) (hr0_2 : Kd.C k60 w A0_2 x0.f2.length x0.f2) (hc0_2 : x0.f2.length ≤ c0_2) (A1_3 : Option Addr) (c1_3 : Nat) (hr1_3 : Kd.C k60 w A1_3 x1.f3.length x1.f3) (hc1_3 : x1.f3.length ≤ c1_3) (A1_4 : Option Addr) (c1_4 : Nat) (hr1_4 : Kd.C k78 w A1_4 x1.f4.length x1.f4) (hc1_4 : x1.f4.length ≤ c1_4) (q0 : Q33 x0) (q1 : Q36 x1) :
 Calls Tryz.prog 4 #[.agg #[.int .i64 x0.f0, .int .i64 x0.f1, .slice A0_2 x0.f2.length c0_2], .agg #[.int .i64 x1.f0, .int .i64 x1.f1, .int .i64 x1.f2, .slice A1_3 x1.f3.length c1_3, .slice A1_4 x1.f4.length c1_4]] w fun e w' => e = .returned (.bool true) ∧ Below w.heap.size w w' := by
 obtain ⟨k, h⟩ := P x0 x1 q0 q1
 refine (w23_ReplyWrites.calls (hL := hL) k x0.f0 x0.f1 A0_2 c0_2 x0.f2 x1.f0 x1.f1 x1.f2 (fun k_ => k_ < w.heap.size) A1_3 c1_3 x1.f3 (fun k_ => k_ < w.heap.size) A1_4 c1_4 x1.f4 true w hr0_2 hc0_2 (Kd.V_mk hc1_3 (Kd.C_F k60_heap hr1_3)) (Kd.V_mk hc1_4 (Kd.C_F k78_heap hr1_4)) h).mono ?_
 rintro e w' ⟨rfl, hd⟩
 exact ⟨rfl, hd⟩
end Go.Proofs.YteckidchnicjeaaGreatDoor.X
