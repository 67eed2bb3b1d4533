/- Printed by a program of this session's own: what functions of the program compute, and that the machine computes it. No condition of its own. -/
import Derived.Test.YtklhjponikgkkaaM3
namespace Go.Proofs.Ytklhjponikgkkaa.X
open Go.RowKit Go.Proofs.YtklhjponikgkkaaW.PrintWords Go.Proofs.YtklhjponikgkkaaW.PrintLast Go.Proofs.YtklhjponikgkkaaW.PrintMore
attribute [local go_sem] max2_int min2_int max_two min_two max_three min_three max_four min_four
set_option linter.unusedVariables false
set_option linter.unusedSimpArgs false
set_option maxHeartbeats 8000000
set_option maxRecDepth 100000
theorem eqA52 (d : Nat) (w : World) (x0 y0 : Int) (x1 y1 : Bool) :
 (Op.equalIn (d + 2) 52 (.agg #[.int .i64 x0, .bool x1]) (.agg #[.int .i64 y0, .bool y1])).run Try.prog w = .ok (x0 == y0 && (x1 == y1)) w := by
 refine eqA_of Try.underlying52 (by kernel_rfl) ?_
 refine eqf_cons (by rfl) (by go_simp; rfl) (by go_simp; rfl) (by go_simp) ?_
 exact eqf_last (by rfl) (by go_simp; rfl) (by go_simp; rfl) (by go_simp)
theorem eqA54 (d : Nat) (w : World) (x0 y0 : Int) (x1 y1 : Int) (x2 y2 : Bool) (x3 y3 : Int) (x4 y4 : Int) :
 (Op.equalIn (d + 3) 54 (.agg #[.int .i64 x0, .int .i64 x1, .bool x2, .int .i64 x3, .int .i64 x4]) (.agg #[.int .i64 y0, .int .i64 y1, .bool y2, .int .i64 y3, .int .i64 y4])).run Try.prog w = .ok (x0 == y0 && ((x1 == y1 && (x2 == y2)) && (x3 == y3 && (x4 == y4)))) w := by
 refine eqA_of Try.underlying54 (by kernel_rfl) ?_
 refine eqf_cons (by rfl) (by go_simp; rfl) (by go_simp; rfl) (by go_simp) ?_
 refine eqf_cons (by rfl) (by go_simp) (by go_simp) (eqA52 (d + 0) w _ _ _ _) ?_
 refine eqf_cons (by rfl) (by go_simp; rfl) (by go_simp; rfl) (by go_simp) ?_
 exact eqf_last (by rfl) (by go_simp; rfl) (by go_simp; rfl) (by go_simp)
theorem eqA56 (d : Nat) (w : World) (x0 y0 : Int) (x1 y1 : ByteArray) (x2 y2 : Int) (x3 y3 : Int) (x4 y4 : Bool) (x5 y5 : Int) (x6 y6 : Int) :
 (Op.equalIn (d + 4) 56 (.agg #[.int .i64 x0, .string x1, .int .i64 x2, .int .i64 x3, .bool x4, .int .i64 x5, .int .i64 x6]) (.agg #[.int .i64 y0, .string y1, .int .i64 y2, .int .i64 y3, .bool y4, .int .i64 y5, .int .i64 y6])).run Try.prog w = .ok (x0 == y0 && (x1.toList == y1.toList && ((x2 == y2 && ((x3 == y3 && (x4 == y4)) && (x5 == y5 && (x6 == y6))))))) w := by
 refine eqA_of Try.underlying56 (by kernel_rfl) ?_
 refine eqf_cons (by rfl) (by go_simp; rfl) (by go_simp; rfl) (by go_simp) ?_
 refine eqf_cons (by rfl) (by go_simp; rfl) (by go_simp; rfl) (by go_simp) ?_
 exact eqf_last (by rfl) (by go_simp) (by go_simp) (eqA54 (d + 0) w _ _ _ _ _ _ _ _ _ _)
def emit_entries.l0 : Nat → List (S70) → List (S50) → Int → Int → Option ((List (S70)))
 | 0, _, _, _, _ => none
 | k + 1, x2, x5, x6, x7 => if x7 < x6 then (if 0 ≤ x7 then (if x7 < (x5.length : Int) then (if x2.length + ((rd_T50 x5 x7).f0).length < 2932031007402 then (emit_entries.l0 k (x2 ++ ((rd_T50 x5 x7).f0)) x5 x6 (wrap64 (x7 + 1))) else (none)) else (none)) else (none)) else (some x2)
def emit_entries.f (k : Nat) (l0 : List (S50)) : Option ((List (S70))) := emit_entries.l0 k ([] : List (S70)) l0 (l0.length : Int) 0
theorem emit_entries.mono_l : ∀ k, (∀ y0 y1 y2 y3, LeC (emit_entries.l0 k y0 y1 y2 y3) (emit_entries.l0 (k + 1) y0 y1 y2 y3))
 | 0 => fun _ _ _ _ => ⟨fun r h => by simp [emit_entries.l0] at h⟩
 | k + 1 => by have ih0 := emit_entries.mono_l k; exact fun _ _ _ _ => by unfold emit_entries.l0; exact lm
theorem emit_entries.mono : ∀ a0 k, LeO (emit_entries.f k a0) (emit_entries.f (k + 1) a0) := by
 intro a0 k
 have ih0 := emit_entries.mono_l k
 unfold emit_entries.f
 exact lo
instance emit_entries.mI {a0 k} : LeC (emit_entries.f k a0) (emit_entries.f (k + 1) a0) := ⟨emit_entries.mono _ _⟩
theorem emit_entries.calls (k : Nat) (P0_ : Nat → Prop) (A0 : Option Addr) (c0 : Nat) (l0 : List (S50)) (r : List (S70)) (w : World) (hs0 : Kd.V k50 50 w w.heap.size (fun k_ => P0_ k_) (.slice A0 l0.length c0) l0) (h : emit_entries.f k l0 = some r) :
 Calls Try.prog 23 #[.slice A0 l0.length c0] w fun e w' => ∃ v0_ : Value, e = .returned (v0_) ∧ Kd.N k70 70 w' w.heap.size (fun k_ => (P0_ k_ ∨ w.heap.size ≤ k_)) v0_ r ∧ Below w.heap.size w w' := by
 have hu50 := Try.underlying50
 have HO0 := Aside0.mk (show Kd.V k50 50 w w.heap.size (fun k_ => (P0_ k_ ∨ w.heap.size ≤ k_)) (.slice A0 l0.length c0) l0 from Kd.V_mono hs0 (fun k_ hk => .inl hk))
 have HB := Aside0.mk (Below.refl w.heap.size w)
 have H : (emit_entries.l0 k ([] : List (S70)) l0 (l0.length : Int) 0) = some r := h
 clear h
 have H' := Aside0.mk H
 clear H
 go_enter Try.func23, Try.ntmps23
 go_wp2
 go_loopg [2, 7] k (fun kq v2 v7 w' => ∃ (x2_1 : List (S70)) (x7_1 : Int), v7 = .int .i64 x7_1 ∧ Aside0 (emit_entries.l0 kq x2_1 l0 (l0.length : Int) x7_1 = some r) ∧ Aside0 (kq ≤ k) ∧ Aside0 (Kd.N k70 70 w' w.heap.size (fun k_ => (P0_ k_ ∨ w.heap.size ≤ k_)) v2 x2_1) ∧ Aside0 (Kd.V k50 50 w' w.heap.size (fun k_ => (P0_ k_ ∨ w.heap.size ≤ k_) ∧ some k_ ≠ (v2 : Value).ownBlock) (.slice A0 l0.length c0) l0) ∧ Aside0 (Below w.heap.size w w'))
 case atStart => exact ⟨(([] : List (S70))), (0), rs_, H', ⟨Nat.le_refl _⟩, ⟨by first | exact Kd.S_nil _ _ _ _ _ | exact Kd.N_nil _ _ _ _ _ | exact Kd.V_nil _ _ _ _ _ | exact Kd.Q_nil _ _ _ _ _ | exact Kd.R_nil _ _ _ _ _⟩, ⟨by exact uV <| Kd.V_mono HO0.out (fun _ hk => ⟨hk, (by simp [Value.ownBlock])⟩)⟩, ⟨uW HB.out⟩⟩
 case round =>
  clear H'
  obtain ⟨x2_1, x7_1, rfl, HA, HK1, HO_2, HO_5, HB⟩ := hrel
  cases gk with
  | zero => exact absurd HA.out (by simp [emit_entries.l0])
  | succ k1 =>
   have H := HA.out
   clear HA
   simp only [emit_entries.l0] at H
   by_cases c2 : x7_1 < (l0.length : Int)
   ·
    rw [if_pos c2] at H
    have c2b0 : decide (x7_1 < (l0.length : Int)) = true := decide_eq_true c2
    clear c2
    obtain ⟨c3b0, H⟩ := gdd H
    obtain ⟨c4b0, H⟩ := gdd H
    obtain ⟨c5, H⟩ := gd H
    have LMc5 := Aside0.mk c5
    clear c5
    obtain ⟨y103, hy103⟩ : ∃ y_ : List (S70), y_ = (x2_1 ++ ((rd_T50 l0 x7_1).f0)) := ⟨_, rfl⟩
    replace H : (emit_entries.l0 k1 y103 l0 (l0.length : Int) (wrap64 (x7_1 + 1))) = some r := by first | (rw [hy103]; with_reducible exact H) | (have H2_ := (Option.bind_some _ _).symm.trans H; rw [hy103]; with_reducible exact H2_) | (have H2_ := (Option.bind_some _ _).symm.trans H; with_reducible exact H2_) | with_reducible exact H | (rw [hy103]; exact H) | exact H
    have Ny103 := Aside0.mk hy103
    clear hy103
    have H' := Aside0.mk H
    clear H
    have p101 : 0 ≤ (x7_1 : Int) := od
    have q101 : x7_1 < (l0.length : Int) := od
    obtain ⟨ad101, A101_0, c101_0, e101, hx101_0, hl101_0, hi101_0⟩ := at_T50 (Kd.V_reads' HO_5.out).2.2 x7_1 p101 q101
    cases e101
    obtain ⟨ce101, hce101, hMe101, hcc101⟩ := Kd.V_get HO_5.out z50 x7_1 p101 (by first | exact q101 | exact od | (have e_ := (Kd.V_reads' HO_5.out).1; omega))
    obtain ⟨ua101_0, uc101_0, rfl, ul101_0, ge101_0⟩ := k50_openF hMe101
    have hv101_0 := hcc101 0 _ rfl
    rw [Nat.add_zero, show (k50).sz = 1 from rfl, Nat.mul_one] at hv101_0
    replace hv101_0 := Option.some.inj (hv101_0.symm.trans hx101_0)
    injection hv101_0 with hva_ hvn_ hvc_
    rw [hva_] at ge101_0
    rw [hvc_] at ul101_0
    have HL101_0 := Aside0.mk (show Kd.V k70 70 _ w.heap.size _ _ ((rd_T50 l0 x7_1).f0) from Kd.V_mk ul101_0 ge101_0)
    clear hva_ hvn_ hvc_ ge101_0 ul101_0
    clear hcc101 hce101
    have HR101_0 := Aside0.mk hi101_0
    have HC101_0 := Aside0.mk hl101_0
    clear hi101_0 hl101_0
    replace p101 := eq_true p101
    replace q101 := eq_true q101
    go_wp2_with (first | ((with_reducible refine gate_dst (N := 4) rfl ?_); refine bx (N := 4) #[.slice none 0 0] 50 ?_; intro gb102 hg w6 hbox hb; replace HO_2 := Aside0.mk (Kd.N_below (Kd.N_elderB (by (with_reducible repeat (first | apply Kd.N_alloc | apply Kd.N_drewN | apply Kd.N_drew)); exact HO_2.out) gb102 (Nat.le_of_eq hg.symm)) hb); replace HO_5 := Aside0.mk (Kd.V_below (Kd.V_elderB (uV HO_5.out) gb102 (Nat.le_of_eq hg.symm)) hb); replace HL101_0 := Aside0.mk (Kd.V_below (Kd.V_elderB (uV HL101_0.out) gb102 (Nat.le_of_eq hg.symm)) hb); replace HR101_0 := cC HR101_0 hb; have BK102 := Aside0.mk (hbox); have GW102 := gw hg (uW HB.out); have GE102 := GW102; replace HB := cW HB hb; clear hb hbox hg; obtain ⟨hcz7_0, hfz7_0⟩ := z1 BK102) | ((with_reducible refine gate_builtin (b := .append) (xs := #[.tmp 11, .tmp 13]) rfl ?_); at_builtin; refine Kd.N_append_rows k70 (w0 := w) w.heap.size rfl (.tmp 11) (.tmp 13) 48 70 (.agg #[(.int .i64 0), (.string ⟨#[]⟩), (.slice none 0 0)]) 48 rfl Try.underlying48 info70 rfl (by decide) (by omega) u2 x2_1 ((rd_T50 l0 x7_1).f0) _ _ _ (fun k_ => (P0_ k_ ∨ w.heap.size ≤ k_) ∧ k_ ≠ gb102) (fun k_ => ((fun k_ => (P0_ k_ ∨ w.heap.size ≤ k_) ∧ k_ ≠ gb102)) k_ ∧ some k_ ≠ (u2 : Value).ownBlock) rfl rfl ?aO ?aR (fun _ hk => hk) ?aF ?aB ?aS ?aL ?_; (case aR => exact (by skip; exact Kd.V_F (Kd.V_mono (ok' := (fun k_ => ((fun k_ => (P0_ k_ ∨ w.heap.size ≤ k_) ∧ k_ ≠ gb102)) k_ ∧ some k_ ≠ (u2 : Value).ownBlock)) ((Kd.V_far (p := ⟨gb102, 0, none⟩) (Kd.V_mono HL101_0.out (fun k_ hk => (⟨hk, hk.2⟩ : _ ∧ k_ ≠ gb102))) (fun _ hk => hk.2) (.slice A101_0 ((rd_T50 l0 x7_1).f0).length c101_0))) (fun k_ hk => ⟨⟨hk.1.1.1, hk.1.2⟩, hk.1.1.2⟩)))); (case aB => exact bl); (case aF => exact (fun k_ hk => ⟨(.inr (Nat.le_trans (below_size bl) hk)), Kd.freshB (g := gb102) (o := .cells #[.slice A101_0 ((rd_T50 l0 x7_1).f0).length c101_0] 50 (0, 0)) (fB BK102.out) k_ hk⟩)); (case aO => exact (by (with_reducible repeat (first | apply Kd.N_alloc | apply Kd.N_drewN | apply Kd.N_drew)); exact Kd.N_mono (Kd.N_far (p := ⟨gb102, 0, none⟩) (Kd.N_mono HO_2.out (fun k_ hk => (⟨hk, hk.2⟩ : _ ∧ k_ ≠ gb102))) (fun _ hk => hk.2) (.slice A101_0 ((rd_T50 l0 x7_1).f0).length c101_0)) (fun _ hk => ⟨hk.1.1, hk.1.2⟩))); (case aS => exact (below_size bl)); (case aL => have := LMc5.out; omega); intro v104 w8 ho hb hg hat; rw [← Ny103.out] at ho; replace HO_5 := Aside0.mk (Kd.V_afterv (ok := (fun k_ => (P0_ k_ ∨ w.heap.size ≤ k_) ∧ k_ ≠ gb102)) (by exact Kd.V_mono (fV_ (Kd.V_mono HO_5.out (fun k_ hk => (⟨hk, hk.2⟩ : _ ∧ k_ ≠ gb102))) fun _ h => h.2) (fun _ hk => ⟨⟨hk.1.1.1, hk.1.2⟩, hk.1.1.2⟩)) hg hat); replace HL101_0 := Aside0.mk (Kd.V_afterv (ok := (fun k_ => (P0_ k_ ∨ w.heap.size ≤ k_) ∧ k_ ≠ gb102)) (by exact Kd.V_mono (fV_ (Kd.V_mono HL101_0.out (fun k_ hk => (⟨hk, hk.2⟩ : _ ∧ k_ ≠ gb102))) fun _ h => h.2) (fun _ hk => ⟨⟨hk.1.1.1, hk.1.2⟩, hk.1.1.2⟩)) hg hat); replace BK102 := Aside0.mk (blk_grown (g := gb102) (o := .cells #[.slice A101_0 ((rd_T50 l0 x7_1).f0).length c101_0] 50 (0, 0)) (fB BK102.out) hg (Kd.N_ne HO_2.out BK102.out (by decide))); replace HB := Aside0.mk (hb); have HO105 := Aside0.mk (ho); clear HO_2; clear ho hb hg hat))
    go_roundg k1
    case measure => have := HK1.out; omega
    case rel => exact ⟨(y103), (wrap64 (x7_1 + 1)), rs_, H', ⟨by have := HK1.out; omega⟩, ⟨by (with_reducible repeat (first | apply Kd.N_alloc | apply Kd.N_drewN | apply Kd.N_drew)); exact Kd.N_mono HO105.out (fun _ hk => hk.1)⟩, ⟨by exact uV <| Kd.V_mono HO_5.out (fun _ hk => ⟨hk.1.1, hk.2⟩)⟩, ⟨bl⟩⟩
   ·
    rw [if_neg c2] at H
    have c2b0 : decide (x7_1 < (l0.length : Int)) = false := decide_eq_false c2
    clear c2
    obtain rfl := Option.some.inj H
    go_wp2
    go_ret
    exact ⟨_, re_, by (with_reducible repeat (first | apply Kd.N_alloc | apply Kd.N_drewN | apply Kd.N_drew)); exact HO_2.out, uW HB.out⟩
def win_among.f (a0 : Int) (a1 : Int) (a2 : Int) : Option (Bool) := if a0 ≥ a1 then (some (decide (a0 ≤ a2))) else (some false)
theorem win_among.calls (a0 : Int) (a1 : Int) (a2 : Int) (r : Bool) (w : World) (h : win_among.f a0 a1 a2 = some r) :
 Calls Try.prog 46 #[.int .i64 a0, .int .i64 a1, .int .i64 a2] w fun e w' => e = .returned (.bool r) ∧ Drawn0 w w' := by
 have H : (if a0 ≥ a1 then (some (decide (a0 ≤ a2))) else (some false)) = some r := h
 clear h
 by_cases c4 : a0 ≥ a1
 ·
  rw [if_pos c4] at H
  have c4b0 : decide (a1 ≤ a0) = true := decide_eq_true c4
  clear c4
  obtain rfl := Option.some.inj H
  go_enter Try.func46, Try.ntmps46
  go_wp2
  go_ret
  exact ⟨rs_, dr_⟩
 ·
  rw [if_neg c4] at H
  have c4b0 : decide (a1 ≤ a0) = false := decide_eq_false c4
  clear c4
  obtain rfl := Option.some.inj H
  go_enter Try.func46, Try.ntmps46
  go_wp2
  go_ret
  exact ⟨rs_, dr_⟩
def win_there.f (a0 : Int) (a1 : Int) : Option (Bool) := (win_among.f a1 1 1000).bind fun t106 => (if t106 = true then ((win_among.f a0 0 1000000000000).bind fun t107 => (some t107)) else (some false))
theorem win_there.calls (a0 : Int) (a1 : Int) (r : Bool) (w : World) (h : win_there.f a0 a1 = some r) :
 Calls Try.prog 45 #[.int .i64 a0, .int .i64 a1] w fun e w' => e = .returned (.bool r) ∧ Drawn0 w w' := by
 have H : ((win_among.f a1 1 1000).bind fun t106 => (if t106 = true then ((win_among.f a0 0 1000000000000).bind fun t107 => (some t107)) else (some false))) = some r := h
 clear h
 obtain ⟨t106, A3, H⟩ := bs H
 try dsimp only at H
 by_cases c4 : t106 = true
 ·
  subst c4
  rw [if_pos rfl] at H
  obtain ⟨t107, A5, H⟩ := bs H
  try dsimp only at H
  obtain rfl := Option.some.inj H
  go_enter Try.func45, Try.ntmps45
  go_wp2_with (first | (refine gL (some 6) rfl Try.func46 #[.int .i64 a1, .int .i64 1, .int .i64 1000] ?_; (with_reducible refine (win_among.calls a1 1 1000 true _ A3.out).mono ?_); rintro e w' ⟨rfl, ⟨nd, rfl⟩⟩; refine ⟨_, rfl, ?_⟩) | (go_at_call 46; (with_reducible refine (win_among.calls a0 0 1000000000000 t107 _ A5.out).mono ?_); rintro e w' ⟨rfl, ⟨nd, rfl⟩⟩))
  go_ret
  exact ⟨rs_, dr_⟩
 ·
  replace c4 := Bool.eq_false_iff.mpr c4
  subst c4
  rw [if_neg (show ¬ (false = true) by decide)] at H
  obtain rfl := Option.some.inj H
  go_enter Try.func45, Try.ntmps45
  go_wp2_with (first | (refine gL (some 6) rfl Try.func46 #[.int .i64 a1, .int .i64 1, .int .i64 1000] ?_; (with_reducible refine (win_among.calls a1 1 1000 false _ A3.out).mono ?_); rintro e w' ⟨rfl, ⟨nd, rfl⟩⟩; refine ⟨_, rfl, ?_⟩))
  go_ret
  exact ⟨rs_, dr_⟩
def win_End.f (a0 : Int) (a1 : Int) : Option (Int) := (win_there.f a0 a1).bind fun t108 => (if t108 = true then (some (wrap64 ((wrap64 (a0 + 1)) * a1))) else (none))
theorem win_End.calls (a0 : Int) (a1 : Int) (r : Int) (w : World) (h : win_End.f a0 a1 = some r) :
 Calls Try.prog 47 #[.int .i64 a0, .int .i64 a1] w fun e w' => e = .returned (.int .i64 r) ∧ Drawn0 w w' := by
 have H : ((win_there.f a0 a1).bind fun t108 => (if t108 = true then (some (wrap64 ((wrap64 (a0 + 1)) * a1))) else (none))) = some r := h
 clear h
 obtain ⟨t108, A3, H⟩ := bs H
 try dsimp only at H
 by_cases c4 : t108 = true
 ·
  subst c4
  rw [if_pos rfl] at H
  obtain rfl := Option.some.inj H
  go_enter Try.func47, Try.ntmps47
  go_wp2_with (first | (refine gL (some 7) rfl Try.func45 #[.int .i64 a0, .int .i64 a1] ?_; (with_reducible refine (win_there.calls a0 a1 true _ A3.out).mono ?_); rintro e w' ⟨rfl, ⟨nd, rfl⟩⟩; refine ⟨_, rfl, ?_⟩))
  go_ret
  exact ⟨rs_, dr_⟩
 ·
  replace c4 := Bool.eq_false_iff.mpr c4
  subst c4
  rw [if_neg (show ¬ (false = true) by decide)] at H
  exact absurd H (by simp)
def win_Closed.f (a0 : Int) (a1 : Int) (a2 : Int) (a3 : Int) : Option (Bool) := (win_there.f a0 a1).bind fun t109 => (if t109 = true then ((win_among.f a2 0 1000).bind fun t110 => (if t110 = true then ((win_End.f a0 a1).bind fun t111 => (some (decide (a3 ≥ (wrap64 (t111 + a2)))))) else (some false))) else (some false))
theorem win_Closed.calls (a0 : Int) (a1 : Int) (a2 : Int) (a3 : Int) (r : Bool) (w : World) (h : win_Closed.f a0 a1 a2 a3 = some r) :
 Calls Try.prog 26 #[.int .i64 a0, .int .i64 a1, .int .i64 a2, .int .i64 a3] w fun e w' => e = .returned (.bool r) ∧ Drawn0 w w' := by
 have H : ((win_there.f a0 a1).bind fun t109 => (if t109 = true then ((win_among.f a2 0 1000).bind fun t110 => (if t110 = true then ((win_End.f a0 a1).bind fun t111 => (some (decide (a3 ≥ (wrap64 (t111 + a2)))))) else (some false))) else (some false))) = some r := h
 clear h
 obtain ⟨t109, A5, H⟩ := bs H
 try dsimp only at H
 by_cases c6 : t109 = true
 ·
  subst c6
  rw [if_pos rfl] at H
  obtain ⟨t110, A7, H⟩ := bs H
  try dsimp only at H
  by_cases c8 : t110 = true
  ·
   subst c8
   rw [if_pos rfl] at H
   obtain ⟨t111, A9, H⟩ := bs H
   try dsimp only at H
   obtain rfl := Option.some.inj H
   go_enter Try.func26, Try.ntmps26
   go_wp2_with (first | (refine gL (some 11) rfl Try.func45 #[.int .i64 a0, .int .i64 a1] ?_; (with_reducible refine (win_there.calls a0 a1 true _ A5.out).mono ?_); rintro e w' ⟨rfl, ⟨nd, rfl⟩⟩; refine ⟨_, rfl, ?_⟩) | (go_at_call 46; (with_reducible refine (win_among.calls a2 0 1000 true _ A7.out).mono ?_); rintro e w' ⟨rfl, ⟨nd, rfl⟩⟩) | (go_at_call 47; (with_reducible refine (win_End.calls a0 a1 t111 _ A9.out).mono ?_); rintro e w' ⟨rfl, ⟨nd, rfl⟩⟩))
   go_ret
   exact ⟨rs_, dr_⟩
  ·
   replace c8 := Bool.eq_false_iff.mpr c8
   subst c8
   rw [if_neg (show ¬ (false = true) by decide)] at H
   obtain rfl := Option.some.inj H
   go_enter Try.func26, Try.ntmps26
   go_wp2_with (first | (refine gL (some 11) rfl Try.func45 #[.int .i64 a0, .int .i64 a1] ?_; (with_reducible refine (win_there.calls a0 a1 true _ A5.out).mono ?_); rintro e w' ⟨rfl, ⟨nd, rfl⟩⟩; refine ⟨_, rfl, ?_⟩) | (go_at_call 46; (with_reducible refine (win_among.calls a2 0 1000 false _ A7.out).mono ?_); rintro e w' ⟨rfl, ⟨nd, rfl⟩⟩))
   go_ret
   exact ⟨rs_, dr_⟩
 ·
  replace c6 := Bool.eq_false_iff.mpr c6
  subst c6
  rw [if_neg (show ¬ (false = true) by decide)] at H
  obtain rfl := Option.some.inj H
  go_enter Try.func26, Try.ntmps26
  go_wp2_with (first | (refine gL (some 11) rfl Try.func45 #[.int .i64 a0, .int .i64 a1] ?_; (with_reducible refine (win_there.calls a0 a1 false _ A5.out).mono ?_); rintro e w' ⟨rfl, ⟨nd, rfl⟩⟩; refine ⟨_, rfl, ?_⟩))
  go_ret
  exact ⟨rs_, dr_⟩
def api_Write_57.Fn (g : Nat) (lb : Array Value) (p : S61 → Bool) (l : List (S61)) (w : World) : Prop :=
 ∀ (W : World) (x : S61), x ∈ l → Below w.heap.size w W → Calls Try.prog g (#[.agg #[.int .i64 x.f0, .int .i64 x.f1, .string x.f2, .int .i64 x.f3]] ++ lb) W fun e w' => e = .returned (.bool (p x)) ∧ Below W.heap.size W w'
def api_Write_57.idx (p : S61 → Bool) : List (S61) → Nat → Int
 | [], _ => -1
 | x :: l, i => if p x = true then (i : Int) else api_Write_57.idx p l (i + 1)
theorem api_Write_57.idx_miss {p : S61 → Bool} : ∀ {l : List (S61)} {i : Nat}, api_Write_57.idx p l i = -1 ∨ (i : Int) ≤ api_Write_57.idx p l i
 | [], _ => .inl rfl
 | x :: l, i => by
  unfold api_Write_57.idx
  split
  ·
   exact .inr (Int.le_refl _)
  ·
   rcases api_Write_57.idx_miss (p := p) (l := l) (i := i + 1) with h | h
   ·
    exact .inl h
   ·
    exact .inr (by omega)
theorem api_Write_57.idx_any (p : S61 → Bool) : ∀ (l : List (S61)) (i : Nat), decide (0 ≤ api_Write_57.idx p l i) = l.any p
 | [], _ => rfl
 | x :: l, i => by
  unfold api_Write_57.idx
  by_cases h : p x = true
  ·
   rw [if_pos h, List.any_cons, h, Bool.true_or]
   exact decide_eq_true (by omega)
  ·
   rw [if_neg h, api_Write_57.idx_any p l (i + 1), List.any_cons, Bool.eq_false_iff.2 h, Bool.false_or]
set_option maxHeartbeats 2000000 in
theorem api_Write_57.calls (g : Nat) (lb : Array Value) (eg : ∀ args w, (callFunc g args).run Try.prog w = .ok (.enter g args) w) (p : S61 → Bool) (A0 : Option Addr) (c0 : Nat) (l0 : List (S61)) (w : World) (hr0 : Kd.C k61 w A0 l0.length l0) (hp : api_Write_57.Fn g lb p l0 w) :
 Calls Try.prog 57 #[.slice A0 l0.length c0, .func (.func g) #[] lb] w fun e w' => e = .returned (.int .i64 (api_Write_57.idx p l0 0)) ∧ Below w.heap.size w w' := by
 have hu61 := Try.underlying61
 have HR0 := Aside0.mk hr0
 have HP := Aside0.mk hp
 have HL := Aside0.mk hr0.2.1
 clear hr0 hp
 go_enter Try.func57, Try.ntmps57
 go_wp2
 go_loopg [5, 8] l0.length (fun gg _ v8 wr => ∃ x : Int, v8 = .int .i64 x ∧ Aside0 (0 ≤ x) ∧ Aside0 (x ≤ (l0.length : Int)) ∧ Aside0 ((l0.length : Int) - x ≤ gg) ∧ Aside0 (api_Write_57.idx p l0 0 = api_Write_57.idx p (l0.drop x.toNat) x.toNat) ∧ Aside0 (Below w.heap.size w wr))
 case atStart => exact ⟨0, rfl, ⟨by omega⟩, ⟨by omega⟩, ⟨by omega⟩, ⟨rfl⟩, ⟨Below.refl _ _⟩⟩
 case round =>
  obtain ⟨x, rfl, H0, H1, HG, HI, HB⟩ := hrel
  by_cases hlt : x < (l0.length : Int)
  ·
   have p101 : 0 ≤ x := H0.out
   obtain ⟨ad101, e101, hx101_0, hx101_1, hx101_2, hx101_3⟩ := at_T61 HR0.out x p101 hlt
   cases e101
   have hy101_0 := kc HB hx101_0
   clear hx101_0
   have hy101_1 := kc HB hx101_1
   clear hx101_1
   have hy101_2 := kc HB hx101_2
   clear hx101_2
   have hy101_3 := kc HB hx101_3
   clear hx101_3
   have HN : Aside0 (x.toNat < l0.length) := ⟨by omega⟩
   have hget : rd_T61 l0 x = l0[x.toNat]'HN.out := by
    show l0.getD x.toNat _ = _
    rw [List.getD_eq_getElem?_getD, List.getElem?_eq_getElem HN.out, Option.getD_some]
   have hcall := HP.out wr (rd_T61 l0 x) (by rw [hget]; exact List.getElem_mem HN.out) HB.out
   have HGE := Aside0.mk hget
   clear hget
   have c1b0 : decide (x < (l0.length : Int)) = true := decide_eq_true hlt
   have pi101 : (0 ≤ (x : Int)) = True := eq_true p101
   have qi101 : (x < (l0.length : Int)) = True := eq_true hlt
   have HLT := Aside0.mk hlt
   clear hlt p101
   cases hq : p (rd_T61 l0 x) with
   | true =>
    rw [hq] at hcall
    have HQ := Aside0.mk hq
    clear hq
    go_wp2_with (go_at_fn g; refine hcall.mono ?_; rintro e w' ⟨rfl, hb'⟩)
    go_ret
    refine ⟨?_, HB.out.trans (hb'.mono HB.out.size)⟩
    rw [HI.out, List.drop_eq_getElem_cons HN.out]
    unfold api_Write_57.idx
    rw [if_pos (by rw [← HGE.out]; exact HQ.out), Int.toNat_of_nonneg H0.out]
    rfl
   | false =>
    rw [hq] at hcall
    have HQ := Aside0.mk hq
    clear hq
    go_wp2_with (go_at_fn g; refine hcall.mono ?_; rintro e w' ⟨rfl, hb'⟩)
    have hw : wrap64 (x + 1) = x + 1 := by have := HLT.out; have := HL.out; have := H0.out; unfold wrap64; omega
    (try rw [hw])
    clear hw
    go_roundg (l0.length - (x.toNat + 1))
    case measure => have := HLT.out; have := HG.out; have := H0.out; omega
    case rel =>
     refine ⟨x + 1, by first | rfl | (have := HLT.out; have := HL.out; have := H0.out; simp; unfold wrap64; omega), ⟨by have := H0.out; omega⟩, ⟨by have := HLT.out; omega⟩, ⟨by have := HLT.out; have := H0.out; omega⟩, ⟨?_⟩, ⟨HB.out.trans (hb'.mono HB.out.size)⟩⟩
     rw [HI.out, List.drop_eq_getElem_cons HN.out, show (x + 1).toNat = x.toNat + 1 from by have := H0.out; omega]
     conv => lhs; unfold api_Write_57.idx
     rw [if_neg (by rw [← HGE.out, HQ.out]; simp)]
  ·
   have hx : x = (l0.length : Int) := by have := H1.out; omega
   have c1b0 : decide (x < (l0.length : Int)) = false := decide_eq_false hlt
   clear hlt
   have HX := Aside0.mk hx
   clear hx
   go_wp2
   go_ret
   refine ⟨?_, HB.out⟩
   rw [HI.out, HX.out, Int.toNat_natCast, List.drop_of_length_le (Nat.le_refl _)]
   rfl
set_option maxHeartbeats 2000000 in
theorem api_Write_48.calls (g : Nat) (lb : Array Value) (eg : ∀ args w, (callFunc g args).run Try.prog w = .ok (.enter g args) w) (p : S61 → Bool) (A0 : Option Addr) (c0 : Nat) (l0 : List (S61)) (w : World) (hr0 : Kd.C k61 w A0 l0.length l0) (hp : api_Write_57.Fn g lb p l0 w) :
 Calls Try.prog 48 #[.slice A0 l0.length c0, .func (.func g) #[] lb] w fun e w' => e = .returned (.bool (l0.any p)) ∧ Below w.heap.size w w' := by
 have hcall := fun W => api_Write_57.calls g lb eg p A0 c0 l0 W
 rw [← api_Write_57.idx_any p l0 0]
 generalize api_Write_57.idx p l0 0 = r at hcall ⊢
 go_enter Try.func48, Try.ntmps48
 go_wp2_with (go_at_call 57; refine (hcall _ hr0 hp).mono ?_; rintro e w' ⟨rfl, hb'⟩)
 go_ret
 exact ⟨rfl, hb'⟩
def api_Write_58.f (a0 : Int) : Option ((List (S61))) := if 0 ≤ a0 then (if a0.toNat * 40 ≤ 140737488355328 then (some []) else (none)) else (none)
theorem api_Write_58.calls (a0 : Int) (r : List (S61)) (w : World) (h : api_Write_58.f a0 = some r) :
 Calls Try.prog 58 #[(.slice none 0 0), .int .i64 a0] w fun e w' => ∃ v0_ : Value, e = .returned (v0_) ∧ Kd.R k61 61 w' w.heap.size (fun _ => True) v0_ r ∧ Below w.heap.size w w' := by
 unfold api_Write_58.f at h
 by_cases h0 : 0 ≤ a0
 ·
  rw [if_pos h0] at h
  by_cases hl : a0.toNat * 40 ≤ 140737488355328
  ·
   rw [if_pos hl] at h
   obtain rfl := Option.some.inj h
   have HL := Aside0.mk hl
   clear h hl
   have hw0 : wrap64 a0 = a0 := by unfold wrap64; have := HL.out; omega
   have HZ := Aside0.mk h0
   clear h0
   by_cases hz : 0 < a0
   ·
    have hz1 : decide (a0 < 0) = false := decide_eq_false (by omega)
    have hz2 : decide (0 < a0) = true := decide_eq_true hz
    clear hz
    go_enter Try.func58, Try.ntmps58
    go_wp2_with (at_builtin; refine Kd.R_append_zeros k61 (w0 := w) w.heap.size rfl (.tmp 20) (.tmp 21) 62 3 61 (.agg #[(.int .i64 0), (.int .i64 0), (.string ⟨#[]⟩), (.int .i64 0)]) 40 rfl Try.underlying62 Try.underlying3 info61 rfl (by decide) (by decide) (.slice none 0 0) [] z61 _ (fun _ => True) rfl rfl (k61_mkM _ _ _ z61 ) (fun _ _ => trivial) (Kd.R_nil _ _ _ _ _) ?aZ (Below.refl _ _) (Nat.le_refl _) ?aL ?_; (case aZ => first | exact HZ.out | (rw [hw0]; exact HZ.out)); (case aL => have := HL.out; simp only [List.length_nil, Nat.zero_add]; first | exact this | (rw [hw0]; exact this)); intro v1 w1 ho hb hg hat; clear hg hat; obtain ⟨Ao1, co1, eo1⟩ := Kd.R_slice ho; subst eo1; have HO1 := Aside0.mk ho; have HB1 := Aside0.mk hb; clear ho hb)
    go_ret
    exact ⟨_, rfl, Kd.R_take HO1.out (Nat.zero_le _), HB1.out⟩
   ·
    have e : a0 = 0 := by have := HZ.out; omega
    subst e
    clear hz
    go_enter Try.func58, Try.ntmps58
    go_wp2
    go_ret
    exact ⟨_, rfl, Kd.R_nil _ _ _ _ _, Below.refl _ _⟩
  ·
   rw [if_neg hl] at h
   exact absurd h (by simp)
 ·
  rw [if_neg h0] at h
  exact absurd h (by simp)
mutual
def api_Write_49.l0 : Nat → List (List (S61)) → Int → List (List (S61)) → Int → Int → Option ((List (S61)))
 | 0, _, _, _, _, _ => none
 | k + 1, x0, x3, x9, x10, x11 => if x11 < x10 then (if 0 ≤ x11 then (if x11 < (x9.length : Int) then (if (wrap64 (x3 + ((rd_L11 x9 x11).length : Int))) < 0 then (none) else (api_Write_49.l0 k x0 (wrap64 (x3 + ((rd_L11 x9 x11).length : Int))) x9 x10 (wrap64 (x11 + 1)))) else (none)) else (none)) else ((api_Write_58.f x3).bind fun t113 => (api_Write_49.l1 k t113 x0 (x0.length : Int) 0))
def api_Write_49.l1 : Nat → List (S61) → List (List (S61)) → Int → Int → Option ((List (S61)))
 | 0, _, _, _, _ => none
 | k + 1, x6, x25, x26, x27 => if x27 < x26 then (if 0 ≤ x27 then (if x27 < (x25.length : Int) then (if x6.length + (rd_L11 x25 x27).length < 3518437208883 then (api_Write_49.l1 k (x6 ++ (rd_L11 x25 x27)) x25 x26 (wrap64 (x27 + 1))) else (none)) else (none)) else (none)) else (some x6)
end
def api_Write_49.f (k : Nat) (l0 : List (List (S61))) : Option ((List (S61))) := api_Write_49.l0 k l0 0 l0 (l0.length : Int) 0
theorem api_Write_49.mono_l : ∀ k, (∀ y0 y1 y2 y3 y4, LeC (api_Write_49.l0 k y0 y1 y2 y3 y4) (api_Write_49.l0 (k + 1) y0 y1 y2 y3 y4)) ∧ (∀ y0 y1 y2 y3, LeC (api_Write_49.l1 k y0 y1 y2 y3) (api_Write_49.l1 (k + 1) y0 y1 y2 y3))
 | 0 => ⟨fun _ _ _ _ _ => ⟨fun r h => by simp [api_Write_49.l0] at h⟩, fun _ _ _ _ => ⟨fun r h => by simp [api_Write_49.l1] at h⟩⟩
 | k + 1 => by obtain ⟨ih0, ih1⟩ := api_Write_49.mono_l k; exact ⟨fun _ _ _ _ _ => by unfold api_Write_49.l0; exact lm, fun _ _ _ _ => by unfold api_Write_49.l1; exact lm⟩
theorem api_Write_49.mono : ∀ a0 k, LeO (api_Write_49.f k a0) (api_Write_49.f (k + 1) a0) := by
 intro a0 k
 obtain ⟨ih0, ih1⟩ := api_Write_49.mono_l k
 unfold api_Write_49.f
 exact lo
instance api_Write_49.mI {a0 k} : LeC (api_Write_49.f k a0) (api_Write_49.f (k + 1) a0) := ⟨api_Write_49.mono _ _⟩
theorem api_Write_49.calls (k : Nat) (A0 : Option Addr) (c0 : Nat) (l0 : List (List (S61))) (r : List (S61)) (w : World) (hr0 : Kd.C (Kd.slice 61 k61) w A0 l0.length l0) (hc0 : l0.length ≤ c0) (h : api_Write_49.f k l0 = some r) :
 Calls Try.prog 49 #[.slice A0 l0.length c0] w fun e w' => ∃ v0_ : Value, e = .returned (v0_) ∧ Kd.R k61 61 w' w.heap.size (fun _ => True) v0_ r ∧ Below w.heap.size w w' := by
 have HR0 := Aside0.mk hr0
 have HC0 := Aside0.mk hc0
 clear hr0 hc0
 have HB := Aside0.mk (Below.refl w.heap.size w)
 have H : (api_Write_49.l0 k l0 0 l0 (l0.length : Int) 0) = some r := h
 clear h
 have H' := Aside0.mk H
 clear H
 go_enter Try.func49, Try.ntmps49
 go_wp2
 go_loopg [3, 11] k (fun kq v3 v11 w' => ∃ (x3_1 : Int) (x11_1 : Int), v3 = .int .i64 x3_1 ∧ v11 = .int .i64 x11_1 ∧ Aside0 (api_Write_49.l0 kq l0 x3_1 l0 (l0.length : Int) x11_1 = some r) ∧ Aside0 (kq ≤ k) ∧ Aside0 (Below w.heap.size w w'))
 case atStart => exact ⟨(0), (0), rs_, rs_, H', ⟨Nat.le_refl _⟩, ⟨uW HB.out⟩⟩
 case round =>
  clear H'
  obtain ⟨x3_1, x11_1, rfl, rfl, HA, HK1, HB⟩ := hrel
  cases gk with
  | zero => exact absurd HA.out (by simp [api_Write_49.l0])
  | succ k1 =>
   have H := HA.out
   clear HA
   simp only [api_Write_49.l0] at H
   by_cases c2 : x11_1 < (l0.length : Int)
   ·
    rw [if_pos c2] at H
    have c2b0 : decide (x11_1 < (l0.length : Int)) = true := decide_eq_true c2
    clear c2
    obtain ⟨c3b0, H⟩ := gdd H
    obtain ⟨c4b0, H⟩ := gdd H
    obtain ⟨c5b0, H⟩ := gnn H
    have H' := Aside0.mk H
    clear H
    have p112 : 0 ≤ (x11_1 : Int) := od
    have q112 : x11_1 < (l0.length : Int) := od
    obtain ⟨ad112, A112_0, c112_0, e112, hx112_0, hl112_0, hi112_0⟩ := at_L11 HR0.out x11_1 p112 q112
    cases e112
    replace hx112_0 := kc HB hx112_0
    have HR112_0 := Aside0.mk hi112_0
    have HC112_0 := Aside0.mk hl112_0
    clear hi112_0 hl112_0
    replace p112 := eq_true p112
    replace q112 := eq_true q112
    go_wp2
    go_roundg k1
    case measure => have := HK1.out; omega
    case rel => exact ⟨(wrap64 (x3_1 + ((rd_L11 l0 x11_1).length : Int))), (wrap64 (x11_1 + 1)), rs_, rs_, H', ⟨by have := HK1.out; omega⟩, ⟨uW HB.out⟩⟩
   ·
    rw [if_neg c2] at H
    have c2b0 : decide (x11_1 < (l0.length : Int)) = false := decide_eq_false c2
    clear c2
    obtain ⟨t113, A6, H⟩ := bs H
    try dsimp only at H
    have H' := Aside0.mk H
    clear H
    go_wp2_with (first | (refine gL (some 24) rfl Try.func58 #[(.slice none 0 0), .int .i64 x3_1] ?_; (with_reducible refine (api_Write_58.calls x3_1 t113 _ A6.out).mono ?_); rintro e w7 ⟨v114, rfl, ho0, hb⟩; refine ⟨_, rfl, ?_⟩; have HO115 := Aside0.mk (Kd.R_lower ho0 (below_size (uW HB.out))); replace HB := cW HB hb; (try clear hb); (try clear ho0)))
    (try simp only [Act.put, List.setIfInBounds_toArray, List.set_cons_zero, List.set_cons_succ])
    go_loopg [6, 27] k1 (fun kq v6 v27 w' => ∃ (x6_2 : List (S61)) (x27_2 : Int), v27 = .int .i64 x27_2 ∧ Aside0 (api_Write_49.l1 kq x6_2 l0 (l0.length : Int) x27_2 = some r) ∧ Aside0 (kq ≤ k1) ∧ Aside0 (Kd.R k61 61 w' w.heap.size (fun _ => True) v6 x6_2) ∧ Aside0 (Below w.heap.size w w'))
    case atStart => exact ⟨(t113), (0), rs_, H', ⟨Nat.le_refl _⟩, ⟨uR HO115.out⟩, ⟨uW HB.out⟩⟩
    case round =>
     clear H'
     try clear c2
     try clear c2b0
     obtain ⟨x6_2, x27_2, rfl, HA, HK2, HO_6, HB⟩ := hrel
     cases gk with
     | zero => exact absurd HA.out (by simp [api_Write_49.l1])
     | succ k2 =>
      have H := HA.out
      clear HA
      simp only [api_Write_49.l1] at H
      by_cases c8 : x27_2 < (l0.length : Int)
      ·
       rw [if_pos c8] at H
       have c8b0 : decide (x27_2 < (l0.length : Int)) = true := decide_eq_true c8
       clear c8
       obtain ⟨c9b0, H⟩ := gdd H
       obtain ⟨c10b0, H⟩ := gdd H
       obtain ⟨c11, H⟩ := gd H
       have LMc11 := Aside0.mk c11
       clear c11
       obtain ⟨y117, hy117⟩ : ∃ y_ : List (S61), y_ = (x6_2 ++ (rd_L11 l0 x27_2)) := ⟨_, rfl⟩
       replace H : (api_Write_49.l1 k2 y117 l0 (l0.length : Int) (wrap64 (x27_2 + 1))) = some r := by first | (rw [hy117]; with_reducible exact H) | (have H2_ := (Option.bind_some _ _).symm.trans H; rw [hy117]; with_reducible exact H2_) | (have H2_ := (Option.bind_some _ _).symm.trans H; with_reducible exact H2_) | with_reducible exact H | (rw [hy117]; exact H) | exact H
       have Ny117 := Aside0.mk hy117
       clear hy117
       have H' := Aside0.mk H
       clear H
       have p116 : 0 ≤ (x27_2 : Int) := od
       have q116 : x27_2 < (l0.length : Int) := od
       obtain ⟨ad116, A116_0, c116_0, e116, hx116_0, hl116_0, hi116_0⟩ := at_L11 HR0.out x27_2 p116 q116
       cases e116
       replace hx116_0 := kc HB hx116_0
       have HR116_0 := Aside0.mk hi116_0
       have HC116_0 := Aside0.mk hl116_0
       clear hi116_0 hl116_0
       replace p116 := eq_true p116
       replace q116 := eq_true q116
       go_wp2_with (first | ((with_reducible refine gate_builtin (b := .append) (xs := #[.tmp 31, .tmp 32]) rfl ?_); at_builtin; refine Kd.R_append_rows k61 (w0 := w) w.heap.size rfl (.tmp 31) (.tmp 32) 62 61 (.agg #[(.int .i64 0), (.int .i64 0), (.string ⟨#[]⟩), (.int .i64 0)]) 40 rfl Try.underlying62 info61 rfl (by decide) (by omega) u6 x6_2 (rd_L11 l0 x27_2) _ _ _ (fun _ => True) (fun _ => False) rfl rfl ?aO ?aR (fun _ _ h => h) (fun _ h => h.elim) ?aF ?aB ?aS ?aL ?_; (case aR => exact uC <| (Kd.C_below HR116_0.out HB.out)); (case aB => exact (uW HB.out)); (case aF => exact (fun _ _ => trivial)); (case aO => exact (uR HO_6.out)); (case aS => exact (below_size (uW HB.out))); (case aL => have := LMc11.out; omega); intro v118 w12 ho hb hg hat; rw [← Ny117.out] at ho; replace HB := Aside0.mk (hb); have HO119 := Aside0.mk (ho); clear HO_6; clear ho hb hg hat))
       go_roundg k2
       case measure => have := HK1.out; have := HK2.out; omega
       case rel => exact ⟨(y117), (wrap64 (x27_2 + 1)), rs_, H', ⟨by have := HK1.out; have := HK2.out; omega⟩, ⟨uR HO119.out⟩, ⟨uW HB.out⟩⟩
      ·
       rw [if_neg c8] at H
       have c8b0 : decide (x27_2 < (l0.length : Int)) = false := decide_eq_false c8
       clear c8
       obtain rfl := Option.some.inj H
       go_wp2
       go_ret
       exact ⟨_, re_, uR HO_6.out, uW HB.out⟩
theorem seq_Waits.clo (a0 : Int) (B : Nat) (W : World) (x : S61) (hc : W.cell? ⟨B, 0, none⟩ = some (.int .i64 a0)) :
 Calls Try.prog 50 (#[.agg #[.int .i64 x.f0, .int .i64 x.f1, .string x.f2, .int .i64 x.f3]] ++ #[.pointer (some ⟨B, 0, none⟩)]) W fun e w' => e = .returned (.bool (x.f1 == a0)) ∧ Below W.heap.size W w' := by
 have hB : B < W.heap.size := World.block_lt_of_cell? W _ hc
 have hne : B ≠ W.heap.size := by omega
 have hu := Try.underlying61
 go_enter Try.func50, Try.ntmps50
 go_wp2
 go_ret
 exact ⟨by first | rfl | simp, (Below.refl _ _).alloc (Nat.le_refl _) _⟩
def seq_Waits.f (k : Nat) (a0 : Int) (l1 : List (List (S61))) : Option (Bool) := (api_Write_49.f k l1).bind fun y => (some (y.any fun x => x.f1 == a0))
theorem seq_Waits.mono : ∀ a0 a1 k, LeO (seq_Waits.f k a0 a1) (seq_Waits.f (k + 1) a0 a1) := by
 intro a0 a1 k
 unfold seq_Waits.f
 exact lo
instance seq_Waits.mI {a0 a1 k} : LeC (seq_Waits.f k a0 a1) (seq_Waits.f (k + 1) a0 a1) := ⟨seq_Waits.mono _ _ _⟩
theorem seq_Waits.calls (k : Nat) (a0 : Int) (A1 : Option Addr) (c1 : Nat) (l1 : List (List (S61))) (r : Bool) (w : World) (hr1 : Kd.C (Kd.slice 61 k61) w A1 l1.length l1) (hc1 : l1.length ≤ c1) (h : seq_Waits.f k a0 l1 = some r) :
 Calls Try.prog 27 #[.int .i64 a0, .slice A1 l1.length c1] w fun e w' => e = .returned (.bool r) ∧ Below w.heap.size w w' := by
 obtain ⟨y, h1, h2⟩ := Option.bind_eq_some_iff.mp h
 obtain rfl := Option.some.inj h2
 clear h h2
 have HA1 := Aside0.mk h1
 have HR1 := Aside0.mk hr1
 have HC1 := Aside0.mk hc1
 clear h1 hr1 hc1
 have eg : ∀ args w, (callFunc 50 args).run Try.prog w = .ok (.enter 50 args) w := enters_of Try.func50 (by kernel_rfl) rfl
 obtain ⟨r, hr⟩ : ∃ r, r = y.any fun x => x.f1 == a0 := ⟨_, rfl⟩
 rw [← hr]
 have HRR := Aside0.mk hr
 clear hr
 go_enter Try.func27, Try.ntmps27
 go_wp2_with fail
 refine (api_Write_49.calls k _ _ l1 y _ ?s1 ?s2 HA1.out).mono ?_
 case s1 => exact Kd.C_alloc HR1.out _
 case s2 => exact HC1.out
 rintro e w1 ⟨v0, rfl, ho, hb⟩
 obtain ⟨Ao, co, eo⟩ := Kd.R_slice ho
 subst eo
 have HO := Aside0.mk ho
 have HB := Aside0.mk hb
 clear ho hb
 go_wp2_with fail
 refine (api_Write_48.calls 50 #[.pointer (some ⟨w.heap.size, 0, none⟩)] eg (fun x => x.f1 == a0) _ _ y _ ?t1 ?t2).mono ?_
 case t1 => exact (Kd.R_reads' HO.out).2.2
 case t2 => exact (fun W x _ hW => seq_Waits.clo a0 w.heap.size W x ((hW.cell (p := ⟨w.heap.size, 0, none⟩) (by have := HB.out.size; simp at this; show w.heap.size < _; omega)).trans ((HB.out.cell (by simp)).trans (by simp))))
 rintro e w2 ⟨rfl, hb2⟩
 rw [← HRR.out]
 have HB2 := Aside0.mk hb2
 clear hb2
 go_wp2
 go_ret
 exact ⟨rfl, (below_alloc (Below.refl _ _) _).trans ((HB.out.trans (HB2.out.mono HB.out.size)).mono (by simp))⟩
def slices_Min_int64_int64.l0 : Nat → List Int → Int → Int → Option (Int)
 | 0, _, _, _ => none
 | k + 1, x0, x3, x4 => if x4 < (x0.length : Int) then (if 0 ≤ x4 then (slices_Min_int64_int64.l0 k x0 (mn x3 (rd x0 x4)) (wrap64 (x4 + 1))) else (none)) else (some x3)
def slices_Min_int64_int64.f (k : Nat) (l0 : List Int) : Option (Int) := if (l0.length : Int) < 1 then (none) else (if 0 < (l0.length : Int) then (slices_Min_int64_int64.l0 k l0 (rd l0 0) 1) else (none))
theorem slices_Min_int64_int64.mono_l : ∀ k, (∀ y0 y1 y2, LeC (slices_Min_int64_int64.l0 k y0 y1 y2) (slices_Min_int64_int64.l0 (k + 1) y0 y1 y2))
 | 0 => fun _ _ _ => ⟨fun r h => by simp [slices_Min_int64_int64.l0] at h⟩
 | k + 1 => by have ih0 := slices_Min_int64_int64.mono_l k; exact fun _ _ _ => by unfold slices_Min_int64_int64.l0; exact lm
theorem slices_Min_int64_int64.mono : ∀ a0 k, LeO (slices_Min_int64_int64.f k a0) (slices_Min_int64_int64.f (k + 1) a0) := by
 intro a0 k
 have ih0 := slices_Min_int64_int64.mono_l k
 unfold slices_Min_int64_int64.f
 exact lo
instance slices_Min_int64_int64.mI {a0 k} : LeC (slices_Min_int64_int64.f k a0) (slices_Min_int64_int64.f (k + 1) a0) := ⟨slices_Min_int64_int64.mono _ _⟩
theorem slices_Min_int64_int64.calls (k : Nat) (A0 : Option Addr) (c0 : Nat) (l0 : List Int) (r : Int) (w : World) (hr0 : Kd.C (Kd.int .i64) w A0 l0.length l0) (hc0 : l0.length ≤ c0) (h : slices_Min_int64_int64.f k l0 = some r) :
 Calls Try.prog 28 #[.slice A0 l0.length c0] w fun e w' => e = .returned (.int .i64 r) ∧ Below w.heap.size w w' := by
 have HR0 := Aside0.mk hr0
 have HC0 := Aside0.mk hc0
 clear hr0 hc0
 have HB := Aside0.mk (Below.refl w.heap.size w)
 have H : (if (l0.length : Int) < 1 then (none) else (if 0 < (l0.length : Int) then (slices_Min_int64_int64.l0 k l0 (rd l0 0) 1) else (none))) = some r := h
 clear h
 obtain ⟨c2, H⟩ := gn H
 have c2b0 : decide ((l0.length : Int) < 1) = false := decide_eq_false c2
 have c2b1 : decide (l0.length < 1) = false := decide_eq_false (by omega)
 clear c2
 by_cases c3 : 0 < (l0.length : Int)
 ·
  rw [if_pos c3] at H
  have c3b0 : decide (0 < (l0.length : Int)) = true := decide_eq_true c3
  have c3b1 : decide (0 < l0.length) = true := decide_eq_true (by omega)
  clear c3
  have H' := Aside0.mk H
  clear H
  have p120 : 0 ≤ (0 : Int) := (by omega)
  have q120 : 0 < (l0.length : Int) := od
  obtain ⟨ad120, e120, hx120_0⟩ := Kd.at_int HR0.out 0 p120 q120
  cases e120
  have qi120 : (0 < l0.length) = True := eq_true (by omega)
  (try rw [show ((0 : Int)).toNat = 0 from rfl] at hx120_0)
  (try rw [Addr.add_zero'] at hx120_0)
  replace p120 := eq_true p120
  replace q120 := eq_true q120
  go_enter Try.func28, Try.ntmps28
  go_wp2
  go_loopg [3, 4] k (fun kq v3 v4 w' => ∃ (x3_1 : Int) (x4_1 : Int), v3 = .int .i64 x3_1 ∧ v4 = .int .i64 x4_1 ∧ Aside0 (slices_Min_int64_int64.l0 kq l0 x3_1 x4_1 = some r) ∧ Aside0 (kq ≤ k) ∧ Aside0 (Below w.heap.size w w'))
  case atStart => exact ⟨(rd l0 0), (1), rs_, rs_, H', ⟨Nat.le_refl _⟩, ⟨uW HB.out⟩⟩
  case round =>
   clear H'
   try clear c2
   try clear c2b0
   try clear c2b1
   try clear c3
   try clear c3b0
   try clear c3b1
   try clear hx120_0
   try clear p120
   try clear q120
   obtain ⟨x3_1, x4_1, rfl, rfl, HA, HK1, HB⟩ := hrel
   cases gk with
   | zero => exact absurd HA.out (by simp [slices_Min_int64_int64.l0])
   | succ k1 =>
    have H := HA.out
    clear HA
    simp only [slices_Min_int64_int64.l0] at H
    by_cases c4 : x4_1 < (l0.length : Int)
    ·
     rw [if_pos c4] at H
     have c4b0 : decide (x4_1 < (l0.length : Int)) = true := decide_eq_true c4
     clear c4
     obtain ⟨c5b0, H⟩ := gdd H
     obtain ⟨ji6, hji6⟩ : ∃ j_ : Int, (mn x3_1 (rd l0 x4_1)) = j_ := ⟨_, rfl⟩
     (first | rw [hji6] at H | simp only [hji6] at H)
     have hji6_ : (if (rd l0 x4_1) < x3_1 then (rd l0 x4_1) else x3_1) = ji6 := hji6
     have H' := Aside0.mk H
     clear H
     have p121 : 0 ≤ (x4_1 : Int) := od
     have q121 : x4_1 < (l0.length : Int) := od
     obtain ⟨ad121, e121, hx121_0⟩ := Kd.at_int HR0.out x4_1 p121 q121
     obtain rfl : ad120 = ad121 := (by injection e121)
     replace hx121_0 := kc HB hx121_0
     replace p121 := eq_true p121
     replace q121 := eq_true q121
     go_wp2
     go_roundg k1
     case measure => have := HK1.out; omega
     case rel => exact ⟨(ji6), (wrap64 (x4_1 + 1)), (by first | rfl | (simp; done) | (simp only [← hji6] <;> (first | rfl | simp)) | (simp [*]; done)), rs_, H', ⟨by have := HK1.out; omega⟩, ⟨uW HB.out⟩⟩
    ·
     rw [if_neg c4] at H
     have c4b0 : decide (x4_1 < (l0.length : Int)) = false := decide_eq_false c4
     clear c4
     obtain rfl := Option.some.inj H
     go_wp2
     go_ret
     exact ⟨re_, uW HB.out⟩
 ·
  rw [if_neg c3] at H
  exact absurd H (by simp)
def api_Drop_44.Fn (g : Nat) (lb : Array Value) (p : S46 → Bool) (l : List (S46)) (w : World) : Prop :=
 ∀ (W : World) (x : S46), x ∈ l → Below w.heap.size w W → Calls Try.prog g (#[.agg #[.int .i64 x.f0, .int .i64 x.f1]] ++ lb) W fun e w' => e = .returned (.bool (p x)) ∧ Below W.heap.size W w'
def api_Drop_44.idx (p : S46 → Bool) : List (S46) → Nat → Int
 | [], _ => -1
 | x :: l, i => if p x = true then (i : Int) else api_Drop_44.idx p l (i + 1)
theorem api_Drop_44.idx_miss {p : S46 → Bool} : ∀ {l : List (S46)} {i : Nat}, api_Drop_44.idx p l i = -1 ∨ (i : Int) ≤ api_Drop_44.idx p l i
 | [], _ => .inl rfl
 | x :: l, i => by
  unfold api_Drop_44.idx
  split
  ·
   exact .inr (Int.le_refl _)
  ·
   rcases api_Drop_44.idx_miss (p := p) (l := l) (i := i + 1) with h | h
   ·
    exact .inl h
   ·
    exact .inr (by omega)
theorem api_Drop_44.idx_any (p : S46 → Bool) : ∀ (l : List (S46)) (i : Nat), decide (0 ≤ api_Drop_44.idx p l i) = l.any p
 | [], _ => rfl
 | x :: l, i => by
  unfold api_Drop_44.idx
  by_cases h : p x = true
  ·
   rw [if_pos h, List.any_cons, h, Bool.true_or]
   exact decide_eq_true (by omega)
  ·
   rw [if_neg h, api_Drop_44.idx_any p l (i + 1), List.any_cons, Bool.eq_false_iff.2 h, Bool.false_or]
set_option maxHeartbeats 2000000 in
theorem api_Drop_44.calls (g : Nat) (lb : Array Value) (eg : ∀ args w, (callFunc g args).run Try.prog w = .ok (.enter g args) w) (p : S46 → Bool) (A0 : Option Addr) (c0 : Nat) (l0 : List (S46)) (w : World) (hr0 : Kd.C k46 w A0 l0.length l0) (hp : api_Drop_44.Fn g lb p l0 w) :
 Calls Try.prog 44 #[.slice A0 l0.length c0, .func (.func g) #[] lb] w fun e w' => e = .returned (.int .i64 (api_Drop_44.idx p l0 0)) ∧ Below w.heap.size w w' := by
 have hu46 := Try.underlying46
 have HR0 := Aside0.mk hr0
 have HP := Aside0.mk hp
 have HL := Aside0.mk hr0.2.1
 clear hr0 hp
 go_enter Try.func44, Try.ntmps44
 go_wp2
 go_loopg [5, 8] l0.length (fun gg _ v8 wr => ∃ x : Int, v8 = .int .i64 x ∧ Aside0 (0 ≤ x) ∧ Aside0 (x ≤ (l0.length : Int)) ∧ Aside0 ((l0.length : Int) - x ≤ gg) ∧ Aside0 (api_Drop_44.idx p l0 0 = api_Drop_44.idx p (l0.drop x.toNat) x.toNat) ∧ Aside0 (Below w.heap.size w wr))
 case atStart => exact ⟨0, rfl, ⟨by omega⟩, ⟨by omega⟩, ⟨by omega⟩, ⟨rfl⟩, ⟨Below.refl _ _⟩⟩
 case round =>
  obtain ⟨x, rfl, H0, H1, HG, HI, HB⟩ := hrel
  by_cases hlt : x < (l0.length : Int)
  ·
   have p101 : 0 ≤ x := H0.out
   obtain ⟨ad101, e101, hx101_0, hx101_1⟩ := at_T46 HR0.out x p101 hlt
   cases e101
   have hy101_0 := kc HB hx101_0
   clear hx101_0
   have hy101_1 := kc HB hx101_1
   clear hx101_1
   have HN : Aside0 (x.toNat < l0.length) := ⟨by omega⟩
   have hget : rd_T46 l0 x = l0[x.toNat]'HN.out := by
    show l0.getD x.toNat _ = _
    rw [List.getD_eq_getElem?_getD, List.getElem?_eq_getElem HN.out, Option.getD_some]
   have hcall := HP.out wr (rd_T46 l0 x) (by rw [hget]; exact List.getElem_mem HN.out) HB.out
   have HGE := Aside0.mk hget
   clear hget
   have c1b0 : decide (x < (l0.length : Int)) = true := decide_eq_true hlt
   have pi101 : (0 ≤ (x : Int)) = True := eq_true p101
   have qi101 : (x < (l0.length : Int)) = True := eq_true hlt
   have HLT := Aside0.mk hlt
   clear hlt p101
   cases hq : p (rd_T46 l0 x) with
   | true =>
    rw [hq] at hcall
    have HQ := Aside0.mk hq
    clear hq
    go_wp2_with (go_at_fn g; refine hcall.mono ?_; rintro e w' ⟨rfl, hb'⟩)
    go_ret
    refine ⟨?_, HB.out.trans (hb'.mono HB.out.size)⟩
    rw [HI.out, List.drop_eq_getElem_cons HN.out]
    unfold api_Drop_44.idx
    rw [if_pos (by rw [← HGE.out]; exact HQ.out), Int.toNat_of_nonneg H0.out]
    rfl
   | false =>
    rw [hq] at hcall
    have HQ := Aside0.mk hq
    clear hq
    go_wp2_with (go_at_fn g; refine hcall.mono ?_; rintro e w' ⟨rfl, hb'⟩)
    have hw : wrap64 (x + 1) = x + 1 := by have := HLT.out; have := HL.out; have := H0.out; unfold wrap64; omega
    (try rw [hw])
    clear hw
    go_roundg (l0.length - (x.toNat + 1))
    case measure => have := HLT.out; have := HG.out; have := H0.out; omega
    case rel =>
     refine ⟨x + 1, by first | rfl | (have := HLT.out; have := HL.out; have := H0.out; simp; unfold wrap64; omega), ⟨by have := H0.out; omega⟩, ⟨by have := HLT.out; omega⟩, ⟨by have := HLT.out; have := H0.out; omega⟩, ⟨?_⟩, ⟨HB.out.trans (hb'.mono HB.out.size)⟩⟩
     rw [HI.out, List.drop_eq_getElem_cons HN.out, show (x + 1).toNat = x.toNat + 1 from by have := H0.out; omega]
     conv => lhs; unfold api_Drop_44.idx
     rw [if_neg (by rw [← HGE.out, HQ.out]; simp)]
  ·
   have hx : x = (l0.length : Int) := by have := H1.out; omega
   have c1b0 : decide (x < (l0.length : Int)) = false := decide_eq_false hlt
   clear hlt
   have HX := Aside0.mk hx
   clear hx
   go_wp2
   go_ret
   refine ⟨?_, HB.out⟩
   rw [HI.out, HX.out, Int.toNat_natCast, List.drop_of_length_le (Nat.le_refl _)]
   rfl
set_option maxHeartbeats 2000000 in
theorem api_Drop_24.calls (g : Nat) (lb : Array Value) (eg : ∀ args w, (callFunc g args).run Try.prog w = .ok (.enter g args) w) (p : S46 → Bool) (A0 : Option Addr) (c0 : Nat) (l0 : List (S46)) (w : World) (hr0 : Kd.C k46 w A0 l0.length l0) (hp : api_Drop_44.Fn g lb p l0 w) :
 Calls Try.prog 24 #[.slice A0 l0.length c0, .func (.func g) #[] lb] w fun e w' => e = .returned (.bool (l0.any p)) ∧ Below w.heap.size w w' := by
 have hcall := fun W => api_Drop_44.calls g lb eg p A0 c0 l0 W
 rw [← api_Drop_44.idx_any p l0 0]
 generalize api_Drop_44.idx p l0 0 = r at hcall ⊢
 go_enter Try.func24, Try.ntmps24
 go_wp2_with (go_at_call 44; refine (hcall _ hr0 hp).mono ?_; rintro e w' ⟨rfl, hb'⟩)
 go_ret
 exact ⟨rfl, hb'⟩
theorem api_Drop_over_25.clo (B : Nat) (W : World) (x : S46) (v : Int) (h0 : W.cell? ⟨B, 0, none⟩ = some (.int .i64 v)) :
 Calls Try.prog 25 (#[.agg #[.int .i64 x.f0, .int .i64 x.f1]] ++ #[.pointer (some ⟨B, 0, none⟩)]) W fun e w' => e = .returned (.bool (x.f0 == v)) ∧ Below W.heap.size W w' := by
 have hB : B < W.heap.size := World.block_lt_of_cell? W _ h0
 have hne : B ≠ W.heap.size := by omega
 have hu := Try.underlying46
 have hu2 := Try.underlying70
 go_enter Try.func25, Try.ntmps25
 go_wp2
 go_ret
 exact ⟨by first | rfl | simp, (Below.refl _ _).alloc (Nat.le_refl _) _⟩
def api_Drop_over_25.f (l0 : List (S46)) (a1 : Int) : Option (Bool) := some (l0.any fun x => x.f0 == a1)
theorem api_Drop_over_25.calls {B0_ : Nat} (A0 : Option Addr) (c0 : Nat) (l0 : List (S46)) (a1 : Int) (r : Bool) (w : World) (hB0 : w.cell? ⟨B0_, 0, none⟩ = some (.int .i64 a1)) (hr0 : Kd.C k46 w A0 l0.length l0) (hc0 : l0.length ≤ c0) (h : api_Drop_over_25.f l0 a1 = some r) :
 Calls Try.prog 24 #[.slice A0 l0.length c0, .func (.func 25) #[] #[.pointer (some ⟨B0_, 0, none⟩)]] w fun e w' => e = .returned (.bool r) ∧ Below w.heap.size w w' := by
 obtain rfl := Option.some.inj h
 have eg : ∀ args w, (callFunc 25 args).run Try.prog w = .ok (.enter 25 args) w := enters_of Try.func25 (by kernel_rfl) rfl
 exact api_Drop_24.calls 25 #[.pointer (some ⟨B0_, 0, none⟩)] eg (fun x => x.f0 == a1) _ _ l0 w hr0 (fun W x _ hW => api_Drop_over_25.clo B0_ W x a1 ((hW.cell (World.block_lt_of_cell? w _ hB0)).trans hB0))
def emit_Next.l0 : Nat → Int → List (S46) → List (List (S61)) → List Int → List (S70) → Int → Int → Int → Int → Int → Int → Int → Option (Int × Bool)
 | 0, _, _, _, _, _, _, _, _, _, _, _, _ => none
 | k + 1, x1, x2, x3, x12, x17, x18, x19, x123000, x123001, x123002, x123003, x123004 => if x19 < x18 then (if 0 ≤ x19 then (if x19 < (x17.length : Int) then ((api_Drop_over_25.f x2 ((rd_T70 x17 x19).f0)).bind fun t129 => (if t129 = true then (emit_Next.l0 k x1 x2 x3 x12 x17 x18 (wrap64 (x19 + 1)) x123000 x123001 x123002 x123003 x123004) else ((win_Closed.f ((rd_T70 x17 x19).f0) x123002 x123003 x1).bind fun t130 => (if t130 = true then ((seq_Waits.f k ((rd_T70 x17 x19).f0) x3).bind fun t131 => (if t131 = true then (emit_Next.l0 k x1 x2 x3 x12 x17 x18 (wrap64 (x19 + 1)) x123000 x123001 x123002 x123003 x123004) else (if x12.length < 17592186044416 then (emit_Next.l0 k x1 x2 x3 (x12 ++ [(rd_T70 x17 x19).f0]) x17 x18 (wrap64 (x19 + 1)) x123000 x123001 x123002 x123003 x123004) else (none)))) else (emit_Next.l0 k x1 x2 x3 x12 x17 x18 (wrap64 (x19 + 1)) x123000 x123001 x123002 x123003 x123004))))) else (none)) else (none)) else (if (x12.length : Int) = 0 then (some (0, false)) else ((slices_Min_int64_int64.f k x12).bind fun t126 => (some (t126, true))))
def emit_Next.f (k : Nat) (a0_0 : Int) (a0_1 : Int) (a0_2 : Int) (a0_3 : Int) (a0_4 : Int) (a1 : Int) (l2 : List (S46)) (l3 : List (List (S61))) (l4 : List (S50)) : Option (Int × Bool) := (emit_entries.f k l4).bind fun t123 => (emit_Next.l0 k a1 l2 l3 ([] : List Int) t123 (t123.length : Int) 0 a0_0 a0_1 a0_2 a0_3 a0_4)
theorem emit_Next.mono_l : ∀ k, (∀ y0 y1 y2 y3 y4 y5 y6 y7 y8 y9 y10 y11, LeC (emit_Next.l0 k y0 y1 y2 y3 y4 y5 y6 y7 y8 y9 y10 y11) (emit_Next.l0 (k + 1) y0 y1 y2 y3 y4 y5 y6 y7 y8 y9 y10 y11))
 | 0 => fun _ _ _ _ _ _ _ _ _ _ _ _ => ⟨fun r h => by simp [emit_Next.l0] at h⟩
 | k + 1 => by have ih0 := emit_Next.mono_l k; exact fun _ _ _ _ _ _ _ _ _ _ _ _ => by unfold emit_Next.l0; exact lm
theorem emit_Next.mono : ∀ a0 a1 a2 a3 a4 a5 a6 a7 a8 k, LeO (emit_Next.f k a0 a1 a2 a3 a4 a5 a6 a7 a8) (emit_Next.f (k + 1) a0 a1 a2 a3 a4 a5 a6 a7 a8) := by
 intro a0 a1 a2 a3 a4 a5 a6 a7 a8 k
 have ih0 := emit_Next.mono_l k
 unfold emit_Next.f
 exact lo
instance emit_Next.mI {a0 a1 a2 a3 a4 a5 a6 a7 a8 k} : LeC (emit_Next.f k a0 a1 a2 a3 a4 a5 a6 a7 a8) (emit_Next.f (k + 1) a0 a1 a2 a3 a4 a5 a6 a7 a8) := ⟨emit_Next.mono _ _ _ _ _ _ _ _ _ _⟩
theorem emit_Next.calls (k : Nat) (a0_0 : Int) (a0_1 : Int) (a0_2 : Int) (a0_3 : Int) (a0_4 : Int) (a1 : Int) (A2 : Option Addr) (c2 : Nat) (l2 : List (S46)) (A3 : Option Addr) (c3 : Nat) (l3 : List (List (S61))) (A4 : Option Addr) (c4 : Nat) (l4 : List (S50)) (r1 : Int) (r2 : Bool) (w : World) (hr2 : Kd.C k46 w A2 l2.length l2) (hc2 : l2.length ≤ c2) (hr3 : Kd.C (Kd.slice 61 k61) w A3 l3.length l3) (hc3 : l3.length ≤ c3) (hr4 : Kd.C k50 w A4 l4.length l4) (hc4 : l4.length ≤ c4) (h : emit_Next.f k a0_0 a0_1 a0_2 a0_3 a0_4 a1 l2 l3 l4 = some (r1, r2)) :
 Calls Try.prog 9 #[.agg #[.int .i64 a0_0, .int .i64 a0_1, .int .i64 a0_2, .int .i64 a0_3, .int .i64 a0_4], .int .i64 a1, .slice A2 l2.length c2, .slice A3 l3.length c3, .slice A4 l4.length c4] w fun e w' => e = .returned (.tuple #[.int .i64 r1, .bool r2]) ∧ Below w.heap.size w w' := by
 have hu23 := Try.underlying23
 have hu70 := Try.underlying70
 have HR2 := Aside0.mk hr2
 have HC2 := Aside0.mk hc2
 clear hr2 hc2
 have HR3 := Aside0.mk hr3
 have HC3 := Aside0.mk hc3
 clear hr3 hc3
 have HR4 := Aside0.mk hr4
 have HC4 := Aside0.mk hc4
 clear hr4 hc4
 have HB := Aside0.mk (Below.refl w.heap.size w)
 have H : ((emit_entries.f k l4).bind fun t123 => (emit_Next.l0 k a1 l2 l3 ([] : List Int) t123 (t123.length : Int) 0 a0_0 a0_1 a0_2 a0_3 a0_4)) = some (r1, r2) := h
 clear h
 obtain ⟨t123, A6, H⟩ := bs H
 try dsimp only at H
 have H' := Aside0.mk H
 clear H
 go_enter Try.func9, Try.ntmps9
 go_wp2_with (first | ((with_reducible refine gate_dst (N := 5) rfl ?_); refine bx (N := 5) #[.int .i64 a0_0, .int .i64 a0_1, .int .i64 a0_2, .int .i64 a0_3, .int .i64 a0_4] 23 ?_; intro gb122 hg w7 hbox hb; have BK122 := Aside0.mk (hbox); have GW122 := gw hg (uW HB.out); have GE122 := GW122; replace HB := cW HB hb; clear hb hbox hg) | (refine gL (some 17) rfl Try.func23 #[.slice A4 l4.length c4] ?_; (with_reducible refine (emit_entries.calls k (fun k_ => k_ < w.heap.size) _ _ l4 t123 _ ?side1 A6.out).mono ?_); (case side1 => exact Kd.V_mk HC4.out (Kd.F_below (Kd.C_F k50_heap HR4.out) bl)); rintro e w8 ⟨v124, rfl, ho0, hb⟩; refine ⟨_, rfl, ?_⟩; have HO125 := Aside0.mk (Kd.N_lower (Kd.N_mono (ok' := fun k_ => k_ ≠ gb122) ho0 (fun k_ hk_ => Or.elim hk_ (fun hs_ => fun e_ => Nat.not_le.2 hs_ (by rw [e_]; exact GW122.out)) (fun hn_ => (Kd.freshB (g := gb122) (o := .cells #[.int .i64 a0_0, .int .i64 a0_1, .int .i64 a0_2, .int .i64 a0_3, .int .i64 a0_4] 23 (0, 0)) (uB BK122.out) k_ hn_)))) (below_size bl)); replace BK122 := cB BK122 hb; replace HB := Aside0.mk (below_step bl hb); (try clear hb); (try clear ho0); obtain ⟨Ao9, co9, eo9⟩ := Kd.N_slice HO125.out; subst eo9))
 (try simp only [Act.put, List.setIfInBounds_toArray, List.set_cons_zero, List.set_cons_succ])
 go_loopg [12, 19] k (fun kq v12 v19 w' => ∃ (x12_1 : List Int) (x19_1 : Int), v19 = .int .i64 x19_1 ∧ Aside0 (emit_Next.l0 kq a1 l2 l3 x12_1 t123 (t123.length : Int) x19_1 a0_0 a0_1 a0_2 a0_3 a0_4 = some (r1, r2)) ∧ Aside0 (kq ≤ k) ∧ Aside0 (Kd.R (Kd.int .i64) 2 w' w.heap.size (fun _ => True) v12 x12_1) ∧ Aside0 (Kd.N k70 70 w' w.heap.size (fun k_ => some k_ ≠ (v12 : Value).ownBlock ∧ k_ ≠ gb122) (.slice Ao9 t123.length co9) t123) ∧ Aside0 (w'.heap[gb122]? = some (.cells #[.int .i64 a0_0, .int .i64 a0_1, .int .i64 a0_2, .int .i64 a0_3, .int .i64 a0_4] 23 (0, 0))) ∧ Aside0 (Below w.heap.size w w'))
 case atStart => exact ⟨(([] : List Int)), (0), rs_, H', ⟨Nat.le_refl _⟩, ⟨nl_⟩, ⟨by (with_reducible repeat (first | apply Kd.N_alloc | apply Kd.N_drewN | apply Kd.N_drew)); exact Kd.N_mono HO125.out (fun _ hk => ⟨(by simp [Value.ownBlock]), hk⟩)⟩, ⟨uB BK122.out⟩, ⟨bl⟩⟩
 case round =>
  clear H'
  try clear c2
  try clear c3
  try clear c4
  obtain ⟨x12_1, x19_1, rfl, HA, HK1, HO_12, HO_17, BK122, HB⟩ := hrel
  cases gk with
  | zero => exact absurd HA.out (by simp [emit_Next.l0])
  | succ k1 =>
   have H := HA.out
   clear HA
   simp only [emit_Next.l0] at H
   by_cases c10 : x19_1 < (t123.length : Int)
   ·
    rw [if_pos c10] at H
    have c10b0 : decide (x19_1 < (t123.length : Int)) = true := decide_eq_true c10
    clear c10
    obtain ⟨c11b0, H⟩ := gdd H
    obtain ⟨c12b0, H⟩ := gdd H
    obtain ⟨t129, A13, H⟩ := bs H
    try dsimp only at H
    by_cases c14 : t129 = true
    ·
     subst c14
     rw [if_pos rfl] at H
     have H' := Aside0.mk H
     clear H
     have p127 : 0 ≤ (x19_1 : Int) := od
     have q127 : x19_1 < (t123.length : Int) := od
     obtain ⟨ad127, A127_2, c127_2, e127, hx127_0, hx127_1, hx127_2, hl127_2, hi127_2⟩ := at_T70 (Kd.N_reads' HO_17.out).2.2 x19_1 p127 q127
     cases e127
     obtain ⟨ce127, hce127, hMe127, hcc127⟩ := Kd.N_get HO_17.out z70 x19_1 p127 (by first | exact q127 | exact od | (have e_ := (Kd.N_reads' HO_17.out).1; omega))
     obtain ⟨ua127_2, uc127_2, rfl, ul127_2, ge127_2⟩ := k70_openF hMe127
     have hv127_2 := hcc127 2 _ rfl
     rw [add_field _ _ 2 (by omega)] at hv127_2
     replace hv127_2 := Option.some.inj (hv127_2.symm.trans hx127_2)
     injection hv127_2 with hva_ hvn_ hvc_
     rw [hva_] at ge127_2
     rw [hvc_] at ul127_2
     have HL127_2 := Aside0.mk (show Kd.V k96 96 _ w.heap.size _ _ ((rd_T70 t123 x19_1).f2) from Kd.V_mk ul127_2 ge127_2)
     clear hva_ hvn_ hvc_ ge127_2 ul127_2
     clear hcc127 hce127
     have HR127_2 := Aside0.mk hi127_2
     have HC127_2 := Aside0.mk hl127_2
     clear hi127_2 hl127_2
     replace p127 := eq_true p127
     replace q127 := eq_true q127
     go_wp2_with (first | ((with_reducible refine gate_dst (N := 14) rfl ?_); refine bx (N := 14) #[.int .i64 0, .string (⟨#[]⟩ : ByteArray), .slice none 0 0] 70 ?_; intro gb128 hg w15 hbox hb; replace HO_12 := cR HO_12 hb; replace HO_17 := Aside0.mk (Kd.N_below (Kd.N_elderB (by (with_reducible repeat (first | apply Kd.N_alloc | apply Kd.N_drewN | apply Kd.N_drew)); exact HO_17.out) gb128 (Nat.le_of_eq hg.symm)) hb); replace HL127_2 := Aside0.mk (Kd.V_below (Kd.V_elderB (uV HL127_2.out) gb128 (Nat.le_of_eq hg.symm)) hb); replace HR127_2 := cC HR127_2 hb; have BK128 := Aside0.mk (hbox); have GW128 := gw hg bl; have GE128 := GW128; replace HB := Aside0.mk (below_step bl hb); have NB122_128 := nl BK122 hg; have NB128_122 := nr BK122 hg; replace BK122 := cB BK122 hb; clear hb hbox hg; have hnb16 := NB128_122.out; have hnc16 := NB122_128.out; obtain ⟨hcz17_0, hcz17_1, hcz17_2, hfz17_0, hfz17_1, hfz17_2⟩ := z3 BK128) | (refine gL (some 25) rfl Try.func24 #[.slice A2 l2.length c2, .func (.func 25) #[] #[.pointer (some ⟨gb128, 0, none⟩)]] ?_; (with_reducible refine (api_Drop_over_25.calls _ _ l2 ((rd_T70 t123 x19_1).f0) true _ ?side1 ?side2 ?side3 A13.out).mono ?_); (case side1 => refine Eq.trans (blk_cell (g := gb128) (cs := #[.int .i64 ((rd_T70 t123 x19_1).f0), .string ((rd_T70 t123 x19_1).f1), .slice A127_2 ((rd_T70 t123 x19_1).f2).length c127_2]) (t := 70) ?_ 0) rfl; (with_reducible repeat (first | refine blk_drewN ?_ _ | refine blk_drew ?_ | refine blk_alloc ?_ _)); refine blk_put (cs := #[.int .i64 ((rd_T70 t123 x19_1).f0), .string ((rd_T70 t123 x19_1).f1), .slice none 0 0]) ?_ 2 _ rfl; (with_reducible repeat (first | refine blk_drewN ?_ _ | refine blk_drew ?_ | refine blk_alloc ?_ _)); refine blk_put (cs := #[.int .i64 ((rd_T70 t123 x19_1).f0), .string (⟨#[]⟩ : ByteArray), .slice none 0 0]) ?_ 1 _ rfl; (with_reducible repeat (first | refine blk_drewN ?_ _ | refine blk_drew ?_ | refine blk_alloc ?_ _)); refine blk_put (cs := #[.int .i64 0, .string (⟨#[]⟩ : ByteArray), .slice none 0 0]) ?_ 0 _ rfl; exact uB <| BK128.out); (case side2 => exact Kd.C_below HR2.out bl); (case side3 => exact HC2.out); rintro e w18 ⟨rfl, hb⟩; refine ⟨_, rfl, ?_⟩; replace HO_12 := fcR HO_12 BK128 hb; replace HO_17 := Aside0.mk (Kd.N_below (by (with_reducible repeat (first | apply Kd.N_alloc | apply Kd.N_drewN | apply Kd.N_drew)); exact (Kd.N_mono (Kd.N_far (p := ⟨gb128, 2, none⟩) (Kd.N_far (p := ⟨gb128, 1, none⟩) (Kd.N_far (p := ⟨gb128, 0, none⟩) (Kd.N_mono HO_17.out (fun k_ hk => (⟨hk, hk.2⟩ : _ ∧ k_ ≠ gb128))) (fun _ hk => hk.2) (.int .i64 ((rd_T70 t123 x19_1).f0))) (fun _ hk => hk.2) (.string ((rd_T70 t123 x19_1).f1))) (fun _ hk => hk.2) (.slice A127_2 ((rd_T70 t123 x19_1).f2).length c127_2)) (fun _ h_ => h_.1))) hb); replace BK122 := Aside0.mk (blk_below (g := gb122) (o := .cells #[.int .i64 a0_0, .int .i64 a0_1, .int .i64 a0_2, .int .i64 a0_3, .int .i64 a0_4] 23 (0, 0)) (fF BK122.out NB122_128) hb); replace HR127_2 := Aside0.mk (Kd.C_below ((Kd.V_reads' (by exact (Kd.V_mono (fV_ (Kd.V_mono HL127_2.out (fun k_ hk => (⟨hk, hk.2⟩ : _ ∧ k_ ≠ gb128))) fun _ h => h.2) (fun _ h_ => h_.1)))).2.2) hb); replace HL127_2 := Aside0.mk (Kd.V_below (by exact (Kd.V_mono (fV_ (Kd.V_mono HL127_2.out (fun k_ hk => (⟨hk, hk.2⟩ : _ ∧ k_ ≠ gb128))) fun _ h => h.2) (fun _ h_ => h_.1))) hb); replace BK128 := fcB BK128 hb; replace HB := Aside0.mk (below_step bl hb); (try clear hb)))
     go_roundg k1
     case measure => have := HK1.out; omega
     case rel => exact ⟨(x12_1), (wrap64 (x19_1 + 1)), rs_, H', ⟨by have := HK1.out; omega⟩, ⟨uR HO_12.out⟩, ⟨by (with_reducible repeat (first | apply Kd.N_alloc | apply Kd.N_drewN | apply Kd.N_drew)); exact Kd.N_mono HO_17.out (fun _ hk => ⟨hk.1.1, hk.1.2⟩)⟩, ⟨uB BK122.out⟩, ⟨bl⟩⟩
    ·
     replace c14 := Bool.eq_false_iff.mpr c14
     subst c14
     rw [if_neg (show ¬ (false = true) by decide)] at H
     obtain ⟨t130, A19, H⟩ := bs H
     try dsimp only at H
     by_cases c20 : t130 = true
     ·
      subst c20
      rw [if_pos rfl] at H
      obtain ⟨t131, A21, H⟩ := bs H
      try dsimp only at H
      by_cases c22 : t131 = true
      ·
       subst c22
       rw [if_pos rfl] at H
       have H' := Aside0.mk H
       clear H
       have p127 : 0 ≤ (x19_1 : Int) := od
       have q127 : x19_1 < (t123.length : Int) := od
       obtain ⟨ad127, A127_2, c127_2, e127, hx127_0, hx127_1, hx127_2, hl127_2, hi127_2⟩ := at_T70 (Kd.N_reads' HO_17.out).2.2 x19_1 p127 q127
       cases e127
       obtain ⟨ce127, hce127, hMe127, hcc127⟩ := Kd.N_get HO_17.out z70 x19_1 p127 (by first | exact q127 | exact od | (have e_ := (Kd.N_reads' HO_17.out).1; omega))
       obtain ⟨ua127_2, uc127_2, rfl, ul127_2, ge127_2⟩ := k70_openF hMe127
       have hv127_2 := hcc127 2 _ rfl
       rw [add_field _ _ 2 (by omega)] at hv127_2
       replace hv127_2 := Option.some.inj (hv127_2.symm.trans hx127_2)
       injection hv127_2 with hva_ hvn_ hvc_
       rw [hva_] at ge127_2
       rw [hvc_] at ul127_2
       have HL127_2 := Aside0.mk (show Kd.V k96 96 _ w.heap.size _ _ ((rd_T70 t123 x19_1).f2) from Kd.V_mk ul127_2 ge127_2)
       clear hva_ hvn_ hvc_ ge127_2 ul127_2
       clear hcc127 hce127
       have HR127_2 := Aside0.mk hi127_2
       have HC127_2 := Aside0.mk hl127_2
       clear hi127_2 hl127_2
       replace p127 := eq_true p127
       replace q127 := eq_true q127
       go_wp2_with (first | ((with_reducible refine gate_dst (N := 14) rfl ?_); refine bx (N := 14) #[.int .i64 0, .string (⟨#[]⟩ : ByteArray), .slice none 0 0] 70 ?_; intro gb128 hg w23 hbox hb; replace HO_12 := cR HO_12 hb; replace HO_17 := Aside0.mk (Kd.N_below (Kd.N_elderB (by (with_reducible repeat (first | apply Kd.N_alloc | apply Kd.N_drewN | apply Kd.N_drew)); exact HO_17.out) gb128 (Nat.le_of_eq hg.symm)) hb); replace HL127_2 := Aside0.mk (Kd.V_below (Kd.V_elderB (uV HL127_2.out) gb128 (Nat.le_of_eq hg.symm)) hb); replace HR127_2 := cC HR127_2 hb; have BK128 := Aside0.mk (hbox); have GW128 := gw hg bl; have GE128 := GW128; replace HB := Aside0.mk (below_step bl hb); have NB122_128 := nl BK122 hg; have NB128_122 := nr BK122 hg; replace BK122 := cB BK122 hb; clear hb hbox hg; have hnb24 := NB128_122.out; have hnc24 := NB122_128.out; obtain ⟨hcz25_0, hcz25_1, hcz25_2, hfz25_0, hfz25_1, hfz25_2⟩ := z3 BK128) | (refine gL (some 25) rfl Try.func24 #[.slice A2 l2.length c2, .func (.func 25) #[] #[.pointer (some ⟨gb128, 0, none⟩)]] ?_; (with_reducible refine (api_Drop_over_25.calls _ _ l2 ((rd_T70 t123 x19_1).f0) false _ ?side1 ?side2 ?side3 A13.out).mono ?_); (case side1 => refine Eq.trans (blk_cell (g := gb128) (cs := #[.int .i64 ((rd_T70 t123 x19_1).f0), .string ((rd_T70 t123 x19_1).f1), .slice A127_2 ((rd_T70 t123 x19_1).f2).length c127_2]) (t := 70) ?_ 0) rfl; (with_reducible repeat (first | refine blk_drewN ?_ _ | refine blk_drew ?_ | refine blk_alloc ?_ _)); refine blk_put (cs := #[.int .i64 ((rd_T70 t123 x19_1).f0), .string ((rd_T70 t123 x19_1).f1), .slice none 0 0]) ?_ 2 _ rfl; (with_reducible repeat (first | refine blk_drewN ?_ _ | refine blk_drew ?_ | refine blk_alloc ?_ _)); refine blk_put (cs := #[.int .i64 ((rd_T70 t123 x19_1).f0), .string (⟨#[]⟩ : ByteArray), .slice none 0 0]) ?_ 1 _ rfl; (with_reducible repeat (first | refine blk_drewN ?_ _ | refine blk_drew ?_ | refine blk_alloc ?_ _)); refine blk_put (cs := #[.int .i64 0, .string (⟨#[]⟩ : ByteArray), .slice none 0 0]) ?_ 0 _ rfl; exact uB <| BK128.out); (case side2 => exact Kd.C_below HR2.out bl); (case side3 => exact HC2.out); rintro e w26 ⟨rfl, hb⟩; refine ⟨_, rfl, ?_⟩; replace HO_12 := fcR HO_12 BK128 hb; replace HO_17 := Aside0.mk (Kd.N_below (by (with_reducible repeat (first | apply Kd.N_alloc | apply Kd.N_drewN | apply Kd.N_drew)); exact (Kd.N_mono (Kd.N_far (p := ⟨gb128, 2, none⟩) (Kd.N_far (p := ⟨gb128, 1, none⟩) (Kd.N_far (p := ⟨gb128, 0, none⟩) (Kd.N_mono HO_17.out (fun k_ hk => (⟨hk, hk.2⟩ : _ ∧ k_ ≠ gb128))) (fun _ hk => hk.2) (.int .i64 ((rd_T70 t123 x19_1).f0))) (fun _ hk => hk.2) (.string ((rd_T70 t123 x19_1).f1))) (fun _ hk => hk.2) (.slice A127_2 ((rd_T70 t123 x19_1).f2).length c127_2)) (fun _ h_ => h_.1))) hb); replace BK122 := Aside0.mk (blk_below (g := gb122) (o := .cells #[.int .i64 a0_0, .int .i64 a0_1, .int .i64 a0_2, .int .i64 a0_3, .int .i64 a0_4] 23 (0, 0)) (fF BK122.out NB122_128) hb); replace HR127_2 := Aside0.mk (Kd.C_below ((Kd.V_reads' (by exact (Kd.V_mono (fV_ (Kd.V_mono HL127_2.out (fun k_ hk => (⟨hk, hk.2⟩ : _ ∧ k_ ≠ gb128))) fun _ h => h.2) (fun _ h_ => h_.1)))).2.2) hb); replace HL127_2 := Aside0.mk (Kd.V_below (by exact (Kd.V_mono (fV_ (Kd.V_mono HL127_2.out (fun k_ hk => (⟨hk, hk.2⟩ : _ ∧ k_ ≠ gb128))) fun _ h => h.2) (fun _ h_ => h_.1))) hb); replace BK128 := fcB BK128 hb; replace HB := Aside0.mk (below_step bl hb); (try clear hb); obtain ⟨hcz27_0, hcz27_1, hcz27_2, hfz27_0, hfz27_1, hfz27_2⟩ := z3 BK128; obtain ⟨hcz28_0, hcz28_1, hcz28_2, hcz28_3, hcz28_4, hfz28_0, hfz28_1, hfz28_2, hfz28_3, hfz28_4⟩ := z5 BK122) | (go_at_call 26; (with_reducible refine (win_Closed.calls ((rd_T70 t123 x19_1).f0) a0_2 a0_3 a1 true _ A19.out).mono ?_); rintro e w' ⟨rfl, ⟨nd, rfl⟩⟩) | (go_at_call 27; (with_reducible refine (seq_Waits.calls k1 ((rd_T70 t123 x19_1).f0) _ _ l3 true _ ?side1 ?side2 A21.out).mono ?_); (case side1 => exact (Kd.C_below HR3.out bl)); (case side2 => exact HC3.out); rintro e w29 ⟨rfl, hb⟩; replace HO_12 := cR HO_12 hb; replace HO_17 := Aside0.mk (Kd.N_below (by (with_reducible repeat (first | apply Kd.N_alloc | apply Kd.N_drewN | apply Kd.N_drew)); exact HO_17.out) hb); replace HL127_2 := cV HL127_2 hb; replace BK122 := cB BK122 hb; replace HR127_2 := cC HR127_2 hb; replace BK128 := cB BK128 hb; replace HB := Aside0.mk (below_step bl hb); (try clear hb)))
       go_roundg k1
       case measure => have := HK1.out; omega
       case rel => exact ⟨(x12_1), (wrap64 (x19_1 + 1)), rs_, H', ⟨by have := HK1.out; omega⟩, ⟨uR HO_12.out⟩, ⟨by (with_reducible repeat (first | apply Kd.N_alloc | apply Kd.N_drewN | apply Kd.N_drew)); exact Kd.N_mono HO_17.out (fun _ hk => ⟨hk.1.1, hk.1.2⟩)⟩, ⟨uB BK122.out⟩, ⟨bl⟩⟩
      ·
       replace c22 := Bool.eq_false_iff.mpr c22
       subst c22
       rw [if_neg (show ¬ (false = true) by decide)] at H
       obtain ⟨c30, H⟩ := gd H
       have LMc30 := Aside0.mk c30
       clear c30
       obtain ⟨y132, hy132⟩ : ∃ y_ : List Int, y_ = (x12_1 ++ [(rd_T70 t123 x19_1).f0]) := ⟨_, rfl⟩
       replace H : (emit_Next.l0 k1 a1 l2 l3 y132 t123 (t123.length : Int) (wrap64 (x19_1 + 1)) a0_0 a0_1 a0_2 a0_3 a0_4) = some (r1, r2) := by first | (rw [hy132]; with_reducible exact H) | (have H2_ := (Option.bind_some _ _).symm.trans H; rw [hy132]; with_reducible exact H2_) | (have H2_ := (Option.bind_some _ _).symm.trans H; with_reducible exact H2_) | with_reducible exact H | (rw [hy132]; exact H) | exact H
       have Ny132 := Aside0.mk hy132
       clear hy132
       have H' := Aside0.mk H
       clear H
       have p127 : 0 ≤ (x19_1 : Int) := od
       have q127 : x19_1 < (t123.length : Int) := od
       obtain ⟨ad127, A127_2, c127_2, e127, hx127_0, hx127_1, hx127_2, hl127_2, hi127_2⟩ := at_T70 (Kd.N_reads' HO_17.out).2.2 x19_1 p127 q127
       cases e127
       obtain ⟨ce127, hce127, hMe127, hcc127⟩ := Kd.N_get HO_17.out z70 x19_1 p127 (by first | exact q127 | exact od | (have e_ := (Kd.N_reads' HO_17.out).1; omega))
       obtain ⟨ua127_2, uc127_2, rfl, ul127_2, ge127_2⟩ := k70_openF hMe127
       have hv127_2 := hcc127 2 _ rfl
       rw [add_field _ _ 2 (by omega)] at hv127_2
       replace hv127_2 := Option.some.inj (hv127_2.symm.trans hx127_2)
       injection hv127_2 with hva_ hvn_ hvc_
       rw [hva_] at ge127_2
       rw [hvc_] at ul127_2
       have HL127_2 := Aside0.mk (show Kd.V k96 96 _ w.heap.size _ _ ((rd_T70 t123 x19_1).f2) from Kd.V_mk ul127_2 ge127_2)
       clear hva_ hvn_ hvc_ ge127_2 ul127_2
       clear hcc127 hce127
       have HR127_2 := Aside0.mk hi127_2
       have HC127_2 := Aside0.mk hl127_2
       clear hi127_2 hl127_2
       replace p127 := eq_true p127
       replace q127 := eq_true q127
       go_wp2_with (first | ((with_reducible refine gate_dst (N := 14) rfl ?_); refine bx (N := 14) #[.int .i64 0, .string (⟨#[]⟩ : ByteArray), .slice none 0 0] 70 ?_; intro gb128 hg w31 hbox hb; replace HO_12 := cR HO_12 hb; replace HO_17 := Aside0.mk (Kd.N_below (Kd.N_elderB (by (with_reducible repeat (first | apply Kd.N_alloc | apply Kd.N_drewN | apply Kd.N_drew)); exact HO_17.out) gb128 (Nat.le_of_eq hg.symm)) hb); replace HL127_2 := Aside0.mk (Kd.V_below (Kd.V_elderB (uV HL127_2.out) gb128 (Nat.le_of_eq hg.symm)) hb); replace HR127_2 := cC HR127_2 hb; have BK128 := Aside0.mk (hbox); have GW128 := gw hg bl; have GE128 := GW128; replace HB := Aside0.mk (below_step bl hb); have NB122_128 := nl BK122 hg; have NB128_122 := nr BK122 hg; replace BK122 := cB BK122 hb; clear hb hbox hg; have hnb32 := NB128_122.out; have hnc32 := NB122_128.out; obtain ⟨hcz33_0, hcz33_1, hcz33_2, hfz33_0, hfz33_1, hfz33_2⟩ := z3 BK128) | (refine gL (some 25) rfl Try.func24 #[.slice A2 l2.length c2, .func (.func 25) #[] #[.pointer (some ⟨gb128, 0, none⟩)]] ?_; (with_reducible refine (api_Drop_over_25.calls _ _ l2 ((rd_T70 t123 x19_1).f0) false _ ?side1 ?side2 ?side3 A13.out).mono ?_); (case side1 => refine Eq.trans (blk_cell (g := gb128) (cs := #[.int .i64 ((rd_T70 t123 x19_1).f0), .string ((rd_T70 t123 x19_1).f1), .slice A127_2 ((rd_T70 t123 x19_1).f2).length c127_2]) (t := 70) ?_ 0) rfl; (with_reducible repeat (first | refine blk_drewN ?_ _ | refine blk_drew ?_ | refine blk_alloc ?_ _)); refine blk_put (cs := #[.int .i64 ((rd_T70 t123 x19_1).f0), .string ((rd_T70 t123 x19_1).f1), .slice none 0 0]) ?_ 2 _ rfl; (with_reducible repeat (first | refine blk_drewN ?_ _ | refine blk_drew ?_ | refine blk_alloc ?_ _)); refine blk_put (cs := #[.int .i64 ((rd_T70 t123 x19_1).f0), .string (⟨#[]⟩ : ByteArray), .slice none 0 0]) ?_ 1 _ rfl; (with_reducible repeat (first | refine blk_drewN ?_ _ | refine blk_drew ?_ | refine blk_alloc ?_ _)); refine blk_put (cs := #[.int .i64 0, .string (⟨#[]⟩ : ByteArray), .slice none 0 0]) ?_ 0 _ rfl; exact uB <| BK128.out); (case side2 => exact Kd.C_below HR2.out bl); (case side3 => exact HC2.out); rintro e w34 ⟨rfl, hb⟩; refine ⟨_, rfl, ?_⟩; replace HO_12 := fcR HO_12 BK128 hb; replace HO_17 := Aside0.mk (Kd.N_below (by (with_reducible repeat (first | apply Kd.N_alloc | apply Kd.N_drewN | apply Kd.N_drew)); exact (Kd.N_mono (Kd.N_far (p := ⟨gb128, 2, none⟩) (Kd.N_far (p := ⟨gb128, 1, none⟩) (Kd.N_far (p := ⟨gb128, 0, none⟩) (Kd.N_mono HO_17.out (fun k_ hk => (⟨hk, hk.2⟩ : _ ∧ k_ ≠ gb128))) (fun _ hk => hk.2) (.int .i64 ((rd_T70 t123 x19_1).f0))) (fun _ hk => hk.2) (.string ((rd_T70 t123 x19_1).f1))) (fun _ hk => hk.2) (.slice A127_2 ((rd_T70 t123 x19_1).f2).length c127_2)) (fun _ h_ => h_.1))) hb); replace BK122 := Aside0.mk (blk_below (g := gb122) (o := .cells #[.int .i64 a0_0, .int .i64 a0_1, .int .i64 a0_2, .int .i64 a0_3, .int .i64 a0_4] 23 (0, 0)) (fF BK122.out NB122_128) hb); replace HR127_2 := Aside0.mk (Kd.C_below ((Kd.V_reads' (by exact (Kd.V_mono (fV_ (Kd.V_mono HL127_2.out (fun k_ hk => (⟨hk, hk.2⟩ : _ ∧ k_ ≠ gb128))) fun _ h => h.2) (fun _ h_ => h_.1)))).2.2) hb); replace HL127_2 := Aside0.mk (Kd.V_below (by exact (Kd.V_mono (fV_ (Kd.V_mono HL127_2.out (fun k_ hk => (⟨hk, hk.2⟩ : _ ∧ k_ ≠ gb128))) fun _ h => h.2) (fun _ h_ => h_.1))) hb); replace BK128 := fcB BK128 hb; replace HB := Aside0.mk (below_step bl hb); (try clear hb); obtain ⟨hcz35_0, hcz35_1, hcz35_2, hfz35_0, hfz35_1, hfz35_2⟩ := z3 BK128; obtain ⟨hcz36_0, hcz36_1, hcz36_2, hcz36_3, hcz36_4, hfz36_0, hfz36_1, hfz36_2, hfz36_3, hfz36_4⟩ := z5 BK122) | (go_at_call 26; (with_reducible refine (win_Closed.calls ((rd_T70 t123 x19_1).f0) a0_2 a0_3 a1 true _ A19.out).mono ?_); rintro e w' ⟨rfl, ⟨nd, rfl⟩⟩) | (go_at_call 27; (with_reducible refine (seq_Waits.calls k1 ((rd_T70 t123 x19_1).f0) _ _ l3 false _ ?side1 ?side2 A21.out).mono ?_); (case side1 => exact (Kd.C_below HR3.out bl)); (case side2 => exact HC3.out); rintro e w37 ⟨rfl, hb⟩; replace HO_12 := cR HO_12 hb; replace HO_17 := Aside0.mk (Kd.N_below (by (with_reducible repeat (first | apply Kd.N_alloc | apply Kd.N_drewN | apply Kd.N_drew)); exact HO_17.out) hb); replace HL127_2 := cV HL127_2 hb; replace BK122 := cB BK122 hb; replace HR127_2 := cC HR127_2 hb; replace BK128 := cB BK128 hb; replace HB := Aside0.mk (below_step bl hb); (try clear hb); obtain ⟨hcz38_0, hcz38_1, hcz38_2, hfz38_0, hfz38_1, hfz38_2⟩ := z3 BK128) | ((with_reducible refine gate_builtin (b := .append) (xs := #[.tmp 45, .tmp 48]) rfl ?_); at_builtin; refine Kd.R_append (Kd.int .i64) (w0 := w) w.heap.size rfl (.tmp 45) (.tmp 48) 65 2 (.int .i64 0) 8 rfl Try.underlying65 info2 rfl (by decide) (by omega) u12 x12_1 ((rd_T70 t123 x19_1).f0) [.int .i64 ((rd_T70 t123 x19_1).f0)] (fun _ => True) (fun _ => False) rfl rfl ?aP (fun _ hk => hk.elim) ?aF ?aO ?aB ?aS ?aL ?_; (case aP => exact rfl); (case aB => exact bl); (case aF => exact (fun _ _ => trivial)); (case aO => exact (uR HO_12.out)); (case aS => exact (below_size bl)); (case aL => have := LMc30.out; omega); intro v133 w39 ho hb hg hat; rw [← Ny132.out] at ho; replace HO_17 := Aside0.mk (Kd.N_afterv (ok := (fun k_ => k_ ≠ gb122 ∧ k_ ≠ gb128)) (by (with_reducible repeat (first | apply Kd.N_alloc | apply Kd.N_drewN | apply Kd.N_drew)); exact Kd.N_mono HO_17.out (fun _ hk => ⟨⟨hk.1.2, hk.2⟩, hk.1.1⟩)) hg hat); replace BK122 := Aside0.mk (blk_grown (g := gb122) (o := .cells #[.int .i64 a0_0, .int .i64 a0_1, .int .i64 a0_2, .int .i64 a0_3, .int .i64 a0_4] 23 (0, 0)) (uB BK122.out) hg (Kd.R_ne HO_12.out BK122.out (by decide))); replace HL127_2 := Aside0.mk (Kd.V_afterv (ok := (fun k_ => some k_ ≠ (.slice (some ad127) t123.length co9 : Value).ownBlock ∧ k_ ≠ gb122 ∧ k_ ≠ gb128)) (by exact uV <| Kd.V_mono HL127_2.out (fun _ hk => ⟨⟨hk.1.2, ⟨hk.1.1.2, hk.2⟩⟩, hk.1.1.1⟩)) hg hat); replace BK128 := Aside0.mk (blk_grown (g := gb128) (o := .cells #[.int .i64 ((rd_T70 t123 x19_1).f0), .string ((rd_T70 t123 x19_1).f1), .slice A127_2 ((rd_T70 t123 x19_1).f2).length c127_2] 70 (0, 0)) (uB BK128.out) hg (Kd.R_ne HO_12.out BK128.out (by decide))); replace HB := Aside0.mk (hb); have HO134 := Aside0.mk (ho); clear HO_12; clear ho hb hg hat))
       go_roundg k1
       case measure => have := HK1.out; omega
       case rel => exact ⟨(y132), (wrap64 (x19_1 + 1)), rs_, H', ⟨by have := HK1.out; omega⟩, ⟨uR HO134.out⟩, ⟨by (with_reducible repeat (first | apply Kd.N_alloc | apply Kd.N_drewN | apply Kd.N_drew)); exact Kd.N_mono HO_17.out (fun _ hk => ⟨hk.2, hk.1.1⟩)⟩, ⟨uB BK122.out⟩, ⟨bl⟩⟩
     ·
      replace c20 := Bool.eq_false_iff.mpr c20
      subst c20
      rw [if_neg (show ¬ (false = true) by decide)] at H
      have H' := Aside0.mk H
      clear H
      have p127 : 0 ≤ (x19_1 : Int) := od
      have q127 : x19_1 < (t123.length : Int) := od
      obtain ⟨ad127, A127_2, c127_2, e127, hx127_0, hx127_1, hx127_2, hl127_2, hi127_2⟩ := at_T70 (Kd.N_reads' HO_17.out).2.2 x19_1 p127 q127
      cases e127
      obtain ⟨ce127, hce127, hMe127, hcc127⟩ := Kd.N_get HO_17.out z70 x19_1 p127 (by first | exact q127 | exact od | (have e_ := (Kd.N_reads' HO_17.out).1; omega))
      obtain ⟨ua127_2, uc127_2, rfl, ul127_2, ge127_2⟩ := k70_openF hMe127
      have hv127_2 := hcc127 2 _ rfl
      rw [add_field _ _ 2 (by omega)] at hv127_2
      replace hv127_2 := Option.some.inj (hv127_2.symm.trans hx127_2)
      injection hv127_2 with hva_ hvn_ hvc_
      rw [hva_] at ge127_2
      rw [hvc_] at ul127_2
      have HL127_2 := Aside0.mk (show Kd.V k96 96 _ w.heap.size _ _ ((rd_T70 t123 x19_1).f2) from Kd.V_mk ul127_2 ge127_2)
      clear hva_ hvn_ hvc_ ge127_2 ul127_2
      clear hcc127 hce127
      have HR127_2 := Aside0.mk hi127_2
      have HC127_2 := Aside0.mk hl127_2
      clear hi127_2 hl127_2
      replace p127 := eq_true p127
      replace q127 := eq_true q127
      go_wp2_with (first | ((with_reducible refine gate_dst (N := 14) rfl ?_); refine bx (N := 14) #[.int .i64 0, .string (⟨#[]⟩ : ByteArray), .slice none 0 0] 70 ?_; intro gb128 hg w40 hbox hb; replace HO_12 := cR HO_12 hb; replace HO_17 := Aside0.mk (Kd.N_below (Kd.N_elderB (by (with_reducible repeat (first | apply Kd.N_alloc | apply Kd.N_drewN | apply Kd.N_drew)); exact HO_17.out) gb128 (Nat.le_of_eq hg.symm)) hb); replace HL127_2 := Aside0.mk (Kd.V_below (Kd.V_elderB (uV HL127_2.out) gb128 (Nat.le_of_eq hg.symm)) hb); replace HR127_2 := cC HR127_2 hb; have BK128 := Aside0.mk (hbox); have GW128 := gw hg bl; have GE128 := GW128; replace HB := Aside0.mk (below_step bl hb); have NB122_128 := nl BK122 hg; have NB128_122 := nr BK122 hg; replace BK122 := cB BK122 hb; clear hb hbox hg; have hnb41 := NB128_122.out; have hnc41 := NB122_128.out; obtain ⟨hcz42_0, hcz42_1, hcz42_2, hfz42_0, hfz42_1, hfz42_2⟩ := z3 BK128) | (refine gL (some 25) rfl Try.func24 #[.slice A2 l2.length c2, .func (.func 25) #[] #[.pointer (some ⟨gb128, 0, none⟩)]] ?_; (with_reducible refine (api_Drop_over_25.calls _ _ l2 ((rd_T70 t123 x19_1).f0) false _ ?side1 ?side2 ?side3 A13.out).mono ?_); (case side1 => refine Eq.trans (blk_cell (g := gb128) (cs := #[.int .i64 ((rd_T70 t123 x19_1).f0), .string ((rd_T70 t123 x19_1).f1), .slice A127_2 ((rd_T70 t123 x19_1).f2).length c127_2]) (t := 70) ?_ 0) rfl; (with_reducible repeat (first | refine blk_drewN ?_ _ | refine blk_drew ?_ | refine blk_alloc ?_ _)); refine blk_put (cs := #[.int .i64 ((rd_T70 t123 x19_1).f0), .string ((rd_T70 t123 x19_1).f1), .slice none 0 0]) ?_ 2 _ rfl; (with_reducible repeat (first | refine blk_drewN ?_ _ | refine blk_drew ?_ | refine blk_alloc ?_ _)); refine blk_put (cs := #[.int .i64 ((rd_T70 t123 x19_1).f0), .string (⟨#[]⟩ : ByteArray), .slice none 0 0]) ?_ 1 _ rfl; (with_reducible repeat (first | refine blk_drewN ?_ _ | refine blk_drew ?_ | refine blk_alloc ?_ _)); refine blk_put (cs := #[.int .i64 0, .string (⟨#[]⟩ : ByteArray), .slice none 0 0]) ?_ 0 _ rfl; exact uB <| BK128.out); (case side2 => exact Kd.C_below HR2.out bl); (case side3 => exact HC2.out); rintro e w43 ⟨rfl, hb⟩; refine ⟨_, rfl, ?_⟩; replace HO_12 := fcR HO_12 BK128 hb; replace HO_17 := Aside0.mk (Kd.N_below (by (with_reducible repeat (first | apply Kd.N_alloc | apply Kd.N_drewN | apply Kd.N_drew)); exact (Kd.N_mono (Kd.N_far (p := ⟨gb128, 2, none⟩) (Kd.N_far (p := ⟨gb128, 1, none⟩) (Kd.N_far (p := ⟨gb128, 0, none⟩) (Kd.N_mono HO_17.out (fun k_ hk => (⟨hk, hk.2⟩ : _ ∧ k_ ≠ gb128))) (fun _ hk => hk.2) (.int .i64 ((rd_T70 t123 x19_1).f0))) (fun _ hk => hk.2) (.string ((rd_T70 t123 x19_1).f1))) (fun _ hk => hk.2) (.slice A127_2 ((rd_T70 t123 x19_1).f2).length c127_2)) (fun _ h_ => h_.1))) hb); replace BK122 := Aside0.mk (blk_below (g := gb122) (o := .cells #[.int .i64 a0_0, .int .i64 a0_1, .int .i64 a0_2, .int .i64 a0_3, .int .i64 a0_4] 23 (0, 0)) (fF BK122.out NB122_128) hb); replace HR127_2 := Aside0.mk (Kd.C_below ((Kd.V_reads' (by exact (Kd.V_mono (fV_ (Kd.V_mono HL127_2.out (fun k_ hk => (⟨hk, hk.2⟩ : _ ∧ k_ ≠ gb128))) fun _ h => h.2) (fun _ h_ => h_.1)))).2.2) hb); replace HL127_2 := Aside0.mk (Kd.V_below (by exact (Kd.V_mono (fV_ (Kd.V_mono HL127_2.out (fun k_ hk => (⟨hk, hk.2⟩ : _ ∧ k_ ≠ gb128))) fun _ h => h.2) (fun _ h_ => h_.1))) hb); replace BK128 := fcB BK128 hb; replace HB := Aside0.mk (below_step bl hb); (try clear hb); obtain ⟨hcz44_0, hcz44_1, hcz44_2, hfz44_0, hfz44_1, hfz44_2⟩ := z3 BK128; obtain ⟨hcz45_0, hcz45_1, hcz45_2, hcz45_3, hcz45_4, hfz45_0, hfz45_1, hfz45_2, hfz45_3, hfz45_4⟩ := z5 BK122) | (go_at_call 26; (with_reducible refine (win_Closed.calls ((rd_T70 t123 x19_1).f0) a0_2 a0_3 a1 false _ A19.out).mono ?_); rintro e w' ⟨rfl, ⟨nd, rfl⟩⟩))
      go_roundg k1
      case measure => have := HK1.out; omega
      case rel => exact ⟨(x12_1), (wrap64 (x19_1 + 1)), rs_, H', ⟨by have := HK1.out; omega⟩, ⟨uR HO_12.out⟩, ⟨by (with_reducible repeat (first | apply Kd.N_alloc | apply Kd.N_drewN | apply Kd.N_drew)); exact Kd.N_mono HO_17.out (fun _ hk => ⟨hk.1.1, hk.1.2⟩)⟩, ⟨uB BK122.out⟩, ⟨bl⟩⟩
   ·
    rw [if_neg c10] at H
    have c10b0 : decide (x19_1 < (t123.length : Int)) = false := decide_eq_false c10
    clear c10
    by_cases c46 : (x12_1.length : Int) = 0
    ·
     rw [if_pos c46] at H
     have c46b0 : ((x12_1.length : Int) == 0) = true := beq_iff_eq.mpr c46
     have c46b1 : ((x12_1.length : Int) != 0) = false := bne_eq_false_iff_eq.mpr c46
     clear c46
     simp only [Option.some.injEq, Prod.mk.injEq] at H
     obtain ⟨rfl, rfl⟩ := H
     obtain ⟨Ao47, co47, eo47⟩ := Kd.R_slice HO_12.out
     subst eo47
     go_wp2
     go_ret2
     exact ⟨re_, bl⟩
    ·
     rw [if_neg c46] at H
     have c46b0 : ((x12_1.length : Int) == 0) = false := beq_eq_false_iff_ne.mpr c46
     have c46b1 : ((x12_1.length : Int) != 0) = true := bne_iff_ne.mpr c46
     have c46b2 : ¬ (x12_1 = []) := fun h_ => c46 (by rw [h_]; rfl)
     obtain ⟨t126, A48, H⟩ := bs H
     try dsimp only at H
     simp only [Option.some.injEq, Prod.mk.injEq] at H
     obtain ⟨rfl, rfl⟩ := H
     obtain ⟨Ao49, co49, eo49⟩ := Kd.R_slice HO_12.out
     subst eo49
     go_wp2_with (first | (refine gL (some 55) rfl Try.func28 #[.slice Ao49 x12_1.length co49] ?_; (with_reducible refine (slices_Min_int64_int64.calls k1 _ _ x12_1 t126 _ ?side1 ?side2 A48.out).mono ?_); (case side1 => exact uC <| (Kd.R_reads' HO_12.out).2.2); (case side2 => exact (Kd.R_reads' HO_12.out).2.1); rintro e w50 ⟨rfl, hb⟩; refine ⟨_, rfl, ?_⟩; replace HO_12 := cR HO_12 hb; replace HO_17 := Aside0.mk (Kd.N_below (by (with_reducible repeat (first | apply Kd.N_alloc | apply Kd.N_drewN | apply Kd.N_drew)); exact HO_17.out) hb); replace BK122 := cB BK122 hb; replace HB := Aside0.mk (below_step bl hb); (try clear hb)))
     go_ret2
     exact ⟨re_, bl⟩
def chain_newest.l0 : Nat → List (S96) → Int → Int → Option (Int)
 | 0, _, _, _ => none
 | k + 1, x0, x1, x5 => if x5 ≥ 0 then (if 0 ≤ x5 then (if x5 < (x0.length : Int) then (if ((rd_T96 x0 x5).f0) ≤ x1 then (some x5) else (chain_newest.l0 k x0 x1 (wrap64 (x5 - 1)))) else (none)) else (none)) else (some (-1))
def chain_newest.f (k : Nat) (l0 : List (S96)) (a1 : Int) : Option (Int) := chain_newest.l0 k l0 a1 (wrap64 ((l0.length : Int) - 1))
theorem chain_newest.mono_l : ∀ k, (∀ y0 y1 y2, LeC (chain_newest.l0 k y0 y1 y2) (chain_newest.l0 (k + 1) y0 y1 y2))
 | 0 => fun _ _ _ => ⟨fun r h => by simp [chain_newest.l0] at h⟩
 | k + 1 => by have ih0 := chain_newest.mono_l k; exact fun _ _ _ => by unfold chain_newest.l0; exact lm
theorem chain_newest.mono : ∀ a0 a1 k, LeO (chain_newest.f k a0 a1) (chain_newest.f (k + 1) a0 a1) := by
 intro a0 a1 k
 have ih0 := chain_newest.mono_l k
 unfold chain_newest.f
 exact lo
instance chain_newest.mI {a0 a1 k} : LeC (chain_newest.f k a0 a1) (chain_newest.f (k + 1) a0 a1) := ⟨chain_newest.mono _ _ _⟩
theorem chain_newest.calls (k : Nat) (A0 : Option Addr) (c0 : Nat) (l0 : List (S96)) (a1 : Int) (r : Int) (w : World) (hr0 : Kd.C k96 w A0 l0.length l0) (hc0 : l0.length ≤ c0) (h : chain_newest.f k l0 a1 = some r) :
 Calls Try.prog 51 #[.slice A0 l0.length c0, .int .i64 a1] w fun e w' => e = .returned (.int .i64 r) ∧ Drawn0 w w' := by
 have HR0 := Aside0.mk hr0
 have HC0 := Aside0.mk hc0
 clear hr0 hc0
 have H : (chain_newest.l0 k l0 a1 (wrap64 ((l0.length : Int) - 1))) = some r := h
 clear h
 have H' := Aside0.mk H
 clear H
 go_enter Try.func51, Try.ntmps51
 go_wp2
 go_loopg [5] k (fun kq v5 w' => ∃ (x5_1 : Int), v5 = .int .i64 x5_1 ∧ Aside0 (chain_newest.l0 kq l0 a1 x5_1 = some r) ∧ Aside0 (kq ≤ k) ∧ Drawn0 w w')
 case atStart => exact ⟨(wrap64 ((l0.length : Int) - 1)), rs_, H', ⟨Nat.le_refl _⟩, dr_⟩
 case round =>
  clear H'
  obtain ⟨x5_1, rfl, HA, HK1, ⟨m1, rfl⟩⟩ := hrel
  cases gk with
  | zero => exact absurd HA.out (by simp [chain_newest.l0])
  | succ k1 =>
   have H := HA.out
   clear HA
   simp only [chain_newest.l0] at H
   by_cases c3 : x5_1 ≥ 0
   ·
    rw [if_pos c3] at H
    have c3b0 : decide (0 ≤ x5_1) = true := decide_eq_true c3
    clear c3
    obtain ⟨c4b0, H⟩ := gdd H
    obtain ⟨c5b0, H⟩ := gdd H
    by_cases c6 : ((rd_T96 l0 x5_1).f0) ≤ a1
    ·
     rw [if_pos c6] at H
     have c6b0 : decide (((rd_T96 l0 x5_1).f0) ≤ a1) = true := decide_eq_true c6
     clear c6
     obtain rfl := Option.some.inj H
     have p135 : 0 ≤ (x5_1 : Int) := od
     have q135 : x5_1 < (l0.length : Int) := od
     obtain ⟨ad135, e135, hx135_0, hx135_1, hx135_2, hx135_3, hx135_4, hx135_5⟩ := at_T96 HR0.out x5_1 p135 q135
     cases e135
     replace p135 := eq_true p135
     replace q135 := eq_true q135
     go_wp2
     go_ret
     exact ⟨rs_, dr_⟩
    ·
     rw [if_neg c6] at H
     have c6b0 : decide (((rd_T96 l0 x5_1).f0) ≤ a1) = false := decide_eq_false c6
     clear c6
     have H' := Aside0.mk H
     clear H
     have p135 : 0 ≤ (x5_1 : Int) := od
     have q135 : x5_1 < (l0.length : Int) := od
     obtain ⟨ad135, e135, hx135_0, hx135_1, hx135_2, hx135_3, hx135_4, hx135_5⟩ := at_T96 HR0.out x5_1 p135 q135
     cases e135
     replace p135 := eq_true p135
     replace q135 := eq_true q135
     go_wp2
     go_roundg k1
     case measure => have := HK1.out; omega
     case rel => exact ⟨(wrap64 (x5_1 - 1)), rs_, H', ⟨by have := HK1.out; omega⟩, dr_⟩
   ·
    rw [if_neg c3] at H
    have c3b0 : decide (0 ≤ x5_1) = false := decide_eq_false c3
    clear c3
    obtain rfl := Option.some.inj H
    go_wp2
    go_ret
    exact ⟨rs_, dr_⟩
def chain_At.f (k : Nat) (l0 : List (S96)) (a1 : Int) : Option (Int × Int × Bool × Int × Int) := (chain_newest.f k l0 a1).bind fun t137 => (if t137 ≥ 0 then (if 0 ≤ t137 then (if t137 < (l0.length : Int) then (some ((rd_T96 l0 t137).f1.f0, (rd_T96 l0 t137).f1.f1.f0, (rd_T96 l0 t137).f1.f1.f1, (rd_T96 l0 t137).f1.f2, (rd_T96 l0 t137).f1.f3)) else (none)) else (none)) else (some (0, 0, false, 0, 0)))
theorem chain_At.mono : ∀ a0 a1 k, LeO (chain_At.f k a0 a1) (chain_At.f (k + 1) a0 a1) := by
 intro a0 a1 k
 unfold chain_At.f
 exact lo
instance chain_At.mI {a0 a1 k} : LeC (chain_At.f k a0 a1) (chain_At.f (k + 1) a0 a1) := ⟨chain_At.mono _ _ _⟩
theorem chain_At.calls (k : Nat) (A0 : Option Addr) (c0 : Nat) (l0 : List (S96)) (a1 : Int) (r1 : Int) (r2 : Int) (r3 : Bool) (r4 : Int) (r5 : Int) (w : World) (hr0 : Kd.C k96 w A0 l0.length l0) (hc0 : l0.length ≤ c0) (h : chain_At.f k l0 a1 = some (r1, r2, r3, r4, r5)) :
 Calls Try.prog 31 #[.slice A0 l0.length c0, .int .i64 a1] w fun e w' => e = .returned (.agg #[.int .i64 r1, .int .i64 r2, .bool r3, .int .i64 r4, .int .i64 r5]) ∧ Below w.heap.size w w' := by
 have hu54 := Try.underlying54
 have HR0 := Aside0.mk hr0
 have HC0 := Aside0.mk hc0
 clear hr0 hc0
 have HB := Aside0.mk (Below.refl w.heap.size w)
 have H : ((chain_newest.f k l0 a1).bind fun t137 => (if t137 ≥ 0 then (if 0 ≤ t137 then (if t137 < (l0.length : Int) then (some ((rd_T96 l0 t137).f1.f0, (rd_T96 l0 t137).f1.f1.f0, (rd_T96 l0 t137).f1.f1.f1, (rd_T96 l0 t137).f1.f2, (rd_T96 l0 t137).f1.f3)) else (none)) else (none)) else (some (0, 0, false, 0, 0)))) = some (r1, r2, r3, r4, r5) := h
 clear h
 obtain ⟨t137, A3, H⟩ := bs H
 try dsimp only at H
 by_cases c4 : t137 ≥ 0
 ·
  rw [if_pos c4] at H
  have c4b0 : decide (0 ≤ t137) = true := decide_eq_true c4
  clear c4
  obtain ⟨c5b0, H⟩ := gdd H
  obtain ⟨c6b0, H⟩ := gdd H
  simp only [Option.some.injEq, Prod.mk.injEq] at H
  obtain ⟨rfl, rfl, rfl, rfl, rfl⟩ := H
  go_enter Try.func31, Try.ntmps31
  go_wp2_with (first | ((with_reducible refine gate_dst (N := 4) rfl ?_); refine bx (N := 4) #[.int .i64 0, .int .i64 0, .bool false, .int .i64 0, .int .i64 0] 54 ?_; intro gb136 hg w7 hbox hb; have BK136 := Aside0.mk (hbox); have GW136 := gw hg (uW HB.out); have GE136 := GW136; replace HB := cW HB hb; clear hb hbox hg) | (refine gL (some 8) rfl Try.func51 #[.slice A0 l0.length c0, .int .i64 a1] ?_; (with_reducible refine (chain_newest.calls k _ _ l0 a1 t137 _ ?side1 ?side2 A3.out).mono ?_); (case side1 => exact uC <| (Kd.C_below HR0.out HB.out)); (case side2 => exact HC0.out); rintro e w' ⟨rfl, ⟨nd, rfl⟩⟩; refine ⟨_, rfl, ?_⟩; (try (rw [drewN_self w7]; generalize hq_ : World.drewN w7 _ = w7; have n0_ : Aside0 (w7.heap[gb136]? = some (.cells #[.int .i64 0, .int .i64 0, .bool false, .int .i64 0, .int .i64 0] 54 (0, 0))) := ⟨by rw [← hq_]; exact (uB BK136.out)⟩; have n1_ : Aside0 (Below w.heap.size w w7) := ⟨by rw [← hq_]; exact bl⟩; clear BK136 HB hq_; have BK136 := n0_; have HB := n1_; clear n0_ n1_)); have p138 : 0 ≤ (t137 : Int) := od; have q138 : t137 < (l0.length : Int) := od; obtain ⟨ad138, e138, hx138_0, hx138_1, hx138_2, hx138_3, hx138_4, hx138_5⟩ := at_T96 HR0.out t137 p138 q138; cases e138; replace hx138_0 := kc HB hx138_0; replace hx138_1 := kc HB hx138_1; replace hx138_2 := kc HB hx138_2; replace hx138_3 := kc HB hx138_3; replace hx138_4 := kc HB hx138_4; replace hx138_5 := kc HB hx138_5; replace p138 := eq_true p138; replace q138 := eq_true q138; obtain ⟨hcz8_0, hcz8_1, hcz8_2, hcz8_3, hcz8_4, hfz8_0, hfz8_1, hfz8_2, hfz8_3, hfz8_4⟩ := z5 BK136) | ((with_reducible refine gate_store (t := 54) (p := 4) rfl ?_); refine store_event (t := 54) (p := 4) (v := ?vo_w9) (w1 := (((((w7.setCell ⟨gb136, 0, none⟩ (.int .i64 ((rd_T96 l0 t137).f1.f0))).setCell ⟨gb136, 1, none⟩ (.int .i64 ((rd_T96 l0 t137).f1.f1.f0))).setCell ⟨gb136, 2, none⟩ (.bool ((rd_T96 l0 t137).f1.f1.f1))).setCell ⟨gb136, 3, none⟩ (.int .i64 ((rd_T96 l0 t137).f1.f2))).setCell ⟨gb136, 4, none⟩ (.int .i64 ((rd_T96 l0 t137).f1.f3)))) ?hg ?ho ?hn ?hr ?_; (case ho => rfl); (case hg => rfl); (case hn => rfl); (case hr => first | (go_simp; done) | (go_simp; rfl)); intro w9 hw; replace HB : Aside0 (Below w.heap.size w w9) := fgW hw bl; replace BK136 := fgB hw BK136; clear hw))
  refine bodyPost_ret (results_cell_row rfl _ _ gb136 54 #[.int .i64 ((rd_T96 l0 t137).f1.f0), .int .i64 ((rd_T96 l0 t137).f1.f1.f0), .bool ((rd_T96 l0 t137).f1.f1.f1), .int .i64 ((rd_T96 l0 t137).f1.f2), .int .i64 ((rd_T96 l0 t137).f1.f3)] (0, 0) _ rfl (uB BK136.out) Try.underlying54 rfl (by kernel_rfl)) rfl ?_
  exact ⟨re_, bl⟩
 ·
  rw [if_neg c4] at H
  have c4b0 : decide (0 ≤ t137) = false := decide_eq_false c4
  clear c4
  simp only [Option.some.injEq, Prod.mk.injEq] at H
  obtain ⟨rfl, rfl, rfl, rfl, rfl⟩ := H
  go_enter Try.func31, Try.ntmps31
  go_wp2_with (first | ((with_reducible refine gate_dst (N := 4) rfl ?_); refine bx (N := 4) #[.int .i64 0, .int .i64 0, .bool false, .int .i64 0, .int .i64 0] 54 ?_; intro gb136 hg w10 hbox hb; have BK136 := Aside0.mk (hbox); have GW136 := gw hg (uW HB.out); have GE136 := GW136; replace HB := cW HB hb; clear hb hbox hg) | (refine gL (some 8) rfl Try.func51 #[.slice A0 l0.length c0, .int .i64 a1] ?_; (with_reducible refine (chain_newest.calls k _ _ l0 a1 t137 _ ?side1 ?side2 A3.out).mono ?_); (case side1 => exact uC <| (Kd.C_below HR0.out HB.out)); (case side2 => exact HC0.out); rintro e w' ⟨rfl, ⟨nd, rfl⟩⟩; refine ⟨_, rfl, ?_⟩; (try (rw [drewN_self w10]; generalize hq_ : World.drewN w10 _ = w10; have n0_ : Aside0 (w10.heap[gb136]? = some (.cells #[.int .i64 0, .int .i64 0, .bool false, .int .i64 0, .int .i64 0] 54 (0, 0))) := ⟨by rw [← hq_]; exact (uB BK136.out)⟩; have n1_ : Aside0 (Below w.heap.size w w10) := ⟨by rw [← hq_]; exact bl⟩; clear BK136 HB hq_; have BK136 := n0_; have HB := n1_; clear n0_ n1_)); obtain ⟨hcz11_0, hcz11_1, hcz11_2, hcz11_3, hcz11_4, hfz11_0, hfz11_1, hfz11_2, hfz11_3, hfz11_4⟩ := z5 BK136) | ((with_reducible refine gate_store (t := 54) (p := 4) rfl ?_); refine store_event (t := 54) (p := 4) (v := ?vo_w12) (w1 := (((((w10.setCell ⟨gb136, 0, none⟩ (.int .i64 0)).setCell ⟨gb136, 1, none⟩ (.int .i64 0)).setCell ⟨gb136, 2, none⟩ (.bool false)).setCell ⟨gb136, 3, none⟩ (.int .i64 0)).setCell ⟨gb136, 4, none⟩ (.int .i64 0))) ?hg ?ho ?hn ?hr ?_; (case ho => rfl); (case hg => rfl); (case hn => rfl); (case hr => first | (go_simp; done) | (go_simp; rfl)); intro w12 hw; replace HB : Aside0 (Below w.heap.size w w12) := fgW hw bl; replace BK136 := fgB hw BK136; clear hw))
  refine bodyPost_ret (results_cell_row rfl _ _ gb136 54 #[.int .i64 0, .int .i64 0, .bool false, .int .i64 0, .int .i64 0] (0, 0) _ rfl (uB BK136.out) Try.underlying54 rfl (by kernel_rfl)) rfl ?_
  exact ⟨re_, bl⟩
def cell_Empty.f (a0_0 : Int) (a0_1 : Int) (a0_2 : Bool) (a0_3 : Int) (a0_4 : Int) : Option (Bool) := some (decide (a0_0 < 1))
theorem cell_Empty.calls (a0_0 : Int) (a0_1 : Int) (a0_2 : Bool) (a0_3 : Int) (a0_4 : Int) (r : Bool) (w : World) (h : cell_Empty.f a0_0 a0_1 a0_2 a0_3 a0_4 = some r) :
 Calls Try.prog 32 #[.agg #[.int .i64 a0_0, .int .i64 a0_1, .bool a0_2, .int .i64 a0_3, .int .i64 a0_4]] w fun e w' => e = .returned (.bool r) ∧ Below w.heap.size w w' := by
 have hu54 := Try.underlying54
 have HB := Aside0.mk (Below.refl w.heap.size w)
 have H : (some (decide (a0_0 < 1))) = some r := h
 clear h
 obtain rfl := Option.some.inj H
 go_enter Try.func32, Try.ntmps32
 go_wp2_with (first | ((with_reducible refine gate_dst (N := 1) rfl ?_); refine bx (N := 1) #[.int .i64 a0_0, .int .i64 a0_1, .bool a0_2, .int .i64 a0_3, .int .i64 a0_4] 54 ?_; intro gb139 hg w2 hbox hb; have BK139 := Aside0.mk (hbox); have GW139 := gw hg (uW HB.out); have GE139 := GW139; replace HB := cW HB hb; clear hb hbox hg; obtain ⟨hcz3_0, hcz3_1, hcz3_2, hcz3_3, hcz3_4, hfz3_0, hfz3_1, hfz3_2, hfz3_3, hfz3_4⟩ := z5 BK139))
 go_ret
 exact ⟨re_, bl⟩
def strings_Compare.f (a0 : ByteArray) (a1 : ByteArray) : Option (Int) := some (Lib.compareBytes a0.data.toList a1.data.toList)
theorem strings_Compare.calls (a0 : ByteArray) (a1 : ByteArray) (r : Int) (w : World) (h : strings_Compare.f a0 a1 = some r) :
 Calls Try.prog 35 #[.string a0, .string a1] w fun e w' => e = .returned (.int .i64 r) ∧ Drawn0 w w' := by
 obtain rfl := Option.some.inj h
 exact (Try.strings_Compare a0 a1 w).mono fun e w' hh => ⟨hh.1, hh.2 ▸ Drawn0.refl _⟩
def emit_Take_1.f (a0_0 : Int) (a0_1 : ByteArray) (a0_2 : Int) (a0_3 : Int) (a0_4 : Bool) (a0_5 : Int) (a0_6 : Int) (a1_0 : Int) (a1_1 : ByteArray) (a1_2 : Int) (a1_3 : Int) (a1_4 : Bool) (a1_5 : Int) (a1_6 : Int) : Option (Int) := (strings_Compare.f a0_1 a1_1).bind fun t142 => (some t142)
theorem emit_Take_1.calls (a0_0 : Int) (a0_1 : ByteArray) (a0_2 : Int) (a0_3 : Int) (a0_4 : Bool) (a0_5 : Int) (a0_6 : Int) (a1_0 : Int) (a1_1 : ByteArray) (a1_2 : Int) (a1_3 : Int) (a1_4 : Bool) (a1_5 : Int) (a1_6 : Int) (r : Int) (w : World) (h : emit_Take_1.f a0_0 a0_1 a0_2 a0_3 a0_4 a0_5 a0_6 a1_0 a1_1 a1_2 a1_3 a1_4 a1_5 a1_6 = some r) :
 Calls Try.prog 34 #[.agg #[.int .i64 a0_0, .string a0_1, .int .i64 a0_2, .int .i64 a0_3, .bool a0_4, .int .i64 a0_5, .int .i64 a0_6], .agg #[.int .i64 a1_0, .string a1_1, .int .i64 a1_2, .int .i64 a1_3, .bool a1_4, .int .i64 a1_5, .int .i64 a1_6]] w fun e w' => e = .returned (.int .i64 r) ∧ Below w.heap.size w w' := by
 have hu56 := Try.underlying56
 have HB := Aside0.mk (Below.refl w.heap.size w)
 have H : ((strings_Compare.f a0_1 a1_1).bind fun t142 => (some t142)) = some r := h
 clear h
 obtain ⟨t142, A3, H⟩ := bs H
 try dsimp only at H
 obtain rfl := Option.some.inj H
 go_enter Try.func34, Try.ntmps34
 go_wp2_with (first | ((with_reducible refine gate_dst (N := 2) rfl ?_); refine bx (N := 2) #[.int .i64 a0_0, .string a0_1, .int .i64 a0_2, .int .i64 a0_3, .bool a0_4, .int .i64 a0_5, .int .i64 a0_6] 56 ?_; intro gb140 hg w4 hbox hb; have BK140 := Aside0.mk (hbox); have GW140 := gw hg (uW HB.out); have GE140 := GW140; replace HB := cW HB hb; clear hb hbox hg) | ((with_reducible refine gate_dst (N := 3) rfl ?_); refine bx (N := 3) #[.int .i64 a1_0, .string a1_1, .int .i64 a1_2, .int .i64 a1_3, .bool a1_4, .int .i64 a1_5, .int .i64 a1_6] 56 ?_; intro gb141 hg w5 hbox hb; have BK141 := Aside0.mk (hbox); have GW141 := gw hg bl; have GE141 := GW141; replace HB := Aside0.mk (below_step bl hb); have NB140_141 := nl BK140 hg; have NB141_140 := nr BK140 hg; replace BK140 := cB BK140 hb; clear hb hbox hg; have hnb6 := NB140_141.out; have hnc6 := NB141_140.out; obtain ⟨hcz7_0, hcz7_1, hcz7_2, hcz7_3, hcz7_4, hcz7_5, hcz7_6, hfz7_0, hfz7_1, hfz7_2, hfz7_3, hfz7_4, hfz7_5, hfz7_6⟩ := z7 BK140; obtain ⟨hcz8_0, hcz8_1, hcz8_2, hcz8_3, hcz8_4, hcz8_5, hcz8_6, hfz8_0, hfz8_1, hfz8_2, hfz8_3, hfz8_4, hfz8_5, hfz8_6⟩ := z7 BK141) | (refine gL (some 9) rfl Try.func35 #[.string a0_1, .string a1_1] ?_; (with_reducible refine (strings_Compare.calls a0_1 a1_1 t142 _ A3.out).mono ?_); rintro e w' ⟨rfl, ⟨nd, rfl⟩⟩; refine ⟨_, rfl, ?_⟩))
 go_ret
 exact ⟨re_, bl⟩
theorem api_Item_with_34_59.goesV_ {P : Program} {ops : Array Oper} {Q : Exit → Act → World → Prop} {oi : Oper} {N : Option Tmp} {a : Act} {w : World} {K : Act → World → Prop} {f : FuncId} {fn : Func} {cal : Operand} {as_ : Array Operand} {ts : Array TypeId} (hf : P.funcs[f]? = some fn) (hname : (fn.name == "runtime.NumGoroutine") = false) (hb : fn.body.isSome = true) (args : Array Value)
 (hw : Region.wanted oi (yielded ops a.tmps) = true) (hN : oi.dst = N) (hop : oi.op = .call { callee := .value cal, args := as_, argTypes := ts }) (hev : a.eval cal = .func (.func f) #[] #[]) (hargs : as_.map a.eval = args)
 (h : Calls P f args w fun e w' => ∃ v, e = .returned v ∧ K (a.put N v) w') : if Region.wanted oi (yielded ops a.tmps) = true then Oper.wp P oi a w K Q else K (a.put N undef) w := by
 refine call_ f args hw hN ?_ h
 have he := enters_ hf hname hb args w
 unfold execOp
 simp [hop, resolve, Deferred.ofValue, invoke, hev, hargs, he]
theorem api_Item_with_34_59.goesVL_ {P : Program} {ops : Array Oper} {Q : Exit → Act → World → Prop} {rest : List Oper} {oi : Oper} {a : Act} {w : World} (N : Option Tmp) (hd : oi.dst = N) (hg : oi.guard = none) {f : FuncId} {fn : Func} {cal : Operand} {as_ : Array Operand} {ts : Array TypeId} (hf : P.funcs[f]? = some fn) (hname : (fn.name == "runtime.NumGoroutine") = false) (hb : fn.body.isSome = true) (args : Array Value)
 (hop : oi.op = .call { callee := .value cal, args := as_, argTypes := ts }) (hev : a.eval cal = .func (.func f) #[] #[]) (hargs : as_.map a.eval = args)
 (h : Calls P f args w fun e w' => ∃ v, e = .returned v ∧ wpList P ops Q rest (a.put N v) w') : wpList P ops Q (oi :: rest) a w := by
 refine wpList_plain hg fun K hK => ?_
 have he := enters_ hf hname hb args w
 have hrun : (execOp a.eval oi).run P w = .ok (.enter f args) w := by
  unfold execOp
  simp [hop, resolve, Deferred.ofValue, invoke, hev, hargs, he]
 unfold Oper.wp
 rw [hrun, Oper.upon_enter]
 refine h.mono fun e w'' hh => ?_
 obtain ⟨v, rfl, hk⟩ := hh
 subst hd
 exact hK _ _ hk

theorem api_Item_with_34_60.goesV_ {P : Program} {ops : Array Oper} {Q : Exit → Act → World → Prop} {oi : Oper} {N : Option Tmp} {a : Act} {w : World} {K : Act → World → Prop} {f : FuncId} {fn : Func} {cal : Operand} {as_ : Array Operand} {ts : Array TypeId} (hf : P.funcs[f]? = some fn) (hname : (fn.name == "runtime.NumGoroutine") = false) (hb : fn.body.isSome = true) (args : Array Value)
 (hw : Region.wanted oi (yielded ops a.tmps) = true) (hN : oi.dst = N) (hop : oi.op = .call { callee := .value cal, args := as_, argTypes := ts }) (hev : a.eval cal = .func (.func f) #[] #[]) (hargs : as_.map a.eval = args)
 (h : Calls P f args w fun e w' => ∃ v, e = .returned v ∧ K (a.put N v) w') : if Region.wanted oi (yielded ops a.tmps) = true then Oper.wp P oi a w K Q else K (a.put N undef) w := by
 refine call_ f args hw hN ?_ h
 have he := enters_ hf hname hb args w
 unfold execOp
 simp [hop, resolve, Deferred.ofValue, invoke, hev, hargs, he]
theorem api_Item_with_34_60.goesVL_ {P : Program} {ops : Array Oper} {Q : Exit → Act → World → Prop} {rest : List Oper} {oi : Oper} {a : Act} {w : World} (N : Option Tmp) (hd : oi.dst = N) (hg : oi.guard = none) {f : FuncId} {fn : Func} {cal : Operand} {as_ : Array Operand} {ts : Array TypeId} (hf : P.funcs[f]? = some fn) (hname : (fn.name == "runtime.NumGoroutine") = false) (hb : fn.body.isSome = true) (args : Array Value)
 (hop : oi.op = .call { callee := .value cal, args := as_, argTypes := ts }) (hev : a.eval cal = .func (.func f) #[] #[]) (hargs : as_.map a.eval = args)
 (h : Calls P f args w fun e w' => ∃ v, e = .returned v ∧ wpList P ops Q rest (a.put N v) w') : wpList P ops Q (oi :: rest) a w := by
 refine wpList_plain hg fun K hK => ?_
 have he := enters_ hf hname hb args w
 have hrun : (execOp a.eval oi).run P w = .ok (.enter f args) w := by
  unfold execOp
  simp [hop, resolve, Deferred.ofValue, invoke, hev, hargs, he]
 unfold Oper.wp
 rw [hrun, Oper.upon_enter]
 refine h.mono fun e w'' hh => ?_
 obtain ⟨v, rfl, hk⟩ := hh
 subst hd
 exact hK _ _ hk
end Go.Proofs.Ytklhjponikgkkaa.X
