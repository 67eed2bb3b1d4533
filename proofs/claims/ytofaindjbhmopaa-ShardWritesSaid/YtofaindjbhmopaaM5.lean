/- Printed by a program of this session's own: what functions of the program compute, and that the machine computes it. No condition of its own. -/
import Derived.Test.YtofaindjbhmopaaM3
import Derived.Test.YtofaindjbhmopaaM4
namespace Go.Proofs.Ytofaindjbhmopaa.X
open Go.RowKit Go.Proofs.YtofaindjbhmopaaW.PrintWords Go.Proofs.YtofaindjbhmopaaW.PrintLast Go.Proofs.YtofaindjbhmopaaW.PrintMore
attribute [local go_sem] max2_int min2_int max_two min_two max_three min_three max_four min_four
set_option linter.unusedVariables false
set_option linter.unusedSimpArgs false
set_option maxHeartbeats 8000000
set_option maxRecDepth 100000
def api_Version_66.f (a0 : Int) : Option ((List (S82))) := if 0 ≤ a0 then (if a0.toNat * 48 ≤ 140737488355328 then (some []) else (none)) else (none)
theorem api_Version_66.calls (a0 : Int) (r : List (S82)) (w : World) (h : api_Version_66.f a0 = some r) :
 Calls Try.prog 66 #[(.slice none 0 0), .int .i64 a0] w fun e w' => ∃ v0_ : Value, e = .returned (v0_) ∧ Kd.R k82 82 w' w.heap.size (fun _ => True) v0_ r ∧ Below w.heap.size w w' := by
 unfold api_Version_66.f at h
 by_cases h0 : 0 ≤ a0
 ·
  rw [if_pos h0] at h
  by_cases hl : a0.toNat * 48 ≤ 140737488355328
  ·
   rw [if_pos hl] at h
   obtain rfl := Option.some.inj h
   have HL := Aside0.mk hl
   clear h hl
   have hw0 : wrap64 a0 = a0 := by unfold wrap64; have := HL.out; omega
   have HZ := Aside0.mk h0
   clear h0
   by_cases hz : 0 < a0
   ·
    have hz1 : decide (a0 < 0) = false := decide_eq_false (by omega)
    have hz2 : decide (0 < a0) = true := decide_eq_true hz
    clear hz
    go_enter Try.func66, Try.ntmps66
    go_wp2_with (at_builtin; refine Kd.R_append_zeros k82 (w0 := w) w.heap.size rfl (.tmp 20) (.tmp 21) 57 3 82 (.agg #[(.int .i64 0), (.int .i64 0), (.int .i64 0), (.bool false), (.int .i64 0), (.int .i64 0)]) 48 rfl Try.underlying57 Try.underlying3 info82 rfl (by decide) (by decide) (.slice none 0 0) [] z82 _ (fun _ => True) rfl rfl (k82_mkM _ _ _ z82 ) (fun _ _ => trivial) (Kd.R_nil _ _ _ _ _) ?aZ (Below.refl _ _) (Nat.le_refl _) ?aL ?_; (case aZ => first | exact HZ.out | (rw [hw0]; exact HZ.out)); (case aL => have := HL.out; simp only [List.length_nil, Nat.zero_add]; first | exact this | (rw [hw0]; exact this)); intro v1 w1 ho hb hg hat; clear hg hat; obtain ⟨Ao1, co1, eo1⟩ := Kd.R_slice ho; subst eo1; have HO1 := Aside0.mk ho; have HB1 := Aside0.mk hb; clear ho hb)
    go_ret
    exact ⟨_, rfl, Kd.R_take HO1.out (Nat.zero_le _), HB1.out⟩
   ·
    have e : a0 = 0 := by have := HZ.out; omega
    subst e
    clear hz
    go_enter Try.func66, Try.ntmps66
    go_wp2
    go_ret
    exact ⟨_, rfl, Kd.R_nil _ _ _ _ _, Below.refl _ _⟩
  ·
   rw [if_neg hl] at h
   exact absurd h (by simp)
 ·
  rw [if_neg h0] at h
  exact absurd h (by simp)
mutual
def api_Version_60.l0 : Nat → List (List (S82)) → Int → List (List (S82)) → Int → Int → Option ((List (S82)))
 | 0, _, _, _, _, _ => none
 | k + 1, x0, x3, x9, x10, x11 => if x11 < x10 then (if 0 ≤ x11 then (if x11 < (x9.length : Int) then (if (wrap64 (x3 + ((rd_L6 x9 x11).length : Int))) < 0 then (none) else (api_Version_60.l0 k x0 (wrap64 (x3 + ((rd_L6 x9 x11).length : Int))) x9 x10 (wrap64 (x11 + 1)))) else (none)) else (none)) else ((api_Version_66.f x3).bind fun t121 => (api_Version_60.l1 k t121 x0 (x0.length : Int) 0))
def api_Version_60.l1 : Nat → List (S82) → List (List (S82)) → Int → Int → Option ((List (S82)))
 | 0, _, _, _, _ => none
 | k + 1, x6, x25, x26, x27 => if x27 < x26 then (if 0 ≤ x27 then (if x27 < (x25.length : Int) then (if x6.length + (rd_L6 x25 x27).length < 2932031007402 then (api_Version_60.l1 k (x6 ++ (rd_L6 x25 x27)) x25 x26 (wrap64 (x27 + 1))) else (none)) else (none)) else (none)) else (some x6)
end
def api_Version_60.f (k : Nat) (l0 : List (List (S82))) : Option ((List (S82))) := api_Version_60.l0 k l0 0 l0 (l0.length : Int) 0
theorem api_Version_60.mono_l : ∀ k, (∀ y0 y1 y2 y3 y4, LeC (api_Version_60.l0 k y0 y1 y2 y3 y4) (api_Version_60.l0 (k + 1) y0 y1 y2 y3 y4)) ∧ (∀ y0 y1 y2 y3, LeC (api_Version_60.l1 k y0 y1 y2 y3) (api_Version_60.l1 (k + 1) y0 y1 y2 y3))
 | 0 => ⟨fun _ _ _ _ _ => ⟨fun r h => by simp [api_Version_60.l0] at h⟩, fun _ _ _ _ => ⟨fun r h => by simp [api_Version_60.l1] at h⟩⟩
 | k + 1 => by obtain ⟨ih0, ih1⟩ := api_Version_60.mono_l k; exact ⟨fun _ _ _ _ _ => by unfold api_Version_60.l0; exact lm, fun _ _ _ _ => by unfold api_Version_60.l1; exact lm⟩
theorem api_Version_60.mono : ∀ a0 k, LeO (api_Version_60.f k a0) (api_Version_60.f (k + 1) a0) := by
 intro a0 k
 obtain ⟨ih0, ih1⟩ := api_Version_60.mono_l k
 unfold api_Version_60.f
 exact lo
instance api_Version_60.mI {a0 k} : LeC (api_Version_60.f k a0) (api_Version_60.f (k + 1) a0) := ⟨api_Version_60.mono _ _⟩
theorem api_Version_60.calls (k : Nat) (A0 : Option Addr) (c0 : Nat) (l0 : List (List (S82))) (r : List (S82)) (w : World) (hr0 : Kd.C (Kd.slice 82 k82) w A0 l0.length l0) (hc0 : l0.length ≤ c0) (h : api_Version_60.f k l0 = some r) :
 Calls Try.prog 60 #[.slice A0 l0.length c0] w fun e w' => ∃ v0_ : Value, e = .returned (v0_) ∧ Kd.R k82 82 w' w.heap.size (fun _ => True) v0_ r ∧ Below w.heap.size w w' := by
 have HR0 := Aside0.mk hr0
 have HC0 := Aside0.mk hc0
 clear hr0 hc0
 have HB := Aside0.mk (Below.refl w.heap.size w)
 have H : (api_Version_60.l0 k l0 0 l0 (l0.length : Int) 0) = some r := h
 clear h
 have H' := Aside0.mk H
 clear H
 go_enter Try.func60, Try.ntmps60
 go_wp2
 go_loopg [3, 11] k (fun kq v3 v11 w' => ∃ (x3_1 : Int) (x11_1 : Int), v3 = .int .i64 x3_1 ∧ v11 = .int .i64 x11_1 ∧ Aside0 (api_Version_60.l0 kq l0 x3_1 l0 (l0.length : Int) x11_1 = some r) ∧ Aside0 (kq ≤ k) ∧ Aside0 (Below w.heap.size w w'))
 case atStart => exact ⟨(0), (0), rs_, rs_, H', ⟨Nat.le_refl _⟩, ⟨uW HB.out⟩⟩
 case round =>
  clear H'
  obtain ⟨x3_1, x11_1, rfl, rfl, HA, HK1, HB⟩ := hrel
  cases gk with
  | zero => exact absurd HA.out (by simp [api_Version_60.l0])
  | succ k1 =>
   have H := HA.out
   clear HA
   simp only [api_Version_60.l0] at H
   by_cases c2 : x11_1 < (l0.length : Int)
   ·
    rw [if_pos c2] at H
    have c2b0 : decide (x11_1 < (l0.length : Int)) = true := decide_eq_true c2
    clear c2
    obtain ⟨c3b0, H⟩ := gdd H
    obtain ⟨c4b0, H⟩ := gdd H
    obtain ⟨c5b0, H⟩ := gnn H
    have H' := Aside0.mk H
    clear H
    have p120 : 0 ≤ (x11_1 : Int) := od
    have q120 : x11_1 < (l0.length : Int) := od
    obtain ⟨ad120, A120_0, c120_0, e120, hx120_0, hl120_0, hi120_0⟩ := at_L6 HR0.out x11_1 p120 q120
    cases e120
    replace hx120_0 := kc HB hx120_0
    have HR120_0 := Aside0.mk hi120_0
    have HC120_0 := Aside0.mk hl120_0
    clear hi120_0 hl120_0
    replace p120 := eq_true p120
    replace q120 := eq_true q120
    go_wp2
    go_roundg k1
    case measure => have := HK1.out; omega
    case rel => exact ⟨(wrap64 (x3_1 + ((rd_L6 l0 x11_1).length : Int))), (wrap64 (x11_1 + 1)), rs_, rs_, H', ⟨by have := HK1.out; omega⟩, ⟨uW HB.out⟩⟩
   ·
    rw [if_neg c2] at H
    have c2b0 : decide (x11_1 < (l0.length : Int)) = false := decide_eq_false c2
    clear c2
    obtain ⟨t121, A6, H⟩ := bs H
    try dsimp only at H
    have H' := Aside0.mk H
    clear H
    go_wp2_with (first | (refine gL (some 24) rfl Try.func66 #[(.slice none 0 0), .int .i64 x3_1] ?_; (with_reducible refine (api_Version_66.calls x3_1 t121 _ A6.out).mono ?_); rintro e w7 ⟨v122, rfl, ho0, hb⟩; refine ⟨_, rfl, ?_⟩; have HO123 := Aside0.mk (Kd.R_lower ho0 (below_size (uW HB.out))); replace HB := cW HB hb; (try clear hb); (try clear ho0)))
    (try simp only [Act.put, List.setIfInBounds_toArray, List.set_cons_zero, List.set_cons_succ])
    go_loopg [6, 27] k1 (fun kq v6 v27 w' => ∃ (x6_2 : List (S82)) (x27_2 : Int), v27 = .int .i64 x27_2 ∧ Aside0 (api_Version_60.l1 kq x6_2 l0 (l0.length : Int) x27_2 = some r) ∧ Aside0 (kq ≤ k1) ∧ Aside0 (Kd.R k82 82 w' w.heap.size (fun _ => True) v6 x6_2) ∧ Aside0 (Below w.heap.size w w'))
    case atStart => exact ⟨(t121), (0), rs_, H', ⟨Nat.le_refl _⟩, ⟨uR HO123.out⟩, ⟨uW HB.out⟩⟩
    case round =>
     clear H'
     try clear c1
     try clear p1
     try clear q1
     try clear hx1
     try clear c2
     try clear c2b0
     try clear p2
     try clear c3
     try clear c3b0
     try clear c4
     try clear c4b0
     try clear c5
     try clear c5b0
     try clear c6
     try clear p6
     try clear hx120_0
     try clear p120
     try clear q120
     obtain ⟨x6_2, x27_2, rfl, HA, HK2, HO_6, HB⟩ := hrel
     cases gk with
     | zero => exact absurd HA.out (by simp [api_Version_60.l1])
     | succ k2 =>
      have H := HA.out
      clear HA
      simp only [api_Version_60.l1] at H
      by_cases c8 : x27_2 < (l0.length : Int)
      ·
       rw [if_pos c8] at H
       have c8b0 : decide (x27_2 < (l0.length : Int)) = true := decide_eq_true c8
       clear c8
       obtain ⟨c9b0, H⟩ := gdd H
       obtain ⟨c10b0, H⟩ := gdd H
       obtain ⟨c11, H⟩ := gd H
       have LMc11 := Aside0.mk c11
       clear c11
       obtain ⟨y125, hy125⟩ : ∃ y_ : List (S82), y_ = (x6_2 ++ (rd_L6 l0 x27_2)) := ⟨_, rfl⟩
       replace H : (api_Version_60.l1 k2 y125 l0 (l0.length : Int) (wrap64 (x27_2 + 1))) = some r := by first | (rw [hy125]; with_reducible exact H) | (have H2_ := (Option.bind_some _ _).symm.trans H; rw [hy125]; with_reducible exact H2_) | (have H2_ := (Option.bind_some _ _).symm.trans H; with_reducible exact H2_) | with_reducible exact H | (rw [hy125]; exact H) | exact H
       have Ny125 := Aside0.mk hy125
       clear hy125
       have H' := Aside0.mk H
       clear H
       have p124 : 0 ≤ (x27_2 : Int) := od
       have q124 : x27_2 < (l0.length : Int) := od
       obtain ⟨ad124, A124_0, c124_0, e124, hx124_0, hl124_0, hi124_0⟩ := at_L6 HR0.out x27_2 p124 q124
       cases e124
       replace hx124_0 := kc HB hx124_0
       have HR124_0 := Aside0.mk hi124_0
       have HC124_0 := Aside0.mk hl124_0
       clear hi124_0 hl124_0
       replace p124 := eq_true p124
       replace q124 := eq_true q124
       go_wp2_with (first | ((with_reducible refine gate_builtin (b := .append) (xs := #[.tmp 31, .tmp 32]) rfl ?_); at_builtin; refine Kd.R_append_rows k82 (w0 := w) w.heap.size rfl (.tmp 31) (.tmp 32) 57 82 (.agg #[(.int .i64 0), (.int .i64 0), (.int .i64 0), (.bool false), (.int .i64 0), (.int .i64 0)]) 48 rfl Try.underlying57 info82 rfl (by decide) (by omega) u6 x6_2 (rd_L6 l0 x27_2) _ _ _ (fun _ => True) (fun _ => False) rfl rfl ?aO ?aR (fun _ _ h => h) (fun _ h => h.elim) ?aF ?aB ?aS ?aL ?_; (case aR => exact uC <| (Kd.C_below HR124_0.out HB.out)); (case aB => exact (uW HB.out)); (case aF => exact (fun _ _ => trivial)); (case aO => exact (uR HO_6.out)); (case aS => exact (below_size (uW HB.out))); (case aL => have := LMc11.out; omega); intro v126 w12 ho hb hg hat; rw [← Ny125.out] at ho; replace HB := Aside0.mk (hb); have HO127 := Aside0.mk (ho); clear HO_6; clear ho hb hg hat))
       go_roundg k2
       case measure => have := HK1.out; have := HK2.out; omega
       case rel => exact ⟨(y125), (wrap64 (x27_2 + 1)), rs_, H', ⟨by have := HK1.out; have := HK2.out; omega⟩, ⟨uR HO127.out⟩, ⟨uW HB.out⟩⟩
      ·
       rw [if_neg c8] at H
       have c8b0 : decide (x27_2 < (l0.length : Int)) = false := decide_eq_false c8
       clear c8
       obtain rfl := Option.some.inj H
       go_wp2
       go_ret
       exact ⟨_, re_, uR HO_6.out, uW HB.out⟩
def chain_Put.f (k : Nat) (l0 : List (S82)) (l1 : List (S82)) : Option ((List (S82)) × Int) := (api_Version_60.f k (([l0, l1] : List (List (S82))))).bind fun t131 => ((chain_Right.f k t131).bind fun t134 => (if t134 = true then (some (t131, 0)) else (some (([] : List (S82)), 9))))
theorem chain_Put.mono : ∀ a0 a1 k, LeO (chain_Put.f k a0 a1) (chain_Put.f (k + 1) a0 a1) := by
 intro a0 a1 k
 unfold chain_Put.f
 exact lo
instance chain_Put.mI {a0 a1 k} : LeC (chain_Put.f k a0 a1) (chain_Put.f (k + 1) a0 a1) := ⟨chain_Put.mono _ _ _⟩
theorem chain_Put.calls (k : Nat) (P0_ : Nat → Prop) (A0 : Option Addr) (c0 : Nat) (l0 : List (S82)) (P1_ : Nat → Prop) (A1 : Option Addr) (c1 : Nat) (l1 : List (S82)) (r1 : List (S82)) (r2 : Int) (w : World) (hs0 : Kd.V k82 82 w w.heap.size (fun k_ => P0_ k_) (.slice A0 l0.length c0) l0) (hs1 : Kd.V k82 82 w w.heap.size (fun k_ => P1_ k_) (.slice A1 l1.length c1) l1) (h : chain_Put.f k l0 l1 = some (r1, r2)) :
 Calls Try.prog 49 #[.slice A0 l0.length c0, .slice A1 l1.length c1] w fun e w' => ∃ v0_ : Value, e = .returned (.tuple #[v0_, .int .i64 r2]) ∧ Kd.R k82 82 w' w.heap.size (fun k_ => (w.heap.size ≤ k_)) v0_ r1 ∧ Below w.heap.size w w' := by
 have HO0 := Aside0.mk (show Kd.V k82 82 w w.heap.size (fun k_ => ((P0_ k_ ∨ P1_ k_) ∨ w.heap.size ≤ k_)) (.slice A0 l0.length c0) l0 from Kd.V_mono hs0 (fun k_ hk => .inl (.inl hk)))
 have HO1 := Aside0.mk (show Kd.V k82 82 w w.heap.size (fun k_ => ((P0_ k_ ∨ P1_ k_) ∨ w.heap.size ≤ k_)) (.slice A1 l1.length c1) l1 from Kd.V_mono hs1 (fun k_ hk => .inl (.inr hk)))
 have HB := Aside0.mk (Below.refl w.heap.size w)
 have H : ((api_Version_60.f k (([l0, l1] : List (List (S82))))).bind fun t131 => ((chain_Right.f k t131).bind fun t134 => (if t134 = true then (some (t131, 0)) else (some (([] : List (S82)), 9))))) = some (r1, r2) := h
 clear h
 obtain ⟨y128, hy128⟩ : ∃ y_ : List (List (S82)), y_ = (([l0, l1] : List (List (S82)))) := ⟨_, rfl⟩
 replace H : ((api_Version_60.f k y128).bind fun t131 => ((chain_Right.f k t131).bind fun t134 => (if t134 = true then (some (t131, 0)) else (some (([] : List (S82)), 9))))) = some (r1, r2) := by first | (rw [hy128]; with_reducible exact H) | (have H2_ := (Option.bind_some _ _).symm.trans H; rw [hy128]; with_reducible exact H2_) | (have H2_ := (Option.bind_some _ _).symm.trans H; with_reducible exact H2_) | with_reducible exact H | (rw [hy128]; exact H) | exact H
 have Ny128 := Aside0.mk hy128
 clear hy128
 obtain ⟨t131, A3, H⟩ := bs H
 try dsimp only at H
 obtain ⟨t134, A4, H⟩ := bs H
 try dsimp only at H
 by_cases c5 : t134 = true
 ·
  subst c5
  rw [if_pos rfl] at H
  simp only [Option.some.injEq, Prod.mk.injEq] at H
  obtain ⟨rfl, rfl⟩ := H
  go_enter Try.func49, Try.ntmps49
  go_wp2_with (first | ((with_reducible refine gate_dst (N := 9) rfl ?_); refine Kd.N_lit (Kd.slice 82 k82) _ 57 ?hg (N' := 9) ?hd (xs := ([l0, l1] : List (List (S82)))) (inner := [.slice A0 l0.length c0, .slice A1 l1.length c1]) (ok := (fun k_ => ((P0_ k_ ∨ P1_ k_) ∨ w.heap.size ≤ k_))) (okp := (fun k_ => ((P0_ k_ ∨ P1_ k_) ∨ w.heap.size ≤ k_))) ?hr ?hp (fun _ hk => hk) ((show ∀ k_, w.heap.size ≤ k_ → (fun k_ => ((P0_ k_ ∨ P1_ k_) ∨ w.heap.size ≤ k_)) k_ from fun k_ hk => (.inr (Nat.le_trans (below_size (uW HB.out)) hk))) _ (Nat.le_refl _)) (Below.refl _ _) (Nat.le_refl _) (by simp) ?_; (case hd => rfl); (case hg => rfl); (case hr => first | (go_simp; done) | (go_simp; rfl)); (case hp => exact (Reps.one (show Kd.FK (Kd.slice 82 k82) _ _ l0 [.slice A0 l0.length c0] from (Kd.FK_slice_mk (Kd.V_reads' (Kd.V_mono (ok' := (fun k_ => ((P0_ k_ ∨ P1_ k_) ∨ w.heap.size ≤ k_))) (HO0.out) (fun k_ hk => hk))).2.1 (Kd.V_F (Kd.V_mono (ok' := (fun k_ => ((P0_ k_ ∨ P1_ k_) ∨ w.heap.size ≤ k_))) (HO0.out) (fun k_ hk => hk))))) (Reps.one (show Kd.FK (Kd.slice 82 k82) _ _ l1 [.slice A1 l1.length c1] from (Kd.FK_slice_mk (Kd.V_reads' (Kd.V_mono (ok' := (fun k_ => ((P0_ k_ ∨ P1_ k_) ∨ w.heap.size ≤ k_))) (HO1.out) (fun k_ hk => hk))).2.1 (Kd.V_F (Kd.V_mono (ok' := (fun k_ => ((P0_ k_ ∨ P1_ k_) ∨ w.heap.size ≤ k_))) (HO1.out) (fun k_ hk => hk))))) (Reps.none _ _)))); intro v129 w6 ho7 hb hg_ hnew_; clear hg_ hnew_; (first | rw [← Ny128.out] at ho7 | (simp only [Int.reduceToNat] at ho7; rw [← Ny128.out] at ho7)); replace HO0 := Aside0.mk (Kd.V_elder' (uV HO0.out) (Kd.N_base ho7) hb); replace HO1 := Aside0.mk (Kd.V_elder' (uV HO1.out) (Kd.N_base ho7) hb); have HO130 := Aside0.mk (Kd.N_lower ho7 (below_size (uW HB.out))); replace HB := cW HB hb; clear hb ho7; obtain ⟨Ao8, co8, eo8⟩ := Kd.N_slice HO130.out; subst eo8) | (refine gL (some 10) rfl Try.func60 #[.slice Ao8 y128.length co8] ?_; (with_reducible refine (api_Version_60.calls k _ _ y128 t131 _ ?side1 ?side2 A3.out).mono ?_); (case side1 => exact uC <| (Kd.N_reads' HO130.out).2.2); (case side2 => exact (Kd.N_reads' HO130.out).2.1); rintro e w9 ⟨v132, rfl, ho0, hb⟩; refine ⟨_, rfl, ?_⟩; replace HO0 := Aside0.mk (Kd.V_elder' (uV HO0.out) (Kd.R_base ho0) hb); replace HO1 := Aside0.mk (Kd.V_elder' (uV HO1.out) (Kd.R_base ho0) hb); replace HO130 := Aside0.mk (Kd.N_elder' (by (with_reducible repeat (first | apply Kd.N_alloc | apply Kd.N_drewN | apply Kd.N_drew)); exact HO130.out) (Kd.R_base ho0) hb); have HO133 := Aside0.mk (Kd.R_lower (Kd.R_newM (M := fun k_ => (w.heap.size ≤ k_)) ho0 (below_size (uW HB.out)) (fun k_ h_ => h_)) (below_size (uW HB.out))); replace HB := cW HB hb; (try clear hb); (try clear ho0); obtain ⟨Ao10, co10, eo10⟩ := Kd.R_slice HO133.out; subst eo10) | (refine gL (some 12) rfl Try.func33 #[.slice Ao10 t131.length co10] ?_; (with_reducible refine (chain_Right.calls k _ _ t131 true _ ?side1 ?side2 A4.out).mono ?_); (case side1 => exact uC <| (Kd.R_reads' HO133.out).2.2); (case side2 => exact (Kd.R_reads' HO133.out).2.1); rintro e w11 ⟨rfl, hb⟩; refine ⟨_, rfl, ?_⟩; replace HO0 := cV HO0 hb; replace HO1 := cV HO1 hb; replace HO130 := Aside0.mk (Kd.N_below (by (with_reducible repeat (first | apply Kd.N_alloc | apply Kd.N_drewN | apply Kd.N_drew)); exact HO130.out) hb); replace HO133 := cR HO133 hb; replace HB := cW HB hb; (try clear hb)))
  go_ret2
  exact ⟨_, re_, by exact uR <| Kd.R_mono HO133.out (fun _ hk => hk.1), uW HB.out⟩
 ·
  replace c5 := Bool.eq_false_iff.mpr c5
  subst c5
  rw [if_neg (show ¬ (false = true) by decide)] at H
  simp only [Option.some.injEq, Prod.mk.injEq] at H
  obtain ⟨rfl, rfl⟩ := H
  go_enter Try.func49, Try.ntmps49
  go_wp2_with (first | ((with_reducible refine gate_dst (N := 9) rfl ?_); refine Kd.N_lit (Kd.slice 82 k82) _ 57 ?hg (N' := 9) ?hd (xs := ([l0, l1] : List (List (S82)))) (inner := [.slice A0 l0.length c0, .slice A1 l1.length c1]) (ok := (fun k_ => ((P0_ k_ ∨ P1_ k_) ∨ w.heap.size ≤ k_))) (okp := (fun k_ => ((P0_ k_ ∨ P1_ k_) ∨ w.heap.size ≤ k_))) ?hr ?hp (fun _ hk => hk) ((show ∀ k_, w.heap.size ≤ k_ → (fun k_ => ((P0_ k_ ∨ P1_ k_) ∨ w.heap.size ≤ k_)) k_ from fun k_ hk => (.inr (Nat.le_trans (below_size (uW HB.out)) hk))) _ (Nat.le_refl _)) (Below.refl _ _) (Nat.le_refl _) (by simp) ?_; (case hd => rfl); (case hg => rfl); (case hr => first | (go_simp; done) | (go_simp; rfl)); (case hp => exact (Reps.one (show Kd.FK (Kd.slice 82 k82) _ _ l0 [.slice A0 l0.length c0] from (Kd.FK_slice_mk (Kd.V_reads' (Kd.V_mono (ok' := (fun k_ => ((P0_ k_ ∨ P1_ k_) ∨ w.heap.size ≤ k_))) (HO0.out) (fun k_ hk => hk))).2.1 (Kd.V_F (Kd.V_mono (ok' := (fun k_ => ((P0_ k_ ∨ P1_ k_) ∨ w.heap.size ≤ k_))) (HO0.out) (fun k_ hk => hk))))) (Reps.one (show Kd.FK (Kd.slice 82 k82) _ _ l1 [.slice A1 l1.length c1] from (Kd.FK_slice_mk (Kd.V_reads' (Kd.V_mono (ok' := (fun k_ => ((P0_ k_ ∨ P1_ k_) ∨ w.heap.size ≤ k_))) (HO1.out) (fun k_ hk => hk))).2.1 (Kd.V_F (Kd.V_mono (ok' := (fun k_ => ((P0_ k_ ∨ P1_ k_) ∨ w.heap.size ≤ k_))) (HO1.out) (fun k_ hk => hk))))) (Reps.none _ _)))); intro v129 w12 ho13 hb hg_ hnew_; clear hg_ hnew_; (first | rw [← Ny128.out] at ho13 | (simp only [Int.reduceToNat] at ho13; rw [← Ny128.out] at ho13)); replace HO0 := Aside0.mk (Kd.V_elder' (uV HO0.out) (Kd.N_base ho13) hb); replace HO1 := Aside0.mk (Kd.V_elder' (uV HO1.out) (Kd.N_base ho13) hb); have HO130 := Aside0.mk (Kd.N_lower ho13 (below_size (uW HB.out))); replace HB := cW HB hb; clear hb ho13; obtain ⟨Ao14, co14, eo14⟩ := Kd.N_slice HO130.out; subst eo14) | (refine gL (some 10) rfl Try.func60 #[.slice Ao14 y128.length co14] ?_; (with_reducible refine (api_Version_60.calls k _ _ y128 t131 _ ?side1 ?side2 A3.out).mono ?_); (case side1 => exact uC <| (Kd.N_reads' HO130.out).2.2); (case side2 => exact (Kd.N_reads' HO130.out).2.1); rintro e w15 ⟨v132, rfl, ho0, hb⟩; refine ⟨_, rfl, ?_⟩; replace HO0 := Aside0.mk (Kd.V_elder' (uV HO0.out) (Kd.R_base ho0) hb); replace HO1 := Aside0.mk (Kd.V_elder' (uV HO1.out) (Kd.R_base ho0) hb); replace HO130 := Aside0.mk (Kd.N_elder' (by (with_reducible repeat (first | apply Kd.N_alloc | apply Kd.N_drewN | apply Kd.N_drew)); exact HO130.out) (Kd.R_base ho0) hb); have HO133 := Aside0.mk (Kd.R_lower (Kd.R_newM (M := fun k_ => (w.heap.size ≤ k_)) ho0 (below_size (uW HB.out)) (fun k_ h_ => h_)) (below_size (uW HB.out))); replace HB := cW HB hb; (try clear hb); (try clear ho0); obtain ⟨Ao16, co16, eo16⟩ := Kd.R_slice HO133.out; subst eo16) | (refine gL (some 12) rfl Try.func33 #[.slice Ao16 t131.length co16] ?_; (with_reducible refine (chain_Right.calls k _ _ t131 false _ ?side1 ?side2 A4.out).mono ?_); (case side1 => exact uC <| (Kd.R_reads' HO133.out).2.2); (case side2 => exact (Kd.R_reads' HO133.out).2.1); rintro e w17 ⟨rfl, hb⟩; refine ⟨_, rfl, ?_⟩; replace HO0 := cV HO0 hb; replace HO1 := cV HO1 hb; replace HO130 := Aside0.mk (Kd.N_below (by (with_reducible repeat (first | apply Kd.N_alloc | apply Kd.N_drewN | apply Kd.N_drew)); exact HO130.out) hb); replace HO133 := cR HO133 hb; replace HB := cW HB hb; (try clear hb)))
  go_ret2
  exact ⟨_, re_, nl_, uW HB.out⟩
def cell_Empty.f (a0_0 : Int) (a0_1 : Int) (a0_2 : Bool) (a0_3 : Int) (a0_4 : Int) : Option (Bool) := some (decide (a0_0 < 1))
theorem cell_Empty.calls (a0_0 : Int) (a0_1 : Int) (a0_2 : Bool) (a0_3 : Int) (a0_4 : Int) (r : Bool) (w : World) (h : cell_Empty.f a0_0 a0_1 a0_2 a0_3 a0_4 = some r) :
 Calls Try.prog 37 #[.agg #[.int .i64 a0_0, .int .i64 a0_1, .bool a0_2, .int .i64 a0_3, .int .i64 a0_4]] w fun e w' => e = .returned (.bool r) ∧ Below w.heap.size w w' := by
 have hu52 := Try.underlying52
 have HB := Aside0.mk (Below.refl w.heap.size w)
 have H : (some (decide (a0_0 < 1))) = some r := h
 clear h
 obtain rfl := Option.some.inj H
 go_enter Try.func37, Try.ntmps37
 go_wp2_with (first | ((with_reducible refine gate_dst (N := 1) rfl ?_); refine bx (N := 1) #[.int .i64 a0_0, .int .i64 a0_1, .bool a0_2, .int .i64 a0_3, .int .i64 a0_4] 52 ?_; intro gb135 hg w2 hbox hb; have BK135 := Aside0.mk (hbox); have GW135 := gw hg (uW HB.out); have GE135 := GW135; replace HB := cW HB hb; clear hb hbox hg; obtain ⟨hcz3_0, hcz3_1, hcz3_2, hcz3_3, hcz3_4, hfz3_0, hfz3_1, hfz3_2, hfz3_3, hfz3_4⟩ := z5 BK135))
 go_ret
 exact ⟨re_, bl⟩
def cell_counts.f (a0 : Int) (a1 : Int) : Option (Int) := if a0 > (wrap64 (9223372036854775807 - a1)) then (some 9223372036854775807) else (some (wrap64 (a0 + a1)))
theorem cell_counts.calls (a0 : Int) (a1 : Int) (r : Int) (w : World) (h : cell_counts.f a0 a1 = some r) :
 Calls Try.prog 67 #[.int .i64 a0, .int .i64 a1] w fun e w' => e = .returned (.int .i64 r) ∧ Drawn0 w w' := by
 have H : (if a0 > (wrap64 (9223372036854775807 - a1)) then (some 9223372036854775807) else (some (wrap64 (a0 + a1)))) = some r := h
 clear h
 by_cases c3 : a0 > (wrap64 (9223372036854775807 - a1))
 ·
  rw [if_pos c3] at H
  have c3b0 : decide ((wrap64 (9223372036854775807 - a1)) < a0) = true := decide_eq_true c3
  clear c3
  obtain rfl := Option.some.inj H
  go_enter Try.func67, Try.ntmps67
  go_wp2
  go_ret
  exact ⟨rs_, dr_⟩
 ·
  rw [if_neg c3] at H
  have c3b0 : decide ((wrap64 (9223372036854775807 - a1)) < a0) = false := decide_eq_false c3
  clear c3
  obtain rfl := Option.some.inj H
  go_enter Try.func67, Try.ntmps67
  go_wp2
  go_ret
  exact ⟨rs_, dr_⟩
def sat_Of.f (a0 : Int) : Option (Int × Bool) := some (a0, false)
theorem sat_Of.calls (a0 : Int) (r1 : Int) (r2 : Bool) (w : World) (h : sat_Of.f a0 = some (r1, r2)) :
 Calls Try.prog 69 #[.int .i64 a0] w fun e w' => e = .returned (.agg #[.int .i64 r1, .bool r2]) ∧ Below w.heap.size w w' := by
 have hu50 := Try.underlying50
 have HB := Aside0.mk (Below.refl w.heap.size w)
 have H : (some (a0, false)) = some (r1, r2) := h
 clear h
 simp only [Option.some.injEq, Prod.mk.injEq] at H
 obtain ⟨rfl, rfl⟩ := H
 go_enter Try.func69, Try.ntmps69
 go_wp2_with (first | ((with_reducible refine gate_dst (N := 2) rfl ?_); refine bx (N := 2) #[.int .i64 0, .bool false] 50 ?_; intro gb136 hg w2 hbox hb; have BK136 := Aside0.mk (hbox); have GW136 := gw hg (uW HB.out); have GE136 := GW136; replace HB := cW HB hb; clear hb hbox hg; obtain ⟨hcz3_0, hcz3_1, hfz3_0, hfz3_1⟩ := z2 BK136))
 refine bodyPost_ret (results_cell_row rfl _ _ gb136 50 #[.int .i64 a0, .bool false] (0, 0) _ rfl (by (with_reducible repeat (first | refine blk_drewN ?_ _ | refine blk_drew ?_ | refine blk_alloc ?_ _)); refine blk_put (cs := #[.int .i64 a0, .bool false]) ?_ 1 _ rfl; (with_reducible repeat (first | refine blk_drewN ?_ _ | refine blk_drew ?_ | refine blk_alloc ?_ _)); refine blk_put (cs := #[.int .i64 0, .bool false]) ?_ 0 _ rfl; exact uB <| BK136.out) Try.underlying50 rfl (by kernel_rfl)) rfl ?_
 exact ⟨re_, bl⟩
def sat_Add.j0 : Nat → Int → Bool → Int → Bool → Int → Bool → Option (Int × Bool)
 | 0, _, _, _, _, _, _ => none
 | k + 1, x5, x17, x138000, x138001, x139000, x139001 => if x17 = true then (some (9223372036854775807, true)) else (if x138000 < 0 then (if x139000 < 0 then (if x5 ≥ 0 then (some ((-9223372036854775808), true)) else ((sat_Of.f x5).bind fun bt140 => (some (bt140.1, bt140.2)))) else ((sat_Of.f x5).bind fun bt142 => (some (bt142.1, bt142.2)))) else ((sat_Of.f x5).bind fun bt144 => (some (bt144.1, bt144.2))))
def sat_Add.f (k : Nat) (a0_0 : Int) (a0_1 : Bool) (a1_0 : Int) (a1_1 : Bool) : Option (Int × Bool) := if a0_1 = true then (some (a0_0, a0_1)) else (if a1_1 = true then (some (a1_0, a1_1)) else (if a0_0 > 0 then (if a1_0 > 0 then (sat_Add.j0 k (wrap64 (a0_0 + a1_0)) (decide ((wrap64 (a0_0 + a1_0)) < 0)) a0_0 a0_1 a1_0 a1_1) else (sat_Add.j0 k (wrap64 (a0_0 + a1_0)) false a0_0 a0_1 a1_0 a1_1)) else (sat_Add.j0 k (wrap64 (a0_0 + a1_0)) false a0_0 a0_1 a1_0 a1_1)))
theorem sat_Add.mono_l : ∀ k, (∀ y0 y1 y2 y3 y4 y5, LeC (sat_Add.j0 k y0 y1 y2 y3 y4 y5) (sat_Add.j0 (k + 1) y0 y1 y2 y3 y4 y5))
 | 0 => fun _ _ _ _ _ _ => ⟨fun r h => by simp [sat_Add.j0] at h⟩
 | k + 1 => by have ih0 := sat_Add.mono_l k; exact fun _ _ _ _ _ _ => by unfold sat_Add.j0; exact lm
theorem sat_Add.mono : ∀ a0 a1 a2 a3 k, LeO (sat_Add.f k a0 a1 a2 a3) (sat_Add.f (k + 1) a0 a1 a2 a3) := by
 intro a0 a1 a2 a3 k
 have ih0 := sat_Add.mono_l k
 unfold sat_Add.f
 exact lo
instance sat_Add.mI {a0 a1 a2 a3 k} : LeC (sat_Add.f k a0 a1 a2 a3) (sat_Add.f (k + 1) a0 a1 a2 a3) := ⟨sat_Add.mono _ _ _ _ _⟩
theorem sat_Add.calls (k : Nat) (a0_0 : Int) (a0_1 : Bool) (a1_0 : Int) (a1_1 : Bool) (r1 : Int) (r2 : Bool) (w : World) (h : sat_Add.f k a0_0 a0_1 a1_0 a1_1 = some (r1, r2)) :
 Calls Try.prog 68 #[.agg #[.int .i64 a0_0, .bool a0_1], .agg #[.int .i64 a1_0, .bool a1_1]] w fun e w' => e = .returned (.agg #[.int .i64 r1, .bool r2]) ∧ Below w.heap.size w w' := by
 have hu50 := Try.underlying50
 have HB := Aside0.mk (Below.refl w.heap.size w)
 have H : (if a0_1 = true then (some (a0_0, a0_1)) else (if a1_1 = true then (some (a1_0, a1_1)) else (if a0_0 > 0 then (if a1_0 > 0 then (sat_Add.j0 k (wrap64 (a0_0 + a1_0)) (decide ((wrap64 (a0_0 + a1_0)) < 0)) a0_0 a0_1 a1_0 a1_1) else (sat_Add.j0 k (wrap64 (a0_0 + a1_0)) false a0_0 a0_1 a1_0 a1_1)) else (sat_Add.j0 k (wrap64 (a0_0 + a1_0)) false a0_0 a0_1 a1_0 a1_1)))) = some (r1, r2) := h
 clear h
 by_cases c3 : a0_1 = true
 ·
  subst c3
  rw [if_pos rfl] at H
  simp only [Option.some.injEq, Prod.mk.injEq] at H
  obtain ⟨rfl, rfl⟩ := H
  go_enter Try.func68, Try.ntmps68
  go_wp2_with (first | ((with_reducible refine gate_dst (N := 2) rfl ?_); refine bx (N := 2) #[.int .i64 a0_0, .bool true] 50 ?_; intro gb137 hg w4 hbox hb; have BK137 := Aside0.mk (hbox); have GW137 := gw hg (uW HB.out); have GE137 := GW137; replace HB := cW HB hb; clear hb hbox hg) | ((with_reducible refine gate_dst (N := 3) rfl ?_); refine bx (N := 3) #[.int .i64 a1_0, .bool a1_1] 50 ?_; intro gb138 hg w5 hbox hb; have BK138 := Aside0.mk (hbox); have GW138 := gw hg bl; have GE138 := GW138; replace HB := Aside0.mk (below_step bl hb); have NB137_138 := Aside0.mk ((by rw [hg]; exact Nat.ne_of_lt (blk_lt (g := gb137) (o := .cells #[.int .i64 a0_0, .bool true] 50 (0, 0)) (uB BK137.out)) : gb137 ≠ gb138)); have NB138_137 := Aside0.mk ((by rw [hg]; exact Nat.ne_of_gt (blk_lt (g := gb137) (o := .cells #[.int .i64 a0_0, .bool true] 50 (0, 0)) (uB BK137.out)) : gb138 ≠ gb137)); replace BK137 := cB BK137 hb; clear hb hbox hg) | ((with_reducible refine gate_dst (N := 4) rfl ?_); refine bx (N := 4) #[.int .i64 0, .bool false] 50 ?_; intro gb139 hg w6 hbox hb; have BK139 := Aside0.mk (hbox); have GW139 := gw hg bl; have GE139 := GW139; replace HB := Aside0.mk (below_step bl hb); have NB137_139 := Aside0.mk ((by rw [hg]; exact Nat.ne_of_lt (blk_lt (g := gb137) (o := .cells #[.int .i64 a0_0, .bool true] 50 (0, 0)) (uB BK137.out)) : gb137 ≠ gb139)); have NB139_137 := Aside0.mk ((by rw [hg]; exact Nat.ne_of_gt (blk_lt (g := gb137) (o := .cells #[.int .i64 a0_0, .bool true] 50 (0, 0)) (uB BK137.out)) : gb139 ≠ gb137)); replace BK137 := cB BK137 hb; have NB138_139 := Aside0.mk ((by rw [hg]; exact Nat.ne_of_lt (blk_lt (g := gb138) (o := .cells #[.int .i64 a1_0, .bool a1_1] 50 (0, 0)) (uB BK138.out)) : gb138 ≠ gb139)); have NB139_138 := Aside0.mk ((by rw [hg]; exact Nat.ne_of_gt (blk_lt (g := gb138) (o := .cells #[.int .i64 a1_0, .bool a1_1] 50 (0, 0)) (uB BK138.out)) : gb139 ≠ gb138)); replace BK138 := cB BK138 hb; clear hb hbox hg; have hnb7 := NB137_138.out; have hnc7 := NB138_137.out; have hnb8 := NB137_139.out; have hnc8 := NB139_137.out; obtain ⟨hcz9_0, hcz9_1, hfz9_0, hfz9_1⟩ := z2 BK137; have hnb10 := NB139_138.out; have hnc10 := NB138_139.out; obtain ⟨hcz11_0, hcz11_1, hfz11_0, hfz11_1⟩ := z2 BK139))
  refine bodyPost_ret (results_cell_row rfl _ _ gb139 50 #[.int .i64 a0_0, .bool true] (0, 0) _ rfl (by (with_reducible repeat (first | refine blk_drewN ?_ _ | refine blk_drew ?_ | refine blk_alloc ?_ _)); refine blk_put (cs := #[.int .i64 a0_0, .bool false]) ?_ 1 _ rfl; (with_reducible repeat (first | refine blk_drewN ?_ _ | refine blk_drew ?_ | refine blk_alloc ?_ _)); refine blk_put (cs := #[.int .i64 0, .bool false]) ?_ 0 _ rfl; exact uB <| BK139.out) Try.underlying50 rfl (by kernel_rfl)) rfl ?_
  exact ⟨re_, bl⟩
 ·
  replace c3 := Bool.eq_false_iff.mpr c3
  subst c3
  rw [if_neg (show ¬ (false = true) by decide)] at H
  by_cases c12 : a1_1 = true
  ·
   subst c12
   rw [if_pos rfl] at H
   simp only [Option.some.injEq, Prod.mk.injEq] at H
   obtain ⟨rfl, rfl⟩ := H
   go_enter Try.func68, Try.ntmps68
   go_wp2_with (first | ((with_reducible refine gate_dst (N := 2) rfl ?_); refine bx (N := 2) #[.int .i64 a0_0, .bool false] 50 ?_; intro gb137 hg w13 hbox hb; have BK137 := Aside0.mk (hbox); have GW137 := gw hg (uW HB.out); have GE137 := GW137; replace HB := cW HB hb; clear hb hbox hg) | ((with_reducible refine gate_dst (N := 3) rfl ?_); refine bx (N := 3) #[.int .i64 a1_0, .bool true] 50 ?_; intro gb138 hg w14 hbox hb; have BK138 := Aside0.mk (hbox); have GW138 := gw hg bl; have GE138 := GW138; replace HB := Aside0.mk (below_step bl hb); have NB137_138 := Aside0.mk ((by rw [hg]; exact Nat.ne_of_lt (blk_lt (g := gb137) (o := .cells #[.int .i64 a0_0, .bool false] 50 (0, 0)) (uB BK137.out)) : gb137 ≠ gb138)); have NB138_137 := Aside0.mk ((by rw [hg]; exact Nat.ne_of_gt (blk_lt (g := gb137) (o := .cells #[.int .i64 a0_0, .bool false] 50 (0, 0)) (uB BK137.out)) : gb138 ≠ gb137)); replace BK137 := cB BK137 hb; clear hb hbox hg) | ((with_reducible refine gate_dst (N := 4) rfl ?_); refine bx (N := 4) #[.int .i64 0, .bool false] 50 ?_; intro gb139 hg w15 hbox hb; have BK139 := Aside0.mk (hbox); have GW139 := gw hg bl; have GE139 := GW139; replace HB := Aside0.mk (below_step bl hb); have NB137_139 := Aside0.mk ((by rw [hg]; exact Nat.ne_of_lt (blk_lt (g := gb137) (o := .cells #[.int .i64 a0_0, .bool false] 50 (0, 0)) (uB BK137.out)) : gb137 ≠ gb139)); have NB139_137 := Aside0.mk ((by rw [hg]; exact Nat.ne_of_gt (blk_lt (g := gb137) (o := .cells #[.int .i64 a0_0, .bool false] 50 (0, 0)) (uB BK137.out)) : gb139 ≠ gb137)); replace BK137 := cB BK137 hb; have NB138_139 := Aside0.mk ((by rw [hg]; exact Nat.ne_of_lt (blk_lt (g := gb138) (o := .cells #[.int .i64 a1_0, .bool true] 50 (0, 0)) (uB BK138.out)) : gb138 ≠ gb139)); have NB139_138 := Aside0.mk ((by rw [hg]; exact Nat.ne_of_gt (blk_lt (g := gb138) (o := .cells #[.int .i64 a1_0, .bool true] 50 (0, 0)) (uB BK138.out)) : gb139 ≠ gb138)); replace BK138 := cB BK138 hb; clear hb hbox hg; have hnb16 := NB137_138.out; have hnc16 := NB138_137.out; have hnb17 := NB137_139.out; have hnc17 := NB139_137.out; obtain ⟨hcz18_0, hcz18_1, hfz18_0, hfz18_1⟩ := z2 BK137; have hnb19 := NB138_139.out; have hnc19 := NB139_138.out; obtain ⟨hcz20_0, hcz20_1, hfz20_0, hfz20_1⟩ := z2 BK138; obtain ⟨hcz21_0, hcz21_1, hfz21_0, hfz21_1⟩ := z2 BK139))
   refine bodyPost_ret (results_cell_row rfl _ _ gb139 50 #[.int .i64 a1_0, .bool true] (0, 0) _ rfl (by (with_reducible repeat (first | refine blk_drewN ?_ _ | refine blk_drew ?_ | refine blk_alloc ?_ _)); refine blk_put (cs := #[.int .i64 a1_0, .bool false]) ?_ 1 _ rfl; (with_reducible repeat (first | refine blk_drewN ?_ _ | refine blk_drew ?_ | refine blk_alloc ?_ _)); refine blk_put (cs := #[.int .i64 0, .bool false]) ?_ 0 _ rfl; exact uB <| BK139.out) Try.underlying50 rfl (by kernel_rfl)) rfl ?_
   exact ⟨re_, bl⟩
  ·
   replace c12 := Bool.eq_false_iff.mpr c12
   subst c12
   rw [if_neg (show ¬ (false = true) by decide)] at H
   have HC22 := Aside0.mk H
   clear H
   go_enter Try.func68, Try.ntmps68
   go_upto_region 6 with (first | ((with_reducible refine gate_dst (N := 2) rfl ?_); refine bx (N := 2) #[.int .i64 a0_0, .bool false] 50 ?_; intro gb137 hg w23 hbox hb; have BK137 := Aside0.mk (hbox); have GW137 := gw hg (uW HB.out); have GE137 := GW137; replace HB := cW HB hb; clear hb hbox hg) | ((with_reducible refine gate_dst (N := 3) rfl ?_); refine bx (N := 3) #[.int .i64 a1_0, .bool false] 50 ?_; intro gb138 hg w24 hbox hb; have BK138 := Aside0.mk (hbox); have GW138 := gw hg bl; have GE138 := GW138; replace HB := Aside0.mk (below_step bl hb); have NB137_138 := Aside0.mk ((by rw [hg]; exact Nat.ne_of_lt (blk_lt (g := gb137) (o := .cells #[.int .i64 a0_0, .bool false] 50 (0, 0)) (uB BK137.out)) : gb137 ≠ gb138)); have NB138_137 := Aside0.mk ((by rw [hg]; exact Nat.ne_of_gt (blk_lt (g := gb137) (o := .cells #[.int .i64 a0_0, .bool false] 50 (0, 0)) (uB BK137.out)) : gb138 ≠ gb137)); replace BK137 := cB BK137 hb; clear hb hbox hg) | ((with_reducible refine gate_dst (N := 4) rfl ?_); refine bx (N := 4) #[.int .i64 0, .bool false] 50 ?_; intro gb139 hg w25 hbox hb; have BK139 := Aside0.mk (hbox); have GW139 := gw hg bl; have GE139 := GW139; replace HB := Aside0.mk (below_step bl hb); have NB137_139 := Aside0.mk ((by rw [hg]; exact Nat.ne_of_lt (blk_lt (g := gb137) (o := .cells #[.int .i64 a0_0, .bool false] 50 (0, 0)) (uB BK137.out)) : gb137 ≠ gb139)); have NB139_137 := Aside0.mk ((by rw [hg]; exact Nat.ne_of_gt (blk_lt (g := gb137) (o := .cells #[.int .i64 a0_0, .bool false] 50 (0, 0)) (uB BK137.out)) : gb139 ≠ gb137)); replace BK137 := cB BK137 hb; have NB138_139 := Aside0.mk ((by rw [hg]; exact Nat.ne_of_lt (blk_lt (g := gb138) (o := .cells #[.int .i64 a1_0, .bool false] 50 (0, 0)) (uB BK138.out)) : gb138 ≠ gb139)); have NB139_138 := Aside0.mk ((by rw [hg]; exact Nat.ne_of_gt (blk_lt (g := gb138) (o := .cells #[.int .i64 a1_0, .bool false] 50 (0, 0)) (uB BK138.out)) : gb139 ≠ gb138)); replace BK138 := cB BK138 hb; clear hb hbox hg; have hnb26 := NB137_138.out; have hnc26 := NB138_137.out; have hnb27 := NB137_139.out; have hnc27 := NB139_137.out; obtain ⟨hcz28_0, hcz28_1, hfz28_0, hfz28_1⟩ := z2 BK137; have hnb29 := NB138_139.out; have hnc29 := NB139_138.out; obtain ⟨hcz30_0, hcz30_1, hfz30_0, hfz30_1⟩ := z2 BK138))
   (try simp only [Act.put, List.setIfInBounds_toArray, List.set_cons_zero, List.set_cons_succ])
   go_cut [17] (fun v17 wc => ∃ (kq : Nat) (x17_21 : Bool), v17 = .bool x17_21 ∧ Aside0 (sat_Add.j0 kq (wrap64 (a0_0 + a1_0)) x17_21 a0_0 false a1_0 false = some (r1, r2)) ∧ Aside0 (kq ≤ k) ∧ Aside0 (wc.heap[gb137]? = some (.cells #[.int .i64 a0_0, .bool false] 50 (0, 0))) ∧ Aside0 (wc.heap[gb138]? = some (.cells #[.int .i64 a1_0, .bool false] 50 (0, 0))) ∧ Aside0 (wc.heap[gb139]? = some (.cells #[.int .i64 0, .bool false] 50 (0, 0))) ∧ Aside0 (Below w.heap.size w wc))
   case first =>
    have H := HC22.out
    clear HC22
    by_cases c31 : a0_0 > 0
    ·
     rw [if_pos c31] at H
     have c31b0 : decide (0 < a0_0) = true := decide_eq_true c31
     clear c31
     (first | rw [c31b0] | (simp only [i64_w, i32_w]; rw [c31b0]) | skip)
     by_cases c32 : a1_0 > 0
     ·
      rw [if_pos c32] at H
      have c32b0 : decide (0 < a1_0) = true := decide_eq_true c32
      clear c32
      have H' := Aside0.mk H
      clear H
      have hnb33 := NB137_138.out
      have hnc33 := NB138_137.out
      have hnb34 := NB137_139.out
      have hnc34 := NB139_137.out
      obtain ⟨hcz35_0, hcz35_1, hfz35_0, hfz35_1⟩ := z2 BK137
      have hnb36 := NB138_139.out
      have hnc36 := NB139_138.out
      obtain ⟨hcz37_0, hcz37_1, hfz37_0, hfz37_1⟩ := z2 BK138
      go_wp2
      go_meet
      case rel => exact ⟨_, (decide ((wrap64 (a0_0 + a1_0)) < 0)), rs_, H', ⟨by first | omega | exact Nat.le_refl _⟩, ⟨uB BK137.out⟩, ⟨uB BK138.out⟩, ⟨uB BK139.out⟩, ⟨bl⟩⟩
     ·
      rw [if_neg c32] at H
      have c32b0 : decide (0 < a1_0) = false := decide_eq_false c32
      clear c32
      have H' := Aside0.mk H
      clear H
      have hnb38 := NB137_138.out
      have hnc38 := NB138_137.out
      have hnb39 := NB137_139.out
      have hnc39 := NB139_137.out
      obtain ⟨hcz40_0, hcz40_1, hfz40_0, hfz40_1⟩ := z2 BK137
      have hnb41 := NB138_139.out
      have hnc41 := NB139_138.out
      obtain ⟨hcz42_0, hcz42_1, hfz42_0, hfz42_1⟩ := z2 BK138
      go_wp2
      go_meet
      case rel => exact ⟨_, (false), rs_, H', ⟨by first | omega | exact Nat.le_refl _⟩, ⟨uB BK137.out⟩, ⟨uB BK138.out⟩, ⟨uB BK139.out⟩, ⟨bl⟩⟩
    ·
     rw [if_neg c31] at H
     have c31b0 : decide (0 < a0_0) = false := decide_eq_false c31
     clear c31
     (first | rw [c31b0] | (simp only [i64_w, i32_w]; rw [c31b0]) | skip)
     have H' := Aside0.mk H
     clear H
     have hnb43 := NB137_138.out
     have hnc43 := NB138_137.out
     have hnb44 := NB137_139.out
     have hnc44 := NB139_137.out
     obtain ⟨hcz45_0, hcz45_1, hfz45_0, hfz45_1⟩ := z2 BK137
     go_wp2
     go_meet
     case rel => exact ⟨_, (false), rs_, H', ⟨by first | omega | exact Nat.le_refl _⟩, ⟨uB BK137.out⟩, ⟨uB BK138.out⟩, ⟨uB BK139.out⟩, ⟨bl⟩⟩
   case rest =>
    clear HC22
    try clear c1
    try clear c2
    try clear p2
    try clear c3
    try clear c4
    try clear c6
    try clear p6
    try clear c7
    try clear c8
    try clear c10
    try clear c12
    try clear c16
    try clear c17
    try clear c19
    try clear c26
    try clear c27
    try clear c29
    try clear c31
    try clear c31b0
    try clear c32
    try clear c32b0
    try clear c33
    try clear c34
    try clear c36
    try clear c38
    try clear c39
    try clear c41
    try clear c43
    try clear c44
    try clear hcz11_0
    try clear hcz11_1
    try clear hcz18_0
    try clear hcz18_1
    try clear hcz20_0
    try clear hcz20_1
    try clear hcz21_0
    try clear hcz21_1
    try clear hcz28_0
    try clear hcz28_1
    try clear hcz30_0
    try clear hcz30_1
    try clear hcz35_0
    try clear hcz35_1
    try clear hcz37_0
    try clear hcz37_1
    try clear hcz40_0
    try clear hcz40_1
    try clear hcz42_0
    try clear hcz42_1
    try clear hcz45_0
    try clear hcz45_1
    try clear hcz9_0
    try clear hcz9_1
    try clear hfz11_0
    try clear hfz11_1
    try clear hfz18_0
    try clear hfz18_1
    try clear hfz20_0
    try clear hfz20_1
    try clear hfz21_0
    try clear hfz21_1
    try clear hfz28_0
    try clear hfz28_1
    try clear hfz30_0
    try clear hfz30_1
    try clear hfz35_0
    try clear hfz35_1
    try clear hfz37_0
    try clear hfz37_1
    try clear hfz40_0
    try clear hfz40_1
    try clear hfz42_0
    try clear hfz42_1
    try clear hfz45_0
    try clear hfz45_1
    try clear hfz9_0
    try clear hfz9_1
    obtain ⟨kq, x17_21, rfl, HA, HJ21, BK137, BK138, BK139, HB⟩ := hcut
    cases kq with
    | zero => exact absurd HA.out (by simp [sat_Add.j0])
    | succ kj21 =>
     have H := HA.out
     clear HA
     simp only [sat_Add.j0] at H
     by_cases c46 : x17_21 = true
     ·
      subst c46
      rw [if_pos rfl] at H
      simp only [Option.some.injEq, Prod.mk.injEq] at H
      obtain ⟨rfl, rfl⟩ := H
      have hnb47 := NB139_137.out
      have hnc47 := NB137_139.out
      have hnb48 := NB139_138.out
      have hnc48 := NB138_139.out
      obtain ⟨hcz49_0, hcz49_1, hfz49_0, hfz49_1⟩ := z2 BK139
      go_wp2
      refine bodyPost_ret (results_cell_row rfl _ _ gb139 50 #[.int .i64 9223372036854775807, .bool true] (0, 0) _ rfl (by (with_reducible repeat (first | refine blk_drewN ?_ _ | refine blk_drew ?_ | refine blk_alloc ?_ _)); refine blk_put (cs := #[.int .i64 9223372036854775807, .bool false]) ?_ 1 _ rfl; (with_reducible repeat (first | refine blk_drewN ?_ _ | refine blk_drew ?_ | refine blk_alloc ?_ _)); refine blk_put (cs := #[.int .i64 0, .bool false]) ?_ 0 _ rfl; exact uB <| BK139.out) Try.underlying50 rfl (by kernel_rfl)) rfl ?_
      exact ⟨re_, bl⟩
     ·
      replace c46 := Bool.eq_false_iff.mpr c46
      subst c46
      rw [if_neg (show ¬ (false = true) by decide)] at H
      by_cases c50 : a0_0 < 0
      ·
       rw [if_pos c50] at H
       have c50b0 : decide (a0_0 < 0) = true := decide_eq_true c50
       clear c50
       by_cases c51 : a1_0 < 0
       ·
        rw [if_pos c51] at H
        have c51b0 : decide (a1_0 < 0) = true := decide_eq_true c51
        clear c51
        by_cases c52 : (wrap64 (a0_0 + a1_0)) ≥ 0
        ·
         rw [if_pos c52] at H
         have c52b0 : decide (0 ≤ (wrap64 (a0_0 + a1_0))) = true := decide_eq_true c52
         clear c52
         simp only [Option.some.injEq, Prod.mk.injEq] at H
         obtain ⟨rfl, rfl⟩ := H
         have hnb53 := NB137_138.out
         have hnc53 := NB138_137.out
         have hnb54 := NB137_139.out
         have hnc54 := NB139_137.out
         obtain ⟨hcz55_0, hcz55_1, hfz55_0, hfz55_1⟩ := z2 BK137
         have hnb56 := NB138_139.out
         have hnc56 := NB139_138.out
         obtain ⟨hcz57_0, hcz57_1, hfz57_0, hfz57_1⟩ := z2 BK138
         obtain ⟨hcz58_0, hcz58_1, hfz58_0, hfz58_1⟩ := z2 BK139
         go_wp2
         refine bodyPost_ret (results_cell_row rfl _ _ gb139 50 #[.int .i64 (-9223372036854775808), .bool true] (0, 0) _ rfl (by (with_reducible repeat (first | refine blk_drewN ?_ _ | refine blk_drew ?_ | refine blk_alloc ?_ _)); refine blk_put (cs := #[.int .i64 (-9223372036854775808), .bool false]) ?_ 1 _ rfl; (with_reducible repeat (first | refine blk_drewN ?_ _ | refine blk_drew ?_ | refine blk_alloc ?_ _)); refine blk_put (cs := #[.int .i64 0, .bool false]) ?_ 0 _ rfl; exact uB <| BK139.out) Try.underlying50 rfl (by kernel_rfl)) rfl ?_
         exact ⟨re_, bl⟩
        ·
         rw [if_neg c52] at H
         have c52b0 : decide (0 ≤ (wrap64 (a0_0 + a1_0))) = false := decide_eq_false c52
         clear c52
         obtain ⟨⟨t140, t141⟩, A59, H⟩ := bs H
         try dsimp only at H
         simp only [Option.some.injEq, Prod.mk.injEq] at H
         obtain ⟨rfl, rfl⟩ := H
         have hnb60 := NB137_138.out
         have hnc60 := NB138_137.out
         have hnb61 := NB137_139.out
         have hnc61 := NB139_137.out
         obtain ⟨hcz62_0, hcz62_1, hfz62_0, hfz62_1⟩ := z2 BK137
         have hnb63 := NB138_139.out
         have hnc63 := NB139_138.out
         obtain ⟨hcz64_0, hcz64_1, hfz64_0, hfz64_1⟩ := z2 BK138
         go_wp2_with (first | (refine gL (some 46) rfl Try.func69 #[.int .i64 (wrap64 (a0_0 + a1_0))] ?_; (with_reducible refine (sat_Of.calls (wrap64 (a0_0 + a1_0)) t140 t141 _ A59.out).mono ?_); rintro e w65 ⟨rfl, hb⟩; refine ⟨_, rfl, ?_⟩; replace BK137 := cB BK137 hb; replace BK138 := cB BK138 hb; replace BK139 := cB BK139 hb; replace HB := Aside0.mk (below_step bl hb); (try clear hb); obtain ⟨hcz66_0, hcz66_1, hfz66_0, hfz66_1⟩ := z2 BK139))
         refine bodyPost_ret (results_cell_row rfl _ _ gb139 50 #[.int .i64 t140, .bool t141] (0, 0) _ rfl (by (with_reducible repeat (first | refine blk_drewN ?_ _ | refine blk_drew ?_ | refine blk_alloc ?_ _)); refine blk_put (cs := #[.int .i64 t140, .bool false]) ?_ 1 _ rfl; (with_reducible repeat (first | refine blk_drewN ?_ _ | refine blk_drew ?_ | refine blk_alloc ?_ _)); refine blk_put (cs := #[.int .i64 0, .bool false]) ?_ 0 _ rfl; exact uB <| BK139.out) Try.underlying50 rfl (by kernel_rfl)) rfl ?_
         exact ⟨re_, bl⟩
       ·
        rw [if_neg c51] at H
        have c51b0 : decide (a1_0 < 0) = false := decide_eq_false c51
        clear c51
        obtain ⟨⟨t142, t143⟩, A67, H⟩ := bs H
        try dsimp only at H
        simp only [Option.some.injEq, Prod.mk.injEq] at H
        obtain ⟨rfl, rfl⟩ := H
        have hnb68 := NB137_138.out
        have hnc68 := NB138_137.out
        have hnb69 := NB137_139.out
        have hnc69 := NB139_137.out
        obtain ⟨hcz70_0, hcz70_1, hfz70_0, hfz70_1⟩ := z2 BK137
        have hnb71 := NB138_139.out
        have hnc71 := NB139_138.out
        obtain ⟨hcz72_0, hcz72_1, hfz72_0, hfz72_1⟩ := z2 BK138
        go_wp2_with (first | (refine gL (some 46) rfl Try.func69 #[.int .i64 (wrap64 (a0_0 + a1_0))] ?_; (with_reducible refine (sat_Of.calls (wrap64 (a0_0 + a1_0)) t142 t143 _ A67.out).mono ?_); rintro e w73 ⟨rfl, hb⟩; refine ⟨_, rfl, ?_⟩; replace BK137 := cB BK137 hb; replace BK138 := cB BK138 hb; replace BK139 := cB BK139 hb; replace HB := Aside0.mk (below_step bl hb); (try clear hb); obtain ⟨hcz74_0, hcz74_1, hfz74_0, hfz74_1⟩ := z2 BK139))
        refine bodyPost_ret (results_cell_row rfl _ _ gb139 50 #[.int .i64 t142, .bool t143] (0, 0) _ rfl (by (with_reducible repeat (first | refine blk_drewN ?_ _ | refine blk_drew ?_ | refine blk_alloc ?_ _)); refine blk_put (cs := #[.int .i64 t142, .bool false]) ?_ 1 _ rfl; (with_reducible repeat (first | refine blk_drewN ?_ _ | refine blk_drew ?_ | refine blk_alloc ?_ _)); refine blk_put (cs := #[.int .i64 0, .bool false]) ?_ 0 _ rfl; exact uB <| BK139.out) Try.underlying50 rfl (by kernel_rfl)) rfl ?_
        exact ⟨re_, bl⟩
      ·
       rw [if_neg c50] at H
       have c50b0 : decide (a0_0 < 0) = false := decide_eq_false c50
       clear c50
       obtain ⟨⟨t144, t145⟩, A75, H⟩ := bs H
       try dsimp only at H
       simp only [Option.some.injEq, Prod.mk.injEq] at H
       obtain ⟨rfl, rfl⟩ := H
       have hnb76 := NB137_138.out
       have hnc76 := NB138_137.out
       have hnb77 := NB137_139.out
       have hnc77 := NB139_137.out
       obtain ⟨hcz78_0, hcz78_1, hfz78_0, hfz78_1⟩ := z2 BK137
       go_wp2_with (first | (refine gL (some 46) rfl Try.func69 #[.int .i64 (wrap64 (a0_0 + a1_0))] ?_; (with_reducible refine (sat_Of.calls (wrap64 (a0_0 + a1_0)) t144 t145 _ A75.out).mono ?_); rintro e w79 ⟨rfl, hb⟩; refine ⟨_, rfl, ?_⟩; replace BK137 := cB BK137 hb; replace BK138 := cB BK138 hb; replace BK139 := cB BK139 hb; replace HB := Aside0.mk (below_step bl hb); (try clear hb); have hnb80 := NB139_138.out; have hnc80 := NB138_139.out; obtain ⟨hcz81_0, hcz81_1, hfz81_0, hfz81_1⟩ := z2 BK139))
       refine bodyPost_ret (results_cell_row rfl _ _ gb139 50 #[.int .i64 t144, .bool t145] (0, 0) _ rfl (by (with_reducible repeat (first | refine blk_drewN ?_ _ | refine blk_drew ?_ | refine blk_alloc ?_ _)); refine blk_put (cs := #[.int .i64 t144, .bool false]) ?_ 1 _ rfl; (with_reducible repeat (first | refine blk_drewN ?_ _ | refine blk_drew ?_ | refine blk_alloc ?_ _)); refine blk_put (cs := #[.int .i64 0, .bool false]) ?_ 0 _ rfl; exact uB <| BK139.out) Try.underlying50 rfl (by kernel_rfl)) rfl ?_
       exact ⟨re_, bl⟩
def cell_two.f (k : Nat) (a0_0 : Int) (a0_1 : Int) (a0_2 : Bool) (a0_3 : Int) (a0_4 : Int) (a1_0 : Int) (a1_1 : Int) (a1_2 : Bool) (a1_3 : Int) (a1_4 : Int) : Option (Int × Int × Bool × Int × Int) := (cell_Empty.f a1_0 a1_1 a1_2 a1_3 a1_4).bind fun t149 => (if t149 = true then (some (a0_0, a0_1, a0_2, a0_3, a0_4)) else ((cell_Empty.f a0_0 a0_1 a0_2 a0_3 a0_4).bind fun t150 => (if t150 = true then (some (a1_0, a1_1, a1_2, a1_3, a1_4)) else ((cell_counts.f a0_0 a1_0).bind fun t151 => ((sat_Add.f k a0_1 a0_2 a1_1 a1_2).bind fun bt152 => (some (t151, bt152.1, bt152.2, mn a0_3 a1_3, mx a0_4 a1_4)))))))
theorem cell_two.mono : ∀ a0 a1 a2 a3 a4 a5 a6 a7 a8 a9 k, LeO (cell_two.f k a0 a1 a2 a3 a4 a5 a6 a7 a8 a9) (cell_two.f (k + 1) a0 a1 a2 a3 a4 a5 a6 a7 a8 a9) := by
 intro a0 a1 a2 a3 a4 a5 a6 a7 a8 a9 k
 unfold cell_two.f
 exact lo
instance cell_two.mI {a0 a1 a2 a3 a4 a5 a6 a7 a8 a9 k} : LeC (cell_two.f k a0 a1 a2 a3 a4 a5 a6 a7 a8 a9) (cell_two.f (k + 1) a0 a1 a2 a3 a4 a5 a6 a7 a8 a9) := ⟨cell_two.mono _ _ _ _ _ _ _ _ _ _ _⟩
def cell_two.T5 : Bool × List (List Nat × List Nat) := (true, [([], []), ([0], [0]), ([], []), ([2], [2]), ([1, 3], [1, 3]), ([], []), ([5], [5]), ([], []), ([7], [7]), ([6, 8, 4], [6, 8]), ([], []), ([10], [10]), ([], []), ([12], [12]), ([11, 13], [11, 13]), ([], []), ([15], [15]), ([], []), ([17], [17]), ([16, 18], [16, 18]), ([4, 9, 14, 19], [4, 9, 14, 19]), ([20, 9, 0, 1, 2, 3, 4, 5, 6, 7, 8, 9, 10, 11, 12, 13, 14, 15, 16, 17, 18, 19, 20], [20])])
def cell_two.B5 : List Nat := [0, 1, 0, 4, 15, 0, 32, 0, 128, 511, 0, 1024, 0, 4096, 15360, 0, 32768, 0, 131072, 491520, 1048575, 2097151]
theorem cell_two.tab5 : rtab .any (opsOf Try.f61 5) = cell_two.T5 := by kernel_rfl
theorem cell_two.bits5 : waitsOk cell_two.T5.2 cell_two.B5 = true := by kernel_rfl
theorem cell_two.calls (k : Nat) (a0_0 : Int) (a0_1 : Int) (a0_2 : Bool) (a0_3 : Int) (a0_4 : Int) (a1_0 : Int) (a1_1 : Int) (a1_2 : Bool) (a1_3 : Int) (a1_4 : Int) (r1 : Int) (r2 : Int) (r3 : Bool) (r4 : Int) (r5 : Int) (w : World) (h : cell_two.f k a0_0 a0_1 a0_2 a0_3 a0_4 a1_0 a1_1 a1_2 a1_3 a1_4 = some (r1, r2, r3, r4, r5)) :
 Calls Try.prog 61 #[.agg #[.int .i64 a0_0, .int .i64 a0_1, .bool a0_2, .int .i64 a0_3, .int .i64 a0_4], .agg #[.int .i64 a1_0, .int .i64 a1_1, .bool a1_2, .int .i64 a1_3, .int .i64 a1_4]] w fun e w' => e = .returned (.agg #[.int .i64 r1, .int .i64 r2, .bool r3, .int .i64 r4, .int .i64 r5]) ∧ Below w.heap.size w w' := by
 have hu52 := Try.underlying52
 have hu50 := Try.underlying50
 have HB := Aside0.mk (Below.refl w.heap.size w)
 have H : ((cell_Empty.f a1_0 a1_1 a1_2 a1_3 a1_4).bind fun t149 => (if t149 = true then (some (a0_0, a0_1, a0_2, a0_3, a0_4)) else ((cell_Empty.f a0_0 a0_1 a0_2 a0_3 a0_4).bind fun t150 => (if t150 = true then (some (a1_0, a1_1, a1_2, a1_3, a1_4)) else ((cell_counts.f a0_0 a1_0).bind fun t151 => ((sat_Add.f k a0_1 a0_2 a1_1 a1_2).bind fun bt152 => (some (t151, bt152.1, bt152.2, mn a0_3 a1_3, mx a0_4 a1_4)))))))) = some (r1, r2, r3, r4, r5) := h
 clear h
 obtain ⟨t149, A3, H⟩ := bs H
 try dsimp only at H
 by_cases c4 : t149 = true
 ·
  subst c4
  rw [if_pos rfl] at H
  simp only [Option.some.injEq, Prod.mk.injEq] at H
  obtain ⟨rfl, rfl, rfl, rfl, rfl⟩ := H
  go_enter Try.func61, Try.ntmps61
  go_wp2_with (first | ((with_reducible refine gate_dst (N := 2) rfl ?_); refine bx (N := 2) #[.int .i64 a0_0, .int .i64 a0_1, .bool a0_2, .int .i64 a0_3, .int .i64 a0_4] 52 ?_; intro gb146 hg w5 hbox hb; have BK146 := Aside0.mk (hbox); have GW146 := gw hg (uW HB.out); have GE146 := GW146; replace HB := cW HB hb; clear hb hbox hg) | ((with_reducible refine gate_dst (N := 3) rfl ?_); refine bx (N := 3) #[.int .i64 a1_0, .int .i64 a1_1, .bool a1_2, .int .i64 a1_3, .int .i64 a1_4] 52 ?_; intro gb147 hg w6 hbox hb; have BK147 := Aside0.mk (hbox); have GW147 := gw hg bl; have GE147 := GW147; replace HB := Aside0.mk (below_step bl hb); have NB146_147 := Aside0.mk ((by rw [hg]; exact Nat.ne_of_lt (blk_lt (g := gb146) (o := .cells #[.int .i64 a0_0, .int .i64 a0_1, .bool a0_2, .int .i64 a0_3, .int .i64 a0_4] 52 (0, 0)) (uB BK146.out)) : gb146 ≠ gb147)); have NB147_146 := Aside0.mk ((by rw [hg]; exact Nat.ne_of_gt (blk_lt (g := gb146) (o := .cells #[.int .i64 a0_0, .int .i64 a0_1, .bool a0_2, .int .i64 a0_3, .int .i64 a0_4] 52 (0, 0)) (uB BK146.out)) : gb147 ≠ gb146)); replace BK146 := cB BK146 hb; clear hb hbox hg) | ((with_reducible refine gate_dst (N := 4) rfl ?_); refine bx (N := 4) #[.int .i64 0, .int .i64 0, .bool false, .int .i64 0, .int .i64 0] 52 ?_; intro gb148 hg w7 hbox hb; have BK148 := Aside0.mk (hbox); have GW148 := gw hg bl; have GE148 := GW148; replace HB := Aside0.mk (below_step bl hb); have NB146_148 := Aside0.mk ((by rw [hg]; exact Nat.ne_of_lt (blk_lt (g := gb146) (o := .cells #[.int .i64 a0_0, .int .i64 a0_1, .bool a0_2, .int .i64 a0_3, .int .i64 a0_4] 52 (0, 0)) (uB BK146.out)) : gb146 ≠ gb148)); have NB148_146 := Aside0.mk ((by rw [hg]; exact Nat.ne_of_gt (blk_lt (g := gb146) (o := .cells #[.int .i64 a0_0, .int .i64 a0_1, .bool a0_2, .int .i64 a0_3, .int .i64 a0_4] 52 (0, 0)) (uB BK146.out)) : gb148 ≠ gb146)); replace BK146 := cB BK146 hb; have NB147_148 := Aside0.mk ((by rw [hg]; exact Nat.ne_of_lt (blk_lt (g := gb147) (o := .cells #[.int .i64 a1_0, .int .i64 a1_1, .bool a1_2, .int .i64 a1_3, .int .i64 a1_4] 52 (0, 0)) (uB BK147.out)) : gb147 ≠ gb148)); have NB148_147 := Aside0.mk ((by rw [hg]; exact Nat.ne_of_gt (blk_lt (g := gb147) (o := .cells #[.int .i64 a1_0, .int .i64 a1_1, .bool a1_2, .int .i64 a1_3, .int .i64 a1_4] 52 (0, 0)) (uB BK147.out)) : gb148 ≠ gb147)); replace BK147 := cB BK147 hb; clear hb hbox hg; have hnb8 := NB147_146.out; have hnc8 := NB146_147.out; have hnb9 := NB147_148.out; have hnc9 := NB148_147.out; obtain ⟨hcz10_0, hcz10_1, hcz10_2, hcz10_3, hcz10_4, hfz10_0, hfz10_1, hfz10_2, hfz10_3, hfz10_4⟩ := z5 BK147) | (refine gL (some 7) rfl Try.func37 #[.agg #[.int .i64 a1_0, .int .i64 a1_1, .bool a1_2, .int .i64 a1_3, .int .i64 a1_4]] ?_; (with_reducible refine (cell_Empty.calls a1_0 a1_1 a1_2 a1_3 a1_4 true _ A3.out).mono ?_); rintro e w11 ⟨rfl, hb⟩; refine ⟨_, rfl, ?_⟩; replace BK146 := cB BK146 hb; replace BK147 := cB BK147 hb; replace BK148 := cB BK148 hb; replace HB := Aside0.mk (below_step bl hb); (try clear hb); have hnb12 := NB146_148.out; have hnc12 := NB148_146.out; obtain ⟨hcz13_0, hcz13_1, hcz13_2, hcz13_3, hcz13_4, hfz13_0, hfz13_1, hfz13_2, hfz13_3, hfz13_4⟩ := z5 BK146; obtain ⟨hcz14_0, hcz14_1, hcz14_2, hcz14_3, hcz14_4, hfz14_0, hfz14_1, hfz14_2, hfz14_3, hfz14_4⟩ := z5 BK148) | ((with_reducible refine gate_store (t := 52) (p := 4) rfl ?_); refine store_event (t := 52) (p := 4) (v := ?vo_w15) (w1 := (((((w11.setCell ⟨gb148, 0, none⟩ (.int .i64 a0_0)).setCell ⟨gb148, 1, none⟩ (.int .i64 a0_1)).setCell ⟨gb148, 2, none⟩ (.bool a0_2)).setCell ⟨gb148, 3, none⟩ (.int .i64 a0_3)).setCell ⟨gb148, 4, none⟩ (.int .i64 a0_4))) ?hg ?ho ?hn ?hr ?_; (case ho => rfl); (case hg => rfl); (case hn => rfl); (case hr => first | (go_simp; done) | (go_simp; rfl)); intro w15 hw; have n0_ : Aside0 (w15.heap[gb146]? = some (.cells #[.int .i64 a0_0, .int .i64 a0_1, .bool a0_2, .int .i64 a0_3, .int .i64 a0_4] 52 (0, 0))) := ⟨(by rw [hw]; exact (by (with_reducible repeat (first | refine blk_drewN ?_ _ | refine blk_drew ?_ | refine blk_alloc ?_ _)); refine blk_far ?_ NB146_148.out _; (with_reducible repeat (first | refine blk_drewN ?_ _ | refine blk_drew ?_ | refine blk_alloc ?_ _)); refine blk_far ?_ NB146_148.out _; (with_reducible repeat (first | refine blk_drewN ?_ _ | refine blk_drew ?_ | refine blk_alloc ?_ _)); refine blk_far ?_ NB146_148.out _; (with_reducible repeat (first | refine blk_drewN ?_ _ | refine blk_drew ?_ | refine blk_alloc ?_ _)); refine blk_far ?_ NB146_148.out _; (with_reducible repeat (first | refine blk_drewN ?_ _ | refine blk_drew ?_ | refine blk_alloc ?_ _)); refine blk_far ?_ NB146_148.out _; exact uB <| BK146.out))⟩; have n1_ : Aside0 (w15.heap[gb147]? = some (.cells #[.int .i64 a1_0, .int .i64 a1_1, .bool a1_2, .int .i64 a1_3, .int .i64 a1_4] 52 (0, 0))) := ⟨(by rw [hw]; exact (by (with_reducible repeat (first | refine blk_drewN ?_ _ | refine blk_drew ?_ | refine blk_alloc ?_ _)); refine blk_far ?_ NB147_148.out _; (with_reducible repeat (first | refine blk_drewN ?_ _ | refine blk_drew ?_ | refine blk_alloc ?_ _)); refine blk_far ?_ NB147_148.out _; (with_reducible repeat (first | refine blk_drewN ?_ _ | refine blk_drew ?_ | refine blk_alloc ?_ _)); refine blk_far ?_ NB147_148.out _; (with_reducible repeat (first | refine blk_drewN ?_ _ | refine blk_drew ?_ | refine blk_alloc ?_ _)); refine blk_far ?_ NB147_148.out _; (with_reducible repeat (first | refine blk_drewN ?_ _ | refine blk_drew ?_ | refine blk_alloc ?_ _)); refine blk_far ?_ NB147_148.out _; exact uB <| BK147.out))⟩; have n2_ : Aside0 (w15.heap[gb148]? = some (.cells #[.int .i64 a0_0, .int .i64 a0_1, .bool a0_2, .int .i64 a0_3, .int .i64 a0_4] 52 (0, 0))) := ⟨(by rw [hw]; exact (by (with_reducible repeat (first | refine blk_drewN ?_ _ | refine blk_drew ?_ | refine blk_alloc ?_ _)); refine blk_put (cs := #[.int .i64 a0_0, .int .i64 a0_1, .bool a0_2, .int .i64 a0_3, .int .i64 0]) ?_ 4 _ rfl; (with_reducible repeat (first | refine blk_drewN ?_ _ | refine blk_drew ?_ | refine blk_alloc ?_ _)); refine blk_put (cs := #[.int .i64 a0_0, .int .i64 a0_1, .bool a0_2, .int .i64 0, .int .i64 0]) ?_ 3 _ rfl; (with_reducible repeat (first | refine blk_drewN ?_ _ | refine blk_drew ?_ | refine blk_alloc ?_ _)); refine blk_put (cs := #[.int .i64 a0_0, .int .i64 a0_1, .bool false, .int .i64 0, .int .i64 0]) ?_ 2 _ rfl; (with_reducible repeat (first | refine blk_drewN ?_ _ | refine blk_drew ?_ | refine blk_alloc ?_ _)); refine blk_put (cs := #[.int .i64 a0_0, .int .i64 0, .bool false, .int .i64 0, .int .i64 0]) ?_ 1 _ rfl; (with_reducible repeat (first | refine blk_drewN ?_ _ | refine blk_drew ?_ | refine blk_alloc ?_ _)); refine blk_put (cs := #[.int .i64 0, .int .i64 0, .bool false, .int .i64 0, .int .i64 0]) ?_ 0 _ rfl; exact uB <| BK148.out))⟩; have n3_ : Aside0 (Below w.heap.size w w15) := ⟨(by rw [hw]; exact bl)⟩; clear hw; clear BK146; clear BK147; clear BK148; clear HB; have BK146 := n0_; have BK147 := n1_; have BK148 := n2_; have HB := n3_; clear n0_ n1_ n2_ n3_))
  refine bodyPost_ret (results_cell_row rfl _ _ gb148 52 #[.int .i64 a0_0, .int .i64 a0_1, .bool a0_2, .int .i64 a0_3, .int .i64 a0_4] (0, 0) _ rfl (uB BK148.out) Try.underlying52 rfl (by kernel_rfl)) rfl ?_
  exact ⟨re_, bl⟩
 ·
  replace c4 := Bool.eq_false_iff.mpr c4
  subst c4
  rw [if_neg (show ¬ (false = true) by decide)] at H
  obtain ⟨t150, A16, H⟩ := bs H
  try dsimp only at H
  by_cases c17 : t150 = true
  ·
   subst c17
   rw [if_pos rfl] at H
   simp only [Option.some.injEq, Prod.mk.injEq] at H
   obtain ⟨rfl, rfl, rfl, rfl, rfl⟩ := H
   go_enter Try.func61, Try.ntmps61
   go_wp2_with (first | ((with_reducible refine gate_dst (N := 2) rfl ?_); refine bx (N := 2) #[.int .i64 a0_0, .int .i64 a0_1, .bool a0_2, .int .i64 a0_3, .int .i64 a0_4] 52 ?_; intro gb146 hg w18 hbox hb; have BK146 := Aside0.mk (hbox); have GW146 := gw hg (uW HB.out); have GE146 := GW146; replace HB := cW HB hb; clear hb hbox hg) | ((with_reducible refine gate_dst (N := 3) rfl ?_); refine bx (N := 3) #[.int .i64 a1_0, .int .i64 a1_1, .bool a1_2, .int .i64 a1_3, .int .i64 a1_4] 52 ?_; intro gb147 hg w19 hbox hb; have BK147 := Aside0.mk (hbox); have GW147 := gw hg bl; have GE147 := GW147; replace HB := Aside0.mk (below_step bl hb); have NB146_147 := Aside0.mk ((by rw [hg]; exact Nat.ne_of_lt (blk_lt (g := gb146) (o := .cells #[.int .i64 a0_0, .int .i64 a0_1, .bool a0_2, .int .i64 a0_3, .int .i64 a0_4] 52 (0, 0)) (uB BK146.out)) : gb146 ≠ gb147)); have NB147_146 := Aside0.mk ((by rw [hg]; exact Nat.ne_of_gt (blk_lt (g := gb146) (o := .cells #[.int .i64 a0_0, .int .i64 a0_1, .bool a0_2, .int .i64 a0_3, .int .i64 a0_4] 52 (0, 0)) (uB BK146.out)) : gb147 ≠ gb146)); replace BK146 := cB BK146 hb; clear hb hbox hg) | ((with_reducible refine gate_dst (N := 4) rfl ?_); refine bx (N := 4) #[.int .i64 0, .int .i64 0, .bool false, .int .i64 0, .int .i64 0] 52 ?_; intro gb148 hg w20 hbox hb; have BK148 := Aside0.mk (hbox); have GW148 := gw hg bl; have GE148 := GW148; replace HB := Aside0.mk (below_step bl hb); have NB146_148 := Aside0.mk ((by rw [hg]; exact Nat.ne_of_lt (blk_lt (g := gb146) (o := .cells #[.int .i64 a0_0, .int .i64 a0_1, .bool a0_2, .int .i64 a0_3, .int .i64 a0_4] 52 (0, 0)) (uB BK146.out)) : gb146 ≠ gb148)); have NB148_146 := Aside0.mk ((by rw [hg]; exact Nat.ne_of_gt (blk_lt (g := gb146) (o := .cells #[.int .i64 a0_0, .int .i64 a0_1, .bool a0_2, .int .i64 a0_3, .int .i64 a0_4] 52 (0, 0)) (uB BK146.out)) : gb148 ≠ gb146)); replace BK146 := cB BK146 hb; have NB147_148 := Aside0.mk ((by rw [hg]; exact Nat.ne_of_lt (blk_lt (g := gb147) (o := .cells #[.int .i64 a1_0, .int .i64 a1_1, .bool a1_2, .int .i64 a1_3, .int .i64 a1_4] 52 (0, 0)) (uB BK147.out)) : gb147 ≠ gb148)); have NB148_147 := Aside0.mk ((by rw [hg]; exact Nat.ne_of_gt (blk_lt (g := gb147) (o := .cells #[.int .i64 a1_0, .int .i64 a1_1, .bool a1_2, .int .i64 a1_3, .int .i64 a1_4] 52 (0, 0)) (uB BK147.out)) : gb148 ≠ gb147)); replace BK147 := cB BK147 hb; clear hb hbox hg; have hnb21 := NB147_146.out; have hnc21 := NB146_147.out; have hnb22 := NB147_148.out; have hnc22 := NB148_147.out; obtain ⟨hcz23_0, hcz23_1, hcz23_2, hcz23_3, hcz23_4, hfz23_0, hfz23_1, hfz23_2, hfz23_3, hfz23_4⟩ := z5 BK147) | (refine gL (some 7) rfl Try.func37 #[.agg #[.int .i64 a1_0, .int .i64 a1_1, .bool a1_2, .int .i64 a1_3, .int .i64 a1_4]] ?_; (with_reducible refine (cell_Empty.calls a1_0 a1_1 a1_2 a1_3 a1_4 false _ A3.out).mono ?_); rintro e w24 ⟨rfl, hb⟩; refine ⟨_, rfl, ?_⟩; replace BK146 := cB BK146 hb; replace BK147 := cB BK147 hb; replace BK148 := cB BK148 hb; replace HB := Aside0.mk (below_step bl hb); (try clear hb); have hnb25 := NB146_148.out; have hnc25 := NB148_146.out; obtain ⟨hcz26_0, hcz26_1, hcz26_2, hcz26_3, hcz26_4, hfz26_0, hfz26_1, hfz26_2, hfz26_3, hfz26_4⟩ := z5 BK146) | (refine gL (some 11) rfl Try.func37 #[.agg #[.int .i64 a0_0, .int .i64 a0_1, .bool a0_2, .int .i64 a0_3, .int .i64 a0_4]] ?_; (with_reducible refine (cell_Empty.calls a0_0 a0_1 a0_2 a0_3 a0_4 true _ A16.out).mono ?_); rintro e w27 ⟨rfl, hb⟩; refine ⟨_, rfl, ?_⟩; replace BK146 := cB BK146 hb; replace BK147 := cB BK147 hb; replace BK148 := cB BK148 hb; replace HB := Aside0.mk (below_step bl hb); (try clear hb); obtain ⟨hcz28_0, hcz28_1, hcz28_2, hcz28_3, hcz28_4, hfz28_0, hfz28_1, hfz28_2, hfz28_3, hfz28_4⟩ := z5 BK147; obtain ⟨hcz29_0, hcz29_1, hcz29_2, hcz29_3, hcz29_4, hfz29_0, hfz29_1, hfz29_2, hfz29_3, hfz29_4⟩ := z5 BK148) | ((with_reducible refine gate_store (t := 52) (p := 4) rfl ?_); refine store_event (t := 52) (p := 4) (v := ?vo_w30) (w1 := (((((w27.setCell ⟨gb148, 0, none⟩ (.int .i64 a1_0)).setCell ⟨gb148, 1, none⟩ (.int .i64 a1_1)).setCell ⟨gb148, 2, none⟩ (.bool a1_2)).setCell ⟨gb148, 3, none⟩ (.int .i64 a1_3)).setCell ⟨gb148, 4, none⟩ (.int .i64 a1_4))) ?hg ?ho ?hn ?hr ?_; (case ho => rfl); (case hg => rfl); (case hn => rfl); (case hr => first | (go_simp; done) | (go_simp; rfl)); intro w30 hw; have n0_ : Aside0 (w30.heap[gb146]? = some (.cells #[.int .i64 a0_0, .int .i64 a0_1, .bool a0_2, .int .i64 a0_3, .int .i64 a0_4] 52 (0, 0))) := ⟨(by rw [hw]; exact (by (with_reducible repeat (first | refine blk_drewN ?_ _ | refine blk_drew ?_ | refine blk_alloc ?_ _)); refine blk_far ?_ NB146_148.out _; (with_reducible repeat (first | refine blk_drewN ?_ _ | refine blk_drew ?_ | refine blk_alloc ?_ _)); refine blk_far ?_ NB146_148.out _; (with_reducible repeat (first | refine blk_drewN ?_ _ | refine blk_drew ?_ | refine blk_alloc ?_ _)); refine blk_far ?_ NB146_148.out _; (with_reducible repeat (first | refine blk_drewN ?_ _ | refine blk_drew ?_ | refine blk_alloc ?_ _)); refine blk_far ?_ NB146_148.out _; (with_reducible repeat (first | refine blk_drewN ?_ _ | refine blk_drew ?_ | refine blk_alloc ?_ _)); refine blk_far ?_ NB146_148.out _; exact uB <| BK146.out))⟩; have n1_ : Aside0 (w30.heap[gb147]? = some (.cells #[.int .i64 a1_0, .int .i64 a1_1, .bool a1_2, .int .i64 a1_3, .int .i64 a1_4] 52 (0, 0))) := ⟨(by rw [hw]; exact (by (with_reducible repeat (first | refine blk_drewN ?_ _ | refine blk_drew ?_ | refine blk_alloc ?_ _)); refine blk_far ?_ NB147_148.out _; (with_reducible repeat (first | refine blk_drewN ?_ _ | refine blk_drew ?_ | refine blk_alloc ?_ _)); refine blk_far ?_ NB147_148.out _; (with_reducible repeat (first | refine blk_drewN ?_ _ | refine blk_drew ?_ | refine blk_alloc ?_ _)); refine blk_far ?_ NB147_148.out _; (with_reducible repeat (first | refine blk_drewN ?_ _ | refine blk_drew ?_ | refine blk_alloc ?_ _)); refine blk_far ?_ NB147_148.out _; (with_reducible repeat (first | refine blk_drewN ?_ _ | refine blk_drew ?_ | refine blk_alloc ?_ _)); refine blk_far ?_ NB147_148.out _; exact uB <| BK147.out))⟩; have n2_ : Aside0 (w30.heap[gb148]? = some (.cells #[.int .i64 a1_0, .int .i64 a1_1, .bool a1_2, .int .i64 a1_3, .int .i64 a1_4] 52 (0, 0))) := ⟨(by rw [hw]; exact (by (with_reducible repeat (first | refine blk_drewN ?_ _ | refine blk_drew ?_ | refine blk_alloc ?_ _)); refine blk_put (cs := #[.int .i64 a1_0, .int .i64 a1_1, .bool a1_2, .int .i64 a1_3, .int .i64 0]) ?_ 4 _ rfl; (with_reducible repeat (first | refine blk_drewN ?_ _ | refine blk_drew ?_ | refine blk_alloc ?_ _)); refine blk_put (cs := #[.int .i64 a1_0, .int .i64 a1_1, .bool a1_2, .int .i64 0, .int .i64 0]) ?_ 3 _ rfl; (with_reducible repeat (first | refine blk_drewN ?_ _ | refine blk_drew ?_ | refine blk_alloc ?_ _)); refine blk_put (cs := #[.int .i64 a1_0, .int .i64 a1_1, .bool false, .int .i64 0, .int .i64 0]) ?_ 2 _ rfl; (with_reducible repeat (first | refine blk_drewN ?_ _ | refine blk_drew ?_ | refine blk_alloc ?_ _)); refine blk_put (cs := #[.int .i64 a1_0, .int .i64 0, .bool false, .int .i64 0, .int .i64 0]) ?_ 1 _ rfl; (with_reducible repeat (first | refine blk_drewN ?_ _ | refine blk_drew ?_ | refine blk_alloc ?_ _)); refine blk_put (cs := #[.int .i64 0, .int .i64 0, .bool false, .int .i64 0, .int .i64 0]) ?_ 0 _ rfl; exact uB <| BK148.out))⟩; have n3_ : Aside0 (Below w.heap.size w w30) := ⟨(by rw [hw]; exact bl)⟩; clear hw; clear BK146; clear BK147; clear BK148; clear HB; have BK146 := n0_; have BK147 := n1_; have BK148 := n2_; have HB := n3_; clear n0_ n1_ n2_ n3_))
   refine bodyPost_ret (results_cell_row rfl _ _ gb148 52 #[.int .i64 a1_0, .int .i64 a1_1, .bool a1_2, .int .i64 a1_3, .int .i64 a1_4] (0, 0) _ rfl (uB BK148.out) Try.underlying52 rfl (by kernel_rfl)) rfl ?_
   exact ⟨re_, bl⟩
  ·
   replace c17 := Bool.eq_false_iff.mpr c17
   subst c17
   rw [if_neg (show ¬ (false = true) by decide)] at H
   obtain ⟨t151, A31, H⟩ := bs H
   try dsimp only at H
   obtain ⟨⟨t152, t153⟩, A32, H⟩ := bs H
   try dsimp only at H
   obtain ⟨ji33, hji33⟩ : ∃ j_ : Int, (mn a0_3 a1_3) = j_ := ⟨_, rfl⟩
   (first | rw [hji33] at H | simp only [hji33] at H)
   (try rw [hji33] at A3)
   (try rw [hji33] at A16)
   (try rw [hji33] at A31)
   (try rw [hji33] at A32)
   have hji33_ : (if a1_3 < a0_3 then a1_3 else a0_3) = ji33 := hji33
   obtain ⟨ji34, hji34⟩ : ∃ j_ : Int, (mx a0_4 a1_4) = j_ := ⟨_, rfl⟩
   (first | rw [hji34] at H | simp only [hji34] at H)
   (try rw [hji34] at A3)
   (try rw [hji34] at A16)
   (try rw [hji34] at A31)
   (try rw [hji34] at A32)
   have hji34_ : (if a0_4 < a1_4 then a1_4 else a0_4) = ji34 := hji34
   simp only [Option.some.injEq, Prod.mk.injEq] at H
   obtain ⟨rfl, rfl, rfl, rfl, rfl⟩ := H
   go_enter Try.func61, Try.ntmps61
   try go_wp2_with (first | ((with_reducible refine gate_dst (N := 2) rfl ?_); refine bx (N := 2) #[.int .i64 a0_0, .int .i64 a0_1, .bool a0_2, .int .i64 a0_3, .int .i64 a0_4] 52 ?_; intro gb146 hg w35 hbox hb; have BK146 := Aside0.mk (hbox); have GW146 := gw hg (uW HB.out); have GE146 := GW146; replace HB := cW HB hb; clear hb hbox hg) | ((with_reducible refine gate_dst (N := 3) rfl ?_); refine bx (N := 3) #[.int .i64 a1_0, .int .i64 a1_1, .bool a1_2, .int .i64 a1_3, .int .i64 a1_4] 52 ?_; intro gb147 hg w36 hbox hb; have BK147 := Aside0.mk (hbox); have GW147 := gw hg bl; have GE147 := GW147; replace HB := Aside0.mk (below_step bl hb); have NB146_147 := Aside0.mk ((by rw [hg]; exact Nat.ne_of_lt (blk_lt (g := gb146) (o := .cells #[.int .i64 a0_0, .int .i64 a0_1, .bool a0_2, .int .i64 a0_3, .int .i64 a0_4] 52 (0, 0)) (uB BK146.out)) : gb146 ≠ gb147)); have NB147_146 := Aside0.mk ((by rw [hg]; exact Nat.ne_of_gt (blk_lt (g := gb146) (o := .cells #[.int .i64 a0_0, .int .i64 a0_1, .bool a0_2, .int .i64 a0_3, .int .i64 a0_4] 52 (0, 0)) (uB BK146.out)) : gb147 ≠ gb146)); replace BK146 := cB BK146 hb; clear hb hbox hg) | ((with_reducible refine gate_dst (N := 4) rfl ?_); refine bx (N := 4) #[.int .i64 0, .int .i64 0, .bool false, .int .i64 0, .int .i64 0] 52 ?_; intro gb148 hg w37 hbox hb; have BK148 := Aside0.mk (hbox); have GW148 := gw hg bl; have GE148 := GW148; replace HB := Aside0.mk (below_step bl hb); have NB146_148 := Aside0.mk ((by rw [hg]; exact Nat.ne_of_lt (blk_lt (g := gb146) (o := .cells #[.int .i64 a0_0, .int .i64 a0_1, .bool a0_2, .int .i64 a0_3, .int .i64 a0_4] 52 (0, 0)) (uB BK146.out)) : gb146 ≠ gb148)); have NB148_146 := Aside0.mk ((by rw [hg]; exact Nat.ne_of_gt (blk_lt (g := gb146) (o := .cells #[.int .i64 a0_0, .int .i64 a0_1, .bool a0_2, .int .i64 a0_3, .int .i64 a0_4] 52 (0, 0)) (uB BK146.out)) : gb148 ≠ gb146)); replace BK146 := cB BK146 hb; have NB147_148 := Aside0.mk ((by rw [hg]; exact Nat.ne_of_lt (blk_lt (g := gb147) (o := .cells #[.int .i64 a1_0, .int .i64 a1_1, .bool a1_2, .int .i64 a1_3, .int .i64 a1_4] 52 (0, 0)) (uB BK147.out)) : gb147 ≠ gb148)); have NB148_147 := Aside0.mk ((by rw [hg]; exact Nat.ne_of_gt (blk_lt (g := gb147) (o := .cells #[.int .i64 a1_0, .int .i64 a1_1, .bool a1_2, .int .i64 a1_3, .int .i64 a1_4] 52 (0, 0)) (uB BK147.out)) : gb148 ≠ gb147)); replace BK147 := cB BK147 hb; clear hb hbox hg; have hnb38 := NB147_146.out; have hnc38 := NB146_147.out; have hnb39 := NB147_148.out; have hnc39 := NB148_147.out; obtain ⟨hcz40_0, hcz40_1, hcz40_2, hcz40_3, hcz40_4, hfz40_0, hfz40_1, hfz40_2, hfz40_3, hfz40_4⟩ := z5 BK147) | (refine gL (some 7) rfl Try.func37 #[.agg #[.int .i64 a1_0, .int .i64 a1_1, .bool a1_2, .int .i64 a1_3, .int .i64 a1_4]] ?_; (with_reducible refine (cell_Empty.calls a1_0 a1_1 a1_2 a1_3 a1_4 false _ A3.out).mono ?_); rintro e w41 ⟨rfl, hb⟩; refine ⟨_, rfl, ?_⟩; replace BK146 := cB BK146 hb; replace BK147 := cB BK147 hb; replace BK148 := cB BK148 hb; replace HB := Aside0.mk (below_step bl hb); (try clear hb); have hnb42 := NB146_148.out; have hnc42 := NB148_146.out; obtain ⟨hcz43_0, hcz43_1, hcz43_2, hcz43_3, hcz43_4, hfz43_0, hfz43_1, hfz43_2, hfz43_3, hfz43_4⟩ := z5 BK146) | (refine gL (some 11) rfl Try.func37 #[.agg #[.int .i64 a0_0, .int .i64 a0_1, .bool a0_2, .int .i64 a0_3, .int .i64 a0_4]] ?_; (with_reducible refine (cell_Empty.calls a0_0 a0_1 a0_2 a0_3 a0_4 false _ A16.out).mono ?_); rintro e w44 ⟨rfl, hb⟩; refine ⟨_, rfl, ?_⟩; replace BK146 := cB BK146 hb; replace BK147 := cB BK147 hb; replace BK148 := cB BK148 hb; replace HB := Aside0.mk (below_step bl hb); (try clear hb)))
   replace BK146 := Aside0.mk (blk_drew BK146.out)
   replace BK147 := Aside0.mk (blk_drew BK147.out)
   replace BK148 := Aside0.mk (blk_drew BK148.out)
   replace HB := Aside0.mk (below_drew1 HB.out)
   refine start_ (n := 22) (S := fun w' => w'.cell? ⟨gb146, 0, none⟩ = some (.int .i64 a0_0) ∧ w'.cell? ⟨gb146, 1, none⟩ = some (.int .i64 a0_1) ∧ w'.cell? ⟨gb146, 2, none⟩ = some (.bool a0_2) ∧ w'.cell? ⟨gb146, 3, none⟩ = some (.int .i64 a0_3) ∧ w'.cell? ⟨gb146, 4, none⟩ = some (.int .i64 a0_4) ∧ w'.cell? ⟨gb147, 0, none⟩ = some (.int .i64 a1_0) ∧ w'.cell? ⟨gb147, 1, none⟩ = some (.int .i64 a1_1) ∧ w'.cell? ⟨gb147, 2, none⟩ = some (.bool a1_2) ∧ w'.cell? ⟨gb147, 3, none⟩ = some (.int .i64 a1_3) ∧ w'.cell? ⟨gb147, 4, none⟩ = some (.int .i64 a1_4)) (ds := []) _ (by kernel_rfl) rfl rfl ⟨(blk_cell BK146.out 0).trans rfl, (blk_cell BK146.out 1).trans rfl, (blk_cell BK146.out 2).trans rfl, (blk_cell BK146.out 3).trans rfl, (blk_cell BK146.out 4).trans rfl, (blk_cell BK147.out 0).trans rfl, (blk_cell BK147.out 1).trans rfl, (blk_cell BK147.out 2).trans rfl, (blk_cell BK147.out 3).trans rfl, (blk_cell BK147.out 4).trans rfl⟩ (fun hHeld => ?_); refine with_tabW cell_two.tab5 cell_two.bits5 (fun HT_ HW_ => ?_)
   generalize w44.drew = w45 at BK146 BK147 BK148 HB hHeld ⊢
   refine p1 0 (some 13) ?_
   refine p1 2 (some 15) ?_
   refine p1 5 (some 18) ?_
   refine p1 7 (some 20) ?_
   refine p1 10 (some 23) ?_
   refine p1 12 (some 25) ?_
   refine p1 15 (some 28) ?_
   refine p1 17 (some 30) ?_
   refine t1 1 (some 14) rfl rfl hHeld (Or.inl ⟨by rfl, by rintro w' ⟨s0, s1, s2, s3, s4, s5, s6, s7, s8, s9⟩; go_simp; with_reducible rfl⟩) ?_
   refine t1 3 (some 16) rfl rfl hHeld (Or.inl ⟨by rfl, by rintro w' ⟨s0, s1, s2, s3, s4, s5, s6, s7, s8, s9⟩; go_simp; with_reducible rfl⟩) ?_
   refine t1 6 (some 19) rfl rfl hHeld (Or.inl ⟨by rfl, by rintro w' ⟨s0, s1, s2, s3, s4, s5, s6, s7, s8, s9⟩; go_simp; with_reducible rfl⟩) ?_
   refine t1 8 (some 21) rfl rfl hHeld (Or.inl ⟨by rfl, by rintro w' ⟨s0, s1, s2, s3, s4, s5, s6, s7, s8, s9⟩; go_simp; with_reducible rfl⟩) ?_
   refine t1 11 (some 24) rfl rfl hHeld (Or.inl ⟨by rfl, by rintro w' ⟨s0, s1, s2, s3, s4, s5, s6, s7, s8, s9⟩; go_simp; with_reducible rfl⟩) ?_
   refine t1 13 (some 26) rfl rfl hHeld (Or.inl ⟨by rfl, by rintro w' ⟨s0, s1, s2, s3, s4, s5, s6, s7, s8, s9⟩; go_simp; with_reducible rfl⟩) ?_
   refine p1 14 (some 27) ?_
   refine t1 16 (some 29) rfl rfl hHeld (Or.inl ⟨by rfl, by rintro w' ⟨s0, s1, s2, s3, s4, s5, s6, s7, s8, s9⟩; go_simp; with_reducible rfl⟩) ?_
   refine t1 18 (some 31) rfl rfl hHeld (Or.inl ⟨by rfl, by rintro w' ⟨s0, s1, s2, s3, s4, s5, s6, s7, s8, s9⟩; go_simp; with_reducible rfl⟩) ?_
   refine p1 19 (some 32) ?_
   refine o1 4 (some 17) rfl rfl (fun K hK => ?_)
   refine gS Try.func67 #[.int .i64 a0_0, .int .i64 a1_0] ?_
   with_reducible refine (cell_counts.calls a0_0 a1_0 t151 _ A31.out).mono ?_
   rintro e w' ⟨rfl, ⟨nd, rfl⟩⟩
   refine ⟨_, rfl, ?_⟩
   refine hK.out _ _ ⟨(blk_cell BK146.out 0).trans rfl, (blk_cell BK146.out 1).trans rfl, (blk_cell BK146.out 2).trans rfl, (blk_cell BK146.out 3).trans rfl, (blk_cell BK146.out 4).trans rfl, (blk_cell BK147.out 0).trans rfl, (blk_cell BK147.out 1).trans rfl, (blk_cell BK147.out 2).trans rfl, (blk_cell BK147.out 3).trans rfl, (blk_cell BK147.out 4).trans rfl⟩ (fun hHeld => ?_)
   clear hK K
   refine norm_ (a' := ?_) ?_ ?_
   rotate_left
   ·
    show Act.put _ (some 17) _ = _
    simp only [Act.put, List.setIfInBounds_toArray, List.set_cons_zero, List.set_cons_succ, i64_w, i32_w]
    rfl
   refine o1 9 (some 22) rfl rfl (fun K hK => ?_)
   refine gS Try.func68 #[.agg #[.int .i64 a0_1, .bool a0_2], .agg #[.int .i64 a1_1, .bool a1_2]] ?_
   with_reducible refine (sat_Add.calls k a0_1 a0_2 a1_1 a1_2 t152 t153 _ A32.out).mono ?_
   rintro e w46 ⟨rfl, hb⟩
   refine ⟨_, rfl, ?_⟩
   replace BK146 := cB BK146 hb
   replace BK147 := cB BK147 hb
   replace BK148 := cB BK148 hb
   replace HB := Aside0.mk (below_step bl hb)
   (try clear hb)
   refine hK.out _ _ ⟨(blk_cell BK146.out 0).trans rfl, (blk_cell BK146.out 1).trans rfl, (blk_cell BK146.out 2).trans rfl, (blk_cell BK146.out 3).trans rfl, (blk_cell BK146.out 4).trans rfl, (blk_cell BK147.out 0).trans rfl, (blk_cell BK147.out 1).trans rfl, (blk_cell BK147.out 2).trans rfl, (blk_cell BK147.out 3).trans rfl, (blk_cell BK147.out 4).trans rfl⟩ (fun hHeld => ?_)
   clear hK K
   refine norm_ (a' := ?_) ?_ ?_
   rotate_left
   ·
    show Act.put _ (some 22) _ = _
    simp only [Act.put, List.setIfInBounds_toArray, List.set_cons_zero, List.set_cons_succ, i64_w, i32_w]
    rfl
   refine p1 20 (some 33) ?_
   refine o1 21 none rfl rfl (fun K hK => ?_)
   have hs47 : w46.cell? ⟨gb148, 0, none⟩ = some (.int .i64 0) := (blk_cell BK148.out 0).trans rfl
   have hfs47 := blk_frozen BK148.out 0
   have hns47_0 := NB146_148.out
   have hns47_1 := NB147_148.out
   have hms47_0 := NB148_146.out
   have hms47_1 := NB148_147.out
   have hs48 : w46.cell? ⟨gb148, 1, none⟩ = some (.int .i64 0) := (blk_cell BK148.out 1).trans rfl
   have hfs48 := blk_frozen BK148.out 1
   have hns48_0 := NB146_148.out
   have hns48_1 := NB147_148.out
   have hms48_0 := NB148_146.out
   have hms48_1 := NB148_147.out
   have hs49 : w46.cell? ⟨gb148, 2, none⟩ = some (.bool false) := (blk_cell BK148.out 2).trans rfl
   have hfs49 := blk_frozen BK148.out 2
   have hns49_0 := NB146_148.out
   have hns49_1 := NB147_148.out
   have hms49_0 := NB148_146.out
   have hms49_1 := NB148_147.out
   have hs50 : w46.cell? ⟨gb148, 3, none⟩ = some (.int .i64 0) := (blk_cell BK148.out 3).trans rfl
   have hfs50 := blk_frozen BK148.out 3
   have hns50_0 := NB146_148.out
   have hns50_1 := NB147_148.out
   have hms50_0 := NB148_146.out
   have hms50_1 := NB148_147.out
   have hs51 : w46.cell? ⟨gb148, 4, none⟩ = some (.int .i64 0) := (blk_cell BK148.out 4).trans rfl
   have hfs51 := blk_frozen BK148.out 4
   have hns51_0 := NB146_148.out
   have hns51_1 := NB147_148.out
   have hms51_0 := NB148_146.out
   have hms51_1 := NB148_147.out
   refine skip_ (w1 := ?_) (by rfl) rfl ?_ ?_
   rotate_left
   ·
    go_simp
    rfl
   refine hK.out _ _ ⟨(ct NB146_148.out ((ct NB146_148.out ((ct NB146_148.out ((ct NB146_148.out ((ct NB146_148.out (hHeld.1)))))))))), (ct NB146_148.out ((ct NB146_148.out ((ct NB146_148.out ((ct NB146_148.out ((ct NB146_148.out (hHeld.2.1)))))))))), (ct NB146_148.out ((ct NB146_148.out ((ct NB146_148.out ((ct NB146_148.out ((ct NB146_148.out (hHeld.2.2.1)))))))))), (ct NB146_148.out ((ct NB146_148.out ((ct NB146_148.out ((ct NB146_148.out ((ct NB146_148.out (hHeld.2.2.2.1)))))))))), (ct NB146_148.out ((ct NB146_148.out ((ct NB146_148.out ((ct NB146_148.out ((ct NB146_148.out (hHeld.2.2.2.2.1)))))))))), (ct NB147_148.out ((ct NB147_148.out ((ct NB147_148.out ((ct NB147_148.out ((ct NB147_148.out (hHeld.2.2.2.2.2.1)))))))))), (ct NB147_148.out ((ct NB147_148.out ((ct NB147_148.out ((ct NB147_148.out ((ct NB147_148.out (hHeld.2.2.2.2.2.2.1)))))))))), (ct NB147_148.out ((ct NB147_148.out ((ct NB147_148.out ((ct NB147_148.out ((ct NB147_148.out (hHeld.2.2.2.2.2.2.2.1)))))))))), (ct NB147_148.out ((ct NB147_148.out ((ct NB147_148.out ((ct NB147_148.out ((ct NB147_148.out (hHeld.2.2.2.2.2.2.2.2.1)))))))))), (ct NB147_148.out ((ct NB147_148.out ((ct NB147_148.out ((ct NB147_148.out ((ct NB147_148.out (hHeld.2.2.2.2.2.2.2.2.2))))))))))⟩ (fun hHeld => ?_)
   clear hK K
   refine done_ (done_of HT_.out (by kernel_rfl)) ?_
   try go_wp2
   refine bodyPost_ret (results_cell_row rfl _ _ gb148 52 #[.int .i64 t151, .int .i64 t152, .bool t153, .int .i64 ji33, .int .i64 ji34] (0, 0) _ rfl (by (with_reducible repeat (first | refine blk_drewN ?_ _ | refine blk_drew ?_ | refine blk_alloc ?_ _)); refine blk_put (cs := #[.int .i64 t151, .int .i64 t152, .bool t153, .int .i64 ji33, .int .i64 0]) ?_ 4 _ rfl; (with_reducible repeat (first | refine blk_drewN ?_ _ | refine blk_drew ?_ | refine blk_alloc ?_ _)); refine blk_put (cs := #[.int .i64 t151, .int .i64 t152, .bool t153, .int .i64 0, .int .i64 0]) ?_ 3 _ rfl; (with_reducible repeat (first | refine blk_drewN ?_ _ | refine blk_drew ?_ | refine blk_alloc ?_ _)); refine blk_put (cs := #[.int .i64 t151, .int .i64 t152, .bool false, .int .i64 0, .int .i64 0]) ?_ 2 _ rfl; (with_reducible repeat (first | refine blk_drewN ?_ _ | refine blk_drew ?_ | refine blk_alloc ?_ _)); refine blk_put (cs := #[.int .i64 t151, .int .i64 0, .bool false, .int .i64 0, .int .i64 0]) ?_ 1 _ rfl; (with_reducible repeat (first | refine blk_drewN ?_ _ | refine blk_drew ?_ | refine blk_alloc ?_ _)); refine blk_put (cs := #[.int .i64 0, .int .i64 0, .bool false, .int .i64 0, .int .i64 0]) ?_ 0 _ rfl; exact uB <| BK148.out) Try.underlying52 rfl (by kernel_rfl)) rfl ?_
   exact ⟨by first | rfl | (simp [errW_none, errW_some] <;> rfl) | (simp only [← hji33, ← hji34]; first | rfl | (simp [errW_none, errW_some] <;> rfl)) | (simp [*, errW_none, errW_some] <;> rfl), bl⟩
def cell_single.f (a0 : Int) : Option (Int × Int × Bool × Int × Int) := (sat_Of.f a0).bind fun bt155 => (some (1, bt155.1, bt155.2, a0, a0))
theorem cell_single.calls (a0 : Int) (r1 : Int) (r2 : Int) (r3 : Bool) (r4 : Int) (r5 : Int) (w : World) (h : cell_single.f a0 = some (r1, r2, r3, r4, r5)) :
 Calls Try.prog 62 #[.int .i64 a0] w fun e w' => e = .returned (.agg #[.int .i64 r1, .int .i64 r2, .bool r3, .int .i64 r4, .int .i64 r5]) ∧ Below w.heap.size w w' := by
 have hu52 := Try.underlying52
 have HB := Aside0.mk (Below.refl w.heap.size w)
 have H : ((sat_Of.f a0).bind fun bt155 => (some (1, bt155.1, bt155.2, a0, a0))) = some (r1, r2, r3, r4, r5) := h
 clear h
 obtain ⟨⟨t155, t156⟩, A2, H⟩ := bs H
 try dsimp only at H
 simp only [Option.some.injEq, Prod.mk.injEq] at H
 obtain ⟨rfl, rfl, rfl, rfl, rfl⟩ := H
 go_enter Try.func62, Try.ntmps62
 go_wp2_with (first | ((with_reducible refine gate_dst (N := 2) rfl ?_); refine bx (N := 2) #[.int .i64 0, .int .i64 0, .bool false, .int .i64 0, .int .i64 0] 52 ?_; intro gb154 hg w3 hbox hb; have BK154 := Aside0.mk (hbox); have GW154 := gw hg (uW HB.out); have GE154 := GW154; replace HB := cW HB hb; clear hb hbox hg) | (refine gL (some 4) rfl Try.func69 #[.int .i64 a0] ?_; (with_reducible refine (sat_Of.calls a0 t155 t156 _ A2.out).mono ?_); rintro e w4 ⟨rfl, hb⟩; refine ⟨_, rfl, ?_⟩; replace BK154 := cB BK154 hb; replace HB := Aside0.mk (below_step bl hb); (try clear hb); obtain ⟨hcz5_0, hcz5_1, hcz5_2, hcz5_3, hcz5_4, hfz5_0, hfz5_1, hfz5_2, hfz5_3, hfz5_4⟩ := z5 BK154) | ((with_reducible refine gate_store (t := 52) (p := 2) rfl ?_); refine store_event (t := 52) (p := 2) (v := ?vo_w6) (w1 := (((((w4.setCell ⟨gb154, 0, none⟩ (.int .i64 1)).setCell ⟨gb154, 1, none⟩ (.int .i64 t155)).setCell ⟨gb154, 2, none⟩ (.bool t156)).setCell ⟨gb154, 3, none⟩ (.int .i64 a0)).setCell ⟨gb154, 4, none⟩ (.int .i64 a0))) ?hg ?ho ?hn ?hr ?_; (case ho => rfl); (case hg => rfl); (case hn => rfl); (case hr => first | (go_simp; done) | (go_simp; rfl)); intro w6 hw; have n0_ : Aside0 (w6.heap[gb154]? = some (.cells #[.int .i64 1, .int .i64 t155, .bool t156, .int .i64 a0, .int .i64 a0] 52 (0, 0))) := ⟨(by rw [hw]; exact (by (with_reducible repeat (first | refine blk_drewN ?_ _ | refine blk_drew ?_ | refine blk_alloc ?_ _)); refine blk_put (cs := #[.int .i64 1, .int .i64 t155, .bool t156, .int .i64 a0, .int .i64 0]) ?_ 4 _ rfl; (with_reducible repeat (first | refine blk_drewN ?_ _ | refine blk_drew ?_ | refine blk_alloc ?_ _)); refine blk_put (cs := #[.int .i64 1, .int .i64 t155, .bool t156, .int .i64 0, .int .i64 0]) ?_ 3 _ rfl; (with_reducible repeat (first | refine blk_drewN ?_ _ | refine blk_drew ?_ | refine blk_alloc ?_ _)); refine blk_put (cs := #[.int .i64 1, .int .i64 t155, .bool false, .int .i64 0, .int .i64 0]) ?_ 2 _ rfl; (with_reducible repeat (first | refine blk_drewN ?_ _ | refine blk_drew ?_ | refine blk_alloc ?_ _)); refine blk_put (cs := #[.int .i64 1, .int .i64 0, .bool false, .int .i64 0, .int .i64 0]) ?_ 1 _ rfl; (with_reducible repeat (first | refine blk_drewN ?_ _ | refine blk_drew ?_ | refine blk_alloc ?_ _)); refine blk_put (cs := #[.int .i64 0, .int .i64 0, .bool false, .int .i64 0, .int .i64 0]) ?_ 0 _ rfl; exact uB <| BK154.out))⟩; have n1_ : Aside0 (Below w.heap.size w w6) := ⟨(by rw [hw]; exact bl)⟩; clear hw; clear BK154; clear HB; have BK154 := n0_; have HB := n1_; clear n0_ n1_))
 refine bodyPost_ret (results_cell_row rfl _ _ gb154 52 #[.int .i64 1, .int .i64 t155, .bool t156, .int .i64 a0, .int .i64 a0] (0, 0) _ rfl (uB BK154.out) Try.underlying52 rfl (by kernel_rfl)) rfl ?_
 exact ⟨re_, bl⟩
def cell_Fold.f (k : Nat) (a0_0 : Int) (a0_1 : Int) (a0_2 : Bool) (a0_3 : Int) (a0_4 : Int) (a1 : Int) : Option (Int × Int × Bool × Int × Int) := (cell_single.f a1).bind fun bt159 => ((cell_two.f k a0_0 a0_1 a0_2 a0_3 a0_4 bt159.1 bt159.2.1 bt159.2.2.1 bt159.2.2.2.1 bt159.2.2.2.2).bind fun bt164 => (some (bt164.1, bt164.2.1, bt164.2.2.1, bt164.2.2.2.1, bt164.2.2.2.2)))
theorem cell_Fold.mono : ∀ a0 a1 a2 a3 a4 a5 k, LeO (cell_Fold.f k a0 a1 a2 a3 a4 a5) (cell_Fold.f (k + 1) a0 a1 a2 a3 a4 a5) := by
 intro a0 a1 a2 a3 a4 a5 k
 unfold cell_Fold.f
 exact lo
instance cell_Fold.mI {a0 a1 a2 a3 a4 a5 k} : LeC (cell_Fold.f k a0 a1 a2 a3 a4 a5) (cell_Fold.f (k + 1) a0 a1 a2 a3 a4 a5) := ⟨cell_Fold.mono _ _ _ _ _ _ _⟩
theorem cell_Fold.calls (k : Nat) (a0_0 : Int) (a0_1 : Int) (a0_2 : Bool) (a0_3 : Int) (a0_4 : Int) (a1 : Int) (r1 : Int) (r2 : Int) (r3 : Bool) (r4 : Int) (r5 : Int) (w : World) (h : cell_Fold.f k a0_0 a0_1 a0_2 a0_3 a0_4 a1 = some (r1, r2, r3, r4, r5)) :
 Calls Try.prog 50 #[.agg #[.int .i64 a0_0, .int .i64 a0_1, .bool a0_2, .int .i64 a0_3, .int .i64 a0_4], .int .i64 a1] w fun e w' => e = .returned (.agg #[.int .i64 r1, .int .i64 r2, .bool r3, .int .i64 r4, .int .i64 r5]) ∧ Below w.heap.size w w' := by
 have hu52 := Try.underlying52
 have HB := Aside0.mk (Below.refl w.heap.size w)
 have H : ((cell_single.f a1).bind fun bt159 => ((cell_two.f k a0_0 a0_1 a0_2 a0_3 a0_4 bt159.1 bt159.2.1 bt159.2.2.1 bt159.2.2.2.1 bt159.2.2.2.2).bind fun bt164 => (some (bt164.1, bt164.2.1, bt164.2.2.1, bt164.2.2.2.1, bt164.2.2.2.2)))) = some (r1, r2, r3, r4, r5) := h
 clear h
 obtain ⟨⟨t159, t160, t161, t162, t163⟩, A3, H⟩ := bs H
 try dsimp only at H
 obtain ⟨⟨t164, t165, t166, t167, t168⟩, A4, H⟩ := bs H
 try dsimp only at H
 simp only [Option.some.injEq, Prod.mk.injEq] at H
 obtain ⟨rfl, rfl, rfl, rfl, rfl⟩ := H
 go_enter Try.func50, Try.ntmps50
 try go_wp2_with (first | ((with_reducible refine gate_dst (N := 2) rfl ?_); refine bx (N := 2) #[.int .i64 a0_0, .int .i64 a0_1, .bool a0_2, .int .i64 a0_3, .int .i64 a0_4] 52 ?_; intro gb157 hg w5 hbox hb; have BK157 := Aside0.mk (hbox); have GW157 := gw hg (uW HB.out); have GE157 := GW157; replace HB := cW HB hb; clear hb hbox hg) | ((with_reducible refine gate_dst (N := 4) rfl ?_); refine bx (N := 4) #[.int .i64 0, .int .i64 0, .bool false, .int .i64 0, .int .i64 0] 52 ?_; intro gb158 hg w6 hbox hb; have BK158 := Aside0.mk (hbox); have GW158 := gw hg bl; have GE158 := GW158; replace HB := Aside0.mk (below_step bl hb); have NB157_158 := Aside0.mk ((by rw [hg]; exact Nat.ne_of_lt (blk_lt (g := gb157) (o := .cells #[.int .i64 a0_0, .int .i64 a0_1, .bool a0_2, .int .i64 a0_3, .int .i64 a0_4] 52 (0, 0)) (uB BK157.out)) : gb157 ≠ gb158)); have NB158_157 := Aside0.mk ((by rw [hg]; exact Nat.ne_of_gt (blk_lt (g := gb157) (o := .cells #[.int .i64 a0_0, .int .i64 a0_1, .bool a0_2, .int .i64 a0_3, .int .i64 a0_4] 52 (0, 0)) (uB BK157.out)) : gb158 ≠ gb157)); replace BK157 := cB BK157 hb; clear hb hbox hg))
 replace BK157 := Aside0.mk (blk_drew BK157.out)
 replace BK158 := Aside0.mk (blk_drew BK158.out)
 replace HB := Aside0.mk (below_drew1 HB.out)
 refine start_ (n := 5) (S := fun w' => w'.cell? ⟨gb157, 0, none⟩ = some (.int .i64 a0_0) ∧ w'.cell? ⟨gb157, 1, none⟩ = some (.int .i64 a0_1) ∧ w'.cell? ⟨gb157, 2, none⟩ = some (.bool a0_2) ∧ w'.cell? ⟨gb157, 3, none⟩ = some (.int .i64 a0_3) ∧ w'.cell? ⟨gb157, 4, none⟩ = some (.int .i64 a0_4)) (ds := []) _ (by kernel_rfl) rfl rfl ⟨(blk_cell BK157.out 0).trans rfl, (blk_cell BK157.out 1).trans rfl, (blk_cell BK157.out 2).trans rfl, (blk_cell BK157.out 3).trans rfl, (blk_cell BK157.out 4).trans rfl⟩ (fun hHeld => ?_)
 generalize w6.drew = w7 at BK157 BK158 HB hHeld ⊢
 refine pure_ (i := 1) (N := some 6) (v := ?_) (a' := ?_) #[false, true, false, false, false] rfl rfl (by kernel_rfl) (fun _ _ _ h => h) (Or.inl ⟨by rfl, ?_⟩) ?_ ?_
 rotate_left
 ·
  intro w'
  go_simp
  with_reducible rfl
 rotate_left
 ·
  simp only [Act.put, List.setIfInBounds_toArray, List.set_cons_zero, List.set_cons_succ, i64_w, i32_w]
  rfl
 refine take_ (i := 0) (N := some 5) (v := ?_) (a' := ?_) #[true, true, false, false, false] rfl rfl (by kernel_rfl) (fun _ _ _ h => h) (Or.inl ⟨by rfl, ?_⟩) hHeld ?_ ?_
 rotate_left
 ·
  rintro w' ⟨s0, s1, s2, s3, s4⟩
  go_simp
  with_reducible rfl
 rotate_left
 ·
  simp only [Act.put, List.setIfInBounds_toArray, List.set_cons_zero, List.set_cons_succ, i64_w, i32_w]
  rfl
 refine one_ (i := 2) (N := some 7) #[true, true, true, false, false] rfl rfl (by kernel_rfl) (by decide) (fun K hK => ?_)
 refine gS Try.func62 #[.int .i64 a1] ?_
 with_reducible refine (cell_single.calls a1 t159 t160 t161 t162 t163 _ A3.out).mono ?_
 rintro e w8 ⟨rfl, hb⟩
 refine ⟨_, rfl, ?_⟩
 replace BK157 := cB BK157 hb
 replace BK158 := cB BK158 hb
 replace HB := Aside0.mk (below_step bl hb)
 (try clear hb)
 refine hK.out _ _ ⟨(blk_cell BK157.out 0).trans rfl, (blk_cell BK157.out 1).trans rfl, (blk_cell BK157.out 2).trans rfl, (blk_cell BK157.out 3).trans rfl, (blk_cell BK157.out 4).trans rfl⟩ (fun hHeld => ?_)
 clear hK K
 refine norm_ (a' := ?_) ?_ ?_
 rotate_left
 ·
  show Act.put _ (some 7) _ = _
  simp only [Act.put, List.setIfInBounds_toArray, List.set_cons_zero, List.set_cons_succ, i64_w, i32_w]
  rfl
 refine one_ (i := 3) (N := some 8) #[true, true, true, true, false] rfl rfl (by kernel_rfl) (by decide) (fun K hK => ?_)
 refine gS Try.func61 #[.agg #[.int .i64 a0_0, .int .i64 a0_1, .bool a0_2, .int .i64 a0_3, .int .i64 a0_4], .agg #[.int .i64 t159, .int .i64 t160, .bool t161, .int .i64 t162, .int .i64 t163]] ?_
 with_reducible refine (cell_two.calls k a0_0 a0_1 a0_2 a0_3 a0_4 t159 t160 t161 t162 t163 t164 t165 t166 t167 t168 _ A4.out).mono ?_
 rintro e w9 ⟨rfl, hb⟩
 refine ⟨_, rfl, ?_⟩
 replace BK157 := cB BK157 hb
 replace BK158 := cB BK158 hb
 replace HB := Aside0.mk (below_step bl hb)
 (try clear hb)
 refine hK.out _ _ ⟨(blk_cell BK157.out 0).trans rfl, (blk_cell BK157.out 1).trans rfl, (blk_cell BK157.out 2).trans rfl, (blk_cell BK157.out 3).trans rfl, (blk_cell BK157.out 4).trans rfl⟩ (fun hHeld => ?_)
 clear hK K
 refine norm_ (a' := ?_) ?_ ?_
 rotate_left
 ·
  show Act.put _ (some 8) _ = _
  simp only [Act.put, List.setIfInBounds_toArray, List.set_cons_zero, List.set_cons_succ, i64_w, i32_w]
  rfl
 refine one_ (i := 4) (N := none) #[true, true, true, true, true] rfl rfl (by kernel_rfl) (by decide) (fun K hK => ?_)
 have hs10 : w9.cell? ⟨gb158, 0, none⟩ = some (.int .i64 0) := (blk_cell BK158.out 0).trans rfl
 have hfs10 := blk_frozen BK158.out 0
 have hns10_0 := NB157_158.out
 have hms10_0 := NB158_157.out
 have hs11 : w9.cell? ⟨gb158, 1, none⟩ = some (.int .i64 0) := (blk_cell BK158.out 1).trans rfl
 have hfs11 := blk_frozen BK158.out 1
 have hns11_0 := NB157_158.out
 have hms11_0 := NB158_157.out
 have hs12 : w9.cell? ⟨gb158, 2, none⟩ = some (.bool false) := (blk_cell BK158.out 2).trans rfl
 have hfs12 := blk_frozen BK158.out 2
 have hns12_0 := NB157_158.out
 have hms12_0 := NB158_157.out
 have hs13 : w9.cell? ⟨gb158, 3, none⟩ = some (.int .i64 0) := (blk_cell BK158.out 3).trans rfl
 have hfs13 := blk_frozen BK158.out 3
 have hns13_0 := NB157_158.out
 have hms13_0 := NB158_157.out
 have hs14 : w9.cell? ⟨gb158, 4, none⟩ = some (.int .i64 0) := (blk_cell BK158.out 4).trans rfl
 have hfs14 := blk_frozen BK158.out 4
 have hns14_0 := NB157_158.out
 have hms14_0 := NB158_157.out
 refine skip_ (w1 := ?_) (by rfl) rfl ?_ ?_
 rotate_left
 ·
  go_simp
  rfl
 refine hK.out _ _ ⟨(ct NB157_158.out ((ct NB157_158.out ((ct NB157_158.out ((ct NB157_158.out ((ct NB157_158.out (hHeld.1)))))))))), (ct NB157_158.out ((ct NB157_158.out ((ct NB157_158.out ((ct NB157_158.out ((ct NB157_158.out (hHeld.2.1)))))))))), (ct NB157_158.out ((ct NB157_158.out ((ct NB157_158.out ((ct NB157_158.out ((ct NB157_158.out (hHeld.2.2.1)))))))))), (ct NB157_158.out ((ct NB157_158.out ((ct NB157_158.out ((ct NB157_158.out ((ct NB157_158.out (hHeld.2.2.2.1)))))))))), (ct NB157_158.out ((ct NB157_158.out ((ct NB157_158.out ((ct NB157_158.out ((ct NB157_158.out (hHeld.2.2.2.2))))))))))⟩ (fun hHeld => ?_)
 clear hK K
 refine done_ (by kernel_rfl) ?_
 try go_wp2
 refine bodyPost_ret (results_cell_row rfl _ _ gb158 52 #[.int .i64 t164, .int .i64 t165, .bool t166, .int .i64 t167, .int .i64 t168] (0, 0) _ rfl (by (with_reducible repeat (first | refine blk_drewN ?_ _ | refine blk_drew ?_ | refine blk_alloc ?_ _)); refine blk_put (cs := #[.int .i64 t164, .int .i64 t165, .bool t166, .int .i64 t167, .int .i64 0]) ?_ 4 _ rfl; (with_reducible repeat (first | refine blk_drewN ?_ _ | refine blk_drew ?_ | refine blk_alloc ?_ _)); refine blk_put (cs := #[.int .i64 t164, .int .i64 t165, .bool t166, .int .i64 0, .int .i64 0]) ?_ 3 _ rfl; (with_reducible repeat (first | refine blk_drewN ?_ _ | refine blk_drew ?_ | refine blk_alloc ?_ _)); refine blk_put (cs := #[.int .i64 t164, .int .i64 t165, .bool false, .int .i64 0, .int .i64 0]) ?_ 2 _ rfl; (with_reducible repeat (first | refine blk_drewN ?_ _ | refine blk_drew ?_ | refine blk_alloc ?_ _)); refine blk_put (cs := #[.int .i64 t164, .int .i64 0, .bool false, .int .i64 0, .int .i64 0]) ?_ 1 _ rfl; (with_reducible repeat (first | refine blk_drewN ?_ _ | refine blk_drew ?_ | refine blk_alloc ?_ _)); refine blk_put (cs := #[.int .i64 0, .int .i64 0, .bool false, .int .i64 0, .int .i64 0]) ?_ 0 _ rfl; exact uB <| BK158.out) Try.underlying52 rfl (by kernel_rfl)) rfl ?_
 exact ⟨re_, bl⟩
end Go.Proofs.Ytofaindjbhmopaa.X
