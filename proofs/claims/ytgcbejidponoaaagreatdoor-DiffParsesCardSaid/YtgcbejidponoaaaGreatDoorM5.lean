/- Printed by a program of this session's own: what functions of the program compute, and that the machine computes it. No condition of its own. -/
import Derived.Test.YtgcbejidponoaaaGreatDoorM3
import Derived.Test.YtgcbejidponoaaaGreatDoorM4
namespace Go.Proofs.YtgcbejidponoaaaGreatDoor.X
open Go.RowKit Go.Proofs.YtgcbejidponoaaaGreatDoorW.PrintWords Go.Proofs.YtgcbejidponoaaaGreatDoorW.PrintLast Go.Proofs.YtgcbejidponoaaaGreatDoorW.PrintMore
attribute [local go_sem] max2_int min2_int max_two min_two max_three min_three max_four min_four
set_option linter.unusedVariables false
set_option linter.unusedSimpArgs false
set_option maxHeartbeats 8000000
set_option maxRecDepth 100000
theorem api_Tag_with_102_122.goesV_ {P : Program} {ops : Array Oper} {Q : Exit → Act → World → Prop} {oi : Oper} {N : Option Tmp} {a : Act} {w : World} {K : Act → World → Prop} {f : FuncId} {fn : Func} {cal : Operand} {as_ : Array Operand} {ts : Array TypeId} (hf : P.funcs[f]? = some fn) (hname : (fn.name == "runtime.NumGoroutine") = false) (hb : fn.body.isSome = true) (args : Array Value)
 (hw : Region.wanted oi (yielded ops a.tmps) = true) (hN : oi.dst = N) (hop : oi.op = .call { callee := .value cal, args := as_, argTypes := ts }) (hev : a.eval cal = .func (.func f) #[] #[]) (hargs : as_.map a.eval = args)
 (h : Calls P f args w fun e w' => ∃ v, e = .returned v ∧ K (a.put N v) w') : if Region.wanted oi (yielded ops a.tmps) = true then Oper.wp P oi a w K Q else K (a.put N undef) w := by
 refine call_ f args hw hN ?_ h
 have he := enters_ hf hname hb args w
 unfold execOp
 simp [hop, resolve, Deferred.ofValue, invoke, hev, hargs, he]
theorem api_Tag_with_102_122.goesVL_ {P : Program} {ops : Array Oper} {Q : Exit → Act → World → Prop} {rest : List Oper} {oi : Oper} {a : Act} {w : World} (N : Option Tmp) (hd : oi.dst = N) (hg : oi.guard = none) {f : FuncId} {fn : Func} {cal : Operand} {as_ : Array Operand} {ts : Array TypeId} (hf : P.funcs[f]? = some fn) (hname : (fn.name == "runtime.NumGoroutine") = false) (hb : fn.body.isSome = true) (args : Array Value)
 (hop : oi.op = .call { callee := .value cal, args := as_, argTypes := ts }) (hev : a.eval cal = .func (.func f) #[] #[]) (hargs : as_.map a.eval = args)
 (h : Calls P f args w fun e w' => ∃ v, e = .returned v ∧ wpList P ops Q rest (a.put N v) w') : wpList P ops Q (oi :: rest) a w := by
 refine wpList_plain hg fun K hK => ?_
 have he := enters_ hf hname hb args w
 have hrun : (execOp a.eval oi).run P w = .ok (.enter f args) w := by
  unfold execOp
  simp [hop, resolve, Deferred.ofValue, invoke, hev, hargs, he]
 unfold Oper.wp
 rw [hrun, Oper.upon_enter]
 refine h.mono fun e w'' hh => ?_
 obtain ⟨v, rfl, hk⟩ := hh
 subst hd
 exact hK _ _ hk
mutual
def api_Tag_with_102_122.l0 : Nat → List (S98) → Int → Int → Int → Bool → Option ((List (S98)))
 | 0, _, _, _, _, _ => none
 | k + 1, x0, x1, x2, x3, x10 => if (wrap64 (x2 - x1)) ≤ 12 then ((api_Tag_with_102_145.f k x0 x1 x2).bind fun t153 => (some t153)) else (if x3 = 0 then (none) else (if x10 = true then (none) else (none)))
def api_Tag_with_102_122.f : Nat → List (S98) → Int → Int → Int → Option ((List (S98)))
 | 0, _, _, _, _ => none
 | k + 1, l0, a1, a2, a3 => api_Tag_with_102_122.l0 k l0 a1 a2 a3 true
end
theorem api_Tag_with_102_122.mono_l : ∀ k, (∀ y0 y1 y2 y3, LeC (api_Tag_with_102_122.f k y0 y1 y2 y3) (api_Tag_with_102_122.f (k + 1) y0 y1 y2 y3)) ∧ (∀ y0 y1 y2 y3 y4, LeC (api_Tag_with_102_122.l0 k y0 y1 y2 y3 y4) (api_Tag_with_102_122.l0 (k + 1) y0 y1 y2 y3 y4))
 | 0 => ⟨fun _ _ _ _ => ⟨fun r h => by simp [api_Tag_with_102_122.f] at h⟩, fun _ _ _ _ _ => ⟨fun r h => by simp [api_Tag_with_102_122.l0] at h⟩⟩
 | k + 1 => by obtain ⟨ih0, ih1⟩ := api_Tag_with_102_122.mono_l k; exact ⟨fun _ _ _ _ => by unfold api_Tag_with_102_122.f; exact lm, fun _ _ _ _ _ => by unfold api_Tag_with_102_122.l0; exact lm⟩
theorem api_Tag_with_102_122.mono : ∀ a0 a1 a2 a3 k, LeO (api_Tag_with_102_122.f k a0 a1 a2 a3) (api_Tag_with_102_122.f (k + 1) a0 a1 a2 a3) := by
 intro a0 a1 a2 a3 k
 obtain ⟨ih0, ih1⟩ := api_Tag_with_102_122.mono_l k
 exact LeC.out
instance api_Tag_with_102_122.mI {a0 a1 a2 a3 k} : LeC (api_Tag_with_102_122.f k a0 a1 a2 a3) (api_Tag_with_102_122.f (k + 1) a0 a1 a2 a3) := ⟨api_Tag_with_102_122.mono _ _ _ _ _⟩
theorem api_Tag_with_102_122.calls (k : Nat) : ∀ (P0_ : Nat → Prop) (u9000_ : Value) (l0 : List (S98)) (a1 : Int) (a2 : Int) (a3 : Int) (r : List (S98)) (w0 w : World) (hB : Below w0.heap.size w0 w) (ho0 : Kd.R k98 98 w w0.heap.size P0_ u9000_ l0) (h : api_Tag_with_102_122.f k l0 a1 a2 a3 = some r),
 Calls Tryz.prog 122 #[u9000_, .int .i64 a1, .int .i64 a2, .int .i64 a3, .func (.func 102) #[] #[]] w fun e w' => e = .returned (.tuple #[]) ∧ Kd.R k98 98 w' w0.heap.size (fun k_ => (P0_ k_ ∨ w.heap.size ≤ k_)) u9000_ r ∧ Below w0.heap.size w0 w' ∧ Kept w w' (fun k_ => P0_ k_) := by
 induction k using Nat.strongRecOn with
 | _ k ih =>
 intro P0_ u9000_ l0 a1 a2 a3 r w0 w hB ho0 h
 cases k with
 | zero => exact absurd h (by simp [api_Tag_with_102_122.f])
 | succ k =>
 simp only [api_Tag_with_102_122.f] at h
 have hu98 := Tryz.underlying98
 have HO0 := Aside0.mk (show Kd.R k98 98 w w0.heap.size (fun k_ => (P0_ k_ ∨ w.heap.size ≤ k_)) u9000_ l0 from Kd.R_mono ho0 (fun k_ hk => (.inl hk)))
 have HK := Aside0.mk (Kept.refl w (fun k_ => P0_ k_))
 have HW0 := Aside0.mk hB.size
 have HB := Aside0.mk hB
 clear hB
 have H : (api_Tag_with_102_122.l0 k l0 a1 a2 a3 true) = some r := h
 clear h
 have H' := Aside0.mk H
 clear H
 have eg102 : ∀ args w, (callFunc 102 args).run Tryz.prog w = .ok (.enter 102 args) w := enters_of Tryz.func102 (by kernel_rfl) rfl
 go_enter Tryz.func122, Tryz.ntmps122
 go_wp2
 go_loopg [1, 2, 3, 10] k (fun kq v1 v2 v3 v10 w' => ∃ (x0_1 : List (S98)) (x1_1 : Int) (x2_1 : Int) (x3_1 : Int) (x10_1 : Bool), v1 = .int .i64 x1_1 ∧ v2 = .int .i64 x2_1 ∧ v3 = .int .i64 x3_1 ∧ v10 = .bool x10_1 ∧ Aside0 (api_Tag_with_102_122.l0 kq x0_1 x1_1 x2_1 x3_1 x10_1 = some r) ∧ Aside0 (kq ≤ k) ∧ Aside0 (Kd.R k98 98 w' w0.heap.size (fun k_ => (P0_ k_ ∨ w.heap.size ≤ k_)) u9000_ x0_1) ∧ Aside0 (Kept w w' (fun k_ => P0_ k_)) ∧ Aside0 (Below w0.heap.size w0 w'))
 case atStart => exact ⟨(l0), (a1), (a2), (a3), (true), rs_, rs_, rs_, rs_, H', ⟨Nat.le_refl _⟩, ⟨uR HO0.out⟩, ⟨by repeat (first | (with_reducible first | exact HK.out | apply Kept.alloc | apply Kept.drewN | apply Kept.drew) | exact HK.out)⟩, ⟨uW HB.out⟩⟩
 case round =>
  clear H'
  try clear p2
  obtain ⟨x0_1, x1_1, x2_1, x3_1, x10_1, rfl, rfl, rfl, rfl, HA, HK1, HO_0, HK, HB⟩ := hrel
  cases gk with
  | zero => exact absurd HA.out (by simp [api_Tag_with_102_122.l0])
  | succ k1 =>
   have H := HA.out
   clear HA
   simp only [api_Tag_with_102_122.l0] at H
   by_cases c5 : (wrap64 (x2_1 - x1_1)) ≤ 12
   ·
    rw [if_pos c5] at H
    have c5b0 : decide ((wrap64 (x2_1 - x1_1)) ≤ 12) = true := decide_eq_true c5
    clear c5
    obtain ⟨t153, A6, H⟩ := bs H
    try dsimp only at H
    obtain rfl := Option.some.inj H
    obtain ⟨Ao7, co7, eo7⟩ := Kd.R_slice HO_0.out
    subst eo7
    go_wp2_with (first | (refine gL (some 30) rfl Tryz.func145 #[.slice Ao7 x0_1.length co7, .int .i64 x1_1, .int .i64 x2_1, (.func (.func 102) #[] #[])] ?_; (with_reducible refine (api_Tag_with_102_145.calls k1 (fun k_ => some k_ = (.slice Ao7 x0_1.length co7 : Value).ownBlock) (.slice Ao7 x0_1.length co7) x0_1 x1_1 x2_1 t153 w0 _ ?side1 ?side2 A6.out).mono ?_); (case side1 => repeat (first | (with_reducible first | exact HB.out | apply below_alloc | apply pw_below_drewN | apply below_drew1) | exact HB.out)); (case side2 => exact Kd.R_tight rfl HO_0.out); rintro e w8 ⟨rfl, hy0, hb, hkp⟩; refine ⟨_, rfl, ?_⟩; replace HK := Aside0.mk (Kept.then_ (S := (fun k_ => P0_ k_)) (by repeat (first | (with_reducible first | exact HK.out | apply Kept.alloc | apply Kept.drewN | apply Kept.drew) | exact HK.out)) hkp (fun k_ hs_ => (fun e_ => (HO_0.out.1 k_ e_.symm)) hs_)); replace HO_0 := Aside0.mk (Kd.R_reok rfl hy0 (fun k_ e_ => HO_0.out.1 k_ e_)); replace HB := Aside0.mk (hb); (try clear hb); (try clear hkp); (try clear hy0)))
    first | go_end0 | ((try simp only [Exit.inBlock, Exit.then]); refine bodyPost_ret (results_none rfl _ _ _) rfl ?_)
    exact ⟨re_, uR HO_0.out, uW HB.out, by repeat (first | (with_reducible first | exact HK.out | apply Kept.alloc | apply Kept.drewN | apply Kept.drew) | exact HK.out)⟩
   ·
    rw [if_neg c5] at H
    have c5b0 : decide ((wrap64 (x2_1 - x1_1)) ≤ 12) = false := decide_eq_false c5
    clear c5
    obtain ⟨c9, H⟩ := gn H
    have c9b0 : (x3_1 == 0) = false := beq_eq_false_iff_ne.mpr c9
    have c9b1 : (x3_1 != 0) = true := bne_iff_ne.mpr c9
    by_cases c10 : x10_1 = true
    ·
     subst c10
     rw [if_pos rfl] at H
     exact absurd H (by simp)
    ·
     replace c10 := Bool.eq_false_iff.mpr c10
     subst c10
     rw [if_neg (show ¬ (false = true) by decide)] at H
     exact absurd H (by simp)
def api_Tag_with_102_101.f (k : Nat) (l0 : List (S98)) : Option ((List (S98))) := (bits_Len.f (IntKind.u64.wrap ((l0.length : Int)))).bind fun t154 => ((api_Tag_with_102_122.f k l0 0 (l0.length : Int) t154).bind fun t155 => (some t155))
theorem api_Tag_with_102_101.mono : ∀ a0 k, LeO (api_Tag_with_102_101.f k a0) (api_Tag_with_102_101.f (k + 1) a0) := by
 intro a0 k
 unfold api_Tag_with_102_101.f
 exact lo
instance api_Tag_with_102_101.mI {a0 k} : LeC (api_Tag_with_102_101.f k a0) (api_Tag_with_102_101.f (k + 1) a0) := ⟨api_Tag_with_102_101.mono _ _⟩
theorem api_Tag_with_102_101.calls (k : Nat) (P0_ : Nat → Prop) (u9000_ : Value) (l0 : List (S98)) (r : List (S98)) (w0 w : World) (hB : Below w0.heap.size w0 w) (ho0 : Kd.R k98 98 w w0.heap.size P0_ u9000_ l0) (h : api_Tag_with_102_101.f k l0 = some r) :
 Calls Tryz.prog 101 #[u9000_, .func (.func 102) #[] #[]] w fun e w' => e = .returned (.tuple #[]) ∧ Kd.R k98 98 w' w0.heap.size (fun k_ => (P0_ k_ ∨ w.heap.size ≤ k_)) u9000_ r ∧ Below w0.heap.size w0 w' ∧ Kept w w' (fun k_ => P0_ k_) := by
 have HO0 := Aside0.mk (show Kd.R k98 98 w w0.heap.size (fun k_ => (P0_ k_ ∨ w.heap.size ≤ k_)) u9000_ l0 from Kd.R_mono ho0 (fun k_ hk => (.inl hk)))
 have HK := Aside0.mk (Kept.refl w (fun k_ => P0_ k_))
 have HW0 := Aside0.mk hB.size
 have HB := Aside0.mk hB
 clear hB
 have H : ((bits_Len.f (IntKind.u64.wrap ((l0.length : Int)))).bind fun t154 => ((api_Tag_with_102_122.f k l0 0 (l0.length : Int) t154).bind fun t155 => (some t155))) = some r := h
 clear h
 obtain ⟨t154, A2, H⟩ := bs H
 try dsimp only at H
 obtain ⟨t155, A3, H⟩ := bs H
 try dsimp only at H
 obtain rfl := Option.some.inj H
 obtain ⟨Ao4, co4, eo4⟩ := Kd.R_slice HO0.out
 subst eo4
 go_enter Tryz.func101, Tryz.ntmps101
 go_wp2_with (first | (refine gL (some 11) rfl Tryz.func123 #[.int .u64 (IntKind.u64.wrap ((l0.length : Int)))] ?_; (with_reducible refine (bits_Len.calls (IntKind.u64.wrap ((l0.length : Int))) t154 _ A2.out).mono ?_); rintro e w' ⟨rfl, ⟨nd, rfl⟩⟩; refine ⟨_, rfl, ?_⟩) | (refine gL (some 13) rfl Tryz.func122 #[.slice Ao4 l0.length co4, .int .i64 0, .int .i64 (l0.length : Int), .int .i64 t154, (.func (.func 102) #[] #[])] ?_; (with_reducible refine (api_Tag_with_102_122.calls k (fun k_ => some k_ = (.slice Ao4 l0.length co4 : Value).ownBlock) (.slice Ao4 l0.length co4) l0 0 (l0.length : Int) t154 t155 w0 _ ?side1 ?side2 A3.out).mono ?_); (case side1 => repeat (first | (with_reducible first | exact HB.out | apply below_alloc | apply pw_below_drewN | apply below_drew1) | exact HB.out)); (case side2 => exact Kd.R_tight rfl HO0.out); rintro e w5 ⟨rfl, hy0, hb, hkp⟩; refine ⟨_, rfl, ?_⟩; replace HK := Aside0.mk (Kept.then_ (S := (fun k_ => P0_ k_)) (by repeat (first | (with_reducible first | exact HK.out | apply Kept.alloc | apply Kept.drewN | apply Kept.drew) | exact HK.out)) hkp (fun k_ hs_ => (fun e_ => (HO0.out.1 k_ e_.symm)) hs_)); replace HO0 := Aside0.mk (Kd.R_reok rfl hy0 (fun k_ e_ => HO0.out.1 k_ e_)); replace HB := Aside0.mk (hb); (try clear hb); (try clear hkp); (try clear hy0)))
 first | go_end0 | ((try simp only [Exit.inBlock, Exit.then]); refine bodyPost_ret (results_none rfl _ _ _) rfl ?_)
 exact ⟨re_, uR HO0.out, uW HB.out, by repeat (first | (with_reducible first | exact HK.out | apply Kept.alloc | apply Kept.drewN | apply Kept.drew) | exact HK.out)⟩
def tag_Canon.l0 : Nat → List (S98) → Int → Option ((List (S98)) × Int)
 | 0, _, _ => none
 | k + 1, x4, x5 => if x5 < (x4.length : Int) then (if 0 ≤ (wrap64 (x5 - 1)) then (if (wrap64 (x5 - 1)) < (x4.length : Int) then (if 0 ≤ x5 then ((tag_order.f ((rd_T98 x4 (wrap64 (x5 - 1))).f0) ((rd_T98 x4 (wrap64 (x5 - 1))).f1) ((rd_T98 x4 x5).f0) ((rd_T98 x4 x5).f1)).bind fun t163 => (if t163 = 0 then (some (([] : List (S98)), 5)) else (tag_Canon.l0 k x4 (wrap64 (x5 + 1))))) else (none)) else (none)) else (none)) else (some (x4, 0))
def tag_Canon.f (k : Nat) (l0 : List (S98)) : Option ((List (S98)) × Int) := (api_Tag_with_98_97.f k l0).bind fun t156 => (if t156 = true then (some (([] : List (S98)), 2)) else (if (l0.length : Int) > 4 then (some (([] : List (S98)), 4)) else ((api_Tag_100.f l0).bind fun t157 => ((api_Tag_with_102_101.f k t157).bind fun t160 => (tag_Canon.l0 k t160 1)))))
theorem tag_Canon.mono_l : ∀ k, (∀ y0 y1, LeC (tag_Canon.l0 k y0 y1) (tag_Canon.l0 (k + 1) y0 y1))
 | 0 => fun _ _ => ⟨fun r h => by simp [tag_Canon.l0] at h⟩
 | k + 1 => by have ih0 := tag_Canon.mono_l k; exact fun _ _ => by unfold tag_Canon.l0; exact lm
theorem tag_Canon.mono : ∀ a0 k, LeO (tag_Canon.f k a0) (tag_Canon.f (k + 1) a0) := by
 intro a0 k
 have ih0 := tag_Canon.mono_l k
 unfold tag_Canon.f
 exact lo
instance tag_Canon.mI {a0 k} : LeC (tag_Canon.f k a0) (tag_Canon.f (k + 1) a0) := ⟨tag_Canon.mono _ _⟩
def tag_Canon.T10 : Bool × List (List Nat × List Nat) := (true, [([], []), ([], []), ([1], [1]), ([0, 2], [0, 2]), ([3], [3]), ([], []), ([], []), ([5, 6], [5, 6]), ([7], [7]), ([4, 8], [4, 8]), ([9], [9])])
def tag_Canon.B10 : List Nat := [0, 0, 2, 7, 15, 0, 0, 96, 224, 511, 1023]
theorem tag_Canon.tab10 : rtab .any (opsOf Tryz.f80 10) = tag_Canon.T10 := by kernel_rfl
theorem tag_Canon.bits10 : waitsOk tag_Canon.T10.2 tag_Canon.B10 = true := by kernel_rfl
theorem tag_Canon.calls (k : Nat) (A0 : Option Addr) (c0 : Nat) (l0 : List (S98)) (r1 : List (S98)) (r2 : Int) (w : World) (hr0 : Kd.C k98 w A0 l0.length l0) (hc0 : l0.length ≤ c0) (h : tag_Canon.f k l0 = some (r1, r2)) :
 Calls Tryz.prog 80 #[.slice A0 l0.length c0] w fun e w' => ∃ v0_ : Value, e = .returned (.tuple #[v0_, .int .i64 r2]) ∧ Kd.R k98 98 w' w.heap.size (fun _ => True) v0_ r1 ∧ Below w.heap.size w w' := by
 have hu98 := Tryz.underlying98
 have HR0 := Aside0.mk hr0
 have HC0 := Aside0.mk hc0
 clear hr0 hc0
 have HB := Aside0.mk (Below.refl w.heap.size w)
 have H : ((api_Tag_with_98_97.f k l0).bind fun t156 => (if t156 = true then (some (([] : List (S98)), 2)) else (if (l0.length : Int) > 4 then (some (([] : List (S98)), 4)) else ((api_Tag_100.f l0).bind fun t157 => ((api_Tag_with_102_101.f k t157).bind fun t160 => (tag_Canon.l0 k t160 1)))))) = some (r1, r2) := h
 clear h
 obtain ⟨t156, A2, H⟩ := bs H
 try dsimp only at H
 by_cases c3 : t156 = true
 ·
  subst c3
  rw [if_pos rfl] at H
  simp only [Option.some.injEq, Prod.mk.injEq] at H
  obtain ⟨rfl, rfl⟩ := H
  go_enter Tryz.func80, Tryz.ntmps80
  go_wp2_with (first | (refine gL (some 7) rfl Tryz.func97 #[.slice A0 l0.length c0, (.func (.func 98) #[] #[])] ?_; (with_reducible refine (api_Tag_with_98_97.calls k _ _ l0 true _ ?side1 ?side2 A2.out).mono ?_); (case side1 => exact uC <| HR0.out); (case side2 => exact HC0.out); rintro e w4 ⟨rfl, hb⟩; refine ⟨_, rfl, ?_⟩; replace HB := cW HB hb; (try clear hb)))
  go_ret2
  exact ⟨_, re_, nl_, uW HB.out⟩
 ·
  replace c3 := Bool.eq_false_iff.mpr c3
  subst c3
  rw [if_neg (show ¬ (false = true) by decide)] at H
  by_cases c5 : (l0.length : Int) > 4
  ·
   rw [if_pos c5] at H
   have c5b0 : decide (4 < (l0.length : Int)) = true := decide_eq_true c5
   have c5b1 : decide (4 < l0.length) = true := decide_eq_true (by omega)
   clear c5
   simp only [Option.some.injEq, Prod.mk.injEq] at H
   obtain ⟨rfl, rfl⟩ := H
   go_enter Tryz.func80, Tryz.ntmps80
   go_wp2_with (first | (refine gL (some 7) rfl Tryz.func97 #[.slice A0 l0.length c0, (.func (.func 98) #[] #[])] ?_; (with_reducible refine (api_Tag_with_98_97.calls k _ _ l0 false _ ?side1 ?side2 A2.out).mono ?_); (case side1 => exact uC <| HR0.out); (case side2 => exact HC0.out); rintro e w6 ⟨rfl, hb⟩; refine ⟨_, rfl, ?_⟩; replace HB := cW HB hb; (try clear hb)))
   go_ret2
   exact ⟨_, re_, nl_, uW HB.out⟩
  ·
   rw [if_neg c5] at H
   have c5b0 : decide (4 < (l0.length : Int)) = false := decide_eq_false c5
   have c5b1 : decide (4 < l0.length) = false := decide_eq_false (by omega)
   clear c5
   obtain ⟨t157, A7, H⟩ := bs H
   try dsimp only at H
   obtain ⟨t160, A8, H⟩ := bs H
   try dsimp only at H
   have H' := Aside0.mk H
   clear H
   go_enter Tryz.func80, Tryz.ntmps80
   go_wp2_with (first | (refine gL (some 7) rfl Tryz.func97 #[.slice A0 l0.length c0, (.func (.func 98) #[] #[])] ?_; (with_reducible refine (api_Tag_with_98_97.calls k _ _ l0 false _ ?side1 ?side2 A2.out).mono ?_); (case side1 => exact uC <| HR0.out); (case side2 => exact HC0.out); rintro e w9 ⟨rfl, hb⟩; refine ⟨_, rfl, ?_⟩; replace HB := cW HB hb; (try clear hb)) | (refine gL (some 12) rfl Tryz.func100 #[.slice A0 l0.length c0] ?_; (with_reducible refine (api_Tag_100.calls _ _ l0 t157 _ ?side1 ?side2 A7.out).mono ?_); (case side1 => exact uC <| (Kd.C_below HR0.out HB.out)); (case side2 => exact HC0.out); rintro e w10 ⟨v158, rfl, ho0, hb⟩; refine ⟨_, rfl, ?_⟩; have HO159 := Aside0.mk (Kd.R_lower ho0 (below_size (uW HB.out))); replace HB := cW HB hb; (try clear hb); (try clear ho0); obtain ⟨Ao11, co11, eo11⟩ := Kd.R_slice HO159.out; subst eo11) | (refine gL (some 14) rfl Tryz.func101 #[.slice Ao11 t157.length co11, (.func (.func 102) #[] #[])] ?_; (with_reducible refine (api_Tag_with_102_101.calls k (fun k_ => some k_ = (.slice Ao11 t157.length co11 : Value).ownBlock) (.slice Ao11 t157.length co11) t157 t160 w _ ?side1 ?side2 A8.out).mono ?_); (case side1 => repeat (first | (with_reducible first | exact HB.out | apply below_alloc | apply pw_below_drewN | apply below_drew1) | exact HB.out)); (case side2 => exact Kd.R_tight rfl HO159.out); rintro e w12 ⟨rfl, hy0, hb, hkp⟩; refine ⟨_, rfl, ?_⟩; replace HO159 := Aside0.mk (Kd.R_reok rfl hy0 (fun k_ e_ => HO159.out.1 k_ e_)); replace HB := Aside0.mk (hb); (try clear hb); (try clear hkp); (try clear hy0)))
   (try simp only [Act.put, List.setIfInBounds_toArray, List.set_cons_zero, List.set_cons_succ])
   go_loopg [5] k (fun kq v5 w' => ∃ (x5_1 : Int), v5 = .int .i64 x5_1 ∧ Aside0 (tag_Canon.l0 kq t160 x5_1 = some (r1, r2)) ∧ Aside0 (kq ≤ k) ∧ Aside0 (Kd.R k98 98 w' w.heap.size (fun _ => True) (.slice Ao11 t157.length co11) t160) ∧ Aside0 (Below w.heap.size w w'))
   case atStart => exact ⟨(1), rs_, H', ⟨Nat.le_refl _⟩, ⟨uR HO159.out⟩, ⟨uW HB.out⟩⟩
   case round =>
    clear H'
    try clear c1
    try clear p2
    try clear c3
    try clear c5
    try clear c5b0
    try clear c5b1
    try clear c8
    try clear c9
    try clear c10
    obtain ⟨x5_1, rfl, HA, HK1, HO_4, HB⟩ := hrel
    have hl4_1 := (Kd.R_reads' HO_4.out).1
    rw [hl4_1] at HO_4
    (try simp only [hl4_1])
    cases gk with
    | zero => exact absurd HA.out (by simp [tag_Canon.l0])
    | succ k1 =>
     have H := HA.out
     clear HA
     simp only [tag_Canon.l0] at H
     by_cases c13 : x5_1 < (t160.length : Int)
     ·
      rw [if_pos c13] at H
      have c13b0 : decide (x5_1 < (t160.length : Int)) = true := decide_eq_true c13
      clear c13
      obtain ⟨ji14, hji14⟩ : ∃ j_ : Int, (wrap64 (x5_1 - 1)) = j_ := ⟨_, rfl⟩
      (first | rw [hji14] at H | simp only [hji14] at H)
      have hji14w : (IntKind.i64.wrap (x5_1 - 1)) = ji14 := (i64_w _).trans hji14
      obtain ⟨c15b0, H⟩ := gdd H
      obtain ⟨c16b0, H⟩ := gdd H
      obtain ⟨c17b0, H⟩ := gdd H
      obtain ⟨t163, A18, H⟩ := bs H
      try dsimp only at H
      by_cases c19 : t163 = 0
      ·
       rw [if_pos c19] at H
       have c19b0 : (t163 == 0) = true := beq_iff_eq.mpr c19
       have c19b1 : (t163 != 0) = false := bne_eq_false_iff_eq.mpr c19
       clear c19
       simp only [Option.some.injEq, Prod.mk.injEq] at H
       obtain ⟨rfl, rfl⟩ := H
       try go_wp2
       replace HO_4 := Aside0.mk (Kd.R_drew HO_4.out)
       replace HB := Aside0.mk (below_drew1 HB.out)
       have p161 : 0 ≤ ((ji14) : Int) := od
       have q161 : (ji14) < (t160.length : Int) := od
       obtain ⟨ad161, e161, hx161_0, hx161_1⟩ := at_T98 (Kd.R_reads' HO_4.out).2.2 (ji14) p161 q161
       cases e161
       replace p161 := eq_true p161
       replace q161 := eq_true q161
       have p162 : 0 ≤ (x5_1 : Int) := od
       have q162 : x5_1 < (t160.length : Int) := od
       obtain ⟨ad162, e162, hx162_0, hx162_1⟩ := at_T98 (Kd.R_reads' HO_4.out).2.2 x5_1 p162 q162
       obtain rfl : ad161 = ad162 := (by injection e162)
       replace p162 := eq_true p162
       replace q162 := eq_true q162
       refine start_ (n := 11) (S := fun w' => w'.cell? (ad161.add (((ji14)).toNat * 2)) = some (.string ((rd_T98 t160 (ji14)).f0)) ∧ w'.cell? ⟨(ad161.add (((ji14)).toNat * 2)).block, (ad161.add (((ji14)).toNat * 2)).off + 1, none⟩ = some (.string ((rd_T98 t160 (ji14)).f1)) ∧ w'.cell? (ad161.add ((x5_1).toNat * 2)) = some (.string ((rd_T98 t160 x5_1).f0)) ∧ w'.cell? ⟨(ad161.add ((x5_1).toNat * 2)).block, (ad161.add ((x5_1).toNat * 2)).off + 1, none⟩ = some (.string ((rd_T98 t160 x5_1).f1))) (ds := []) _ (by kernel_rfl) rfl rfl ⟨hx161_0, hx161_1, hx162_0, hx162_1⟩ (fun hHeld => ?_); refine with_tabW tag_Canon.tab10 tag_Canon.bits10 (fun HT_ HW_ => ?_)
       generalize wr.drew = w20 at HO_4 HB hx161_0 hx161_1 hx162_0 hx162_1 hHeld ⊢
       refine p1 0 (some 21) ?_
       refine p1 1 (some 22) ?_
       refine p1 2 (some 23) ?_
       refine p1 3 (some 24) ?_
       refine p1 5 (some 26) ?_
       refine p1 6 (some 27) ?_
       refine p1 7 (some 28) ?_
       refine t1 4 (some 25) rfl rfl hHeld (Or.inl ⟨by rfl, by rintro w' ⟨s0, s1, s2, s3⟩; go_simp; with_reducible rfl⟩) ?_
       refine t1 8 (some 29) rfl rfl hHeld (Or.inl ⟨by rfl, by rintro w' ⟨s0, s1, s2, s3⟩; go_simp; with_reducible rfl⟩) ?_
       refine o1 9 (some 30) rfl rfl (fun K hK => ?_)
       refine goes_ Tryz.func102 (by kernel_rfl) rfl #[.agg #[.string ((rd_T98 t160 (ji14)).f0), .string ((rd_T98 t160 (ji14)).f1)], .agg #[.string ((rd_T98 t160 x5_1).f0), .string ((rd_T98 t160 x5_1).f1)]] (by rfl) rfl rfl (by (try simp only [List.map_toArray, List.map_cons, List.map_nil]); first | done | (simp only [hji14]; rfl) | rfl | (simp only [List.length_drop, List.length_take]; rfl)) ?_
       with_reducible refine (tag_order.calls ((rd_T98 t160 (ji14)).f0) ((rd_T98 t160 (ji14)).f1) ((rd_T98 t160 x5_1).f0) ((rd_T98 t160 x5_1).f1) t163 _ A18.out).mono ?_
       rintro e w21 ⟨rfl, hb⟩
       have HS0_ := (hb.cell (World.block_lt_of_cell? _ _ (hHeld.1))).trans (hHeld.1)
       have HS1_ := (hb.cell (World.block_lt_of_cell? _ _ (hHeld.2.1))).trans (hHeld.2.1)
       have HS2_ := (hb.cell (World.block_lt_of_cell? _ _ (hHeld.2.2.1))).trans (hHeld.2.2.1)
       have HS3_ := (hb.cell (World.block_lt_of_cell? _ _ (hHeld.2.2.2))).trans (hHeld.2.2.2)
       refine ⟨_, rfl, ?_⟩
       replace HO_4 := cR HO_4 hb
       replace HB := cW HB hb
       (try clear hb)
       refine hK.out _ _ ⟨HS0_, HS1_, HS2_, HS3_⟩ (fun hHeld => ?_)
       clear hK K
       refine norm_ (a' := ?_) ?_ ?_
       rotate_left
       ·
        show Act.put _ (some 30) _ = _
        simp only [Act.put, List.setIfInBounds_toArray, List.set_cons_zero, List.set_cons_succ, i64_w, i32_w]
        rfl
       refine p1 10 (some 31) ?_
       refine done_ (done_of HT_.out (by kernel_rfl)) ?_
       try go_wp2
       go_ret2
       exact ⟨_, by first | rfl | (simp [errW_none, errW_some] <;> rfl) | (simp only [← hji14]; first | rfl | (simp [errW_none, errW_some] <;> rfl)) | (simp [*, errW_none, errW_some] <;> rfl), nl_, uW HB.out⟩
      ·
       rw [if_neg c19] at H
       have c19b0 : (t163 == 0) = false := beq_eq_false_iff_ne.mpr c19
       have c19b1 : (t163 != 0) = true := bne_iff_ne.mpr c19
       have H' := Aside0.mk H
       clear H
       try go_wp2
       replace HO_4 := Aside0.mk (Kd.R_drew HO_4.out)
       replace HB := Aside0.mk (below_drew1 HB.out)
       have p161 : 0 ≤ ((ji14) : Int) := od
       have q161 : (ji14) < (t160.length : Int) := od
       obtain ⟨ad161, e161, hx161_0, hx161_1⟩ := at_T98 (Kd.R_reads' HO_4.out).2.2 (ji14) p161 q161
       cases e161
       replace p161 := eq_true p161
       replace q161 := eq_true q161
       have p162 : 0 ≤ (x5_1 : Int) := od
       have q162 : x5_1 < (t160.length : Int) := od
       obtain ⟨ad162, e162, hx162_0, hx162_1⟩ := at_T98 (Kd.R_reads' HO_4.out).2.2 x5_1 p162 q162
       obtain rfl : ad161 = ad162 := (by injection e162)
       replace p162 := eq_true p162
       replace q162 := eq_true q162
       refine start_ (n := 11) (S := fun w' => w'.cell? (ad161.add (((ji14)).toNat * 2)) = some (.string ((rd_T98 t160 (ji14)).f0)) ∧ w'.cell? ⟨(ad161.add (((ji14)).toNat * 2)).block, (ad161.add (((ji14)).toNat * 2)).off + 1, none⟩ = some (.string ((rd_T98 t160 (ji14)).f1)) ∧ w'.cell? (ad161.add ((x5_1).toNat * 2)) = some (.string ((rd_T98 t160 x5_1).f0)) ∧ w'.cell? ⟨(ad161.add ((x5_1).toNat * 2)).block, (ad161.add ((x5_1).toNat * 2)).off + 1, none⟩ = some (.string ((rd_T98 t160 x5_1).f1))) (ds := []) _ (by kernel_rfl) rfl rfl ⟨hx161_0, hx161_1, hx162_0, hx162_1⟩ (fun hHeld => ?_); refine with_tabW tag_Canon.tab10 tag_Canon.bits10 (fun HT_ HW_ => ?_)
       generalize wr.drew = w22 at HO_4 HB hx161_0 hx161_1 hx162_0 hx162_1 hHeld ⊢
       refine p1 0 (some 21) ?_
       refine p1 1 (some 22) ?_
       refine p1 2 (some 23) ?_
       refine p1 3 (some 24) ?_
       refine p1 5 (some 26) ?_
       refine p1 6 (some 27) ?_
       refine p1 7 (some 28) ?_
       refine t1 4 (some 25) rfl rfl hHeld (Or.inl ⟨by rfl, by rintro w' ⟨s0, s1, s2, s3⟩; go_simp; with_reducible rfl⟩) ?_
       refine t1 8 (some 29) rfl rfl hHeld (Or.inl ⟨by rfl, by rintro w' ⟨s0, s1, s2, s3⟩; go_simp; with_reducible rfl⟩) ?_
       refine o1 9 (some 30) rfl rfl (fun K hK => ?_)
       refine goes_ Tryz.func102 (by kernel_rfl) rfl #[.agg #[.string ((rd_T98 t160 (ji14)).f0), .string ((rd_T98 t160 (ji14)).f1)], .agg #[.string ((rd_T98 t160 x5_1).f0), .string ((rd_T98 t160 x5_1).f1)]] (by rfl) rfl rfl (by (try simp only [List.map_toArray, List.map_cons, List.map_nil]); first | done | (simp only [hji14]; rfl) | rfl | (simp only [List.length_drop, List.length_take]; rfl)) ?_
       with_reducible refine (tag_order.calls ((rd_T98 t160 (ji14)).f0) ((rd_T98 t160 (ji14)).f1) ((rd_T98 t160 x5_1).f0) ((rd_T98 t160 x5_1).f1) t163 _ A18.out).mono ?_
       rintro e w23 ⟨rfl, hb⟩
       have HS0_ := (hb.cell (World.block_lt_of_cell? _ _ (hHeld.1))).trans (hHeld.1)
       have HS1_ := (hb.cell (World.block_lt_of_cell? _ _ (hHeld.2.1))).trans (hHeld.2.1)
       have HS2_ := (hb.cell (World.block_lt_of_cell? _ _ (hHeld.2.2.1))).trans (hHeld.2.2.1)
       have HS3_ := (hb.cell (World.block_lt_of_cell? _ _ (hHeld.2.2.2))).trans (hHeld.2.2.2)
       refine ⟨_, rfl, ?_⟩
       replace HO_4 := cR HO_4 hb
       replace HB := cW HB hb
       (try clear hb)
       refine hK.out _ _ ⟨HS0_, HS1_, HS2_, HS3_⟩ (fun hHeld => ?_)
       clear hK K
       refine norm_ (a' := ?_) ?_ ?_
       rotate_left
       ·
        show Act.put _ (some 30) _ = _
        simp only [Act.put, List.setIfInBounds_toArray, List.set_cons_zero, List.set_cons_succ, i64_w, i32_w]
        rfl
       refine p1 10 (some 31) ?_
       refine done_ (done_of HT_.out (by kernel_rfl)) ?_
       try go_wp2
       (try simp only [← hl4_1])
       go_roundg k1
       case measure => have := HK1.out; omega
       case rel => exact ⟨(wrap64 (x5_1 + 1)), rs_, H', ⟨by have := HK1.out; omega⟩, ⟨by (try simp only [hl4_1]); exact uR <| HO_4.out⟩, ⟨uW HB.out⟩⟩
     ·
      rw [if_neg c13] at H
      have c13b0 : decide (x5_1 < (t160.length : Int)) = false := decide_eq_false c13
      clear c13
      simp only [Option.some.injEq, Prod.mk.injEq] at H
      obtain ⟨rfl, rfl⟩ := H
      go_wp2
      go_ret2
      exact ⟨_, re_, uR HO_4.out, uW HB.out⟩
def tag_Parse.l0 : Nat → List (S98) → List ByteArray → Int → Int → Option ((List (S98)) × Int)
 | 0, _, _, _, _ => none
 | k + 1, x4, x13, x14, x15 => if x15 < x14 then (if 0 ≤ x15 then (if x15 < (x13.length : Int) then ((strings_Cut.f (rdOf ByteArray.empty x13 x15) (⟨#[61]⟩ : ByteArray)).bind fun bt168 => (if bt168.2.2 = true then (if x4.length < 4398046511104 then (tag_Parse.l0 k (x4 ++ [(⟨bt168.1, bt168.2.1⟩ : S98)]) x13 x14 (wrap64 (x15 + 1))) else (none)) else (some (([] : List (S98)), 2)))) else (none)) else (none)) else ((tag_Canon.f k x4).bind fun bt174 => (some (bt174.1, bt174.2)))
def tag_Parse.f (k : Nat) (a0 : ByteArray) : Option ((List (S98)) × Int) := if a0.toList = ([] : List UInt8) then (some (([] : List (S98)), 0)) else ((word_Split.f k a0 44).bind fun t164 => (tag_Parse.l0 k ([] : List (S98)) t164 (t164.length : Int) 0))
theorem tag_Parse.mono_l : ∀ k, (∀ y0 y1 y2 y3, LeC (tag_Parse.l0 k y0 y1 y2 y3) (tag_Parse.l0 (k + 1) y0 y1 y2 y3))
 | 0 => fun _ _ _ _ => ⟨fun r h => by simp [tag_Parse.l0] at h⟩
 | k + 1 => by have ih0 := tag_Parse.mono_l k; exact fun _ _ _ _ => by unfold tag_Parse.l0; exact lm
theorem tag_Parse.mono : ∀ a0 k, LeO (tag_Parse.f k a0) (tag_Parse.f (k + 1) a0) := by
 intro a0 k
 have ih0 := tag_Parse.mono_l k
 unfold tag_Parse.f
 exact lo
instance tag_Parse.mI {a0 k} : LeC (tag_Parse.f k a0) (tag_Parse.f (k + 1) a0) := ⟨tag_Parse.mono _ _⟩
theorem tag_Parse.calls (k : Nat) (a0 : ByteArray) (r1 : List (S98)) (r2 : Int) (w : World) (hL : LD w) (h : tag_Parse.f k a0 = some (r1, r2)) :
 Calls Tryz.prog 65 #[.string a0] w fun e w' => ∃ v0_ : Value, e = .returned (.tuple #[v0_, .int .i64 r2]) ∧ Kd.R k98 98 w' w.heap.size (fun _ => True) v0_ r1 ∧ Below w.heap.size w w' := by
 have HL0 := Aside0.mk hL
 clear hL
 have hu98 := Tryz.underlying98
 have HB := Aside0.mk (Below.refl w.heap.size w)
 have H : (if a0.toList = ([] : List UInt8) then (some (([] : List (S98)), 0)) else ((word_Split.f k a0 44).bind fun t164 => (tag_Parse.l0 k ([] : List (S98)) t164 (t164.length : Int) 0))) = some (r1, r2) := h
 clear h
 by_cases c2 : a0.toList = ([] : List UInt8)
 ·
  rw [if_pos c2] at H
  have c2b0 : (a0.toList == ([] : List UInt8)) = true := beq_iff_eq.mpr c2
  have c2b1 : (a0.toList != ([] : List UInt8)) = false := bne_eq_false_iff_eq.mpr c2
  clear c2
  simp only [Option.some.injEq, Prod.mk.injEq] at H
  obtain ⟨rfl, rfl⟩ := H
  go_enter Tryz.func65, Tryz.ntmps65
  go_wp2
  go_ret2
  exact ⟨_, re_, nl_, uW HB.out⟩
 ·
  rw [if_neg c2] at H
  have c2b0 : (a0.toList == ([] : List UInt8)) = false := beq_eq_false_iff_ne.mpr c2
  have c2b1 : (a0.toList != ([] : List UInt8)) = true := bne_iff_ne.mpr c2
  obtain ⟨t164, A3, H⟩ := bs H
  try dsimp only at H
  have H' := Aside0.mk H
  clear H
  go_enter Tryz.func65, Tryz.ntmps65
  go_wp2_with (first | (refine gL (some 13) rfl Tryz.func39 #[.string a0, .int .u8 44] ?_; (with_reducible refine (word_Split.calls k a0 44 t164 _ A3.out).mono ?_); rintro e w4 ⟨v165, rfl, ho0, hb⟩; refine ⟨_, rfl, ?_⟩; have HO166 := Aside0.mk (Kd.R_lower ho0 (below_size (uW HB.out))); replace HB := cW HB hb; (try clear hb); (try clear ho0); obtain ⟨Ao5, co5, eo5⟩ := Kd.R_slice HO166.out; subst eo5))
  (try simp only [Act.put, List.setIfInBounds_toArray, List.set_cons_zero, List.set_cons_succ])
  go_loopg [4, 15] k (fun kq v4 v15 w' => ∃ (x4_1 : List (S98)) (x15_1 : Int), v15 = .int .i64 x15_1 ∧ Aside0 (tag_Parse.l0 kq x4_1 t164 (t164.length : Int) x15_1 = some (r1, r2)) ∧ Aside0 (kq ≤ k) ∧ Aside0 (Kd.R k98 98 w' w.heap.size (fun _ => True) v4 x4_1) ∧ Aside0 (Kd.R Kd.string 9 w' w.heap.size (fun _ => True) (.slice Ao5 t164.length co5) t164) ∧ Aside0 (Below w.heap.size w w'))
  case atStart => exact ⟨(([] : List (S98))), (0), rs_, H', ⟨Nat.le_refl _⟩, ⟨nl_⟩, ⟨uR HO166.out⟩, ⟨uW HB.out⟩⟩
  case round =>
   clear H'
   try clear c2
   try clear c2b0
   try clear c2b1
   try clear p2
   try clear c3
   obtain ⟨x4_1, x15_1, rfl, HA, HK1, HO_4, HO_13, HB⟩ := hrel
   cases gk with
   | zero => exact absurd HA.out (by simp [tag_Parse.l0])
   | succ k1 =>
    have H := HA.out
    clear HA
    simp only [tag_Parse.l0] at H
    by_cases c6 : x15_1 < (t164.length : Int)
    ·
     rw [if_pos c6] at H
     have c6b0 : decide (x15_1 < (t164.length : Int)) = true := decide_eq_true c6
     clear c6
     obtain ⟨c7b0, H⟩ := gdd H
     obtain ⟨c8b0, H⟩ := gdd H
     obtain ⟨⟨t168, t169, t170⟩, A9, H⟩ := bs H
     try dsimp only at H
     by_cases c10 : t170 = true
     ·
      subst c10
      rw [if_pos rfl] at H
      obtain ⟨c11, H⟩ := gd H
      have LMc11 := Aside0.mk c11
      clear c11
      obtain ⟨y171, hy171⟩ : ∃ y_ : List (S98), y_ = (x4_1 ++ [(⟨t168, t169⟩ : S98)]) := ⟨_, rfl⟩
      replace H : (tag_Parse.l0 k1 y171 t164 (t164.length : Int) (wrap64 (x15_1 + 1))) = some (r1, r2) := by first | (rw [hy171]; with_reducible exact H) | (have H2_ := (Option.bind_some _ _).symm.trans H; rw [hy171]; with_reducible exact H2_) | (have H2_ := (Option.bind_some _ _).symm.trans H; with_reducible exact H2_) | with_reducible exact H | (rw [hy171]; exact H) | exact H
      have Ny171 := Aside0.mk hy171
      clear hy171
      have H' := Aside0.mk H
      clear H
      have p167 : 0 ≤ (x15_1 : Int) := od
      have q167 : x15_1 < (t164.length : Int) := od
      obtain ⟨ad167, e167, hx167_0⟩ := Kd.at_string (Kd.R_reads' HO_13.out).2.2 x15_1 p167 q167
      cases e167
      replace p167 := eq_true p167
      replace q167 := eq_true q167
      go_wp2_with (first | (refine gL (some 21) rfl Tryz.func79 #[.string (rdOf ByteArray.empty t164 x15_1), .string (⟨#[61]⟩ : ByteArray)] ?_; (with_reducible refine (strings_Cut.calls (hL := ld) (rdOf ByteArray.empty t164 x15_1) (⟨#[61]⟩ : ByteArray) t168 t169 true _ A9.out).mono ?_); rintro e w' ⟨rfl, ⟨nd, rfl⟩⟩; refine ⟨_, rfl, ?_⟩) | ((with_reducible refine gate_builtin (b := .append) (xs := #[.tmp 27, .tmp 31]) rfl ?_); at_builtin; refine Kd.R_append k98 (w0 := w) w.heap.size rfl (.tmp 27) (.tmp 31) 78 98 (.agg #[(.string ⟨#[]⟩), (.string ⟨#[]⟩)]) 32 rfl Tryz.underlying78 info98 rfl (by decide) (by omega) u4 x4_1 (⟨t168, t169⟩ : S98) [.string t168, .string t169] (fun _ => True) (fun _ => False) rfl rfl ?aP (fun _ hk => hk.elim) ?aF ?aO ?aB ?aS ?aL ?_; (case aP => exact k98_mkM _ _ _ (⟨t168, t169⟩ : S98)); (case aB => exact (uW HB.out)); (case aF => exact (fun _ _ => trivial)); (case aO => exact (uR HO_4.out)); (case aS => exact (below_size (uW HB.out))); (case aL => have := LMc11.out; omega); intro v172 w12 ho hb hg hat; rw [← Ny171.out] at ho; replace HO_13 := Aside0.mk (Kd.R_over' (uR HO_13.out) (Kd.R_typed (uR HO_4.out)) (by decide) hg); replace HB := Aside0.mk (hb); have HO173 := Aside0.mk (ho); clear HO_4; clear ho hb hg hat))
      go_roundg k1
      case measure => have := HK1.out; omega
      case rel => exact ⟨(y171), (wrap64 (x15_1 + 1)), rs_, H', ⟨by have := HK1.out; omega⟩, ⟨uR HO173.out⟩, ⟨uR HO_13.out⟩, ⟨uW HB.out⟩⟩
     ·
      replace c10 := Bool.eq_false_iff.mpr c10
      subst c10
      rw [if_neg (show ¬ (false = true) by decide)] at H
      simp only [Option.some.injEq, Prod.mk.injEq] at H
      obtain ⟨rfl, rfl⟩ := H
      have p167 : 0 ≤ (x15_1 : Int) := od
      have q167 : x15_1 < (t164.length : Int) := od
      obtain ⟨ad167, e167, hx167_0⟩ := Kd.at_string (Kd.R_reads' HO_13.out).2.2 x15_1 p167 q167
      cases e167
      replace p167 := eq_true p167
      replace q167 := eq_true q167
      go_wp2_with (first | (refine gL (some 21) rfl Tryz.func79 #[.string (rdOf ByteArray.empty t164 x15_1), .string (⟨#[61]⟩ : ByteArray)] ?_; (with_reducible refine (strings_Cut.calls (hL := ld) (rdOf ByteArray.empty t164 x15_1) (⟨#[61]⟩ : ByteArray) t168 t169 false _ A9.out).mono ?_); rintro e w' ⟨rfl, ⟨nd, rfl⟩⟩; refine ⟨_, rfl, ?_⟩))
      go_ret2
      exact ⟨_, re_, nl_, uW HB.out⟩
    ·
     rw [if_neg c6] at H
     have c6b0 : decide (x15_1 < (t164.length : Int)) = false := decide_eq_false c6
     clear c6
     obtain ⟨⟨t174, t175⟩, A13, H⟩ := bs H
     try dsimp only at H
     simp only [Option.some.injEq, Prod.mk.injEq] at H
     obtain ⟨rfl, rfl⟩ := H
     obtain ⟨Ao14, co14, eo14⟩ := Kd.R_slice HO_4.out
     subst eo14
     go_wp2_with (first | (refine gL (some 35) rfl Tryz.func80 #[.slice Ao14 x4_1.length co14] ?_; (with_reducible refine (tag_Canon.calls k1 _ _ x4_1 t174 t175 _ ?side1 ?side2 A13.out).mono ?_); (case side1 => exact uC <| (Kd.R_reads' HO_4.out).2.2); (case side2 => exact (Kd.R_reads' HO_4.out).2.1); rintro e w15 ⟨v176, rfl, ho0, hb⟩; refine ⟨_, rfl, ?_⟩; replace HO_13 := cR HO_13 hb; have HO177 := Aside0.mk (Kd.R_lower (Kd.R_new' ho0 (Kd.R_lt (uR HO_4.out))) (below_size (uW HB.out))); replace HO_4 := Aside0.mk (Kd.R_elder' (uR HO_4.out) (Kd.R_base ho0) hb); replace HB := cW HB hb; (try clear hb); (try clear ho0)))
     go_ret2
     exact ⟨_, re_, by exact uR <| Kd.R_mono HO177.out (fun _ hk => trivial), uW HB.out⟩
def strings_Join.f (l0 : List ByteArray) (a1 : ByteArray) : Option (ByteArray) := if l0.length ≤ 140737488355328 ∧ (Lib.join (l0.map (·.data.toList)) a1.data.toList).length ≤ 140737488355328 then (some (⟨(Lib.join (l0.map (·.data.toList)) a1.data.toList).toArray⟩ : ByteArray)) else (none)
theorem strings_Join.calls (A0 : Option Addr) (c0 : Nat) (l0 : List ByteArray) (a1 : ByteArray) (r : ByteArray) (w : World) (hr0 : Kd.C Kd.string w A0 l0.length l0) (hc0 : l0.length ≤ c0) (h : strings_Join.f l0 a1 = some r) :
 Calls Tryz.prog 52 #[.slice A0 l0.length c0, .string a1] w fun e w' => e = .returned (.string r) ∧ Below w.heap.size w w' := by
 unfold strings_Join.f at h
 by_cases hc : l0.length ≤ 140737488355328 ∧ (Lib.join (l0.map (·.data.toList)) a1.data.toList).length ≤ 140737488355328
 ·
  rw [if_pos hc] at h
  obtain rfl := Option.some.inj h
  cases hl : l0 with
  | nil => exact (Tryz.strings_Join_none A0 c0 a1 w).mono fun e w' hh => ⟨hh.1, hh.2 ▸ Below.refl _ _⟩
  | cons x xs =>
   rw [← hl]
   have hpos : 0 < l0.length := by rw [hl]; simp
   obtain ⟨ad, e0, h0⟩ := Kd.at_string hr0 0 (Int.le_refl _) (by omega)
   subst e0
   obtain ⟨b, o, p⟩ := ad
   have hnn : p = none := by
    cases p with
    | none => rfl
    | some q =>
     exfalso
     revert h0
     unfold World.cell?
     simp only [Addr.add]
     split <;> simp
   subst hnn
   refine Tryz.strings_Join b o c0 l0 a1 w (fun j y hy => ?_) ?_ hc.1 hc0 hc.2
   ·
    obtain ⟨hj, hy2⟩ := List.getElem?_eq_some_iff.mp hy
    obtain ⟨ad2, e2, h2⟩ := Kd.at_string hr0 (j : Int) (by omega) (by omega)
    cases e2
    rw [Int.toNat_natCast, Addr.add_lit] at h2
    rw [h2]
    congr 2
    show l0.getD ((j : Int)).toNat _ = y
    rw [Int.toNat_natCast, List.getD_eq_getElem?_getD, hy, Option.getD_some]
   ·
    exact World.block_lt_of_cell? w _ h0
 ·
  rw [if_neg hc] at h
  exact absurd h (by simp)
def word_Join.f (a0 : ByteArray) (l1 : List ByteArray) : Option (ByteArray) := (strings_Join.f l1 a0).bind fun t178 => (some t178)
theorem word_Join.calls (a0 : ByteArray) (A1 : Option Addr) (c1 : Nat) (l1 : List ByteArray) (r : ByteArray) (w : World) (hr1 : Kd.C Kd.string w A1 l1.length l1) (hc1 : l1.length ≤ c1) (h : word_Join.f a0 l1 = some r) :
 Calls Tryz.prog 30 #[.string a0, .slice A1 l1.length c1] w fun e w' => e = .returned (.string r) ∧ Below w.heap.size w w' := by
 have HR1 := Aside0.mk hr1
 have HC1 := Aside0.mk hc1
 clear hr1 hc1
 have HB := Aside0.mk (Below.refl w.heap.size w)
 have H : ((strings_Join.f l1 a0).bind fun t178 => (some t178)) = some r := h
 clear h
 obtain ⟨t178, A3, H⟩ := bs H
 try dsimp only at H
 obtain rfl := Option.some.inj H
 go_enter Tryz.func30, Tryz.ntmps30
 go_wp2_with (first | (refine gL (some 7) rfl Tryz.func52 #[.slice A1 l1.length c1, .string a0] ?_; (with_reducible refine (strings_Join.calls _ _ l1 a0 t178 _ ?side1 ?side2 A3.out).mono ?_); (case side1 => exact uC <| HR1.out); (case side2 => exact HC1.out); rintro e w4 ⟨rfl, hb⟩; refine ⟨_, rfl, ?_⟩; replace HB := cW HB hb; (try clear hb)))
 go_ret
 exact ⟨re_, uW HB.out⟩
theorem eqA43 (d : Nat) (w : World) (x0 y0 : Int) (x1 y1 : Bool) :
 (Op.equalIn (d + 2) 43 (.agg #[.int .i64 x0, .bool x1]) (.agg #[.int .i64 y0, .bool y1])).run Tryz.prog w = .ok (x0 == y0 && (x1 == y1)) w := by
 refine eqA_of Tryz.underlying43 (by kernel_rfl) ?_
 refine eqf_cons (by rfl) (by go_simp; rfl) (by go_simp; rfl) (by go_simp) ?_
 exact eqf_last (by rfl) (by go_simp; rfl) (by go_simp; rfl) (by go_simp)
theorem eqA45 (d : Nat) (w : World) (x0 y0 : Int) (x1 y1 : ByteArray) (x2 y2 : Int) (x3 y3 : Bool) :
 (Op.equalIn (d + 3) 45 (.agg #[.int .i64 x0, .string x1, .int .i64 x2, .bool x3]) (.agg #[.int .i64 y0, .string y1, .int .i64 y2, .bool y3])).run Tryz.prog w = .ok (x0 == y0 && (x1.toList == y1.toList && ((x2 == y2 && (x3 == y3))))) w := by
 refine eqA_of Tryz.underlying45 (by kernel_rfl) ?_
 refine eqf_cons (by rfl) (by go_simp; rfl) (by go_simp; rfl) (by go_simp) ?_
 refine eqf_cons (by rfl) (by go_simp; rfl) (by go_simp; rfl) (by go_simp) ?_
 exact eqf_last (by rfl) (by go_simp) (by go_simp) (eqA43 (d + 0) w _ _ _ _)
attribute [local go_sem high] eqA45
def r08_Same.l0 : Nat → List (S45) → List (S45) → Int → Option (Bool)
 | 0, _, _, _ => none
 | k + 1, x0, x1, x5 => if x5 < (x0.length : Int) then (if 0 ≤ x5 then (if x5 < (x1.length : Int) then (if (!(((rd_T45 x0 x5).f0) == ((rd_T45 x1 x5).f0)) || (!((((rd_T45 x0 x5).f1).toList) == (((rd_T45 x1 x5).f1).toList)) || ((!(((rd_T45 x0 x5).f2.f0) == ((rd_T45 x1 x5).f2.f0)) || (!(((rd_T45 x0 x5).f2.f1) == ((rd_T45 x1 x5).f2.f1))))))) = true then (none) else (r08_Same.l0 k x0 x1 (wrap64 (x5 + 1)))) else (none)) else (none)) else (some true)
def r08_Same.f (k : Nat) (l0 : List (S45)) (l1 : List (S45)) : Option (Bool) := if (l0.length : Int) = (l1.length : Int) then (r08_Same.l0 k l0 l1 0) else (none)
theorem r08_Same.mono_l : ∀ k, (∀ y0 y1 y2, LeC (r08_Same.l0 k y0 y1 y2) (r08_Same.l0 (k + 1) y0 y1 y2))
 | 0 => fun _ _ _ => ⟨fun r h => by simp [r08_Same.l0] at h⟩
 | k + 1 => by have ih0 := r08_Same.mono_l k; exact fun _ _ _ => by unfold r08_Same.l0; exact lm
theorem r08_Same.mono : ∀ a0 a1 k, LeO (r08_Same.f k a0 a1) (r08_Same.f (k + 1) a0 a1) := by
 intro a0 a1 k
 have ih0 := r08_Same.mono_l k
 unfold r08_Same.f
 exact lo
instance r08_Same.mI {a0 a1 k} : LeC (r08_Same.f k a0 a1) (r08_Same.f (k + 1) a0 a1) := ⟨r08_Same.mono _ _ _⟩
theorem r08_Same.calls (k : Nat) (A0 : Option Addr) (c0 : Nat) (l0 : List (S45)) (A1 : Option Addr) (c1 : Nat) (l1 : List (S45)) (r : Bool) (w : World) (hr0 : Kd.C k45 w A0 l0.length l0) (hc0 : l0.length ≤ c0) (hr1 : Kd.C k45 w A1 l1.length l1) (hc1 : l1.length ≤ c1) (h : r08_Same.f k l0 l1 = some r) :
 Calls Tryz.prog 13 #[.slice A0 l0.length c0, .slice A1 l1.length c1] w fun e w' => e = .returned (.bool r) ∧ Drawn0 w w' := by
 have hu45 := Tryz.underlying45
 have HR0 := Aside0.mk hr0
 have HC0 := Aside0.mk hc0
 clear hr0 hc0
 have HR1 := Aside0.mk hr1
 have HC1 := Aside0.mk hc1
 clear hr1 hc1
 have H : (if (l0.length : Int) = (l1.length : Int) then (r08_Same.l0 k l0 l1 0) else (none)) = some r := h
 clear h
 by_cases c3 : (l0.length : Int) = (l1.length : Int)
 ·
  rw [if_pos c3] at H
  have c3b0 : ((l0.length : Int) == (l1.length : Int)) = true := beq_iff_eq.mpr c3
  have c3b1 : ((l0.length : Int) != (l1.length : Int)) = false := bne_eq_false_iff_eq.mpr c3
  have c3b2 : (l0.length == l1.length) = true := by first | simpa using c3 | (simp at c3 ⊢; omega)
  clear c3
  have H' := Aside0.mk H
  clear H
  go_enter Tryz.func13, Tryz.ntmps13
  go_wp2
  repeat (go_quiet (fail); try go_wp2)
  go_loopg [5] k (fun kq v5 w' => ∃ (x5_1 : Int), v5 = .int .i64 x5_1 ∧ Aside0 (r08_Same.l0 kq l0 l1 x5_1 = some r) ∧ Aside0 (kq ≤ k) ∧ Drawn0 w w')
  case atStart => exact ⟨(0), rs_, H', ⟨Nat.le_refl _⟩, dr_⟩
  case round =>
   clear H'
   try clear c1
   try clear p2
   try clear c3
   try clear c3b0
   try clear c3b1
   try clear c3b2
   obtain ⟨x5_1, rfl, HA, HK1, ⟨m1, rfl⟩⟩ := hrel
   cases gk with
   | zero => exact absurd HA.out (by simp [r08_Same.l0])
   | succ k1 =>
    have H := HA.out
    clear HA
    simp only [r08_Same.l0] at H
    by_cases c4 : x5_1 < (l0.length : Int)
    ·
     rw [if_pos c4] at H
     have c4b0 : decide (x5_1 < (l0.length : Int)) = true := decide_eq_true c4
     clear c4
     obtain ⟨c5b0, H⟩ := gdd H
     obtain ⟨c6b0, H⟩ := gdd H
     obtain ⟨c7, H⟩ := gn H
     have c7b0 : (!(((rd_T45 l0 x5_1).f0) == ((rd_T45 l1 x5_1).f0)) || (!((((rd_T45 l0 x5_1).f1).toList) == (((rd_T45 l1 x5_1).f1).toList)) || ((!(((rd_T45 l0 x5_1).f2.f0) == ((rd_T45 l1 x5_1).f2.f0)) || (!(((rd_T45 l0 x5_1).f2.f1) == ((rd_T45 l1 x5_1).f2.f1))))))) = false := by simpa using c7
     clear c7
     have H' := Aside0.mk H
     clear H
     have p260 : 0 ≤ (x5_1 : Int) := od
     have q260 : x5_1 < (l0.length : Int) := od
     obtain ⟨ad260, e260, hx260_0, hx260_1, hx260_2, hx260_3⟩ := at_T45 HR0.out x5_1 p260 q260
     cases e260
     replace p260 := eq_true p260
     replace q260 := eq_true q260
     have p261 : 0 ≤ (x5_1 : Int) := od
     have q261 : x5_1 < (l1.length : Int) := od
     obtain ⟨ad261, e261, hx261_0, hx261_1, hx261_2, hx261_3⟩ := at_T45 HR1.out x5_1 p261 q261
     cases e261
     replace p261 := eq_true p261
     replace q261 := eq_true q261
     go_wp2
     repeat (go_quiet (fail); try go_wp2)
     go_roundg k1
     case measure => have := HK1.out; omega
     case rel => exact ⟨(wrap64 (x5_1 + 1)), rs_, H', ⟨by have := HK1.out; omega⟩, dr_⟩
    ·
     rw [if_neg c4] at H
     have c4b0 : decide (x5_1 < (l0.length : Int)) = false := decide_eq_false c4
     clear c4
     obtain rfl := Option.some.inj H
     go_wp2
     repeat (go_quiet (fail); try go_wp2)
     go_ret
     exact ⟨rs_, dr_⟩
 ·
  rw [if_neg c3] at H
  exact absurd H (by simp)
def strconv_FormatInt.f (a0 : Int) (a1 : Int) : Option (ByteArray) := if a1 = 10 ∧ -9223372036854775808 ≤ a0 ∧ a0 ≤ 9223372036854775807 then (some (⟨(Lib.itoa a0).toArray⟩ : ByteArray)) else (none)
theorem strconv_FormatInt.calls (a0 : Int) (a1 : Int) (r : ByteArray) (w : World) (hL : LD w) (h : strconv_FormatInt.f a0 a1 = some r) :
 Calls Tryz.prog 53 #[.int .i64 a0, .int .i64 a1] w fun e w' => e = .returned (.string r) ∧ Below w.heap.size w w' := by
 unfold strconv_FormatInt.f at h
 by_cases hc : a1 = 10 ∧ -9223372036854775808 ≤ a0 ∧ a0 ≤ 9223372036854775807
 ·
  rw [if_pos hc] at h
  obtain rfl := Option.some.inj h
  obtain ⟨rfl, h0, h1⟩ := hc
  refine (Tryz.strconv_FormatInt_10 a0 h0 h1 w hL.pow10).mono ?_
  rintro e w' ⟨rfl, k, os, rfl⟩
  exact ⟨rfl, below_growX w k os⟩
 ·
  rw [if_neg hc] at h
  exact absurd h (by simp)
def sat_Number.f (a0 : Int) : Option (ByteArray) := (strconv_FormatInt.f a0 10).bind fun t262 => (some t262)
theorem sat_Number.calls (a0 : Int) (r : ByteArray) (w : World) (hL : LD w) (h : sat_Number.f a0 = some r) :
 Calls Tryz.prog 31 #[.int .i64 a0] w fun e w' => e = .returned (.string r) ∧ Below w.heap.size w w' := by
 have HL0 := Aside0.mk hL
 clear hL
 have HB := Aside0.mk (Below.refl w.heap.size w)
 have H : ((strconv_FormatInt.f a0 10).bind fun t262 => (some t262)) = some r := h
 clear h
 obtain ⟨t262, A2, H⟩ := bs H
 try dsimp only at H
 obtain rfl := Option.some.inj H
 go_enter Tryz.func31, Tryz.ntmps31
 go_wp2_with (first | (refine gL (some 4) rfl Tryz.func53 #[.int .i64 a0, .int .i64 10] ?_; (with_reducible refine (strconv_FormatInt.calls (hL := ld) a0 10 t262 _ A2.out).mono ?_); rintro e w3 ⟨rfl, hb⟩; refine ⟨_, rfl, ?_⟩; replace HB := cW HB hb; (try clear hb)))
 go_ret
 exact ⟨re_, uW HB.out⟩
def sat_Text.f (a0_0 : Int) (a0_1 : Bool) : Option (ByteArray) := if a0_1 = true then ((sat_Number.f a0_0).bind fun t264 => (if t264.size + 1 ≤ 9223372036854775807 then (some (t264 ++ (⟨#[33]⟩ : ByteArray))) else (none))) else ((sat_Number.f a0_0).bind fun t265 => (some t265))
theorem sat_Text.calls (a0_0 : Int) (a0_1 : Bool) (r : ByteArray) (w : World) (hL : LD w) (h : sat_Text.f a0_0 a0_1 = some r) :
 Calls Tryz.prog 54 #[.agg #[.int .i64 a0_0, .bool a0_1]] w fun e w' => e = .returned (.string r) ∧ Below w.heap.size w w' := by
 have HL0 := Aside0.mk hL
 clear hL
 have hu43 := Tryz.underlying43
 have HB := Aside0.mk (Below.refl w.heap.size w)
 have H : (if a0_1 = true then ((sat_Number.f a0_0).bind fun t264 => (if t264.size + 1 ≤ 9223372036854775807 then (some (t264 ++ (⟨#[33]⟩ : ByteArray))) else (none))) else ((sat_Number.f a0_0).bind fun t265 => (some t265))) = some r := h
 clear h
 by_cases c2 : a0_1 = true
 ·
  subst c2
  rw [if_pos rfl] at H
  obtain ⟨t264, A3, H⟩ := bs H
  try dsimp only at H
  obtain ⟨c4, H⟩ := gd H
  have c4b0 := eq_true c4
  have c4b1 : decide (t264.size + 1 ≤ 9223372036854775807) = true := decide_eq_true c4
  try have c4b2 : (9223372036854775807 < t264.size + 1) = False := eq_false (Nat.not_lt.2 c4)
  obtain rfl := Option.some.inj H
  go_enter Tryz.func54, Tryz.ntmps54
  go_wp2_with (first | ((with_reducible refine gate_dst (N := 1) rfl ?_); refine bx (N := 1) #[.int .i64 a0_0, .bool true] 43 ?_; intro gb263 hg w5 hbox hb; have BK263 := Aside0.mk (hbox); have GW263 := gw hg (uW HB.out); have GE263 := GW263; replace HB := cW HB hb; clear hb hbox hg; obtain ⟨hcz6_0, hcz6_1, hfz6_0, hfz6_1⟩ := z2 BK263) | (refine gL (some 7) rfl Tryz.func31 #[.int .i64 a0_0] ?_; (with_reducible refine (sat_Number.calls (hL := ld) a0_0 t264 _ A3.out).mono ?_); rintro e w7 ⟨rfl, hb⟩; refine ⟨_, rfl, ?_⟩; replace BK263 := cB BK263 hb; replace HB := Aside0.mk (below_step bl hb); (try clear hb)))
  go_ret
  exact ⟨re_, bl⟩
 ·
  replace c2 := Bool.eq_false_iff.mpr c2
  subst c2
  rw [if_neg (show ¬ (false = true) by decide)] at H
  obtain ⟨t265, A8, H⟩ := bs H
  try dsimp only at H
  obtain rfl := Option.some.inj H
  go_enter Tryz.func54, Tryz.ntmps54
  go_wp2_with (first | ((with_reducible refine gate_dst (N := 1) rfl ?_); refine bx (N := 1) #[.int .i64 a0_0, .bool false] 43 ?_; intro gb263 hg w9 hbox hb; have BK263 := Aside0.mk (hbox); have GW263 := gw hg (uW HB.out); have GE263 := GW263; replace HB := cW HB hb; clear hb hbox hg; obtain ⟨hcz10_0, hcz10_1, hfz10_0, hfz10_1⟩ := z2 BK263) | (refine gL (some 11) rfl Tryz.func31 #[.int .i64 a0_0] ?_; (with_reducible refine (sat_Number.calls (hL := ld) a0_0 t265 _ A8.out).mono ?_); rintro e w11 ⟨rfl, hb⟩; refine ⟨_, rfl, ?_⟩; replace BK263 := cB BK263 hb; replace HB := Aside0.mk (below_step bl hb); (try clear hb)))
  go_ret
  exact ⟨re_, bl⟩
def row_Text.l0 : Nat → List ByteArray → List (S45) → Int → Int → Option (ByteArray)
 | 0, _, _, _, _ => none
 | k + 1, x3, x9, x10, x11 => if x11 < x10 then (if 0 ≤ x11 then (if x11 < (x9.length : Int) then ((sat_Number.f ((rd_T45 x9 x11).f0)).bind fun t268 => ((sat_Text.f ((rd_T45 x9 x11).f2.f0) ((rd_T45 x9 x11).f2.f1)).bind fun t269 => ((word_Join.f (⟨#[124]⟩ : ByteArray) (([t268, (rd_T45 x9 x11).f1, t269] : List ByteArray))).bind fun t273 => (if x3.length < 8796093022208 then (row_Text.l0 k (x3 ++ [t273]) x9 x10 (wrap64 (x11 + 1))) else (none))))) else (none)) else (none)) else ((word_Join.f (⟨#[59]⟩ : ByteArray) x3).bind fun t277 => (some t277))
def row_Text.f (k : Nat) (l0 : List (S45)) : Option (ByteArray) := if (l0.length : Int) = 0 then (some (⟨#[45]⟩ : ByteArray)) else (row_Text.l0 k ([] : List ByteArray) l0 (l0.length : Int) 0)
theorem row_Text.mono_l : ∀ k, (∀ y0 y1 y2 y3, LeC (row_Text.l0 k y0 y1 y2 y3) (row_Text.l0 (k + 1) y0 y1 y2 y3))
 | 0 => fun _ _ _ _ => ⟨fun r h => by simp [row_Text.l0] at h⟩
 | k + 1 => by have ih0 := row_Text.mono_l k; exact fun _ _ _ _ => by unfold row_Text.l0; exact lm
theorem row_Text.mono : ∀ a0 k, LeO (row_Text.f k a0) (row_Text.f (k + 1) a0) := by
 intro a0 k
 have ih0 := row_Text.mono_l k
 unfold row_Text.f
 exact lo
instance row_Text.mI {a0 k} : LeC (row_Text.f k a0) (row_Text.f (k + 1) a0) := ⟨row_Text.mono _ _⟩
def row_Text.T7 : Bool × List (List Nat × List Nat) := (true, [([], []), ([], []), ([1], [1]), ([2], [2]), ([], []), ([4], [4]), ([], []), ([6], [6]), ([7, 3], [7]), ([3, 5, 8], [3, 5, 8]), ([9, 8], [9]), ([10], [10]), ([0, 11, 10], [0, 11]), ([12, 12, 0, 1, 2, 3, 4, 5, 6, 7, 8, 9, 10, 11, 12], [0, 12])])
def row_Text.B7 : List Nat := [0, 0, 2, 6, 0, 16, 0, 64, 206, 510, 1022, 2046, 4095, 8191]
theorem row_Text.tab7 : rtab .any (opsOf Tryz.f32 7) = row_Text.T7 := by kernel_rfl
theorem row_Text.bits7 : waitsOk row_Text.T7.2 row_Text.B7 = true := by kernel_rfl
theorem row_Text.calls (k : Nat) (A0 : Option Addr) (c0 : Nat) (l0 : List (S45)) (r : ByteArray) (w : World) (hr0 : Kd.C k45 w A0 l0.length l0) (hc0 : l0.length ≤ c0) (hL : LD w) (h : row_Text.f k l0 = some r) :
 Calls Tryz.prog 32 #[.slice A0 l0.length c0] w fun e w' => e = .returned (.string r) ∧ Below w.heap.size w w' := by
 have HL0 := Aside0.mk hL
 clear hL
 have hu45 := Tryz.underlying45
 have hu43 := Tryz.underlying43
 have HR0 := Aside0.mk hr0
 have HC0 := Aside0.mk hc0
 clear hr0 hc0
 have HB := Aside0.mk (Below.refl w.heap.size w)
 have H : (if (l0.length : Int) = 0 then (some (⟨#[45]⟩ : ByteArray)) else (row_Text.l0 k ([] : List ByteArray) l0 (l0.length : Int) 0)) = some r := h
 clear h
 by_cases c2 : (l0.length : Int) = 0
 ·
  rw [if_pos c2] at H
  have c2b0 : ((l0.length : Int) == 0) = true := beq_iff_eq.mpr c2
  have c2b1 : ((l0.length : Int) != 0) = false := bne_eq_false_iff_eq.mpr c2
  clear c2
  obtain rfl := Option.some.inj H
  go_enter Tryz.func32, Tryz.ntmps32
  go_wp2
  go_ret
  exact ⟨re_, uW HB.out⟩
 ·
  rw [if_neg c2] at H
  have c2b0 : ((l0.length : Int) == 0) = false := beq_eq_false_iff_ne.mpr c2
  have c2b1 : ((l0.length : Int) != 0) = true := bne_iff_ne.mpr c2
  have c2b2 : ¬ (l0 = []) := fun h_ => c2 (by rw [h_]; rfl)
  have H' := Aside0.mk H
  clear H
  go_enter Tryz.func32, Tryz.ntmps32
  go_wp2
  go_loopg [3, 11] k (fun kq v3 v11 w' => ∃ (x3_1 : List ByteArray) (x11_1 : Int), v11 = .int .i64 x11_1 ∧ Aside0 (row_Text.l0 kq x3_1 l0 (l0.length : Int) x11_1 = some r) ∧ Aside0 (kq ≤ k) ∧ Aside0 (Kd.R Kd.string 9 w' w.heap.size (fun _ => True) v3 x3_1) ∧ Aside0 (Below w.heap.size w w'))
  case atStart => exact ⟨(([] : List ByteArray)), (0), rs_, H', ⟨Nat.le_refl _⟩, ⟨nl_⟩, ⟨uW HB.out⟩⟩
  case round =>
   clear H'
   try clear c2
   try clear c2b0
   try clear c2b1
   try clear c2b2
   try clear p2
   obtain ⟨x3_1, x11_1, rfl, HA, HK1, HO_3, HB⟩ := hrel
   cases gk with
   | zero => exact absurd HA.out (by simp [row_Text.l0])
   | succ k1 =>
    have H := HA.out
    clear HA
    simp only [row_Text.l0] at H
    by_cases c3 : x11_1 < (l0.length : Int)
    ·
     rw [if_pos c3] at H
     have c3b0 : decide (x11_1 < (l0.length : Int)) = true := decide_eq_true c3
     clear c3
     obtain ⟨c4b0, H⟩ := gdd H
     obtain ⟨c5b0, H⟩ := gdd H
     obtain ⟨t268, A6, H⟩ := bs H
     try dsimp only at H
     obtain ⟨t269, A7, H⟩ := bs H
     try dsimp only at H
     obtain ⟨y270, hy270⟩ : ∃ y_ : List ByteArray, y_ = (([t268, (rd_T45 l0 x11_1).f1, t269] : List ByteArray)) := ⟨_, rfl⟩
     replace H : ((word_Join.f (⟨#[124]⟩ : ByteArray) y270).bind fun t273 => (if x3_1.length < 8796093022208 then (row_Text.l0 k1 (x3_1 ++ [t273]) l0 (l0.length : Int) (wrap64 (x11_1 + 1))) else (none))) = some r := by first | (rw [hy270]; with_reducible exact H) | (have H2_ := (Option.bind_some _ _).symm.trans H; rw [hy270]; with_reducible exact H2_) | (have H2_ := (Option.bind_some _ _).symm.trans H; with_reducible exact H2_) | with_reducible exact H | (rw [hy270]; exact H) | exact H
     have Ny270 := Aside0.mk hy270
     clear hy270
     obtain ⟨t273, A8, H⟩ := bs H
     try dsimp only at H
     obtain ⟨c9, H⟩ := gd H
     have LMc9 := Aside0.mk c9
     clear c9
     obtain ⟨y274, hy274⟩ : ∃ y_ : List ByteArray, y_ = (x3_1 ++ [t273]) := ⟨_, rfl⟩
     replace H : (row_Text.l0 k1 y274 l0 (l0.length : Int) (wrap64 (x11_1 + 1))) = some r := by first | (rw [hy274]; with_reducible exact H) | (have H2_ := (Option.bind_some _ _).symm.trans H; rw [hy274]; with_reducible exact H2_) | (have H2_ := (Option.bind_some _ _).symm.trans H; with_reducible exact H2_) | with_reducible exact H | (rw [hy274]; exact H) | exact H
     have Ny274 := Aside0.mk hy274
     clear hy274
     have H' := Aside0.mk H
     clear H
     have p266 : 0 ≤ (x11_1 : Int) := od
     have q266 : x11_1 < (l0.length : Int) := od
     obtain ⟨ad266, e266, hx266_0, hx266_1, hx266_2, hx266_3⟩ := at_T45 HR0.out x11_1 p266 q266
     cases e266
     replace hx266_0 := kc HB hx266_0
     replace hx266_1 := kc HB hx266_1
     replace hx266_2 := kc HB hx266_2
     replace hx266_3 := kc HB hx266_3
     replace p266 := eq_true p266
     replace q266 := eq_true q266
     try go_wp2_with (first | ((with_reducible refine gate_dst (N := 5) rfl ?_); refine bx (N := 5) #[.int .i64 0, .string (⟨#[]⟩ : ByteArray), .int .i64 0, .bool false] 45 ?_; intro gb267 hg w10 hbox hb; replace HO_3 := cR HO_3 hb; have BK267 := Aside0.mk (hbox); have GW267 := gw hg (uW HB.out); have GE267 := GW267; replace HB := cW HB hb; clear hb hbox hg; obtain ⟨hcz11_0, hcz11_1, hcz11_2, hcz11_3, hfz11_0, hfz11_1, hfz11_2, hfz11_3⟩ := z4 BK267))
     have n0_ : Aside0 (Kd.R Kd.string 9 ((((w10.setCell ⟨gb267, 0, none⟩ (.int .i64 ((rd_T45 l0 x11_1).f0))).setCell ⟨gb267, 1, none⟩ (.string ((rd_T45 l0 x11_1).f1))).setCell ⟨gb267, 2, none⟩ (.int .i64 ((rd_T45 l0 x11_1).f2.f0))).setCell ⟨gb267, 3, none⟩ (.bool ((rd_T45 l0 x11_1).f2.f1))) w.heap.size (fun _ => True) u3 x3_1) := ⟨by exact uR <| Kd.R_mono (Kd.R_far (p := ⟨gb267, 3, none⟩) (Kd.R_far (p := ⟨gb267, 2, none⟩) (Kd.R_far (p := ⟨gb267, 1, none⟩) (Kd.R_far (p := ⟨gb267, 0, none⟩) (Kd.R_types HO_3.out BK267.out (by decide)) (fun _ hk => hk.2) (.int .i64 ((rd_T45 l0 x11_1).f0))) (fun _ hk => hk.2) (.string ((rd_T45 l0 x11_1).f1))) (fun _ hk => hk.2) (.int .i64 ((rd_T45 l0 x11_1).f2.f0))) (fun _ hk => hk.2) (.bool ((rd_T45 l0 x11_1).f2.f1))) (fun _ hk => trivial)⟩
     have n1_ : Aside0 (((((w10.setCell ⟨gb267, 0, none⟩ (.int .i64 ((rd_T45 l0 x11_1).f0))).setCell ⟨gb267, 1, none⟩ (.string ((rd_T45 l0 x11_1).f1))).setCell ⟨gb267, 2, none⟩ (.int .i64 ((rd_T45 l0 x11_1).f2.f0))).setCell ⟨gb267, 3, none⟩ (.bool ((rd_T45 l0 x11_1).f2.f1))).heap[gb267]? = some (.cells #[.int .i64 ((rd_T45 l0 x11_1).f0), .string ((rd_T45 l0 x11_1).f1), .int .i64 ((rd_T45 l0 x11_1).f2.f0), .bool ((rd_T45 l0 x11_1).f2.f1)] 45 (0, 0))) := ⟨by (with_reducible repeat (first | refine blk_drewN ?_ _ | refine blk_drew ?_ | refine blk_alloc ?_ _)); refine blk_put (cs := #[.int .i64 ((rd_T45 l0 x11_1).f0), .string ((rd_T45 l0 x11_1).f1), .int .i64 ((rd_T45 l0 x11_1).f2.f0), .bool false]) ?_ 3 _ rfl; (with_reducible repeat (first | refine blk_drewN ?_ _ | refine blk_drew ?_ | refine blk_alloc ?_ _)); refine blk_put (cs := #[.int .i64 ((rd_T45 l0 x11_1).f0), .string ((rd_T45 l0 x11_1).f1), .int .i64 0, .bool false]) ?_ 2 _ rfl; (with_reducible repeat (first | refine blk_drewN ?_ _ | refine blk_drew ?_ | refine blk_alloc ?_ _)); refine blk_put (cs := #[.int .i64 ((rd_T45 l0 x11_1).f0), .string (⟨#[]⟩ : ByteArray), .int .i64 0, .bool false]) ?_ 1 _ rfl; (with_reducible repeat (first | refine blk_drewN ?_ _ | refine blk_drew ?_ | refine blk_alloc ?_ _)); refine blk_put (cs := #[.int .i64 0, .string (⟨#[]⟩ : ByteArray), .int .i64 0, .bool false]) ?_ 0 _ rfl; exact uB <| BK267.out⟩
     have n2_ : Aside0 (Below w.heap.size w ((((w10.setCell ⟨gb267, 0, none⟩ (.int .i64 ((rd_T45 l0 x11_1).f0))).setCell ⟨gb267, 1, none⟩ (.string ((rd_T45 l0 x11_1).f1))).setCell ⟨gb267, 2, none⟩ (.int .i64 ((rd_T45 l0 x11_1).f2.f0))).setCell ⟨gb267, 3, none⟩ (.bool ((rd_T45 l0 x11_1).f2.f1)))) := ⟨bl⟩
     (try clear HO_3)
     (try clear BK267)
     (try clear HB)
     generalize ((((w10.setCell ⟨gb267, 0, none⟩ (.int .i64 ((rd_T45 l0 x11_1).f0))).setCell ⟨gb267, 1, none⟩ (.string ((rd_T45 l0 x11_1).f1))).setCell ⟨gb267, 2, none⟩ (.int .i64 ((rd_T45 l0 x11_1).f2.f0))).setCell ⟨gb267, 3, none⟩ (.bool ((rd_T45 l0 x11_1).f2.f1))) = w12 at n0_ n1_ n2_ ⊢
     have HO_3 := n0_
     have BK267 := n1_
     have HB := n2_
     clear n0_ n1_ n2_
     replace HO_3 := Aside0.mk (Kd.R_drew HO_3.out)
     replace BK267 := Aside0.mk (blk_drew BK267.out)
     replace HB := Aside0.mk (below_drew1 HB.out)
     refine start_ (n := 14) (S := fun w' => w'.cell? ⟨gb267, 0, none⟩ = some (.int .i64 ((rd_T45 l0 x11_1).f0)) ∧ w'.cell? ⟨gb267, 1, none⟩ = some (.string ((rd_T45 l0 x11_1).f1)) ∧ w'.cell? ⟨gb267, 2, none⟩ = some (.int .i64 ((rd_T45 l0 x11_1).f2.f0)) ∧ w'.cell? ⟨gb267, 3, none⟩ = some (.bool ((rd_T45 l0 x11_1).f2.f1))) (ds := []) _ (by kernel_rfl) rfl rfl ⟨(blk_cell BK267.out 0).trans rfl, (blk_cell BK267.out 1).trans rfl, (blk_cell BK267.out 2).trans rfl, (blk_cell BK267.out 3).trans rfl⟩ (fun hHeld => ?_); refine with_tabW row_Text.tab7 row_Text.bits7 (fun HT_ HW_ => ?_)
     generalize w12.drew = w13 at HO_3 BK267 HB hHeld ⊢
     refine p1 0 (some 15) ?_
     refine p1 1 (some 16) ?_
     refine p1 4 (some 19) ?_
     refine p1 6 (some 21) ?_
     refine t1 2 (some 17) rfl rfl hHeld (Or.inl ⟨by rfl, by rintro w' ⟨s0, s1, s2, s3⟩; go_simp; with_reducible rfl⟩) ?_
     refine t1 5 (some 20) rfl rfl hHeld (Or.inl ⟨by rfl, by rintro w' ⟨s0, s1, s2, s3⟩; go_simp; with_reducible rfl⟩) ?_
     refine t1 7 (some 22) rfl rfl hHeld (Or.inl ⟨by rfl, by rintro w' ⟨s0, s1, s2, s3⟩; go_simp; with_reducible rfl⟩) ?_
     refine o1 3 (some 18) rfl rfl (fun K hK => ?_)
     refine gS Tryz.func31 #[.int .i64 ((rd_T45 l0 x11_1).f0)] ?_
     with_reducible refine (sat_Number.calls (hL := ld) ((rd_T45 l0 x11_1).f0) t268 _ A6.out).mono ?_
     rintro e w14 ⟨rfl, hb⟩
     refine ⟨_, rfl, ?_⟩
     replace HO_3 := cR HO_3 hb
     replace BK267 := cB BK267 hb
     replace HB := Aside0.mk (below_step bl hb)
     (try clear hb)
     refine hK.out _ _ ⟨(blk_cell BK267.out 0).trans rfl, (blk_cell BK267.out 1).trans rfl, (blk_cell BK267.out 2).trans rfl, (blk_cell BK267.out 3).trans rfl⟩ (fun hHeld => ?_)
     clear hK K
     refine norm_ (a' := ?_) ?_ ?_
     rotate_left
     ·
      show Act.put _ (some 18) _ = _
      simp only [Act.put, List.setIfInBounds_toArray, List.set_cons_zero, List.set_cons_succ, i64_w, i32_w]
      rfl
     refine o1 8 (some 23) rfl rfl (fun K hK => ?_)
     refine gS Tryz.func54 #[.agg #[.int .i64 ((rd_T45 l0 x11_1).f2.f0), .bool ((rd_T45 l0 x11_1).f2.f1)]] ?_
     with_reducible refine (sat_Text.calls (hL := ld) ((rd_T45 l0 x11_1).f2.f0) ((rd_T45 l0 x11_1).f2.f1) t269 _ A7.out).mono ?_
     rintro e w15 ⟨rfl, hb⟩
     refine ⟨_, rfl, ?_⟩
     replace HO_3 := cR HO_3 hb
     replace BK267 := cB BK267 hb
     replace HB := Aside0.mk (below_step bl hb)
     (try clear hb)
     refine hK.out _ _ ⟨(blk_cell BK267.out 0).trans rfl, (blk_cell BK267.out 1).trans rfl, (blk_cell BK267.out 2).trans rfl, (blk_cell BK267.out 3).trans rfl⟩ (fun hHeld => ?_)
     clear hK K
     refine norm_ (a' := ?_) ?_ ?_
     rotate_left
     ·
      show Act.put _ (some 23) _ = _
      simp only [Act.put, List.setIfInBounds_toArray, List.set_cons_zero, List.set_cons_succ, i64_w, i32_w]
      rfl
     refine o1 9 (some 24) rfl rfl (fun K hK => ?_)
     refine Kd.R_lit_step Kd.string _ 9 ?hg (N := 24) ?hd (xs := ([t268, (rd_T45 l0 x11_1).f1, t269] : List ByteArray)) (inner := [.string t268, .string ((rd_T45 l0 x11_1).f1), .string t269]) (ok := fun _ => True) (okp := fun _ => True) ?hr ?hp (fun _ hk => hk) trivial (Below.refl _ _) (Nat.le_refl _) (by simp) ?_; (case hd => rfl); (case hg => rfl); (case hr => first | (go_simp; done) | (go_simp; rfl)); (case hp => exact (Reps.one (show Kd.M Kd.string _ _ _ t268 [.string t268] from rfl) (Reps.one (show Kd.M Kd.string _ _ _ ((rd_T45 l0 x11_1).f1) [.string ((rd_T45 l0 x11_1).f1)] from rfl) (Reps.one (show Kd.M Kd.string _ _ _ t269 [.string t269] from rfl) (Reps.none _ _)))))
     intro v271 w16 ho17 hb hg_ hnew_
     clear hg_ hnew_
     (first | rw [← Ny270.out] at ho17 | (simp only [Int.reduceToNat] at ho17; rw [← Ny270.out] at ho17))
     have HO272 := Aside0.mk (Kd.R_lower (Kd.R_new' ho17 (Kd.R_lt (uR HO_3.out))) (below_size bl))
     replace HO_3 := Aside0.mk (Kd.R_elder' (uR HO_3.out) (Kd.R_base ho17) hb)
     replace BK267 := cB BK267 hb
     replace HB := Aside0.mk (below_step bl hb)
     clear hb ho17
     obtain ⟨Ao18, co18, eo18⟩ := Kd.R_slice HO272.out
     (first | subst eo18 | (injection eo18 with f1_ f2_ f3_; have f4_ := f1_.symm; have f5_ := f3_.symm; clear f1_ f2_ f3_; subst f4_; subst f5_))
     refine hK.out _ _ ⟨(blk_cell BK267.out 0).trans rfl, (blk_cell BK267.out 1).trans rfl, (blk_cell BK267.out 2).trans rfl, (blk_cell BK267.out 3).trans rfl⟩ (fun hHeld => ?_)
     clear hK K
     refine norm_ (a' := ?_) ?_ ?_
     rotate_left
     ·
      show Act.put _ (some 24) _ = _
      simp only [Act.put, List.setIfInBounds_toArray, List.set_cons_zero, List.set_cons_succ, i64_w, i32_w]
      rfl
     refine o1 10 (some 25) rfl rfl (fun K hK => ?_)
     refine gS Tryz.func30 #[.string (⟨#[124]⟩ : ByteArray), .slice Ao18 y270.length co18] ?_
     with_reducible refine (word_Join.calls (⟨#[124]⟩ : ByteArray) _ _ y270 t273 _ ?side1 ?side2 A8.out).mono ?_
     (case side1 => exact uC <| (Kd.R_reads' HO272.out).2.2)
     (case side2 => exact (Kd.R_reads' HO272.out).2.1)
     rintro e w19 ⟨rfl, hb⟩
     refine ⟨_, rfl, ?_⟩
     replace HO_3 := cR HO_3 hb
     replace HO272 := cR HO272 hb
     replace BK267 := cB BK267 hb
     replace HB := Aside0.mk (below_step bl hb)
     (try clear hb)
     refine hK.out _ _ ⟨(blk_cell BK267.out 0).trans rfl, (blk_cell BK267.out 1).trans rfl, (blk_cell BK267.out 2).trans rfl, (blk_cell BK267.out 3).trans rfl⟩ (fun hHeld => ?_)
     clear hK K
     refine norm_ (a' := ?_) ?_ ?_
     rotate_left
     ·
      show Act.put _ (some 25) _ = _
      simp only [Act.put, List.setIfInBounds_toArray, List.set_cons_zero, List.set_cons_succ, i64_w, i32_w]
      rfl
     refine o1 11 (some 26) rfl rfl (fun K hK => ?_)
     refine value_ (w1 := ?_) (v := ?_) (by rfl) rfl ?_ ?_
     rotate_left 2
     ·
      go_simp
      constructor
      ·
       rfl
      ·
       rfl
     refine hK.out _ _ ⟨(blk_cell (blk_alloc BK267.out _) 0).trans rfl, (blk_cell (blk_alloc BK267.out _) 1).trans rfl, (blk_cell (blk_alloc BK267.out _) 2).trans rfl, (blk_cell (blk_alloc BK267.out _) 3).trans rfl⟩ (fun hHeld => ?_)
     clear hK K
     refine norm_ (a' := ?_) ?_ ?_
     rotate_left
     ·
      show Act.put _ (some 26) _ = _
      simp only [Act.put, List.setIfInBounds_toArray, List.set_cons_zero, List.set_cons_succ, i64_w, i32_w]
      rfl
     refine o1 12 (some 27) rfl rfl (fun K hK => ?_)
     refine Kd.R_append_step Kd.string (w0 := w) w.heap.size (by rfl) (.tmp 15) (.tmp 26) 52 9 (.string ⟨#[]⟩) 16 rfl Tryz.underlying52 info9 rfl (by decide) (by omega) u3 x3_1 t273 [.string t273] (fun k_ => some k_ ≠ (.slice Ao18 y270.length co18 : Value).ownBlock) (fun _ => False) rfl rfl ?aP (fun _ hk => hk.elim) ?aF ?aO ?aB ?aS ?aL ?_
     (case aP => exact rfl)
     (case aB => exact bl)
     (case aF => exact (fun k_ hk => Kd.fresh' (Kd.R_lt (uR HO272.out)) k_ hk))
     (case aO => exact (by exact uR <| Kd.R_mono HO_3.out (fun _ hk => hk.2)))
     (case aS => exact (below_size bl))
     (case aL => have := LMc9.out; omega)
     intro v275 w20 ho hb hg hat
     rw [← Ny274.out] at ho
     replace BK267 := Aside0.mk (blk_grown (g := gb267) (o := .cells #[.int .i64 ((rd_T45 l0 x11_1).f0), .string ((rd_T45 l0 x11_1).f1), .int .i64 ((rd_T45 l0 x11_1).f2.f0), .bool ((rd_T45 l0 x11_1).f2.f1)] 45 (0, 0)) (uB BK267.out) hg (Kd.R_ne HO_3.out BK267.out (by decide)))
     replace HO272 := Aside0.mk (Kd.R_after (ok := (fun _ => True)) (uR HO272.out) hg hat)
     replace HB := Aside0.mk (hb)
     have HO276 := Aside0.mk (ho)
     clear HO_3
     clear ho hb hg hat
     refine hK.out _ _ ⟨(blk_cell BK267.out 0).trans rfl, (blk_cell BK267.out 1).trans rfl, (blk_cell BK267.out 2).trans rfl, (blk_cell BK267.out 3).trans rfl⟩ (fun hHeld => ?_)
     clear hK K
     refine norm_ (a' := ?_) ?_ ?_
     rotate_left
     ·
      show Act.put _ (some 27) _ = _
      simp only [Act.put, List.setIfInBounds_toArray, List.set_cons_zero, List.set_cons_succ, i64_w, i32_w]
      rfl
     refine p1 13 (some 3) ?_
     refine done_ (done_of HT_.out (by kernel_rfl)) ?_
     try go_wp2
     go_roundg k1
     case measure => have := HK1.out; omega
     case rel => exact ⟨(y274), (wrap64 (x11_1 + 1)), rs_, H', ⟨by have := HK1.out; omega⟩, ⟨by exact uR <| Kd.R_mono HO276.out (fun _ hk => trivial)⟩, ⟨bl⟩⟩
    ·
     rw [if_neg c3] at H
     have c3b0 : decide (x11_1 < (l0.length : Int)) = false := decide_eq_false c3
     clear c3
     obtain ⟨t277, A21, H⟩ := bs H
     try dsimp only at H
     obtain rfl := Option.some.inj H
     obtain ⟨Ao22, co22, eo22⟩ := Kd.R_slice HO_3.out
     subst eo22
     go_wp2_with (first | (refine gL (some 30) rfl Tryz.func30 #[.string (⟨#[59]⟩ : ByteArray), .slice Ao22 x3_1.length co22] ?_; (with_reducible refine (word_Join.calls (⟨#[59]⟩ : ByteArray) _ _ x3_1 t277 _ ?side1 ?side2 A21.out).mono ?_); (case side1 => exact uC <| (Kd.R_reads' HO_3.out).2.2); (case side2 => exact (Kd.R_reads' HO_3.out).2.1); rintro e w23 ⟨rfl, hb⟩; refine ⟨_, rfl, ?_⟩; replace HO_3 := cR HO_3 hb; replace HB := cW HB hb; (try clear hb)))
     go_ret
     exact ⟨re_, uW HB.out⟩
def diff_Text.l0 : Nat → List ByteArray → List (S48) → Int → Int → Option (ByteArray)
 | 0, _, _, _, _ => none
 | k + 1, x3, x9, x10, x11 => if x11 < x10 then (if 0 ≤ x11 then (if x11 < (x9.length : Int) then (if (rd_T48 x9 x11).f1 = true then ((sat_Number.f ((rd_T48 x9 x11).f0.f0)).bind fun t281 => ((word_Join.f (⟨#[124]⟩ : ByteArray) (([t281, (rd_T48 x9 x11).f0.f1] : List ByteArray))).bind fun t285 => (if 1 + t285.size ≤ 9223372036854775807 then (if x3.length < 8796093022208 then (diff_Text.l0 k (x3 ++ [(⟨#[33]⟩ : ByteArray) ++ t285]) x9 x10 (wrap64 (x11 + 1))) else (none)) else (none)))) else ((row_Text.f k (([(⟨(rd_T48 x9 x11).f0.f0, (rd_T48 x9 x11).f0.f1, (⟨(rd_T48 x9 x11).f0.f2.f0, (rd_T48 x9 x11).f0.f2.f1⟩ : S43)⟩ : S45)] : List (S45)))).bind fun t292 => (if x3.length < 8796093022208 then (diff_Text.l0 k (x3 ++ [t292]) x9 x10 (wrap64 (x11 + 1))) else (none)))) else (none)) else (none)) else ((word_Join.f (⟨#[59]⟩ : ByteArray) x3).bind fun t278 => (some t278))
def diff_Text.f (k : Nat) (l0 : List (S48)) : Option (ByteArray) := if (l0.length : Int) = 0 then (some (⟨#[45]⟩ : ByteArray)) else (diff_Text.l0 k ([] : List ByteArray) l0 (l0.length : Int) 0)
theorem diff_Text.mono_l : ∀ k, (∀ y0 y1 y2 y3, LeC (diff_Text.l0 k y0 y1 y2 y3) (diff_Text.l0 (k + 1) y0 y1 y2 y3))
 | 0 => fun _ _ _ _ => ⟨fun r h => by simp [diff_Text.l0] at h⟩
 | k + 1 => by have ih0 := diff_Text.mono_l k; exact fun _ _ _ _ => by unfold diff_Text.l0; exact lm
theorem diff_Text.mono : ∀ a0 k, LeO (diff_Text.f k a0) (diff_Text.f (k + 1) a0) := by
 intro a0 k
 have ih0 := diff_Text.mono_l k
 unfold diff_Text.f
 exact lo
instance diff_Text.mI {a0 k} : LeC (diff_Text.f k a0) (diff_Text.f (k + 1) a0) := ⟨diff_Text.mono _ _⟩
def diff_Text.T8 : Bool × List (List Nat × List Nat) := (true, [([], []), ([], []), ([1], [1]), ([2], [2]), ([3], [3]), ([], []), ([5], [5]), ([6], [6]), ([4, 7], [4, 7]), ([8, 4], [8]), ([9], [9]), ([10], [10]), ([0, 11, 9], [0, 11]), ([12, 12, 0, 1, 2, 3, 4, 5, 6, 7, 8, 9, 10, 11, 12], [0, 12])])
def diff_Text.B8 : List Nat := [0, 0, 2, 6, 14, 0, 32, 96, 254, 510, 1022, 2046, 4095, 8191]
theorem diff_Text.tab8 : rtab .any (opsOf Tryz.f14 8) = diff_Text.T8 := by kernel_rfl
theorem diff_Text.bits8 : waitsOk diff_Text.T8.2 diff_Text.B8 = true := by kernel_rfl
theorem diff_Text.calls (k : Nat) (A0 : Option Addr) (c0 : Nat) (l0 : List (S48)) (r : ByteArray) (w : World) (hr0 : Kd.C k48 w A0 l0.length l0) (hc0 : l0.length ≤ c0) (hL : LD w) (h : diff_Text.f k l0 = some r) :
 Calls Tryz.prog 14 #[.slice A0 l0.length c0] w fun e w' => e = .returned (.string r) ∧ Below w.heap.size w w' := by
 have HL0 := Aside0.mk hL
 clear hL
 have hu48 := Tryz.underlying48
 have hu45 := Tryz.underlying45
 have HR0 := Aside0.mk hr0
 have HC0 := Aside0.mk hc0
 clear hr0 hc0
 have HB := Aside0.mk (Below.refl w.heap.size w)
 have H : (if (l0.length : Int) = 0 then (some (⟨#[45]⟩ : ByteArray)) else (diff_Text.l0 k ([] : List ByteArray) l0 (l0.length : Int) 0)) = some r := h
 clear h
 by_cases c2 : (l0.length : Int) = 0
 ·
  rw [if_pos c2] at H
  have c2b0 : ((l0.length : Int) == 0) = true := beq_iff_eq.mpr c2
  have c2b1 : ((l0.length : Int) != 0) = false := bne_eq_false_iff_eq.mpr c2
  clear c2
  obtain rfl := Option.some.inj H
  go_enter Tryz.func14, Tryz.ntmps14
  go_wp2
  go_ret
  exact ⟨re_, uW HB.out⟩
 ·
  rw [if_neg c2] at H
  have c2b0 : ((l0.length : Int) == 0) = false := beq_eq_false_iff_ne.mpr c2
  have c2b1 : ((l0.length : Int) != 0) = true := bne_iff_ne.mpr c2
  have c2b2 : ¬ (l0 = []) := fun h_ => c2 (by rw [h_]; rfl)
  have H' := Aside0.mk H
  clear H
  go_enter Tryz.func14, Tryz.ntmps14
  go_wp2
  go_loopg [3, 11] k (fun kq v3 v11 w' => ∃ (x3_1 : List ByteArray) (x11_1 : Int), v11 = .int .i64 x11_1 ∧ Aside0 (diff_Text.l0 kq x3_1 l0 (l0.length : Int) x11_1 = some r) ∧ Aside0 (kq ≤ k) ∧ Aside0 (Kd.R Kd.string 9 w' w.heap.size (fun _ => True) v3 x3_1) ∧ Aside0 (Below w.heap.size w w'))
  case atStart => exact ⟨(([] : List ByteArray)), (0), rs_, H', ⟨Nat.le_refl _⟩, ⟨nl_⟩, ⟨uW HB.out⟩⟩
  case round =>
   clear H'
   try clear c1
   try clear c2
   try clear c2b0
   try clear c2b1
   try clear c2b2
   try clear p2
   obtain ⟨x3_1, x11_1, rfl, HA, HK1, HO_3, HB⟩ := hrel
   cases gk with
   | zero => exact absurd HA.out (by simp [diff_Text.l0])
   | succ k1 =>
    have H := HA.out
    clear HA
    simp only [diff_Text.l0] at H
    by_cases c3 : x11_1 < (l0.length : Int)
    ·
     rw [if_pos c3] at H
     have c3b0 : decide (x11_1 < (l0.length : Int)) = true := decide_eq_true c3
     clear c3
     obtain ⟨c4b0, H⟩ := gdd H
     obtain ⟨c5b0, H⟩ := gdd H
     obtain ⟨bq6, hbq6⟩ : ∃ b_ : Bool, b_ = ((rd_T48 l0 x11_1).f1) := ⟨_, rfl⟩
     replace H : (if bq6 = true then ((sat_Number.f ((rd_T48 l0 x11_1).f0.f0)).bind fun t281 => ((word_Join.f (⟨#[124]⟩ : ByteArray) (([t281, (rd_T48 l0 x11_1).f0.f1] : List ByteArray))).bind fun t285 => (if 1 + t285.size ≤ 9223372036854775807 then (if x3_1.length < 8796093022208 then (diff_Text.l0 k1 (x3_1 ++ [(⟨#[33]⟩ : ByteArray) ++ t285]) l0 (l0.length : Int) (wrap64 (x11_1 + 1))) else (none)) else (none)))) else ((row_Text.f k1 (([(⟨(rd_T48 l0 x11_1).f0.f0, (rd_T48 l0 x11_1).f0.f1, (⟨(rd_T48 l0 x11_1).f0.f2.f0, (rd_T48 l0 x11_1).f0.f2.f1⟩ : S43)⟩ : S45)] : List (S45)))).bind fun t292 => (if x3_1.length < 8796093022208 then (diff_Text.l0 k1 (x3_1 ++ [t292]) l0 (l0.length : Int) (wrap64 (x11_1 + 1))) else (none)))) = some r := by rw [← hbq6] at H; exact H
     have Nbq6 := Aside0.mk hbq6
     clear hbq6
     by_cases c7 : bq6 = true
     ·
      subst c7
      rw [if_pos rfl] at H
      obtain ⟨t281, A8, H⟩ := bs H
      try dsimp only at H
      obtain ⟨y282, hy282⟩ : ∃ y_ : List ByteArray, y_ = (([t281, (rd_T48 l0 x11_1).f0.f1] : List ByteArray)) := ⟨_, rfl⟩
      replace H : ((word_Join.f (⟨#[124]⟩ : ByteArray) y282).bind fun t285 => (if 1 + t285.size ≤ 9223372036854775807 then (if x3_1.length < 8796093022208 then (diff_Text.l0 k1 (x3_1 ++ [(⟨#[33]⟩ : ByteArray) ++ t285]) l0 (l0.length : Int) (wrap64 (x11_1 + 1))) else (none)) else (none))) = some r := by first | (rw [hy282]; with_reducible exact H) | (have H2_ := (Option.bind_some _ _).symm.trans H; rw [hy282]; with_reducible exact H2_) | (have H2_ := (Option.bind_some _ _).symm.trans H; with_reducible exact H2_) | with_reducible exact H | (rw [hy282]; exact H) | exact H
      have Ny282 := Aside0.mk hy282
      clear hy282
      obtain ⟨t285, A9, H⟩ := bs H
      try dsimp only at H
      obtain ⟨c10, H⟩ := gd H
      have c10b0 := eq_true c10
      have c10b1 : decide (1 + t285.size ≤ 9223372036854775807) = true := decide_eq_true c10
      try have c10b2 : (9223372036854775807 < 1 + t285.size) = False := eq_false (Nat.not_lt.2 c10)
      obtain ⟨c11, H⟩ := gd H
      have LMc11 := Aside0.mk c11
      clear c11
      obtain ⟨y286, hy286⟩ : ∃ y_ : List ByteArray, y_ = (x3_1 ++ [(⟨#[33]⟩ : ByteArray) ++ t285]) := ⟨_, rfl⟩
      replace H : (diff_Text.l0 k1 y286 l0 (l0.length : Int) (wrap64 (x11_1 + 1))) = some r := by first | (rw [hy286]; with_reducible exact H) | (have H2_ := (Option.bind_some _ _).symm.trans H; rw [hy286]; with_reducible exact H2_) | (have H2_ := (Option.bind_some _ _).symm.trans H; with_reducible exact H2_) | with_reducible exact H | (rw [hy286]; exact H) | exact H
      have Ny286 := Aside0.mk hy286
      clear hy286
      have H' := Aside0.mk H
      clear H
      have p279 : 0 ≤ (x11_1 : Int) := od
      have q279 : x11_1 < (l0.length : Int) := od
      obtain ⟨ad279, e279, hx279_0, hx279_1, hx279_2, hx279_3, hx279_4⟩ := at_T48 HR0.out x11_1 p279 q279
      (try rw [← Nbq6.out] at hx279_3)
      (try rw [← Nbq6.out] at hx279_4)
      cases e279
      replace hx279_0 := kc HB hx279_0
      replace hx279_1 := kc HB hx279_1
      replace hx279_2 := kc HB hx279_2
      replace hx279_3 := kc HB hx279_3
      replace hx279_4 := kc HB hx279_4
      replace p279 := eq_true p279
      replace q279 := eq_true q279
      try go_wp2_with (first | ((with_reducible refine gate_dst (N := 5) rfl ?_); refine bx (N := 5) #[.int .i64 0, .string (⟨#[]⟩ : ByteArray), .int .i64 0, .bool false, .bool false] 48 ?_; intro gb280 hg w12 hbox hb; replace HO_3 := cR HO_3 hb; have BK280 := Aside0.mk (hbox); have GW280 := gw hg (uW HB.out); have GE280 := GW280; replace HB := cW HB hb; clear hb hbox hg; obtain ⟨hcz13_0, hcz13_1, hcz13_2, hcz13_3, hcz13_4, hfz13_0, hfz13_1, hfz13_2, hfz13_3, hfz13_4⟩ := z5 BK280) | ((with_reducible refine gate_store (t := 48) (p := 5) rfl ?_); refine store_event (t := 48) (p := 5) (v := ?vo_w14) (w1 := (((((w12.setCell ⟨gb280, 0, none⟩ (.int .i64 ((rd_T48 l0 x11_1).f0.f0))).setCell ⟨gb280, 1, none⟩ (.string ((rd_T48 l0 x11_1).f0.f1))).setCell ⟨gb280, 2, none⟩ (.int .i64 ((rd_T48 l0 x11_1).f0.f2.f0))).setCell ⟨gb280, 3, none⟩ (.bool ((rd_T48 l0 x11_1).f0.f2.f1))).setCell ⟨gb280, 4, none⟩ (.bool true))) ?hg ?ho ?hn ?hr ?_; (case ho => rfl); (case hg => rfl); (case hn => rfl); (case hr => first | (go_simp; done) | (go_simp; rfl)); intro w14 hw; have n0_ : Aside0 (Kd.R Kd.string 9 w14 w.heap.size (fun _ => True) u3 x3_1) := ⟨(by rw [hw]; exact (by exact uR <| Kd.R_mono (Kd.R_far (p := ⟨gb280, 4, none⟩) (Kd.R_far (p := ⟨gb280, 3, none⟩) (Kd.R_far (p := ⟨gb280, 2, none⟩) (Kd.R_far (p := ⟨gb280, 1, none⟩) (Kd.R_far (p := ⟨gb280, 0, none⟩) (Kd.R_types HO_3.out BK280.out (by decide)) (fun _ hk => hk.2) (.int .i64 ((rd_T48 l0 x11_1).f0.f0))) (fun _ hk => hk.2) (.string ((rd_T48 l0 x11_1).f0.f1))) (fun _ hk => hk.2) (.int .i64 ((rd_T48 l0 x11_1).f0.f2.f0))) (fun _ hk => hk.2) (.bool ((rd_T48 l0 x11_1).f0.f2.f1))) (fun _ hk => hk.2) (.bool true)) (fun _ hk => trivial)))⟩; have n1_ : Aside0 (w14.heap[gb280]? = some (.cells #[.int .i64 ((rd_T48 l0 x11_1).f0.f0), .string ((rd_T48 l0 x11_1).f0.f1), .int .i64 ((rd_T48 l0 x11_1).f0.f2.f0), .bool ((rd_T48 l0 x11_1).f0.f2.f1), .bool true] 48 (0, 0))) := ⟨(by rw [hw]; exact (by (with_reducible repeat (first | refine blk_drewN ?_ _ | refine blk_drew ?_ | refine blk_alloc ?_ _)); refine blk_put (cs := #[.int .i64 ((rd_T48 l0 x11_1).f0.f0), .string ((rd_T48 l0 x11_1).f0.f1), .int .i64 ((rd_T48 l0 x11_1).f0.f2.f0), .bool ((rd_T48 l0 x11_1).f0.f2.f1), .bool false]) ?_ 4 _ rfl; (with_reducible repeat (first | refine blk_drewN ?_ _ | refine blk_drew ?_ | refine blk_alloc ?_ _)); refine blk_put (cs := #[.int .i64 ((rd_T48 l0 x11_1).f0.f0), .string ((rd_T48 l0 x11_1).f0.f1), .int .i64 ((rd_T48 l0 x11_1).f0.f2.f0), .bool false, .bool false]) ?_ 3 _ rfl; (with_reducible repeat (first | refine blk_drewN ?_ _ | refine blk_drew ?_ | refine blk_alloc ?_ _)); refine blk_put (cs := #[.int .i64 ((rd_T48 l0 x11_1).f0.f0), .string ((rd_T48 l0 x11_1).f0.f1), .int .i64 0, .bool false, .bool false]) ?_ 2 _ rfl; (with_reducible repeat (first | refine blk_drewN ?_ _ | refine blk_drew ?_ | refine blk_alloc ?_ _)); refine blk_put (cs := #[.int .i64 ((rd_T48 l0 x11_1).f0.f0), .string (⟨#[]⟩ : ByteArray), .int .i64 0, .bool false, .bool false]) ?_ 1 _ rfl; (with_reducible repeat (first | refine blk_drewN ?_ _ | refine blk_drew ?_ | refine blk_alloc ?_ _)); refine blk_put (cs := #[.int .i64 0, .string (⟨#[]⟩ : ByteArray), .int .i64 0, .bool false, .bool false]) ?_ 0 _ rfl; exact uB <| BK280.out))⟩; have n2_ : Aside0 (Below w.heap.size w w14) := ⟨(by rw [hw]; exact bl)⟩; clear hw; clear HO_3; clear BK280; clear HB; have HO_3 := n0_; have BK280 := n1_; have HB := n2_; clear n0_ n1_ n2_; obtain ⟨hcz15_0, hcz15_1, hcz15_2, hcz15_3, hcz15_4, hfz15_0, hfz15_1, hfz15_2, hfz15_3, hfz15_4⟩ := z5 BK280))
      replace HO_3 := Aside0.mk (Kd.R_drew HO_3.out)
      replace BK280 := Aside0.mk (blk_drew BK280.out)
      replace HB := Aside0.mk (below_drew1 HB.out)
      refine start_ (n := 14) (S := fun w' => w'.cell? ⟨gb280, 0, none⟩ = some (.int .i64 ((rd_T48 l0 x11_1).f0.f0)) ∧ w'.cell? ⟨gb280, 1, none⟩ = some (.string ((rd_T48 l0 x11_1).f0.f1)) ∧ w'.cell? ⟨gb280, 2, none⟩ = some (.int .i64 ((rd_T48 l0 x11_1).f0.f2.f0)) ∧ w'.cell? ⟨gb280, 3, none⟩ = some (.bool ((rd_T48 l0 x11_1).f0.f2.f1)) ∧ w'.cell? ⟨gb280, 4, none⟩ = some (.bool true)) (ds := []) _ (by kernel_rfl) rfl rfl ⟨(blk_cell BK280.out 0).trans rfl, (blk_cell BK280.out 1).trans rfl, (blk_cell BK280.out 2).trans rfl, (blk_cell BK280.out 3).trans rfl, (blk_cell BK280.out 4).trans rfl⟩ (fun hHeld => ?_); refine with_tabW diff_Text.tab8 diff_Text.bits8 (fun HT_ HW_ => ?_)
      generalize w14.drew = w16 at HO_3 BK280 HB hHeld ⊢
      refine p1 0 (some 17) ?_
      refine p1 1 (some 18) ?_
      refine p1 2 (some 19) ?_
      refine p1 5 (some 22) ?_
      refine p1 6 (some 23) ?_
      refine t1 3 (some 20) rfl rfl hHeld (Or.inl ⟨by rfl, by rintro w' ⟨s0, s1, s2, s3, s4⟩; go_simp; with_reducible rfl⟩) ?_
      refine t1 7 (some 24) rfl rfl hHeld (Or.inl ⟨by rfl, by rintro w' ⟨s0, s1, s2, s3, s4⟩; go_simp; with_reducible rfl⟩) ?_
      refine o1 4 (some 21) rfl rfl (fun K hK => ?_)
      refine gS Tryz.func31 #[.int .i64 ((rd_T48 l0 x11_1).f0.f0)] ?_
      with_reducible refine (sat_Number.calls (hL := ld) ((rd_T48 l0 x11_1).f0.f0) t281 _ A8.out).mono ?_
      rintro e w17 ⟨rfl, hb⟩
      refine ⟨_, rfl, ?_⟩
      replace HO_3 := cR HO_3 hb
      replace BK280 := cB BK280 hb
      replace HB := Aside0.mk (below_step bl hb)
      (try clear hb)
      refine hK.out _ _ ⟨(blk_cell BK280.out 0).trans rfl, (blk_cell BK280.out 1).trans rfl, (blk_cell BK280.out 2).trans rfl, (blk_cell BK280.out 3).trans rfl, (blk_cell BK280.out 4).trans rfl⟩ (fun hHeld => ?_)
      clear hK K
      refine norm_ (a' := ?_) ?_ ?_
      rotate_left
      ·
       show Act.put _ (some 21) _ = _
       simp only [Act.put, List.setIfInBounds_toArray, List.set_cons_zero, List.set_cons_succ, i64_w, i32_w]
       rfl
      refine o1 8 (some 25) rfl rfl (fun K hK => ?_)
      refine Kd.R_lit_step Kd.string _ 9 ?hg (N := 25) ?hd (xs := ([t281, (rd_T48 l0 x11_1).f0.f1] : List ByteArray)) (inner := [.string t281, .string ((rd_T48 l0 x11_1).f0.f1)]) (ok := fun _ => True) (okp := fun _ => True) ?hr ?hp (fun _ hk => hk) trivial (Below.refl _ _) (Nat.le_refl _) (by simp) ?_; (case hd => rfl); (case hg => rfl); (case hr => first | (go_simp; done) | (go_simp; rfl)); (case hp => exact (Reps.one (show Kd.M Kd.string _ _ _ t281 [.string t281] from rfl) (Reps.one (show Kd.M Kd.string _ _ _ ((rd_T48 l0 x11_1).f0.f1) [.string ((rd_T48 l0 x11_1).f0.f1)] from rfl) (Reps.none _ _))))
      intro v283 w18 ho19 hb hg_ hnew_
      clear hg_ hnew_
      (first | rw [← Ny282.out] at ho19 | (simp only [Int.reduceToNat] at ho19; rw [← Ny282.out] at ho19))
      have HO284 := Aside0.mk (Kd.R_lower (Kd.R_new' ho19 (Kd.R_lt (uR HO_3.out))) (below_size bl))
      replace HO_3 := Aside0.mk (Kd.R_elder' (uR HO_3.out) (Kd.R_base ho19) hb)
      replace BK280 := cB BK280 hb
      replace HB := Aside0.mk (below_step bl hb)
      clear hb ho19
      obtain ⟨Ao20, co20, eo20⟩ := Kd.R_slice HO284.out
      (first | subst eo20 | (injection eo20 with f1_ f2_ f3_; have f4_ := f1_.symm; have f5_ := f3_.symm; clear f1_ f2_ f3_; subst f4_; subst f5_))
      refine hK.out _ _ ⟨(blk_cell BK280.out 0).trans rfl, (blk_cell BK280.out 1).trans rfl, (blk_cell BK280.out 2).trans rfl, (blk_cell BK280.out 3).trans rfl, (blk_cell BK280.out 4).trans rfl⟩ (fun hHeld => ?_)
      clear hK K
      refine norm_ (a' := ?_) ?_ ?_
      rotate_left
      ·
       show Act.put _ (some 25) _ = _
       simp only [Act.put, List.setIfInBounds_toArray, List.set_cons_zero, List.set_cons_succ, i64_w, i32_w]
       rfl
      refine o1 9 (some 26) rfl rfl (fun K hK => ?_)
      refine gS Tryz.func30 #[.string (⟨#[124]⟩ : ByteArray), .slice Ao20 y282.length co20] ?_
      with_reducible refine (word_Join.calls (⟨#[124]⟩ : ByteArray) _ _ y282 t285 _ ?side1 ?side2 A9.out).mono ?_
      (case side1 => exact uC <| (Kd.R_reads' HO284.out).2.2)
      (case side2 => exact (Kd.R_reads' HO284.out).2.1)
      rintro e w21 ⟨rfl, hb⟩
      refine ⟨_, rfl, ?_⟩
      replace HO_3 := cR HO_3 hb
      replace HO284 := cR HO284 hb
      replace BK280 := cB BK280 hb
      replace HB := Aside0.mk (below_step bl hb)
      (try clear hb)
      refine hK.out _ _ ⟨(blk_cell BK280.out 0).trans rfl, (blk_cell BK280.out 1).trans rfl, (blk_cell BK280.out 2).trans rfl, (blk_cell BK280.out 3).trans rfl, (blk_cell BK280.out 4).trans rfl⟩ (fun hHeld => ?_)
      clear hK K
      refine norm_ (a' := ?_) ?_ ?_
      rotate_left
      ·
       show Act.put _ (some 26) _ = _
       simp only [Act.put, List.setIfInBounds_toArray, List.set_cons_zero, List.set_cons_succ, i64_w, i32_w]
       rfl
      refine p1 10 (some 27) ?_
      refine o1 11 (some 28) rfl rfl (fun K hK => ?_)
      refine value_ (w1 := ?_) (v := ?_) (by rfl) rfl ?_ ?_
      rotate_left 2
      ·
       go_simp
       constructor
       ·
        rfl
       ·
        rfl
      refine hK.out _ _ ⟨(blk_cell (blk_alloc BK280.out _) 0).trans rfl, (blk_cell (blk_alloc BK280.out _) 1).trans rfl, (blk_cell (blk_alloc BK280.out _) 2).trans rfl, (blk_cell (blk_alloc BK280.out _) 3).trans rfl, (blk_cell (blk_alloc BK280.out _) 4).trans rfl⟩ (fun hHeld => ?_)
      clear hK K
      refine norm_ (a' := ?_) ?_ ?_
      rotate_left
      ·
       show Act.put _ (some 28) _ = _
       simp only [Act.put, List.setIfInBounds_toArray, List.set_cons_zero, List.set_cons_succ, i64_w, i32_w]
       rfl
      refine o1 12 (some 29) rfl rfl (fun K hK => ?_)
      refine Kd.R_append_step Kd.string (w0 := w) w.heap.size (by rfl) (.tmp 17) (.tmp 28) 52 9 (.string ⟨#[]⟩) 16 rfl Tryz.underlying52 info9 rfl (by decide) (by omega) u3 x3_1 ((⟨#[33]⟩ : ByteArray) ++ t285) [.string ((⟨#[33]⟩ : ByteArray) ++ t285)] (fun k_ => some k_ ≠ (.slice Ao20 y282.length co20 : Value).ownBlock) (fun _ => False) rfl rfl ?aP (fun _ hk => hk.elim) ?aF ?aO ?aB ?aS ?aL ?_
      (case aP => exact rfl)
      (case aB => exact bl)
      (case aF => exact (fun k_ hk => Kd.fresh' (Kd.R_lt (uR HO284.out)) k_ hk))
      (case aO => exact (by exact uR <| Kd.R_mono HO_3.out (fun _ hk => hk.2)))
      (case aS => exact (below_size bl))
      (case aL => have := LMc11.out; omega)
      intro v287 w22 ho hb hg hat
      rw [← Ny286.out] at ho
      replace BK280 := Aside0.mk (blk_grown (g := gb280) (o := .cells #[.int .i64 ((rd_T48 l0 x11_1).f0.f0), .string ((rd_T48 l0 x11_1).f0.f1), .int .i64 ((rd_T48 l0 x11_1).f0.f2.f0), .bool ((rd_T48 l0 x11_1).f0.f2.f1), .bool true] 48 (0, 0)) (uB BK280.out) hg (Kd.R_ne HO_3.out BK280.out (by decide)))
      replace HO284 := Aside0.mk (Kd.R_after (ok := (fun _ => True)) (uR HO284.out) hg hat)
      replace HB := Aside0.mk (hb)
      have HO288 := Aside0.mk (ho)
      clear HO_3
      clear ho hb hg hat
      refine hK.out _ _ ⟨(blk_cell BK280.out 0).trans rfl, (blk_cell BK280.out 1).trans rfl, (blk_cell BK280.out 2).trans rfl, (blk_cell BK280.out 3).trans rfl, (blk_cell BK280.out 4).trans rfl⟩ (fun hHeld => ?_)
      clear hK K
      refine norm_ (a' := ?_) ?_ ?_
      rotate_left
      ·
       show Act.put _ (some 29) _ = _
       simp only [Act.put, List.setIfInBounds_toArray, List.set_cons_zero, List.set_cons_succ, i64_w, i32_w]
       rfl
      refine p1 13 (some 3) ?_
      refine done_ (done_of HT_.out (by kernel_rfl)) ?_
      try go_wp2
      go_roundg k1
      case measure => have := HK1.out; omega
      case rel => exact ⟨(y286), (wrap64 (x11_1 + 1)), rs_, (by first | exact H' | (rw [← Nbq6.out]; exact H')), ⟨by have := HK1.out; omega⟩, ⟨by exact uR <| Kd.R_mono HO288.out (fun _ hk => trivial)⟩, ⟨bl⟩⟩
     ·
      replace c7 := Bool.eq_false_iff.mpr c7
      subst c7
      rw [if_neg (show ¬ (false = true) by decide)] at H
      obtain ⟨y289, hy289⟩ : ∃ y_ : List (S45), y_ = (([(⟨(rd_T48 l0 x11_1).f0.f0, (rd_T48 l0 x11_1).f0.f1, (⟨(rd_T48 l0 x11_1).f0.f2.f0, (rd_T48 l0 x11_1).f0.f2.f1⟩ : S43)⟩ : S45)] : List (S45))) := ⟨_, rfl⟩
      replace H : ((row_Text.f k1 y289).bind fun t292 => (if x3_1.length < 8796093022208 then (diff_Text.l0 k1 (x3_1 ++ [t292]) l0 (l0.length : Int) (wrap64 (x11_1 + 1))) else (none))) = some r := by first | (rw [hy289]; with_reducible exact H) | (have H2_ := (Option.bind_some _ _).symm.trans H; rw [hy289]; with_reducible exact H2_) | (have H2_ := (Option.bind_some _ _).symm.trans H; with_reducible exact H2_) | with_reducible exact H | (rw [hy289]; exact H) | exact H
      have Ny289 := Aside0.mk hy289
      clear hy289
      obtain ⟨t292, A23, H⟩ := bs H
      try dsimp only at H
      obtain ⟨c24, H⟩ := gd H
      have LMc24 := Aside0.mk c24
      clear c24
      obtain ⟨y293, hy293⟩ : ∃ y_ : List ByteArray, y_ = (x3_1 ++ [t292]) := ⟨_, rfl⟩
      replace H : (diff_Text.l0 k1 y293 l0 (l0.length : Int) (wrap64 (x11_1 + 1))) = some r := by first | (rw [hy293]; with_reducible exact H) | (have H2_ := (Option.bind_some _ _).symm.trans H; rw [hy293]; with_reducible exact H2_) | (have H2_ := (Option.bind_some _ _).symm.trans H; with_reducible exact H2_) | with_reducible exact H | (rw [hy293]; exact H) | exact H
      have Ny293 := Aside0.mk hy293
      clear hy293
      have H' := Aside0.mk H
      clear H
      have p279 : 0 ≤ (x11_1 : Int) := od
      have q279 : x11_1 < (l0.length : Int) := od
      obtain ⟨ad279, e279, hx279_0, hx279_1, hx279_2, hx279_3, hx279_4⟩ := at_T48 HR0.out x11_1 p279 q279
      (try rw [← Nbq6.out] at hx279_3)
      (try rw [← Nbq6.out] at hx279_4)
      cases e279
      replace hx279_0 := kc HB hx279_0
      replace hx279_1 := kc HB hx279_1
      replace hx279_2 := kc HB hx279_2
      replace hx279_3 := kc HB hx279_3
      replace hx279_4 := kc HB hx279_4
      replace p279 := eq_true p279
      replace q279 := eq_true q279
      go_wp2_with (first | ((with_reducible refine gate_dst (N := 5) rfl ?_); refine bx (N := 5) #[.int .i64 0, .string (⟨#[]⟩ : ByteArray), .int .i64 0, .bool false, .bool false] 48 ?_; intro gb280 hg w25 hbox hb; replace HO_3 := cR HO_3 hb; have BK280 := Aside0.mk (hbox); have GW280 := gw hg (uW HB.out); have GE280 := GW280; replace HB := cW HB hb; clear hb hbox hg; obtain ⟨hcz26_0, hcz26_1, hcz26_2, hcz26_3, hcz26_4, hfz26_0, hfz26_1, hfz26_2, hfz26_3, hfz26_4⟩ := z5 BK280) | ((with_reducible refine gate_store (t := 48) (p := 5) rfl ?_); refine store_event (t := 48) (p := 5) (v := ?vo_w27) (w1 := (((((w25.setCell ⟨gb280, 0, none⟩ (.int .i64 ((rd_T48 l0 x11_1).f0.f0))).setCell ⟨gb280, 1, none⟩ (.string ((rd_T48 l0 x11_1).f0.f1))).setCell ⟨gb280, 2, none⟩ (.int .i64 ((rd_T48 l0 x11_1).f0.f2.f0))).setCell ⟨gb280, 3, none⟩ (.bool ((rd_T48 l0 x11_1).f0.f2.f1))).setCell ⟨gb280, 4, none⟩ (.bool false))) ?hg ?ho ?hn ?hr ?_; (case ho => rfl); (case hg => rfl); (case hn => rfl); (case hr => first | (go_simp; done) | (go_simp; rfl)); intro w27 hw; have n0_ : Aside0 (Kd.R Kd.string 9 w27 w.heap.size (fun _ => True) u3 x3_1) := ⟨(by rw [hw]; exact (by exact uR <| Kd.R_mono (Kd.R_far (p := ⟨gb280, 4, none⟩) (Kd.R_far (p := ⟨gb280, 3, none⟩) (Kd.R_far (p := ⟨gb280, 2, none⟩) (Kd.R_far (p := ⟨gb280, 1, none⟩) (Kd.R_far (p := ⟨gb280, 0, none⟩) (Kd.R_types HO_3.out BK280.out (by decide)) (fun _ hk => hk.2) (.int .i64 ((rd_T48 l0 x11_1).f0.f0))) (fun _ hk => hk.2) (.string ((rd_T48 l0 x11_1).f0.f1))) (fun _ hk => hk.2) (.int .i64 ((rd_T48 l0 x11_1).f0.f2.f0))) (fun _ hk => hk.2) (.bool ((rd_T48 l0 x11_1).f0.f2.f1))) (fun _ hk => hk.2) (.bool false)) (fun _ hk => trivial)))⟩; have n1_ : Aside0 (w27.heap[gb280]? = some (.cells #[.int .i64 ((rd_T48 l0 x11_1).f0.f0), .string ((rd_T48 l0 x11_1).f0.f1), .int .i64 ((rd_T48 l0 x11_1).f0.f2.f0), .bool ((rd_T48 l0 x11_1).f0.f2.f1), .bool false] 48 (0, 0))) := ⟨(by rw [hw]; exact (by (with_reducible repeat (first | refine blk_drewN ?_ _ | refine blk_drew ?_ | refine blk_alloc ?_ _)); refine blk_put (cs := #[.int .i64 ((rd_T48 l0 x11_1).f0.f0), .string ((rd_T48 l0 x11_1).f0.f1), .int .i64 ((rd_T48 l0 x11_1).f0.f2.f0), .bool ((rd_T48 l0 x11_1).f0.f2.f1), .bool false]) ?_ 4 _ rfl; (with_reducible repeat (first | refine blk_drewN ?_ _ | refine blk_drew ?_ | refine blk_alloc ?_ _)); refine blk_put (cs := #[.int .i64 ((rd_T48 l0 x11_1).f0.f0), .string ((rd_T48 l0 x11_1).f0.f1), .int .i64 ((rd_T48 l0 x11_1).f0.f2.f0), .bool false, .bool false]) ?_ 3 _ rfl; (with_reducible repeat (first | refine blk_drewN ?_ _ | refine blk_drew ?_ | refine blk_alloc ?_ _)); refine blk_put (cs := #[.int .i64 ((rd_T48 l0 x11_1).f0.f0), .string ((rd_T48 l0 x11_1).f0.f1), .int .i64 0, .bool false, .bool false]) ?_ 2 _ rfl; (with_reducible repeat (first | refine blk_drewN ?_ _ | refine blk_drew ?_ | refine blk_alloc ?_ _)); refine blk_put (cs := #[.int .i64 ((rd_T48 l0 x11_1).f0.f0), .string (⟨#[]⟩ : ByteArray), .int .i64 0, .bool false, .bool false]) ?_ 1 _ rfl; (with_reducible repeat (first | refine blk_drewN ?_ _ | refine blk_drew ?_ | refine blk_alloc ?_ _)); refine blk_put (cs := #[.int .i64 0, .string (⟨#[]⟩ : ByteArray), .int .i64 0, .bool false, .bool false]) ?_ 0 _ rfl; exact uB <| BK280.out))⟩; have n2_ : Aside0 (Below w.heap.size w w27) := ⟨(by rw [hw]; exact bl)⟩; clear hw; clear HO_3; clear BK280; clear HB; have HO_3 := n0_; have BK280 := n1_; have HB := n2_; clear n0_ n1_ n2_; obtain ⟨hcz28_0, hcz28_1, hcz28_2, hcz28_3, hcz28_4, hfz28_0, hfz28_1, hfz28_2, hfz28_3, hfz28_4⟩ := z5 BK280) | ((with_reducible refine gate_dst (N := 33) rfl ?_); refine Kd.R_lit k45 _ 45 ?hg (N := 33) ?hd (xs := ([(⟨(rd_T48 l0 x11_1).f0.f0, (rd_T48 l0 x11_1).f0.f1, (⟨(rd_T48 l0 x11_1).f0.f2.f0, (rd_T48 l0 x11_1).f0.f2.f1⟩ : S43)⟩ : S45)] : List (S45))) (inner := [.int .i64 ((rd_T48 l0 x11_1).f0.f0), .string ((rd_T48 l0 x11_1).f0.f1), .int .i64 ((rd_T48 l0 x11_1).f0.f2.f0), .bool ((rd_T48 l0 x11_1).f0.f2.f1)]) (ok := fun _ => True) (okp := fun _ => True) ?hr ?hp (fun _ hk => hk) trivial (Below.refl _ _) (Nat.le_refl _) (by simp) ?_; (case hd => rfl); (case hg => rfl); (case hr => first | (go_simp; done) | (go_simp; rfl)); (case hp => exact (Reps.c4 (show Kd.M k45 _ _ _ (⟨(rd_T48 l0 x11_1).f0.f0, (rd_T48 l0 x11_1).f0.f1, (⟨(rd_T48 l0 x11_1).f0.f2.f0, (rd_T48 l0 x11_1).f0.f2.f1⟩ : S43)⟩ : S45) [.int .i64 ((rd_T48 l0 x11_1).f0.f0), .string ((rd_T48 l0 x11_1).f0.f1), .int .i64 ((rd_T48 l0 x11_1).f0.f2.f0), .bool ((rd_T48 l0 x11_1).f0.f2.f1)] from (k45_mkM _ _ _ (⟨(rd_T48 l0 x11_1).f0.f0, (rd_T48 l0 x11_1).f0.f1, (⟨(rd_T48 l0 x11_1).f0.f2.f0, (rd_T48 l0 x11_1).f0.f2.f1⟩ : S43)⟩ : S45) )) (Reps.none _ _))); intro v290 w29 ho30 hb hg_ hnew_; clear hg_ hnew_; (first | rw [← Ny289.out] at ho30 | (simp only [Int.reduceToNat] at ho30; rw [← Ny289.out] at ho30)); replace HO_3 := cR HO_3 hb; have HO291 := Aside0.mk (Kd.R_lower ho30 (below_size bl)); replace BK280 := cB BK280 hb; replace HB := Aside0.mk (below_step bl hb); clear hb ho30; obtain ⟨Ao31, co31, eo31⟩ := Kd.R_slice HO291.out; subst eo31) | (refine gL (some 34) rfl Tryz.func32 #[.slice Ao31 y289.length co31] ?_; (with_reducible refine (row_Text.calls (hL := ld) k1 _ _ y289 t292 _ ?side1 ?side2 A23.out).mono ?_); (case side1 => exact uC <| (Kd.R_reads' HO291.out).2.2); (case side2 => exact (Kd.R_reads' HO291.out).2.1); rintro e w32 ⟨rfl, hb⟩; refine ⟨_, rfl, ?_⟩; replace HO_3 := cR HO_3 hb; replace HO291 := cR HO291 hb; replace BK280 := cB BK280 hb; replace HB := Aside0.mk (below_step bl hb); (try clear hb)) | ((with_reducible refine gate_builtin (b := .append) (xs := #[.tmp 30, .tmp 35]) rfl ?_); at_builtin; refine Kd.R_append Kd.string (w0 := w) w.heap.size rfl (.tmp 30) (.tmp 35) 52 9 (.string ⟨#[]⟩) 16 rfl Tryz.underlying52 info9 rfl (by decide) (by omega) u3 x3_1 t292 [.string t292] (fun _ => True) (fun _ => False) rfl rfl ?aP (fun _ hk => hk.elim) ?aF ?aO ?aB ?aS ?aL ?_; (case aP => exact rfl); (case aB => exact bl); (case aF => exact (fun _ _ => trivial)); (case aO => exact (uR HO_3.out)); (case aS => exact (below_size bl)); (case aL => have := LMc24.out; omega); intro v294 w33 ho hb hg hat; rw [← Ny293.out] at ho; replace BK280 := Aside0.mk (blk_grown (g := gb280) (o := .cells #[.int .i64 ((rd_T48 l0 x11_1).f0.f0), .string ((rd_T48 l0 x11_1).f0.f1), .int .i64 ((rd_T48 l0 x11_1).f0.f2.f0), .bool ((rd_T48 l0 x11_1).f0.f2.f1), .bool false] 48 (0, 0)) (uB BK280.out) hg (Kd.R_ne HO_3.out BK280.out (by decide))); replace HO291 := Aside0.mk (Kd.R_over' (uR HO291.out) (Kd.R_typed (uR HO_3.out)) (by decide) hg); replace HB := Aside0.mk (hb); have HO295 := Aside0.mk (ho); clear HO_3; clear ho hb hg hat))
      go_roundg k1
      case measure => have := HK1.out; omega
      case rel => exact ⟨(y293), (wrap64 (x11_1 + 1)), rs_, (by first | exact H' | (rw [← Nbq6.out]; exact H')), ⟨by have := HK1.out; omega⟩, ⟨uR HO295.out⟩, ⟨bl⟩⟩
    ·
     rw [if_neg c3] at H
     have c3b0 : decide (x11_1 < (l0.length : Int)) = false := decide_eq_false c3
     clear c3
     obtain ⟨t278, A34, H⟩ := bs H
     try dsimp only at H
     obtain rfl := Option.some.inj H
     obtain ⟨Ao35, co35, eo35⟩ := Kd.R_slice HO_3.out
     subst eo35
     go_wp2_with (first | (refine gL (some 39) rfl Tryz.func30 #[.string (⟨#[59]⟩ : ByteArray), .slice Ao35 x3_1.length co35] ?_; (with_reducible refine (word_Join.calls (⟨#[59]⟩ : ByteArray) _ _ x3_1 t278 _ ?side1 ?side2 A34.out).mono ?_); (case side1 => exact uC <| (Kd.R_reads' HO_3.out).2.2); (case side2 => exact (Kd.R_reads' HO_3.out).2.1); rintro e w36 ⟨rfl, hb⟩; refine ⟨_, rfl, ?_⟩; replace HO_3 := cR HO_3 hb; replace HB := cW HB hb; (try clear hb)))
     go_ret
     exact ⟨re_, uW HB.out⟩
theorem eqA48 (d : Nat) (w : World) (x0 y0 : Int) (x1 y1 : ByteArray) (x2 y2 : Int) (x3 y3 : Bool) (x4 y4 : Bool) :
 (Op.equalIn (d + 4) 48 (.agg #[.int .i64 x0, .string x1, .int .i64 x2, .bool x3, .bool x4]) (.agg #[.int .i64 y0, .string y1, .int .i64 y2, .bool y3, .bool y4])).run Tryz.prog w = .ok ((x0 == y0 && (x1.toList == y1.toList && ((x2 == y2 && (x3 == y3))))) && (x4 == y4)) w := by
 refine eqA_of Tryz.underlying48 (by kernel_rfl) ?_
 refine eqf_cons (by rfl) (by go_simp) (by go_simp) (eqA45 (d + 0) w _ _ _ _ _ _ _ _) ?_
 exact eqf_last (by rfl) (by go_simp; rfl) (by go_simp; rfl) (by go_simp)
end Go.Proofs.YtgcbejidponoaaaGreatDoor.X
