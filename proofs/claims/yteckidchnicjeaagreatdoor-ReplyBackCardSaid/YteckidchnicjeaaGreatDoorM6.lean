/- Printed by a program of this session's own: what functions of the program compute, and that the machine computes it. No condition of its own. -/
import Derived.Test.YteckidchnicjeaaGreatDoorM3
import Derived.Test.YteckidchnicjeaaGreatDoorM5
import Derived.Test.YteckidchnicjeaaGreatDoorM4
namespace Go.Proofs.YteckidchnicjeaaGreatDoor.X
open Go.RowKit Go.Proofs.YteckidchnicjeaaGreatDoorW.PrintWords Go.Proofs.YteckidchnicjeaaGreatDoorW.PrintLast Go.Proofs.YteckidchnicjeaaGreatDoorW.PrintMore
attribute [local go_sem] max2_int min2_int max_two min_two max_three min_three max_four min_four
set_option linter.unusedVariables false
set_option linter.unusedSimpArgs false
set_option maxHeartbeats 8000000
set_option maxRecDepth 100000
theorem api_Tag_with_168_182.goesV_ {P : Program} {ops : Array Oper} {Q : Exit → Act → World → Prop} {oi : Oper} {N : Option Tmp} {a : Act} {w : World} {K : Act → World → Prop} {f : FuncId} {fn : Func} {cal : Operand} {as_ : Array Operand} {ts : Array TypeId} (hf : P.funcs[f]? = some fn) (hname : (fn.name == "runtime.NumGoroutine") = false) (hb : fn.body.isSome = true) (args : Array Value)
 (hw : Region.wanted oi (yielded ops a.tmps) = true) (hN : oi.dst = N) (hop : oi.op = .call { callee := .value cal, args := as_, argTypes := ts }) (hev : a.eval cal = .func (.func f) #[] #[]) (hargs : as_.map a.eval = args)
 (h : Calls P f args w fun e w' => ∃ v, e = .returned v ∧ K (a.put N v) w') : if Region.wanted oi (yielded ops a.tmps) = true then Oper.wp P oi a w K Q else K (a.put N undef) w := by
 refine call_ f args hw hN ?_ h
 have he := enters_ hf hname hb args w
 unfold execOp
 simp [hop, resolve, Deferred.ofValue, invoke, hev, hargs, he]
theorem api_Tag_with_168_182.goesVL_ {P : Program} {ops : Array Oper} {Q : Exit → Act → World → Prop} {rest : List Oper} {oi : Oper} {a : Act} {w : World} (N : Option Tmp) (hd : oi.dst = N) (hg : oi.guard = none) {f : FuncId} {fn : Func} {cal : Operand} {as_ : Array Operand} {ts : Array TypeId} (hf : P.funcs[f]? = some fn) (hname : (fn.name == "runtime.NumGoroutine") = false) (hb : fn.body.isSome = true) (args : Array Value)
 (hop : oi.op = .call { callee := .value cal, args := as_, argTypes := ts }) (hev : a.eval cal = .func (.func f) #[] #[]) (hargs : as_.map a.eval = args)
 (h : Calls P f args w fun e w' => ∃ v, e = .returned v ∧ wpList P ops Q rest (a.put N v) w') : wpList P ops Q (oi :: rest) a w := by
 refine wpList_plain hg fun K hK => ?_
 have he := enters_ hf hname hb args w
 have hrun : (execOp a.eval oi).run P w = .ok (.enter f args) w := by
  unfold execOp
  simp [hop, resolve, Deferred.ofValue, invoke, hev, hargs, he]
 unfold Oper.wp
 rw [hrun, Oper.upon_enter]
 refine h.mono fun e w'' hh => ?_
 obtain ⟨v, rfl, hk⟩ := hh
 subst hd
 exact hK _ _ hk
mutual
def api_Tag_with_168_182.l0 : Nat → List (S113) → Int → Int → Int → Bool → Option ((List (S113)))
 | 0, _, _, _, _, _ => none
 | k + 1, x0, x1, x2, x3, x10 => if (wrap64 (x2 - x1)) ≤ 12 then ((api_Tag_with_168_190.f k x0 x1 x2).bind fun t221 => (some t221)) else (if x3 = 0 then (none) else (if x10 = true then (none) else (none)))
def api_Tag_with_168_182.f : Nat → List (S113) → Int → Int → Int → Option ((List (S113)))
 | 0, _, _, _, _ => none
 | k + 1, l0, a1, a2, a3 => api_Tag_with_168_182.l0 k l0 a1 a2 a3 true
end
theorem api_Tag_with_168_182.mono_l : ∀ k, (∀ y0 y1 y2 y3, LeC (api_Tag_with_168_182.f k y0 y1 y2 y3) (api_Tag_with_168_182.f (k + 1) y0 y1 y2 y3)) ∧ (∀ y0 y1 y2 y3 y4, LeC (api_Tag_with_168_182.l0 k y0 y1 y2 y3 y4) (api_Tag_with_168_182.l0 (k + 1) y0 y1 y2 y3 y4))
 | 0 => ⟨fun _ _ _ _ => ⟨fun r h => by simp [api_Tag_with_168_182.f] at h⟩, fun _ _ _ _ _ => ⟨fun r h => by simp [api_Tag_with_168_182.l0] at h⟩⟩
 | k + 1 => by obtain ⟨ih0, ih1⟩ := api_Tag_with_168_182.mono_l k; exact ⟨fun _ _ _ _ => by unfold api_Tag_with_168_182.f; exact lm, fun _ _ _ _ _ => by unfold api_Tag_with_168_182.l0; exact lm⟩
theorem api_Tag_with_168_182.mono : ∀ a0 a1 a2 a3 k, LeO (api_Tag_with_168_182.f k a0 a1 a2 a3) (api_Tag_with_168_182.f (k + 1) a0 a1 a2 a3) := by
 intro a0 a1 a2 a3 k
 obtain ⟨ih0, ih1⟩ := api_Tag_with_168_182.mono_l k
 exact LeC.out
instance api_Tag_with_168_182.mI {a0 a1 a2 a3 k} : LeC (api_Tag_with_168_182.f k a0 a1 a2 a3) (api_Tag_with_168_182.f (k + 1) a0 a1 a2 a3) := ⟨api_Tag_with_168_182.mono _ _ _ _ _⟩
theorem api_Tag_with_168_182.calls (k : Nat) : ∀ (P0_ : Nat → Prop) (u9000_ : Value) (l0 : List (S113)) (a1 : Int) (a2 : Int) (a3 : Int) (r : List (S113)) (w0 w : World) (hB : Below w0.heap.size w0 w) (ho0 : Kd.R k113 113 w w0.heap.size P0_ u9000_ l0) (h : api_Tag_with_168_182.f k l0 a1 a2 a3 = some r),
 Calls Tryz.prog 182 #[u9000_, .int .i64 a1, .int .i64 a2, .int .i64 a3, .func (.func 168) #[] #[]] w fun e w' => e = .returned (.tuple #[]) ∧ Kd.R k113 113 w' w0.heap.size (fun k_ => (P0_ k_ ∨ w.heap.size ≤ k_)) u9000_ r ∧ Below w0.heap.size w0 w' ∧ Kept w w' (fun k_ => P0_ k_) := by
 induction k using Nat.strongRecOn with
 | _ k ih =>
 intro P0_ u9000_ l0 a1 a2 a3 r w0 w hB ho0 h
 cases k with
 | zero => exact absurd h (by simp [api_Tag_with_168_182.f])
 | succ k =>
 simp only [api_Tag_with_168_182.f] at h
 have hu113 := Tryz.underlying113
 have HO0 := Aside0.mk (show Kd.R k113 113 w w0.heap.size (fun k_ => (P0_ k_ ∨ w.heap.size ≤ k_)) u9000_ l0 from Kd.R_mono ho0 (fun k_ hk => (.inl hk)))
 have HK := Aside0.mk (Kept.refl w (fun k_ => P0_ k_))
 have HW0 := Aside0.mk hB.size
 have HB := Aside0.mk hB
 clear hB
 have H : (api_Tag_with_168_182.l0 k l0 a1 a2 a3 true) = some r := h
 clear h
 have H' := Aside0.mk H
 clear H
 have eg168 : ∀ args w, (callFunc 168 args).run Tryz.prog w = .ok (.enter 168 args) w := enters_of Tryz.func168 (by kernel_rfl) rfl
 go_enter Tryz.func182, Tryz.ntmps182
 go_wp2
 go_loopg [1, 2, 3, 10] k (fun kq v1 v2 v3 v10 w' => ∃ (x0_1 : List (S113)) (x1_1 : Int) (x2_1 : Int) (x3_1 : Int) (x10_1 : Bool), v1 = .int .i64 x1_1 ∧ v2 = .int .i64 x2_1 ∧ v3 = .int .i64 x3_1 ∧ v10 = .bool x10_1 ∧ Aside0 (api_Tag_with_168_182.l0 kq x0_1 x1_1 x2_1 x3_1 x10_1 = some r) ∧ Aside0 (kq ≤ k) ∧ Aside0 (Kd.R k113 113 w' w0.heap.size (fun k_ => (P0_ k_ ∨ w.heap.size ≤ k_)) u9000_ x0_1) ∧ Aside0 (Kept w w' (fun k_ => P0_ k_)) ∧ Aside0 (Below w0.heap.size w0 w'))
 case atStart => exact ⟨(l0), (a1), (a2), (a3), (true), rs_, rs_, rs_, rs_, H', ⟨Nat.le_refl _⟩, ⟨uR HO0.out⟩, ⟨by repeat (first | (with_reducible first | exact HK.out | apply Kept.alloc | apply Kept.drewN | apply Kept.drew) | exact HK.out)⟩, ⟨uW HB.out⟩⟩
 case round =>
  clear H'
  obtain ⟨x0_1, x1_1, x2_1, x3_1, x10_1, rfl, rfl, rfl, rfl, HA, HK1, HO_0, HK, HB⟩ := hrel
  cases gk with
  | zero => exact absurd HA.out (by simp [api_Tag_with_168_182.l0])
  | succ k1 =>
   have H := HA.out
   clear HA
   simp only [api_Tag_with_168_182.l0] at H
   by_cases c5 : (wrap64 (x2_1 - x1_1)) ≤ 12
   ·
    rw [if_pos c5] at H
    have c5b0 : decide ((wrap64 (x2_1 - x1_1)) ≤ 12) = true := decide_eq_true c5
    clear c5
    obtain ⟨t221, A6, H⟩ := bs H
    try dsimp only at H
    obtain rfl := Option.some.inj H
    obtain ⟨Ao7, co7, eo7⟩ := Kd.R_slice HO_0.out
    subst eo7
    go_wp2_with (first | (refine gL (some 30) rfl Tryz.func190 #[.slice Ao7 x0_1.length co7, .int .i64 x1_1, .int .i64 x2_1, (.func (.func 168) #[] #[])] ?_; (with_reducible refine (api_Tag_with_168_190.calls k1 (fun k_ => some k_ = (.slice Ao7 x0_1.length co7 : Value).ownBlock) (.slice Ao7 x0_1.length co7) x0_1 x1_1 x2_1 t221 w0 _ ?side1 ?side2 A6.out).mono ?_); (case side1 => repeat (first | (with_reducible first | exact HB.out | apply below_alloc | apply pw_below_drewN | apply below_drew1) | exact HB.out)); (case side2 => exact Kd.R_tight rfl HO_0.out); rintro e w8 ⟨rfl, hy0, hb, hkp⟩; refine ⟨_, rfl, ?_⟩; replace HK := Aside0.mk (Kept.then_ (S := (fun k_ => P0_ k_)) (by repeat (first | (with_reducible first | exact HK.out | apply Kept.alloc | apply Kept.drewN | apply Kept.drew) | exact HK.out)) hkp (fun k_ hs_ => (fun e_ => (HO_0.out.1 k_ e_.symm)) hs_)); replace HO_0 := Aside0.mk (Kd.R_reok rfl hy0 (fun k_ e_ => HO_0.out.1 k_ e_)); replace HB := Aside0.mk (hb); (try clear hb); (try clear hkp); (try clear hy0)))
    first | go_end0 | ((try simp only [Exit.inBlock, Exit.then]); refine bodyPost_ret (results_none rfl _ _ _) rfl ?_)
    exact ⟨re_, uR HO_0.out, uW HB.out, by repeat (first | (with_reducible first | exact HK.out | apply Kept.alloc | apply Kept.drewN | apply Kept.drew) | exact HK.out)⟩
   ·
    rw [if_neg c5] at H
    have c5b0 : decide ((wrap64 (x2_1 - x1_1)) ≤ 12) = false := decide_eq_false c5
    clear c5
    obtain ⟨c9, H⟩ := gn H
    have c9b0 : (x3_1 == 0) = false := beq_eq_false_iff_ne.mpr c9
    have c9b1 : (x3_1 != 0) = true := bne_iff_ne.mpr c9
    by_cases c10 : x10_1 = true
    ·
     subst c10
     rw [if_pos rfl] at H
     exact absurd H (by simp)
    ·
     replace c10 := Bool.eq_false_iff.mpr c10
     subst c10
     rw [if_neg (show ¬ (false = true) by decide)] at H
     exact absurd H (by simp)
def api_Tag_with_168_167.f (k : Nat) (l0 : List (S113)) : Option ((List (S113))) := (bits_Len.f (IntKind.u64.wrap ((l0.length : Int)))).bind fun t222 => ((api_Tag_with_168_182.f k l0 0 (l0.length : Int) t222).bind fun t223 => (some t223))
theorem api_Tag_with_168_167.mono : ∀ a0 k, LeO (api_Tag_with_168_167.f k a0) (api_Tag_with_168_167.f (k + 1) a0) := by
 intro a0 k
 unfold api_Tag_with_168_167.f
 exact lo
instance api_Tag_with_168_167.mI {a0 k} : LeC (api_Tag_with_168_167.f k a0) (api_Tag_with_168_167.f (k + 1) a0) := ⟨api_Tag_with_168_167.mono _ _⟩
theorem api_Tag_with_168_167.calls (k : Nat) (P0_ : Nat → Prop) (u9000_ : Value) (l0 : List (S113)) (r : List (S113)) (w0 w : World) (hB : Below w0.heap.size w0 w) (ho0 : Kd.R k113 113 w w0.heap.size P0_ u9000_ l0) (h : api_Tag_with_168_167.f k l0 = some r) :
 Calls Tryz.prog 167 #[u9000_, .func (.func 168) #[] #[]] w fun e w' => e = .returned (.tuple #[]) ∧ Kd.R k113 113 w' w0.heap.size (fun k_ => (P0_ k_ ∨ w.heap.size ≤ k_)) u9000_ r ∧ Below w0.heap.size w0 w' ∧ Kept w w' (fun k_ => P0_ k_) := by
 have HO0 := Aside0.mk (show Kd.R k113 113 w w0.heap.size (fun k_ => (P0_ k_ ∨ w.heap.size ≤ k_)) u9000_ l0 from Kd.R_mono ho0 (fun k_ hk => (.inl hk)))
 have HK := Aside0.mk (Kept.refl w (fun k_ => P0_ k_))
 have HW0 := Aside0.mk hB.size
 have HB := Aside0.mk hB
 clear hB
 have H : ((bits_Len.f (IntKind.u64.wrap ((l0.length : Int)))).bind fun t222 => ((api_Tag_with_168_182.f k l0 0 (l0.length : Int) t222).bind fun t223 => (some t223))) = some r := h
 clear h
 obtain ⟨t222, A2, H⟩ := bs H
 try dsimp only at H
 obtain ⟨t223, A3, H⟩ := bs H
 try dsimp only at H
 obtain rfl := Option.some.inj H
 obtain ⟨Ao4, co4, eo4⟩ := Kd.R_slice HO0.out
 subst eo4
 go_enter Tryz.func167, Tryz.ntmps167
 go_wp2_with (first | (refine gL (some 11) rfl Tryz.func183 #[.int .u64 (IntKind.u64.wrap ((l0.length : Int)))] ?_; (with_reducible refine (bits_Len.calls (IntKind.u64.wrap ((l0.length : Int))) t222 _ A2.out).mono ?_); rintro e w' ⟨rfl, ⟨nd, rfl⟩⟩; refine ⟨_, rfl, ?_⟩) | (refine gL (some 13) rfl Tryz.func182 #[.slice Ao4 l0.length co4, .int .i64 0, .int .i64 (l0.length : Int), .int .i64 t222, (.func (.func 168) #[] #[])] ?_; (with_reducible refine (api_Tag_with_168_182.calls k (fun k_ => some k_ = (.slice Ao4 l0.length co4 : Value).ownBlock) (.slice Ao4 l0.length co4) l0 0 (l0.length : Int) t222 t223 w0 _ ?side1 ?side2 A3.out).mono ?_); (case side1 => repeat (first | (with_reducible first | exact HB.out | apply below_alloc | apply pw_below_drewN | apply below_drew1) | exact HB.out)); (case side2 => exact Kd.R_tight rfl HO0.out); rintro e w5 ⟨rfl, hy0, hb, hkp⟩; refine ⟨_, rfl, ?_⟩; replace HK := Aside0.mk (Kept.then_ (S := (fun k_ => P0_ k_)) (by repeat (first | (with_reducible first | exact HK.out | apply Kept.alloc | apply Kept.drewN | apply Kept.drew) | exact HK.out)) hkp (fun k_ hs_ => (fun e_ => (HO0.out.1 k_ e_.symm)) hs_)); replace HO0 := Aside0.mk (Kd.R_reok rfl hy0 (fun k_ e_ => HO0.out.1 k_ e_)); replace HB := Aside0.mk (hb); (try clear hb); (try clear hkp); (try clear hy0)))
 first | go_end0 | ((try simp only [Exit.inBlock, Exit.then]); refine bodyPost_ret (results_none rfl _ _ _) rfl ?_)
 exact ⟨re_, uR HO0.out, uW HB.out, by repeat (first | (with_reducible first | exact HK.out | apply Kept.alloc | apply Kept.drewN | apply Kept.drew) | exact HK.out)⟩
def tag_Canon.l0 : Nat → List (S113) → Int → Option ((List (S113)) × Int)
 | 0, _, _ => none
 | k + 1, x4, x5 => if x5 < (x4.length : Int) then (if 0 ≤ (wrap64 (x5 - 1)) then (if (wrap64 (x5 - 1)) < (x4.length : Int) then (if 0 ≤ x5 then ((tag_order.f ((rd_T113 x4 (wrap64 (x5 - 1))).f0) ((rd_T113 x4 (wrap64 (x5 - 1))).f1) ((rd_T113 x4 x5).f0) ((rd_T113 x4 x5).f1)).bind fun t231 => (if t231 = 0 then (some (([] : List (S113)), 5)) else (tag_Canon.l0 k x4 (wrap64 (x5 + 1))))) else (none)) else (none)) else (none)) else (some (x4, 0))
def tag_Canon.f (k : Nat) (l0 : List (S113)) : Option ((List (S113)) × Int) := (api_Tag_with_164_163.f k l0).bind fun t224 => (if t224 = true then (some (([] : List (S113)), 2)) else (if (l0.length : Int) > 4 then (some (([] : List (S113)), 4)) else ((api_Tag_166.f l0).bind fun t225 => ((api_Tag_with_168_167.f k t225).bind fun t228 => (tag_Canon.l0 k t228 1)))))
theorem tag_Canon.mono_l : ∀ k, (∀ y0 y1, LeC (tag_Canon.l0 k y0 y1) (tag_Canon.l0 (k + 1) y0 y1))
 | 0 => fun _ _ => ⟨fun r h => by simp [tag_Canon.l0] at h⟩
 | k + 1 => by have ih0 := tag_Canon.mono_l k; exact fun _ _ => by unfold tag_Canon.l0; exact lm
theorem tag_Canon.mono : ∀ a0 k, LeO (tag_Canon.f k a0) (tag_Canon.f (k + 1) a0) := by
 intro a0 k
 have ih0 := tag_Canon.mono_l k
 unfold tag_Canon.f
 exact lo
instance tag_Canon.mI {a0 k} : LeC (tag_Canon.f k a0) (tag_Canon.f (k + 1) a0) := ⟨tag_Canon.mono _ _⟩
def tag_Canon.T10 : Bool × List (List Nat × List Nat) := (true, [([], []), ([], []), ([1], [1]), ([0, 2], [0, 2]), ([3], [3]), ([], []), ([], []), ([5, 6], [5, 6]), ([7], [7]), ([4, 8], [4, 8]), ([9], [9])])
def tag_Canon.B10 : List Nat := [0, 0, 2, 7, 15, 0, 0, 96, 224, 511, 1023]
theorem tag_Canon.tab10 : rtab .any (opsOf Tryz.f141 10) = tag_Canon.T10 := by kernel_rfl
theorem tag_Canon.bits10 : waitsOk tag_Canon.T10.2 tag_Canon.B10 = true := by kernel_rfl
theorem tag_Canon.calls (k : Nat) (A0 : Option Addr) (c0 : Nat) (l0 : List (S113)) (r1 : List (S113)) (r2 : Int) (w : World) (hr0 : Kd.C k113 w A0 l0.length l0) (hc0 : l0.length ≤ c0) (h : tag_Canon.f k l0 = some (r1, r2)) :
 Calls Tryz.prog 141 #[.slice A0 l0.length c0] w fun e w' => ∃ v0_ : Value, e = .returned (.tuple #[v0_, .int .i64 r2]) ∧ Kd.R k113 113 w' w.heap.size (fun _ => True) v0_ r1 ∧ Below w.heap.size w w' := by
 have hu113 := Tryz.underlying113
 have HR0 := Aside0.mk hr0
 have HC0 := Aside0.mk hc0
 clear hr0 hc0
 have HB := Aside0.mk (Below.refl w.heap.size w)
 have H : ((api_Tag_with_164_163.f k l0).bind fun t224 => (if t224 = true then (some (([] : List (S113)), 2)) else (if (l0.length : Int) > 4 then (some (([] : List (S113)), 4)) else ((api_Tag_166.f l0).bind fun t225 => ((api_Tag_with_168_167.f k t225).bind fun t228 => (tag_Canon.l0 k t228 1)))))) = some (r1, r2) := h
 clear h
 obtain ⟨t224, A2, H⟩ := bs H
 try dsimp only at H
 by_cases c3 : t224 = true
 ·
  subst c3
  rw [if_pos rfl] at H
  simp only [Option.some.injEq, Prod.mk.injEq] at H
  obtain ⟨rfl, rfl⟩ := H
  go_enter Tryz.func141, Tryz.ntmps141
  go_wp2_with (first | (refine gL (some 7) rfl Tryz.func163 #[.slice A0 l0.length c0, (.func (.func 164) #[] #[])] ?_; (with_reducible refine (api_Tag_with_164_163.calls k _ _ l0 true _ ?side1 ?side2 A2.out).mono ?_); (case side1 => exact uC <| HR0.out); (case side2 => exact HC0.out); rintro e w4 ⟨rfl, hb⟩; refine ⟨_, rfl, ?_⟩; replace HB := cW HB hb; (try clear hb)))
  go_ret2
  exact ⟨_, re_, nl_, uW HB.out⟩
 ·
  replace c3 := Bool.eq_false_iff.mpr c3
  subst c3
  rw [if_neg (show ¬ (false = true) by decide)] at H
  by_cases c5 : (l0.length : Int) > 4
  ·
   rw [if_pos c5] at H
   have c5b0 : decide (4 < (l0.length : Int)) = true := decide_eq_true c5
   have c5b1 : decide (4 < l0.length) = true := decide_eq_true (by omega)
   clear c5
   simp only [Option.some.injEq, Prod.mk.injEq] at H
   obtain ⟨rfl, rfl⟩ := H
   go_enter Tryz.func141, Tryz.ntmps141
   go_wp2_with (first | (refine gL (some 7) rfl Tryz.func163 #[.slice A0 l0.length c0, (.func (.func 164) #[] #[])] ?_; (with_reducible refine (api_Tag_with_164_163.calls k _ _ l0 false _ ?side1 ?side2 A2.out).mono ?_); (case side1 => exact uC <| HR0.out); (case side2 => exact HC0.out); rintro e w6 ⟨rfl, hb⟩; refine ⟨_, rfl, ?_⟩; replace HB := cW HB hb; (try clear hb)))
   go_ret2
   exact ⟨_, re_, nl_, uW HB.out⟩
  ·
   rw [if_neg c5] at H
   have c5b0 : decide (4 < (l0.length : Int)) = false := decide_eq_false c5
   have c5b1 : decide (4 < l0.length) = false := decide_eq_false (by omega)
   clear c5
   obtain ⟨t225, A7, H⟩ := bs H
   try dsimp only at H
   obtain ⟨t228, A8, H⟩ := bs H
   try dsimp only at H
   have H' := Aside0.mk H
   clear H
   go_enter Tryz.func141, Tryz.ntmps141
   go_wp2_with (first | (refine gL (some 7) rfl Tryz.func163 #[.slice A0 l0.length c0, (.func (.func 164) #[] #[])] ?_; (with_reducible refine (api_Tag_with_164_163.calls k _ _ l0 false _ ?side1 ?side2 A2.out).mono ?_); (case side1 => exact uC <| HR0.out); (case side2 => exact HC0.out); rintro e w9 ⟨rfl, hb⟩; refine ⟨_, rfl, ?_⟩; replace HB := cW HB hb; (try clear hb)) | (refine gL (some 12) rfl Tryz.func166 #[.slice A0 l0.length c0] ?_; (with_reducible refine (api_Tag_166.calls _ _ l0 t225 _ ?side1 ?side2 A7.out).mono ?_); (case side1 => exact uC <| (Kd.C_below HR0.out HB.out)); (case side2 => exact HC0.out); rintro e w10 ⟨v226, rfl, ho0, hb⟩; refine ⟨_, rfl, ?_⟩; have HO227 := Aside0.mk (Kd.R_lower ho0 (below_size (uW HB.out))); replace HB := cW HB hb; (try clear hb); (try clear ho0); obtain ⟨Ao11, co11, eo11⟩ := Kd.R_slice HO227.out; subst eo11) | (refine gL (some 14) rfl Tryz.func167 #[.slice Ao11 t225.length co11, (.func (.func 168) #[] #[])] ?_; (with_reducible refine (api_Tag_with_168_167.calls k (fun k_ => some k_ = (.slice Ao11 t225.length co11 : Value).ownBlock) (.slice Ao11 t225.length co11) t225 t228 w _ ?side1 ?side2 A8.out).mono ?_); (case side1 => repeat (first | (with_reducible first | exact HB.out | apply below_alloc | apply pw_below_drewN | apply below_drew1) | exact HB.out)); (case side2 => exact Kd.R_tight rfl HO227.out); rintro e w12 ⟨rfl, hy0, hb, hkp⟩; refine ⟨_, rfl, ?_⟩; replace HO227 := Aside0.mk (Kd.R_reok rfl hy0 (fun k_ e_ => HO227.out.1 k_ e_)); replace HB := Aside0.mk (hb); (try clear hb); (try clear hkp); (try clear hy0)))
   (try simp only [Act.put, List.setIfInBounds_toArray, List.set_cons_zero, List.set_cons_succ])
   go_loopg [5] k (fun kq v5 w' => ∃ (x5_1 : Int), v5 = .int .i64 x5_1 ∧ Aside0 (tag_Canon.l0 kq t228 x5_1 = some (r1, r2)) ∧ Aside0 (kq ≤ k) ∧ Aside0 (Kd.R k113 113 w' w.heap.size (fun _ => True) (.slice Ao11 t225.length co11) t228) ∧ Aside0 (Below w.heap.size w w'))
   case atStart => exact ⟨(1), rs_, H', ⟨Nat.le_refl _⟩, ⟨uR HO227.out⟩, ⟨uW HB.out⟩⟩
   case round =>
    clear H'
    try clear c3
    try clear c5
    try clear c5b0
    try clear c5b1
    obtain ⟨x5_1, rfl, HA, HK1, HO_4, HB⟩ := hrel
    have hl4_1 := (Kd.R_reads' HO_4.out).1
    rw [hl4_1] at HO_4
    (try simp only [hl4_1])
    cases gk with
    | zero => exact absurd HA.out (by simp [tag_Canon.l0])
    | succ k1 =>
     have H := HA.out
     clear HA
     simp only [tag_Canon.l0] at H
     by_cases c13 : x5_1 < (t228.length : Int)
     ·
      rw [if_pos c13] at H
      have c13b0 : decide (x5_1 < (t228.length : Int)) = true := decide_eq_true c13
      clear c13
      obtain ⟨ji14, hji14⟩ : ∃ j_ : Int, (wrap64 (x5_1 - 1)) = j_ := ⟨_, rfl⟩
      (first | rw [hji14] at H | simp only [hji14] at H)
      have hji14w : (IntKind.i64.wrap (x5_1 - 1)) = ji14 := (i64_w _).trans hji14
      obtain ⟨c15b0, H⟩ := gdd H
      obtain ⟨c16b0, H⟩ := gdd H
      obtain ⟨c17b0, H⟩ := gdd H
      obtain ⟨t231, A18, H⟩ := bs H
      try dsimp only at H
      by_cases c19 : t231 = 0
      ·
       rw [if_pos c19] at H
       have c19b0 : (t231 == 0) = true := beq_iff_eq.mpr c19
       have c19b1 : (t231 != 0) = false := bne_eq_false_iff_eq.mpr c19
       clear c19
       simp only [Option.some.injEq, Prod.mk.injEq] at H
       obtain ⟨rfl, rfl⟩ := H
       try go_wp2
       replace HO_4 := Aside0.mk (Kd.R_drew HO_4.out)
       replace HB := Aside0.mk (below_drew1 HB.out)
       have p229 : 0 ≤ ((ji14) : Int) := od
       have q229 : (ji14) < (t228.length : Int) := od
       obtain ⟨ad229, e229, hx229_0, hx229_1⟩ := at_T113 (Kd.R_reads' HO_4.out).2.2 (ji14) p229 q229
       cases e229
       replace p229 := eq_true p229
       replace q229 := eq_true q229
       have p230 : 0 ≤ (x5_1 : Int) := od
       have q230 : x5_1 < (t228.length : Int) := od
       obtain ⟨ad230, e230, hx230_0, hx230_1⟩ := at_T113 (Kd.R_reads' HO_4.out).2.2 x5_1 p230 q230
       obtain rfl : ad229 = ad230 := (by injection e230)
       replace p230 := eq_true p230
       replace q230 := eq_true q230
       refine start_ (n := 11) (S := fun w' => w'.cell? (ad229.add (((ji14)).toNat * 2)) = some (.string ((rd_T113 t228 (ji14)).f0)) ∧ w'.cell? ⟨(ad229.add (((ji14)).toNat * 2)).block, (ad229.add (((ji14)).toNat * 2)).off + 1, none⟩ = some (.string ((rd_T113 t228 (ji14)).f1)) ∧ w'.cell? (ad229.add ((x5_1).toNat * 2)) = some (.string ((rd_T113 t228 x5_1).f0)) ∧ w'.cell? ⟨(ad229.add ((x5_1).toNat * 2)).block, (ad229.add ((x5_1).toNat * 2)).off + 1, none⟩ = some (.string ((rd_T113 t228 x5_1).f1))) (ds := []) _ (by kernel_rfl) rfl rfl ⟨hx229_0, hx229_1, hx230_0, hx230_1⟩ (fun hHeld => ?_); refine with_tabW tag_Canon.tab10 tag_Canon.bits10 (fun HT_ HW_ => ?_)
       generalize wr.drew = w20 at HO_4 HB hx229_0 hx229_1 hx230_0 hx230_1 hHeld ⊢
       refine p1 0 (some 21) ?_
       refine p1 1 (some 22) ?_
       refine p1 2 (some 23) ?_
       refine p1 3 (some 24) ?_
       refine p1 5 (some 26) ?_
       refine p1 6 (some 27) ?_
       refine p1 7 (some 28) ?_
       refine t1 4 (some 25) rfl rfl hHeld (Or.inl ⟨by rfl, by rintro w' ⟨s0, s1, s2, s3⟩; go_simp; with_reducible rfl⟩) ?_
       refine t1 8 (some 29) rfl rfl hHeld (Or.inl ⟨by rfl, by rintro w' ⟨s0, s1, s2, s3⟩; go_simp; with_reducible rfl⟩) ?_
       refine o1 9 (some 30) rfl rfl (fun K hK => ?_)
       refine goes_ Tryz.func168 (by kernel_rfl) rfl #[.agg #[.string ((rd_T113 t228 (ji14)).f0), .string ((rd_T113 t228 (ji14)).f1)], .agg #[.string ((rd_T113 t228 x5_1).f0), .string ((rd_T113 t228 x5_1).f1)]] (by rfl) rfl rfl (by (try simp only [List.map_toArray, List.map_cons, List.map_nil]); first | done | (simp only [hji14]; rfl) | rfl | (simp only [List.length_drop, List.length_take]; rfl)) ?_
       with_reducible refine (tag_order.calls ((rd_T113 t228 (ji14)).f0) ((rd_T113 t228 (ji14)).f1) ((rd_T113 t228 x5_1).f0) ((rd_T113 t228 x5_1).f1) t231 _ A18.out).mono ?_
       rintro e w21 ⟨rfl, hb⟩
       have HS0_ := (hb.cell (World.block_lt_of_cell? _ _ (hHeld.1))).trans (hHeld.1)
       have HS1_ := (hb.cell (World.block_lt_of_cell? _ _ (hHeld.2.1))).trans (hHeld.2.1)
       have HS2_ := (hb.cell (World.block_lt_of_cell? _ _ (hHeld.2.2.1))).trans (hHeld.2.2.1)
       have HS3_ := (hb.cell (World.block_lt_of_cell? _ _ (hHeld.2.2.2))).trans (hHeld.2.2.2)
       refine ⟨_, rfl, ?_⟩
       replace HO_4 := cR HO_4 hb
       replace HB := cW HB hb
       (try clear hb)
       refine hK.out _ _ ⟨HS0_, HS1_, HS2_, HS3_⟩ (fun hHeld => ?_)
       clear hK K
       refine norm_ (a' := ?_) ?_ ?_
       rotate_left
       ·
        show Act.put _ (some 30) _ = _
        simp only [Act.put, List.setIfInBounds_toArray, List.set_cons_zero, List.set_cons_succ, i64_w, i32_w]
        rfl
       refine p1 10 (some 31) ?_
       refine done_ (done_of HT_.out (by kernel_rfl)) ?_
       try go_wp2
       go_ret2
       exact ⟨_, by first | rfl | (simp [errW_none, errW_some] <;> rfl) | (simp only [← hji14]; first | rfl | (simp [errW_none, errW_some] <;> rfl)) | (simp [*, errW_none, errW_some] <;> rfl), nl_, uW HB.out⟩
      ·
       rw [if_neg c19] at H
       have c19b0 : (t231 == 0) = false := beq_eq_false_iff_ne.mpr c19
       have c19b1 : (t231 != 0) = true := bne_iff_ne.mpr c19
       have H' := Aside0.mk H
       clear H
       try go_wp2
       replace HO_4 := Aside0.mk (Kd.R_drew HO_4.out)
       replace HB := Aside0.mk (below_drew1 HB.out)
       have p229 : 0 ≤ ((ji14) : Int) := od
       have q229 : (ji14) < (t228.length : Int) := od
       obtain ⟨ad229, e229, hx229_0, hx229_1⟩ := at_T113 (Kd.R_reads' HO_4.out).2.2 (ji14) p229 q229
       cases e229
       replace p229 := eq_true p229
       replace q229 := eq_true q229
       have p230 : 0 ≤ (x5_1 : Int) := od
       have q230 : x5_1 < (t228.length : Int) := od
       obtain ⟨ad230, e230, hx230_0, hx230_1⟩ := at_T113 (Kd.R_reads' HO_4.out).2.2 x5_1 p230 q230
       obtain rfl : ad229 = ad230 := (by injection e230)
       replace p230 := eq_true p230
       replace q230 := eq_true q230
       refine start_ (n := 11) (S := fun w' => w'.cell? (ad229.add (((ji14)).toNat * 2)) = some (.string ((rd_T113 t228 (ji14)).f0)) ∧ w'.cell? ⟨(ad229.add (((ji14)).toNat * 2)).block, (ad229.add (((ji14)).toNat * 2)).off + 1, none⟩ = some (.string ((rd_T113 t228 (ji14)).f1)) ∧ w'.cell? (ad229.add ((x5_1).toNat * 2)) = some (.string ((rd_T113 t228 x5_1).f0)) ∧ w'.cell? ⟨(ad229.add ((x5_1).toNat * 2)).block, (ad229.add ((x5_1).toNat * 2)).off + 1, none⟩ = some (.string ((rd_T113 t228 x5_1).f1))) (ds := []) _ (by kernel_rfl) rfl rfl ⟨hx229_0, hx229_1, hx230_0, hx230_1⟩ (fun hHeld => ?_); refine with_tabW tag_Canon.tab10 tag_Canon.bits10 (fun HT_ HW_ => ?_)
       generalize wr.drew = w22 at HO_4 HB hx229_0 hx229_1 hx230_0 hx230_1 hHeld ⊢
       refine p1 0 (some 21) ?_
       refine p1 1 (some 22) ?_
       refine p1 2 (some 23) ?_
       refine p1 3 (some 24) ?_
       refine p1 5 (some 26) ?_
       refine p1 6 (some 27) ?_
       refine p1 7 (some 28) ?_
       refine t1 4 (some 25) rfl rfl hHeld (Or.inl ⟨by rfl, by rintro w' ⟨s0, s1, s2, s3⟩; go_simp; with_reducible rfl⟩) ?_
       refine t1 8 (some 29) rfl rfl hHeld (Or.inl ⟨by rfl, by rintro w' ⟨s0, s1, s2, s3⟩; go_simp; with_reducible rfl⟩) ?_
       refine o1 9 (some 30) rfl rfl (fun K hK => ?_)
       refine goes_ Tryz.func168 (by kernel_rfl) rfl #[.agg #[.string ((rd_T113 t228 (ji14)).f0), .string ((rd_T113 t228 (ji14)).f1)], .agg #[.string ((rd_T113 t228 x5_1).f0), .string ((rd_T113 t228 x5_1).f1)]] (by rfl) rfl rfl (by (try simp only [List.map_toArray, List.map_cons, List.map_nil]); first | done | (simp only [hji14]; rfl) | rfl | (simp only [List.length_drop, List.length_take]; rfl)) ?_
       with_reducible refine (tag_order.calls ((rd_T113 t228 (ji14)).f0) ((rd_T113 t228 (ji14)).f1) ((rd_T113 t228 x5_1).f0) ((rd_T113 t228 x5_1).f1) t231 _ A18.out).mono ?_
       rintro e w23 ⟨rfl, hb⟩
       have HS0_ := (hb.cell (World.block_lt_of_cell? _ _ (hHeld.1))).trans (hHeld.1)
       have HS1_ := (hb.cell (World.block_lt_of_cell? _ _ (hHeld.2.1))).trans (hHeld.2.1)
       have HS2_ := (hb.cell (World.block_lt_of_cell? _ _ (hHeld.2.2.1))).trans (hHeld.2.2.1)
       have HS3_ := (hb.cell (World.block_lt_of_cell? _ _ (hHeld.2.2.2))).trans (hHeld.2.2.2)
       refine ⟨_, rfl, ?_⟩
       replace HO_4 := cR HO_4 hb
       replace HB := cW HB hb
       (try clear hb)
       refine hK.out _ _ ⟨HS0_, HS1_, HS2_, HS3_⟩ (fun hHeld => ?_)
       clear hK K
       refine norm_ (a' := ?_) ?_ ?_
       rotate_left
       ·
        show Act.put _ (some 30) _ = _
        simp only [Act.put, List.setIfInBounds_toArray, List.set_cons_zero, List.set_cons_succ, i64_w, i32_w]
        rfl
       refine p1 10 (some 31) ?_
       refine done_ (done_of HT_.out (by kernel_rfl)) ?_
       try go_wp2
       (try simp only [← hl4_1])
       go_roundg k1
       case measure => have := HK1.out; omega
       case rel => exact ⟨(wrap64 (x5_1 + 1)), rs_, H', ⟨by have := HK1.out; omega⟩, ⟨by (try simp only [hl4_1]); exact uR <| HO_4.out⟩, ⟨uW HB.out⟩⟩
     ·
      rw [if_neg c13] at H
      have c13b0 : decide (x5_1 < (t228.length : Int)) = false := decide_eq_false c13
      clear c13
      simp only [Option.some.injEq, Prod.mk.injEq] at H
      obtain ⟨rfl, rfl⟩ := H
      go_wp2
      go_ret2
      exact ⟨_, re_, uR HO_4.out, uW HB.out⟩
def tag_Parse.l0 : Nat → List (S113) → List ByteArray → Int → Int → Option ((List (S113)) × Int)
 | 0, _, _, _, _ => none
 | k + 1, x4, x13, x14, x15 => if x15 < x14 then (if 0 ≤ x15 then (if x15 < (x13.length : Int) then ((strings_Cut.f (rdOf ByteArray.empty x13 x15) (⟨#[61]⟩ : ByteArray)).bind fun bt236 => (if bt236.2.2 = true then (if x4.length < 4398046511104 then (tag_Parse.l0 k (x4 ++ [(⟨bt236.1, bt236.2.1⟩ : S113)]) x13 x14 (wrap64 (x15 + 1))) else (none)) else (some (([] : List (S113)), 2)))) else (none)) else (none)) else ((tag_Canon.f k x4).bind fun bt242 => (some (bt242.1, bt242.2)))
def tag_Parse.f (k : Nat) (a0 : ByteArray) : Option ((List (S113)) × Int) := if a0.toList = ([] : List UInt8) then (some (([] : List (S113)), 0)) else ((word_Split.f k a0 44).bind fun t232 => (tag_Parse.l0 k ([] : List (S113)) t232 (t232.length : Int) 0))
theorem tag_Parse.mono_l : ∀ k, (∀ y0 y1 y2 y3, LeC (tag_Parse.l0 k y0 y1 y2 y3) (tag_Parse.l0 (k + 1) y0 y1 y2 y3))
 | 0 => fun _ _ _ _ => ⟨fun r h => by simp [tag_Parse.l0] at h⟩
 | k + 1 => by have ih0 := tag_Parse.mono_l k; exact fun _ _ _ _ => by unfold tag_Parse.l0; exact lm
theorem tag_Parse.mono : ∀ a0 k, LeO (tag_Parse.f k a0) (tag_Parse.f (k + 1) a0) := by
 intro a0 k
 have ih0 := tag_Parse.mono_l k
 unfold tag_Parse.f
 exact lo
instance tag_Parse.mI {a0 k} : LeC (tag_Parse.f k a0) (tag_Parse.f (k + 1) a0) := ⟨tag_Parse.mono _ _⟩
theorem tag_Parse.calls (k : Nat) (a0 : ByteArray) (r1 : List (S113)) (r2 : Int) (w : World) (hL : LD w) (h : tag_Parse.f k a0 = some (r1, r2)) :
 Calls Tryz.prog 108 #[.string a0] w fun e w' => ∃ v0_ : Value, e = .returned (.tuple #[v0_, .int .i64 r2]) ∧ Kd.R k113 113 w' w.heap.size (fun _ => True) v0_ r1 ∧ Below w.heap.size w w' := by
 have HL0 := Aside0.mk hL
 clear hL
 have hu113 := Tryz.underlying113
 have HB := Aside0.mk (Below.refl w.heap.size w)
 have H : (if a0.toList = ([] : List UInt8) then (some (([] : List (S113)), 0)) else ((word_Split.f k a0 44).bind fun t232 => (tag_Parse.l0 k ([] : List (S113)) t232 (t232.length : Int) 0))) = some (r1, r2) := h
 clear h
 by_cases c2 : a0.toList = ([] : List UInt8)
 ·
  rw [if_pos c2] at H
  have c2b0 : (a0.toList == ([] : List UInt8)) = true := beq_iff_eq.mpr c2
  have c2b1 : (a0.toList != ([] : List UInt8)) = false := bne_eq_false_iff_eq.mpr c2
  clear c2
  simp only [Option.some.injEq, Prod.mk.injEq] at H
  obtain ⟨rfl, rfl⟩ := H
  go_enter Tryz.func108, Tryz.ntmps108
  go_wp2
  go_ret2
  exact ⟨_, re_, nl_, uW HB.out⟩
 ·
  rw [if_neg c2] at H
  have c2b0 : (a0.toList == ([] : List UInt8)) = false := beq_eq_false_iff_ne.mpr c2
  have c2b1 : (a0.toList != ([] : List UInt8)) = true := bne_iff_ne.mpr c2
  obtain ⟨t232, A3, H⟩ := bs H
  try dsimp only at H
  have H' := Aside0.mk H
  clear H
  go_enter Tryz.func108, Tryz.ntmps108
  go_wp2_with (first | (refine gL (some 13) rfl Tryz.func67 #[.string a0, .int .u8 44] ?_; (with_reducible refine (word_Split.calls k a0 44 t232 _ A3.out).mono ?_); rintro e w4 ⟨v233, rfl, ho0, hb⟩; refine ⟨_, rfl, ?_⟩; have HO234 := Aside0.mk (Kd.R_lower ho0 (below_size (uW HB.out))); replace HB := cW HB hb; (try clear hb); (try clear ho0); obtain ⟨Ao5, co5, eo5⟩ := Kd.R_slice HO234.out; subst eo5))
  (try simp only [Act.put, List.setIfInBounds_toArray, List.set_cons_zero, List.set_cons_succ])
  go_loopg [4, 15] k (fun kq v4 v15 w' => ∃ (x4_1 : List (S113)) (x15_1 : Int), v15 = .int .i64 x15_1 ∧ Aside0 (tag_Parse.l0 kq x4_1 t232 (t232.length : Int) x15_1 = some (r1, r2)) ∧ Aside0 (kq ≤ k) ∧ Aside0 (Kd.R k113 113 w' w.heap.size (fun _ => True) v4 x4_1) ∧ Aside0 (Kd.R Kd.string 9 w' w.heap.size (fun _ => True) (.slice Ao5 t232.length co5) t232) ∧ Aside0 (Below w.heap.size w w'))
  case atStart => exact ⟨(([] : List (S113))), (0), rs_, H', ⟨Nat.le_refl _⟩, ⟨nl_⟩, ⟨uR HO234.out⟩, ⟨uW HB.out⟩⟩
  case round =>
   clear H'
   try clear c2
   try clear c2b0
   try clear c2b1
   obtain ⟨x4_1, x15_1, rfl, HA, HK1, HO_4, HO_13, HB⟩ := hrel
   cases gk with
   | zero => exact absurd HA.out (by simp [tag_Parse.l0])
   | succ k1 =>
    have H := HA.out
    clear HA
    simp only [tag_Parse.l0] at H
    by_cases c6 : x15_1 < (t232.length : Int)
    ·
     rw [if_pos c6] at H
     have c6b0 : decide (x15_1 < (t232.length : Int)) = true := decide_eq_true c6
     clear c6
     obtain ⟨c7b0, H⟩ := gdd H
     obtain ⟨c8b0, H⟩ := gdd H
     obtain ⟨⟨t236, t237, t238⟩, A9, H⟩ := bs H
     try dsimp only at H
     by_cases c10 : t238 = true
     ·
      subst c10
      rw [if_pos rfl] at H
      obtain ⟨c11, H⟩ := gd H
      have LMc11 := Aside0.mk c11
      clear c11
      obtain ⟨y239, hy239⟩ : ∃ y_ : List (S113), y_ = (x4_1 ++ [(⟨t236, t237⟩ : S113)]) := ⟨_, rfl⟩
      replace H : (tag_Parse.l0 k1 y239 t232 (t232.length : Int) (wrap64 (x15_1 + 1))) = some (r1, r2) := by first | (rw [hy239]; with_reducible exact H) | (have H2_ := (Option.bind_some _ _).symm.trans H; rw [hy239]; with_reducible exact H2_) | (have H2_ := (Option.bind_some _ _).symm.trans H; with_reducible exact H2_) | with_reducible exact H | (rw [hy239]; exact H) | exact H
      have Ny239 := Aside0.mk hy239
      clear hy239
      have H' := Aside0.mk H
      clear H
      have p235 : 0 ≤ (x15_1 : Int) := od
      have q235 : x15_1 < (t232.length : Int) := od
      obtain ⟨ad235, e235, hx235_0⟩ := Kd.at_string (Kd.R_reads' HO_13.out).2.2 x15_1 p235 q235
      cases e235
      replace p235 := eq_true p235
      replace q235 := eq_true q235
      go_wp2_with (first | (refine gL (some 21) rfl Tryz.func140 #[.string (rdOf ByteArray.empty t232 x15_1), .string (⟨#[61]⟩ : ByteArray)] ?_; (with_reducible refine (strings_Cut.calls (hL := ld) (rdOf ByteArray.empty t232 x15_1) (⟨#[61]⟩ : ByteArray) t236 t237 true _ A9.out).mono ?_); rintro e w' ⟨rfl, ⟨nd, rfl⟩⟩; refine ⟨_, rfl, ?_⟩) | ((with_reducible refine gate_builtin (b := .append) (xs := #[.tmp 27, .tmp 31]) rfl ?_); at_builtin; refine Kd.R_append k113 (w0 := w) w.heap.size rfl (.tmp 27) (.tmp 31) 92 113 (.agg #[(.string ⟨#[]⟩), (.string ⟨#[]⟩)]) 32 rfl Tryz.underlying92 info113 rfl (by decide) (by omega) u4 x4_1 (⟨t236, t237⟩ : S113) [.string t236, .string t237] (fun _ => True) (fun _ => False) rfl rfl ?aP (fun _ hk => hk.elim) ?aF ?aO ?aB ?aS ?aL ?_; (case aP => exact k113_mkM _ _ _ (⟨t236, t237⟩ : S113)); (case aB => exact (uW HB.out)); (case aF => exact (fun _ _ => trivial)); (case aO => exact (uR HO_4.out)); (case aS => exact (below_size (uW HB.out))); (case aL => have := LMc11.out; omega); intro v240 w12 ho hb hg hat; rw [← Ny239.out] at ho; replace HO_13 := Aside0.mk (Kd.R_over' (uR HO_13.out) (Kd.R_typed (uR HO_4.out)) (by decide) hg); replace HB := Aside0.mk (hb); have HO241 := Aside0.mk (ho); clear HO_4; clear ho hb hg hat))
      go_roundg k1
      case measure => have := HK1.out; omega
      case rel => exact ⟨(y239), (wrap64 (x15_1 + 1)), rs_, H', ⟨by have := HK1.out; omega⟩, ⟨uR HO241.out⟩, ⟨uR HO_13.out⟩, ⟨uW HB.out⟩⟩
     ·
      replace c10 := Bool.eq_false_iff.mpr c10
      subst c10
      rw [if_neg (show ¬ (false = true) by decide)] at H
      simp only [Option.some.injEq, Prod.mk.injEq] at H
      obtain ⟨rfl, rfl⟩ := H
      have p235 : 0 ≤ (x15_1 : Int) := od
      have q235 : x15_1 < (t232.length : Int) := od
      obtain ⟨ad235, e235, hx235_0⟩ := Kd.at_string (Kd.R_reads' HO_13.out).2.2 x15_1 p235 q235
      cases e235
      replace p235 := eq_true p235
      replace q235 := eq_true q235
      go_wp2_with (first | (refine gL (some 21) rfl Tryz.func140 #[.string (rdOf ByteArray.empty t232 x15_1), .string (⟨#[61]⟩ : ByteArray)] ?_; (with_reducible refine (strings_Cut.calls (hL := ld) (rdOf ByteArray.empty t232 x15_1) (⟨#[61]⟩ : ByteArray) t236 t237 false _ A9.out).mono ?_); rintro e w' ⟨rfl, ⟨nd, rfl⟩⟩; refine ⟨_, rfl, ?_⟩))
      go_ret2
      exact ⟨_, re_, nl_, uW HB.out⟩
    ·
     rw [if_neg c6] at H
     have c6b0 : decide (x15_1 < (t232.length : Int)) = false := decide_eq_false c6
     clear c6
     obtain ⟨⟨t242, t243⟩, A13, H⟩ := bs H
     try dsimp only at H
     simp only [Option.some.injEq, Prod.mk.injEq] at H
     obtain ⟨rfl, rfl⟩ := H
     obtain ⟨Ao14, co14, eo14⟩ := Kd.R_slice HO_4.out
     subst eo14
     go_wp2_with (first | (refine gL (some 35) rfl Tryz.func141 #[.slice Ao14 x4_1.length co14] ?_; (with_reducible refine (tag_Canon.calls k1 _ _ x4_1 t242 t243 _ ?side1 ?side2 A13.out).mono ?_); (case side1 => exact uC <| (Kd.R_reads' HO_4.out).2.2); (case side2 => exact (Kd.R_reads' HO_4.out).2.1); rintro e w15 ⟨v244, rfl, ho0, hb⟩; refine ⟨_, rfl, ?_⟩; replace HO_13 := cR HO_13 hb; have HO245 := Aside0.mk (Kd.R_lower (Kd.R_new' ho0 (Kd.R_lt (uR HO_4.out))) (below_size (uW HB.out))); replace HO_4 := Aside0.mk (Kd.R_elder' (uR HO_4.out) (Kd.R_base ho0) hb); replace HB := cW HB hb; (try clear hb); (try clear ho0)))
     go_ret2
     exact ⟨_, re_, by exact uR <| Kd.R_mono HO245.out (fun _ hk => trivial), uW HB.out⟩
def tag_Text.l0 : Nat → List ByteArray → List (S113) → Int → Int → Option (ByteArray)
 | 0, _, _, _, _ => none
 | k + 1, x3, x6, x7, x8 => if x8 < x7 then (if 0 ≤ x8 then (if x8 < (x6.length : Int) then ((word_Join.f (⟨#[61]⟩ : ByteArray) (([(rd_T113 x6 x8).f0, (rd_T113 x6 x8).f1] : List ByteArray))).bind fun t251 => (if x3.length < 8796093022208 then (tag_Text.l0 k (x3 ++ [t251]) x6 x7 (wrap64 (x8 + 1))) else (none))) else (none)) else (none)) else ((word_Join.f (⟨#[44]⟩ : ByteArray) x3).bind fun t255 => (some t255))
def tag_Text.f (k : Nat) (l0 : List (S113)) : Option (ByteArray) := tag_Text.l0 k ([] : List ByteArray) l0 (l0.length : Int) 0
theorem tag_Text.mono_l : ∀ k, (∀ y0 y1 y2 y3, LeC (tag_Text.l0 k y0 y1 y2 y3) (tag_Text.l0 (k + 1) y0 y1 y2 y3))
 | 0 => fun _ _ _ _ => ⟨fun r h => by simp [tag_Text.l0] at h⟩
 | k + 1 => by have ih0 := tag_Text.mono_l k; exact fun _ _ _ _ => by unfold tag_Text.l0; exact lm
theorem tag_Text.mono : ∀ a0 k, LeO (tag_Text.f k a0) (tag_Text.f (k + 1) a0) := by
 intro a0 k
 have ih0 := tag_Text.mono_l k
 unfold tag_Text.f
 exact lo
instance tag_Text.mI {a0 k} : LeC (tag_Text.f k a0) (tag_Text.f (k + 1) a0) := ⟨tag_Text.mono _ _⟩
theorem tag_Text.calls (k : Nat) (A0 : Option Addr) (c0 : Nat) (l0 : List (S113)) (r : ByteArray) (w : World) (hr0 : Kd.C k113 w A0 l0.length l0) (hc0 : l0.length ≤ c0) (h : tag_Text.f k l0 = some r) :
 Calls Tryz.prog 109 #[.slice A0 l0.length c0] w fun e w' => e = .returned (.string r) ∧ Below w.heap.size w w' := by
 have hu113 := Tryz.underlying113
 have HR0 := Aside0.mk hr0
 have HC0 := Aside0.mk hc0
 clear hr0 hc0
 have HB := Aside0.mk (Below.refl w.heap.size w)
 have H : (tag_Text.l0 k ([] : List ByteArray) l0 (l0.length : Int) 0) = some r := h
 clear h
 have H' := Aside0.mk H
 clear H
 go_enter Tryz.func109, Tryz.ntmps109
 go_wp2
 go_loopg [3, 8] k (fun kq v3 v8 w' => ∃ (x3_1 : List ByteArray) (x8_1 : Int), v8 = .int .i64 x8_1 ∧ Aside0 (tag_Text.l0 kq x3_1 l0 (l0.length : Int) x8_1 = some r) ∧ Aside0 (kq ≤ k) ∧ Aside0 (Kd.R Kd.string 9 w' w.heap.size (fun _ => True) v3 x3_1) ∧ Aside0 (Below w.heap.size w w'))
 case atStart => exact ⟨(([] : List ByteArray)), (0), rs_, H', ⟨Nat.le_refl _⟩, ⟨nl_⟩, ⟨uW HB.out⟩⟩
 case round =>
  clear H'
  obtain ⟨x3_1, x8_1, rfl, HA, HK1, HO_3, HB⟩ := hrel
  cases gk with
  | zero => exact absurd HA.out (by simp [tag_Text.l0])
  | succ k1 =>
   have H := HA.out
   clear HA
   simp only [tag_Text.l0] at H
   by_cases c2 : x8_1 < (l0.length : Int)
   ·
    rw [if_pos c2] at H
    have c2b0 : decide (x8_1 < (l0.length : Int)) = true := decide_eq_true c2
    clear c2
    obtain ⟨c3b0, H⟩ := gdd H
    obtain ⟨c4b0, H⟩ := gdd H
    obtain ⟨y248, hy248⟩ : ∃ y_ : List ByteArray, y_ = (([(rd_T113 l0 x8_1).f0, (rd_T113 l0 x8_1).f1] : List ByteArray)) := ⟨_, rfl⟩
    replace H : ((word_Join.f (⟨#[61]⟩ : ByteArray) y248).bind fun t251 => (if x3_1.length < 8796093022208 then (tag_Text.l0 k1 (x3_1 ++ [t251]) l0 (l0.length : Int) (wrap64 (x8_1 + 1))) else (none))) = some r := by first | (rw [hy248]; with_reducible exact H) | (have H2_ := (Option.bind_some _ _).symm.trans H; rw [hy248]; with_reducible exact H2_) | (have H2_ := (Option.bind_some _ _).symm.trans H; with_reducible exact H2_) | with_reducible exact H | (rw [hy248]; exact H) | exact H
    have Ny248 := Aside0.mk hy248
    clear hy248
    obtain ⟨t251, A5, H⟩ := bs H
    try dsimp only at H
    obtain ⟨c6, H⟩ := gd H
    have LMc6 := Aside0.mk c6
    clear c6
    obtain ⟨y252, hy252⟩ : ∃ y_ : List ByteArray, y_ = (x3_1 ++ [t251]) := ⟨_, rfl⟩
    replace H : (tag_Text.l0 k1 y252 l0 (l0.length : Int) (wrap64 (x8_1 + 1))) = some r := by first | (rw [hy252]; with_reducible exact H) | (have H2_ := (Option.bind_some _ _).symm.trans H; rw [hy252]; with_reducible exact H2_) | (have H2_ := (Option.bind_some _ _).symm.trans H; with_reducible exact H2_) | with_reducible exact H | (rw [hy252]; exact H) | exact H
    have Ny252 := Aside0.mk hy252
    clear hy252
    have H' := Aside0.mk H
    clear H
    have p246 : 0 ≤ (x8_1 : Int) := od
    have q246 : x8_1 < (l0.length : Int) := od
    obtain ⟨ad246, e246, hx246_0, hx246_1⟩ := at_T113 HR0.out x8_1 p246 q246
    cases e246
    replace hx246_0 := kc HB hx246_0
    replace hx246_1 := kc HB hx246_1
    replace p246 := eq_true p246
    replace q246 := eq_true q246
    go_wp2_with (first | ((with_reducible refine gate_dst (N := 5) rfl ?_); refine bx (N := 5) #[.string (⟨#[]⟩ : ByteArray), .string (⟨#[]⟩ : ByteArray)] 113 ?_; intro gb247 hg w7 hbox hb; replace HO_3 := cR HO_3 hb; have BK247 := Aside0.mk (hbox); have GW247 := gw hg (uW HB.out); have GE247 := GW247; replace HB := cW HB hb; clear hb hbox hg; obtain ⟨hcz8_0, hcz8_1, hfz8_0, hfz8_1⟩ := z2 BK247) | ((with_reducible refine gate_dst (N := 17) rfl ?_); refine Kd.R_lit Kd.string _ 9 ?hg (N := 17) ?hd (xs := ([(rd_T113 l0 x8_1).f0, (rd_T113 l0 x8_1).f1] : List ByteArray)) (inner := [.string ((rd_T113 l0 x8_1).f0), .string ((rd_T113 l0 x8_1).f1)]) (ok := fun _ => True) (okp := fun _ => True) ?hr ?hp (fun _ hk => hk) trivial (Below.refl _ _) (Nat.le_refl _) (by simp) ?_; (case hd => rfl); (case hg => rfl); (case hr => first | (go_simp; done) | (go_simp; rfl)); (case hp => exact (Reps.one (show Kd.M Kd.string _ _ _ ((rd_T113 l0 x8_1).f0) [.string ((rd_T113 l0 x8_1).f0)] from rfl) (Reps.one (show Kd.M Kd.string _ _ _ ((rd_T113 l0 x8_1).f1) [.string ((rd_T113 l0 x8_1).f1)] from rfl) (Reps.none _ _)))); intro v249 w9 ho10 hb hg_ hnew_; clear hg_ hnew_; (first | rw [← Ny248.out] at ho10 | (simp only [Int.reduceToNat] at ho10; rw [← Ny248.out] at ho10)); have HO250 := Aside0.mk (Kd.R_lower (Kd.R_new' ho10 (Kd.R_lt (by exact (Kd.R_mono (fR_ (Kd.R_types HO_3.out BK247.out (by decide)) fun _ h => h.2) (fun _ h_ => h_.1))))) (below_size bl)); replace HO_3 := Aside0.mk (Kd.R_elder' (by exact (Kd.R_mono (fR_ (Kd.R_types HO_3.out BK247.out (by decide)) fun _ h => h.2) (fun _ h_ => h_.1))) (Kd.R_base ho10) hb); replace BK247 := fcB BK247 hb; replace HB := Aside0.mk (below_step bl hb); clear hb ho10; obtain ⟨Ao11, co11, eo11⟩ := Kd.R_slice HO250.out; subst eo11) | (refine gL (some 18) rfl Tryz.func61 #[.string (⟨#[61]⟩ : ByteArray), .slice Ao11 y248.length co11] ?_; (with_reducible refine (word_Join.calls (⟨#[61]⟩ : ByteArray) _ _ y248 t251 _ ?side1 ?side2 A5.out).mono ?_); (case side1 => exact uC <| (Kd.R_reads' HO250.out).2.2); (case side2 => exact (Kd.R_reads' HO250.out).2.1); rintro e w12 ⟨rfl, hb⟩; refine ⟨_, rfl, ?_⟩; replace HO_3 := cR HO_3 hb; replace HO250 := cR HO250 hb; replace BK247 := cB BK247 hb; replace HB := Aside0.mk (below_step bl hb); (try clear hb)) | ((with_reducible refine gate_builtin (b := .append) (xs := #[.tmp 12, .tmp 19]) rfl ?_); at_builtin; refine Kd.R_append Kd.string (w0 := w) w.heap.size rfl (.tmp 12) (.tmp 19) 56 9 (.string ⟨#[]⟩) 16 rfl Tryz.underlying56 info9 rfl (by decide) (by omega) u3 x3_1 t251 [.string t251] (fun k_ => some k_ ≠ (.slice Ao11 y248.length co11 : Value).ownBlock) (fun _ => False) rfl rfl ?aP (fun _ hk => hk.elim) ?aF ?aO ?aB ?aS ?aL ?_; (case aP => exact rfl); (case aB => exact bl); (case aF => exact (fun k_ hk => Kd.fresh' (Kd.R_lt (uR HO250.out)) k_ hk)); (case aO => exact (by exact uR <| Kd.R_mono HO_3.out (fun _ hk => hk.2))); (case aS => exact (below_size bl)); (case aL => have := LMc6.out; omega); intro v253 w13 ho hb hg hat; rw [← Ny252.out] at ho; replace BK247 := Aside0.mk (blk_grown (g := gb247) (o := .cells #[.string ((rd_T113 l0 x8_1).f0), .string ((rd_T113 l0 x8_1).f1)] 113 (0, 0)) (uB BK247.out) hg (Kd.R_ne HO_3.out BK247.out (by decide))); replace HO250 := Aside0.mk (Kd.R_after (ok := (fun _ => True)) (uR HO250.out) hg hat); replace HB := Aside0.mk (hb); have HO254 := Aside0.mk (ho); clear HO_3; clear ho hb hg hat))
    go_roundg k1
    case measure => have := HK1.out; omega
    case rel => exact ⟨(y252), (wrap64 (x8_1 + 1)), rs_, H', ⟨by have := HK1.out; omega⟩, ⟨by exact uR <| Kd.R_mono HO254.out (fun _ hk => trivial)⟩, ⟨bl⟩⟩
   ·
    rw [if_neg c2] at H
    have c2b0 : decide (x8_1 < (l0.length : Int)) = false := decide_eq_false c2
    clear c2
    obtain ⟨t255, A14, H⟩ := bs H
    try dsimp only at H
    obtain rfl := Option.some.inj H
    obtain ⟨Ao15, co15, eo15⟩ := Kd.R_slice HO_3.out
    subst eo15
    go_wp2_with (first | (refine gL (some 23) rfl Tryz.func61 #[.string (⟨#[44]⟩ : ByteArray), .slice Ao15 x3_1.length co15] ?_; (with_reducible refine (word_Join.calls (⟨#[44]⟩ : ByteArray) _ _ x3_1 t255 _ ?side1 ?side2 A14.out).mono ?_); (case side1 => exact uC <| (Kd.R_reads' HO_3.out).2.2); (case side2 => exact (Kd.R_reads' HO_3.out).2.1); rintro e w16 ⟨rfl, hb⟩; refine ⟨_, rfl, ?_⟩; replace HO_3 := cR HO_3 hb; replace HB := cW HB hb; (try clear hb)))
    go_ret
    exact ⟨re_, uW HB.out⟩
def row_group.f (k : Nat) (a0 : ByteArray) : Option (Int) := (tag_Parse.f k a0).bind fun bt256 => (if bt256.2 = 0 then ((tag_Text.f k bt256.1).bind fun t260 => (if t260.toList = a0.toList then (some bt256.2) else (some 2))) else (some bt256.2))
theorem row_group.mono : ∀ a0 k, LeO (row_group.f k a0) (row_group.f (k + 1) a0) := by
 intro a0 k
 unfold row_group.f
 exact lo
instance row_group.mI {a0 k} : LeC (row_group.f k a0) (row_group.f (k + 1) a0) := ⟨row_group.mono _ _⟩
theorem row_group.calls (k : Nat) (a0 : ByteArray) (r : Int) (w : World) (hL : LD w) (h : row_group.f k a0 = some r) :
 Calls Tryz.prog 86 #[.string a0] w fun e w' => e = .returned (.int .i64 r) ∧ Below w.heap.size w w' := by
 have HL0 := Aside0.mk hL
 clear hL
 have HB := Aside0.mk (Below.refl w.heap.size w)
 have H : ((tag_Parse.f k a0).bind fun bt256 => (if bt256.2 = 0 then ((tag_Text.f k bt256.1).bind fun t260 => (if t260.toList = a0.toList then (some bt256.2) else (some 2))) else (some bt256.2))) = some r := h
 clear h
 obtain ⟨⟨t256, t257⟩, A2, H⟩ := bs H
 try dsimp only at H
 by_cases c3 : t257 = 0
 ·
  rw [if_pos c3] at H
  have c3b0 : (t257 == 0) = true := beq_iff_eq.mpr c3
  have c3b1 : (t257 != 0) = false := bne_eq_false_iff_eq.mpr c3
  clear c3
  obtain ⟨t260, A4, H⟩ := bs H
  try dsimp only at H
  by_cases c5 : t260.toList = a0.toList
  ·
   rw [if_pos c5] at H
   have c5b0 : (t260.toList == a0.toList) = true := beq_iff_eq.mpr c5
   have c5b1 : (t260.toList != a0.toList) = false := bne_eq_false_iff_eq.mpr c5
   clear c5
   obtain rfl := Option.some.inj H
   go_enter Tryz.func86, Tryz.ntmps86
   go_wp2_with (first | (refine gL (some 7) rfl Tryz.func108 #[.string a0] ?_; (with_reducible refine (tag_Parse.calls (hL := ld) k a0 t256 t257 _ A2.out).mono ?_); rintro e w6 ⟨v258, rfl, ho0, hb⟩; refine ⟨_, rfl, ?_⟩; have HO259 := Aside0.mk (Kd.R_lower ho0 (below_size (uW HB.out))); replace HB := cW HB hb; (try clear hb); (try clear ho0); obtain ⟨Ao7, co7, eo7⟩ := Kd.R_slice HO259.out; subst eo7) | (go_at_call 109; (with_reducible refine (tag_Text.calls k _ _ t256 t260 _ ?side1 ?side2 A4.out).mono ?_); (case side1 => exact uC <| (Kd.R_reads' HO259.out).2.2); (case side2 => exact (Kd.R_reads' HO259.out).2.1); rintro e w8 ⟨rfl, hb⟩; replace HO259 := cR HO259 hb; replace HB := cW HB hb; (try clear hb)))
   go_ret
   exact ⟨re_, uW HB.out⟩
  ·
   rw [if_neg c5] at H
   have c5b0 : (t260.toList == a0.toList) = false := beq_eq_false_iff_ne.mpr c5
   have c5b1 : (t260.toList != a0.toList) = true := bne_iff_ne.mpr c5
   obtain rfl := Option.some.inj H
   go_enter Tryz.func86, Tryz.ntmps86
   go_wp2_with (first | (refine gL (some 7) rfl Tryz.func108 #[.string a0] ?_; (with_reducible refine (tag_Parse.calls (hL := ld) k a0 t256 t257 _ A2.out).mono ?_); rintro e w9 ⟨v258, rfl, ho0, hb⟩; refine ⟨_, rfl, ?_⟩; have HO259 := Aside0.mk (Kd.R_lower ho0 (below_size (uW HB.out))); replace HB := cW HB hb; (try clear hb); (try clear ho0); obtain ⟨Ao10, co10, eo10⟩ := Kd.R_slice HO259.out; subst eo10) | (go_at_call 109; (with_reducible refine (tag_Text.calls k _ _ t256 t260 _ ?side1 ?side2 A4.out).mono ?_); (case side1 => exact uC <| (Kd.R_reads' HO259.out).2.2); (case side2 => exact (Kd.R_reads' HO259.out).2.1); rintro e w11 ⟨rfl, hb⟩; replace HO259 := cR HO259 hb; replace HB := cW HB hb; (try clear hb)))
   go_ret
   exact ⟨re_, uW HB.out⟩
 ·
  rw [if_neg c3] at H
  have c3b0 : (t257 == 0) = false := beq_eq_false_iff_ne.mpr c3
  have c3b1 : (t257 != 0) = true := bne_iff_ne.mpr c3
  obtain rfl := Option.some.inj H
  go_enter Tryz.func86, Tryz.ntmps86
  go_wp2_with (first | (refine gL (some 7) rfl Tryz.func108 #[.string a0] ?_; (with_reducible refine (tag_Parse.calls (hL := ld) k a0 t256 t257 _ A2.out).mono ?_); rintro e w12 ⟨v258, rfl, ho0, hb⟩; refine ⟨_, rfl, ?_⟩; have HO259 := Aside0.mk (Kd.R_lower ho0 (below_size (uW HB.out))); replace HB := cW HB hb; (try clear hb); (try clear ho0)))
  go_ret
  exact ⟨re_, uW HB.out⟩
def stringslite_HasSuffix.f (a0 : ByteArray) (a1 : ByteArray) : Option (Bool) := if (a0.size : Int) ≥ (a1.size : Int) then (if 0 ≤ (wrap64 ((a0.size : Int) - (a1.size : Int))) then (if (wrap64 ((a0.size : Int) - (a1.size : Int))) ≤ (a0.size : Int) then (some ((a0.extract ((wrap64 ((a0.size : Int) - (a1.size : Int))) : Int).toNat a0.size).toList == a1.toList)) else (none)) else (none)) else (some false)
theorem stringslite_HasSuffix.calls (a0 : ByteArray) (a1 : ByteArray) (r : Bool) (w : World) (h : stringslite_HasSuffix.f a0 a1 = some r) :
 Calls Tryz.prog 169 #[.string a0, .string a1] w fun e w' => e = .returned (.bool r) ∧ Drawn0 w w' := by
 have H : (if (a0.size : Int) ≥ (a1.size : Int) then (if 0 ≤ (wrap64 ((a0.size : Int) - (a1.size : Int))) then (if (wrap64 ((a0.size : Int) - (a1.size : Int))) ≤ (a0.size : Int) then (some ((a0.extract ((wrap64 ((a0.size : Int) - (a1.size : Int))) : Int).toNat a0.size).toList == a1.toList)) else (none)) else (none)) else (some false)) = some r := h
 clear h
 by_cases c3 : (a0.size : Int) ≥ (a1.size : Int)
 ·
  rw [if_pos c3] at H
  have c3b0 : decide ((a1.size : Int) ≤ (a0.size : Int)) = true := decide_eq_true c3
  have c3b1 : decide (a1.size ≤ a0.size) = true := decide_eq_true (Int.ofNat_le.mp c3)
  clear c3
  obtain ⟨ji4, hji4⟩ : ∃ j_ : Int, (wrap64 ((a0.size : Int) - (a1.size : Int))) = j_ := ⟨_, rfl⟩
  (first | rw [hji4] at H | simp only [hji4] at H)
  have hji4w : (IntKind.i64.wrap ((a0.size : Int) - (a1.size : Int))) = ji4 := (i64_w _).trans hji4
  obtain ⟨c5, H⟩ := gd H
  have c5b0 := eq_true c5
  have c5b1 : decide (0 ≤ (ji4)) = true := decide_eq_true c5
  clear c5
  obtain ⟨c6, H⟩ := gd H
  have c6b0 := eq_true c6
  have c6b1 : decide ((ji4) ≤ (a0.size : Int)) = true := decide_eq_true c6
  clear c6
  obtain rfl := Option.some.inj H
  go_enter Tryz.func169, Tryz.ntmps169
  go_wp2
  go_ret
  exact ⟨by first | rfl | (simp; done) | (simp only [← hji4] <;> (first | rfl | simp)) | (simp [*]; done), dr_⟩
 ·
  rw [if_neg c3] at H
  have c3b0 : decide ((a1.size : Int) ≤ (a0.size : Int)) = false := decide_eq_false c3
  have c3b1 : decide (a1.size ≤ a0.size) = false := decide_eq_false (fun h => c3 (Int.ofNat_le.mpr h))
  clear c3
  obtain rfl := Option.some.inj H
  go_enter Tryz.func169, Tryz.ntmps169
  go_wp2
  go_ret
  exact ⟨rs_, dr_⟩
def stringslite_TrimSuffix.f (a0 : ByteArray) (a1 : ByteArray) : Option (ByteArray) := (stringslite_HasSuffix.f a0 a1).bind fun t261 => (if t261 = true then (if 0 ≤ (wrap64 ((a0.size : Int) - (a1.size : Int))) then (if (wrap64 ((a0.size : Int) - (a1.size : Int))) ≤ (a0.size : Int) then (some (a0.extract 0 ((wrap64 ((a0.size : Int) - (a1.size : Int))) : Int).toNat)) else (none)) else (none)) else (some a0))
theorem stringslite_TrimSuffix.calls (a0 : ByteArray) (a1 : ByteArray) (r : ByteArray) (w : World) (h : stringslite_TrimSuffix.f a0 a1 = some r) :
 Calls Tryz.prog 142 #[.string a0, .string a1] w fun e w' => e = .returned (.string r) ∧ Drawn0 w w' := by
 have H : ((stringslite_HasSuffix.f a0 a1).bind fun t261 => (if t261 = true then (if 0 ≤ (wrap64 ((a0.size : Int) - (a1.size : Int))) then (if (wrap64 ((a0.size : Int) - (a1.size : Int))) ≤ (a0.size : Int) then (some (a0.extract 0 ((wrap64 ((a0.size : Int) - (a1.size : Int))) : Int).toNat)) else (none)) else (none)) else (some a0))) = some r := h
 clear h
 obtain ⟨t261, A3, H⟩ := bs H
 try dsimp only at H
 by_cases c4 : t261 = true
 ·
  subst c4
  rw [if_pos rfl] at H
  obtain ⟨ji5, hji5⟩ : ∃ j_ : Int, (wrap64 ((a0.size : Int) - (a1.size : Int))) = j_ := ⟨_, rfl⟩
  (first | rw [hji5] at H | simp only [hji5] at H)
  (try rw [hji5] at A3)
  have hji5w : (IntKind.i64.wrap ((a0.size : Int) - (a1.size : Int))) = ji5 := (i64_w _).trans hji5
  obtain ⟨c6, H⟩ := gd H
  have c6b0 := eq_true c6
  have c6b1 : decide (0 ≤ (ji5)) = true := decide_eq_true c6
  clear c6
  obtain ⟨c7, H⟩ := gd H
  have c7b0 := eq_true c7
  have c7b1 : decide ((ji5) ≤ (a0.size : Int)) = true := decide_eq_true c7
  clear c7
  obtain rfl := Option.some.inj H
  go_enter Tryz.func142, Tryz.ntmps142
  go_wp2_with (first | (refine gL (some 7) rfl Tryz.func169 #[.string a0, .string a1] ?_; (with_reducible refine (stringslite_HasSuffix.calls a0 a1 true _ A3.out).mono ?_); rintro e w' ⟨rfl, ⟨nd, rfl⟩⟩; refine ⟨_, rfl, ?_⟩))
  go_ret
  exact ⟨by first | rfl | (simp; done) | (simp only [← hji5] <;> (first | rfl | simp)) | (simp [*]; done), dr_⟩
 ·
  replace c4 := Bool.eq_false_iff.mpr c4
  subst c4
  rw [if_neg (show ¬ (false = true) by decide)] at H
  obtain rfl := Option.some.inj H
  go_enter Tryz.func142, Tryz.ntmps142
  go_wp2_with (first | (refine gL (some 7) rfl Tryz.func169 #[.string a0, .string a1] ?_; (with_reducible refine (stringslite_HasSuffix.calls a0 a1 false _ A3.out).mono ?_); rintro e w' ⟨rfl, ⟨nd, rfl⟩⟩; refine ⟨_, rfl, ?_⟩))
  go_ret
  exact ⟨rs_, dr_⟩
def strings_TrimSuffix.f (a0 : ByteArray) (a1 : ByteArray) : Option (ByteArray) := (stringslite_TrimSuffix.f a0 a1).bind fun t262 => (some t262)
theorem strings_TrimSuffix.calls (a0 : ByteArray) (a1 : ByteArray) (r : ByteArray) (w : World) (h : strings_TrimSuffix.f a0 a1 = some r) :
 Calls Tryz.prog 110 #[.string a0, .string a1] w fun e w' => e = .returned (.string r) ∧ Drawn0 w w' := by
 have H : ((stringslite_TrimSuffix.f a0 a1).bind fun t262 => (some t262)) = some r := h
 clear h
 obtain ⟨t262, A3, H⟩ := bs H
 try dsimp only at H
 obtain rfl := Option.some.inj H
 go_enter Tryz.func110, Tryz.ntmps110
 go_wp2_with (first | (refine gL (some 7) rfl Tryz.func142 #[.string a0, .string a1] ?_; (with_reducible refine (stringslite_TrimSuffix.calls a0 a1 t262 _ A3.out).mono ?_); rintro e w' ⟨rfl, ⟨nd, rfl⟩⟩; refine ⟨_, rfl, ?_⟩))
 go_ret
 exact ⟨rs_, dr_⟩
def sat_Parse.f (a0 : ByteArray) : Option (Int × Bool × Int) := (strings_TrimSuffix.f a0 (⟨#[33]⟩ : ByteArray)).bind fun t264 => ((sat_Read.f t264).bind fun bt265 => (if bt265.2 = 0 then (some (bt265.1, (t264.toList != a0.toList), 0)) else (some (0, false, bt265.2))))
theorem sat_Parse.calls (a0 : ByteArray) (r1 : Int) (r2 : Bool) (r3 : Int) (w : World) (hL : LD w) (h : sat_Parse.f a0 = some (r1, r2, r3)) :
 Calls Tryz.prog 87 #[.string a0] w fun e w' => e = .returned (.tuple #[.agg #[.int .i64 r1, .bool r2], .int .i64 r3]) ∧ Below w.heap.size w w' := by
 have HL0 := Aside0.mk hL
 clear hL
 have hu58 := Tryz.underlying58
 have HB := Aside0.mk (Below.refl w.heap.size w)
 have H : ((strings_TrimSuffix.f a0 (⟨#[33]⟩ : ByteArray)).bind fun t264 => ((sat_Read.f t264).bind fun bt265 => (if bt265.2 = 0 then (some (bt265.1, (t264.toList != a0.toList), 0)) else (some (0, false, bt265.2))))) = some (r1, r2, r3) := h
 clear h
 obtain ⟨t264, A2, H⟩ := bs H
 try dsimp only at H
 obtain ⟨⟨t265, t266⟩, A3, H⟩ := bs H
 try dsimp only at H
 by_cases c4 : t266 = 0
 ·
  rw [if_pos c4] at H
  have c4b0 : (t266 == 0) = true := beq_iff_eq.mpr c4
  have c4b1 : (t266 != 0) = false := bne_eq_false_iff_eq.mpr c4
  clear c4
  simp only [Option.some.injEq, Prod.mk.injEq] at H
  obtain ⟨rfl, rfl, rfl⟩ := H
  go_enter Tryz.func87, Tryz.ntmps87
  go_wp2_with (first | ((with_reducible refine gate_dst (N := 2) rfl ?_); refine bx (N := 2) #[.int .i64 0, .bool false] 58 ?_; intro gb263 hg w5 hbox hb; have BK263 := Aside0.mk (hbox); have GW263 := gw hg (uW HB.out); have GE263 := GW263; replace HB := cW HB hb; clear hb hbox hg) | (refine gL (some 8) rfl Tryz.func110 #[.string a0, .string (⟨#[33]⟩ : ByteArray)] ?_; (with_reducible refine (strings_TrimSuffix.calls a0 (⟨#[33]⟩ : ByteArray) t264 _ A2.out).mono ?_); rintro e w' ⟨rfl, ⟨nd, rfl⟩⟩; refine ⟨_, rfl, ?_⟩; (try (rw [drewN_self w5]; generalize hq_ : World.drewN w5 _ = w5; have n0_ : Aside0 (w5.heap[gb263]? = some (.cells #[.int .i64 0, .bool false] 58 (0, 0))) := ⟨by rw [← hq_]; exact (uB BK263.out)⟩; have n1_ : Aside0 (Below w.heap.size w w5) := ⟨by rw [← hq_]; exact bl⟩; clear BK263 HB hq_; have BK263 := n0_; have HB := n1_; clear n0_ n1_))) | (refine gL (some 11) rfl Tryz.func68 #[.string t264] ?_; (with_reducible refine (sat_Read.calls (hL := ld) t264 t265 t266 _ A3.out).mono ?_); rintro e w6 ⟨rfl, hb⟩; refine ⟨_, rfl, ?_⟩; replace BK263 := cB BK263 hb; replace HB := Aside0.mk (below_step bl hb); (try clear hb); obtain ⟨hcz7_0, hcz7_1, hfz7_0, hfz7_1⟩ := z2 BK263))
  refine bodyPost_ret (results_ct rfl _ _ gb263 58 #[.int .i64 t265, .bool (t264.toList != a0.toList)] (0, 0) _ rfl (fB BK263.out) Tryz.underlying58 rfl (by kernel_rfl)) rfl ?_
  exact ⟨re_, bl⟩
 ·
  rw [if_neg c4] at H
  have c4b0 : (t266 == 0) = false := beq_eq_false_iff_ne.mpr c4
  have c4b1 : (t266 != 0) = true := bne_iff_ne.mpr c4
  simp only [Option.some.injEq, Prod.mk.injEq] at H
  obtain ⟨rfl, rfl, rfl⟩ := H
  go_enter Tryz.func87, Tryz.ntmps87
  go_wp2_with (first | ((with_reducible refine gate_dst (N := 2) rfl ?_); refine bx (N := 2) #[.int .i64 0, .bool false] 58 ?_; intro gb263 hg w8 hbox hb; have BK263 := Aside0.mk (hbox); have GW263 := gw hg (uW HB.out); have GE263 := GW263; replace HB := cW HB hb; clear hb hbox hg) | (refine gL (some 8) rfl Tryz.func110 #[.string a0, .string (⟨#[33]⟩ : ByteArray)] ?_; (with_reducible refine (strings_TrimSuffix.calls a0 (⟨#[33]⟩ : ByteArray) t264 _ A2.out).mono ?_); rintro e w' ⟨rfl, ⟨nd, rfl⟩⟩; refine ⟨_, rfl, ?_⟩; (try (rw [drewN_self w8]; generalize hq_ : World.drewN w8 _ = w8; have n0_ : Aside0 (w8.heap[gb263]? = some (.cells #[.int .i64 0, .bool false] 58 (0, 0))) := ⟨by rw [← hq_]; exact (uB BK263.out)⟩; have n1_ : Aside0 (Below w.heap.size w w8) := ⟨by rw [← hq_]; exact bl⟩; clear BK263 HB hq_; have BK263 := n0_; have HB := n1_; clear n0_ n1_))) | (refine gL (some 11) rfl Tryz.func68 #[.string t264] ?_; (with_reducible refine (sat_Read.calls (hL := ld) t264 t265 t266 _ A3.out).mono ?_); rintro e w9 ⟨rfl, hb⟩; refine ⟨_, rfl, ?_⟩; replace BK263 := cB BK263 hb; replace HB := Aside0.mk (below_step bl hb); (try clear hb); obtain ⟨hcz10_0, hcz10_1, hfz10_0, hfz10_1⟩ := z2 BK263))
  refine bodyPost_ret (results_ct rfl _ _ gb263 58 #[.int .i64 0, .bool false] (0, 0) _ rfl (fB BK263.out) Tryz.underlying58 rfl (by kernel_rfl)) rfl ?_
  exact ⟨re_, bl⟩
def row_one.f (k : Nat) (a0 : ByteArray) : Option (Int × ByteArray × Int × Bool × Int) := (word_Split.f k a0 124).bind fun t268 => (if (t268.length : Int) = 3 then (if 0 < (t268.length : Int) then ((sat_Read.f (rdOf ByteArray.empty t268 0)).bind fun bt272 => (if bt272.2 = 0 then (if 1 < (t268.length : Int) then ((row_group.f k (rdOf ByteArray.empty t268 1)).bind fun t275 => (if t275 = 0 then (if 2 < (t268.length : Int) then ((sat_Parse.f (rdOf ByteArray.empty t268 2)).bind fun bt278 => (some (bt272.1, rdOf ByteArray.empty t268 1, bt278.1, bt278.2.1, bt278.2.2))) else (none)) else (some (bt272.1, (⟨#[]⟩ : ByteArray), 0, false, t275)))) else (none)) else (some (bt272.1, (⟨#[]⟩ : ByteArray), 0, false, bt272.2)))) else (none)) else (some (0, (⟨#[]⟩ : ByteArray), 0, false, 2)))
theorem row_one.mono : ∀ a0 k, LeO (row_one.f k a0) (row_one.f (k + 1) a0) := by
 intro a0 k
 unfold row_one.f
 exact lo
instance row_one.mI {a0 k} : LeC (row_one.f k a0) (row_one.f (k + 1) a0) := ⟨row_one.mono _ _⟩
theorem row_one.calls (k : Nat) (a0 : ByteArray) (r1 : Int) (r2 : ByteArray) (r3 : Int) (r4 : Bool) (r5 : Int) (w : World) (hL : LD w) (h : row_one.f k a0 = some (r1, r2, r3, r4, r5)) :
 Calls Tryz.prog 69 #[.string a0] w fun e w' => e = .returned (.tuple #[.agg #[.int .i64 r1, .string r2, .int .i64 r3, .bool r4], .int .i64 r5]) ∧ Below w.heap.size w w' := by
 have HL0 := Aside0.mk hL
 clear hL
 have hu60 := Tryz.underlying60
 have hu58 := Tryz.underlying58
 have HB := Aside0.mk (Below.refl w.heap.size w)
 have H : ((word_Split.f k a0 124).bind fun t268 => (if (t268.length : Int) = 3 then (if 0 < (t268.length : Int) then ((sat_Read.f (rdOf ByteArray.empty t268 0)).bind fun bt272 => (if bt272.2 = 0 then (if 1 < (t268.length : Int) then ((row_group.f k (rdOf ByteArray.empty t268 1)).bind fun t275 => (if t275 = 0 then (if 2 < (t268.length : Int) then ((sat_Parse.f (rdOf ByteArray.empty t268 2)).bind fun bt278 => (some (bt272.1, rdOf ByteArray.empty t268 1, bt278.1, bt278.2.1, bt278.2.2))) else (none)) else (some (bt272.1, (⟨#[]⟩ : ByteArray), 0, false, t275)))) else (none)) else (some (bt272.1, (⟨#[]⟩ : ByteArray), 0, false, bt272.2)))) else (none)) else (some (0, (⟨#[]⟩ : ByteArray), 0, false, 2)))) = some (r1, r2, r3, r4, r5) := h
 clear h
 obtain ⟨t268, A2, H⟩ := bs H
 try dsimp only at H
 by_cases c3 : (t268.length : Int) = 3
 ·
  rw [if_pos c3] at H
  have c3b0 : ((t268.length : Int) == 3) = true := beq_iff_eq.mpr c3
  have c3b1 : ((t268.length : Int) != 3) = false := bne_eq_false_iff_eq.mpr c3
  clear c3
  obtain ⟨c4, H⟩ := gd H
  have c4b0 : decide (0 < (t268.length : Int)) = true := decide_eq_true c4
  have c4b1 : decide (0 < t268.length) = true := decide_eq_true (by omega)
  clear c4
  obtain ⟨⟨t272, t273⟩, A5, H⟩ := bs H
  try dsimp only at H
  by_cases c6 : t273 = 0
  ·
   rw [if_pos c6] at H
   have c6b0 : (t273 == 0) = true := beq_iff_eq.mpr c6
   have c6b1 : (t273 != 0) = false := bne_eq_false_iff_eq.mpr c6
   clear c6
   obtain ⟨c7, H⟩ := gd H
   have c7b0 : decide (1 < (t268.length : Int)) = true := decide_eq_true c7
   have c7b1 : decide (1 < t268.length) = true := decide_eq_true (by omega)
   clear c7
   obtain ⟨t275, A8, H⟩ := bs H
   try dsimp only at H
   by_cases c9 : t275 = 0
   ·
    rw [if_pos c9] at H
    have c9b0 : (t275 == 0) = true := beq_iff_eq.mpr c9
    have c9b1 : (t275 != 0) = false := bne_eq_false_iff_eq.mpr c9
    clear c9
    obtain ⟨c10, H⟩ := gd H
    have c10b0 : decide (2 < (t268.length : Int)) = true := decide_eq_true c10
    have c10b1 : decide (2 < t268.length) = true := decide_eq_true (by omega)
    clear c10
    obtain ⟨⟨t278, t279, t280⟩, A11, H⟩ := bs H
    try dsimp only at H
    simp only [Option.some.injEq, Prod.mk.injEq] at H
    obtain ⟨rfl, rfl, rfl, rfl, rfl⟩ := H
    go_enter Tryz.func69, Tryz.ntmps69
    go_wp2_with (first | ((with_reducible refine gate_dst (N := 2) rfl ?_); refine bx (N := 2) #[.int .i64 0, .string (⟨#[]⟩ : ByteArray), .int .i64 0, .bool false] 60 ?_; intro gb267 hg w12 hbox hb; have BK267 := Aside0.mk (hbox); have GW267 := gw hg (uW HB.out); have GE267 := GW267; replace HB := cW HB hb; clear hb hbox hg) | (refine gL (some 6) rfl Tryz.func67 #[.string a0, .int .u8 124] ?_; (with_reducible refine (word_Split.calls k a0 124 t268 _ A2.out).mono ?_); rintro e w13 ⟨v269, rfl, ho0, hb⟩; refine ⟨_, rfl, ?_⟩; have HO270 := Aside0.mk (Kd.R_lower ho0 (below_size bl)); replace BK267 := cB BK267 hb; replace HB := Aside0.mk (below_step bl hb); (try clear hb); (try clear ho0); obtain ⟨Ao14, co14, eo14⟩ := Kd.R_slice HO270.out; subst eo14; have p271 : 0 ≤ (0 : Int) := (by omega); have q271 : 0 < (t268.length : Int) := od; obtain ⟨ad271, e271, hx271_0⟩ := Kd.at_string (Kd.R_reads' HO270.out).2.2 0 p271 q271; cases e271; have qi271 : (0 < t268.length) = True := eq_true (by omega); (try rw [show ((0 : Int)).toNat = 0 from rfl] at hx271_0); (try rw [Addr.add_zero'] at hx271_0); replace p271 := eq_true p271; replace q271 := eq_true q271) | (refine gL (some 15) rfl Tryz.func68 #[.string (rdOf ByteArray.empty t268 0)] ?_; (with_reducible refine (sat_Read.calls (hL := ld) (rdOf ByteArray.empty t268 0) t272 t273 _ A5.out).mono ?_); rintro e w15 ⟨rfl, hb⟩; refine ⟨_, rfl, ?_⟩; replace HO270 := cR HO270 hb; replace BK267 := cB BK267 hb; replace HB := Aside0.mk (below_step bl hb); (try clear hb); obtain ⟨hcz16_0, hcz16_1, hcz16_2, hcz16_3, hfz16_0, hfz16_1, hfz16_2, hfz16_3⟩ := z4 BK267; have p274 : 0 ≤ (1 : Int) := (by omega); have q274 : 1 < (t268.length : Int) := od; obtain ⟨ad274, e274, hx274_0⟩ := Kd.at_string (Kd.R_reads' HO270.out).2.2 1 p274 q274; obtain rfl : ad271 = ad274 := (by injection e274); (try simp only [show (1 : Int).toNat = 1 from rfl, Nat.reduceMul, Nat.reduceEqDiff, Go.Addr.add, ↓reduceIte] at hx274_0); have qi274 : (1 < t268.length) = True := eq_true (by omega); (try rw [show ((1 : Int)).toNat = 1 from rfl] at hx274_0); have hn274_0 : ad271.block ≠ gb267 := Kd.own_blk (Kd.R_ne HO270.out BK267.out (by decide)); replace hx274_0 := (cell_far (p := ⟨gb267, 0, none⟩) (nn hn274_0) (.int .i64 t272)).trans hx274_0; clear hn274_0; replace p274 := eq_true p274; replace q274 := eq_true q274) | (refine gL (some 26) rfl Tryz.func86 #[.string (rdOf ByteArray.empty t268 1)] ?_; (with_reducible refine (row_group.calls (hL := ld) k (rdOf ByteArray.empty t268 1) t275 _ A8.out).mono ?_); rintro e w17 ⟨rfl, hb⟩; refine ⟨_, rfl, ?_⟩; replace HO270 := fcR HO270 BK267 hb; replace BK267 := fcB BK267 hb; replace HB := Aside0.mk (below_step bl hb); (try clear hb); have p276 : 0 ≤ (1 : Int) := (by omega); have q276 : 1 < (t268.length : Int) := od; obtain ⟨ad276, e276, hx276_0⟩ := Kd.at_string (Kd.R_reads' HO270.out).2.2 1 p276 q276; obtain rfl : ad271 = ad276 := (by injection e276); (try simp only [show (1 : Int).toNat = 1 from rfl, Nat.reduceMul, Nat.reduceEqDiff, Go.Addr.add, ↓reduceIte] at hx276_0); have qi276 : (1 < t268.length) = True := eq_true (by omega); (try rw [show ((1 : Int)).toNat = 1 from rfl] at hx276_0); replace p276 := eq_true p276; replace q276 := eq_true q276; obtain ⟨hcz18_0, hcz18_1, hcz18_2, hcz18_3, hfz18_0, hfz18_1, hfz18_2, hfz18_3⟩ := z4 BK267; have p277 : 0 ≤ (2 : Int) := (by omega); have q277 : 2 < (t268.length : Int) := od; obtain ⟨ad277, e277, hx277_0⟩ := Kd.at_string (Kd.R_reads' HO270.out).2.2 2 p277 q277; obtain rfl : ad271 = ad277 := (by injection e277); (try simp only [show (2 : Int).toNat = 2 from rfl, Nat.reduceMul, Nat.reduceEqDiff, Go.Addr.add, ↓reduceIte] at hx277_0); have qi277 : (2 < t268.length) = True := eq_true (by omega); (try rw [show ((2 : Int)).toNat = 2 from rfl] at hx277_0); have hn277_0 : ad271.block ≠ gb267 := Kd.own_blk (Kd.R_ne HO270.out BK267.out (by decide)); replace hx277_0 := (cell_far (p := ⟨gb267, 1, none⟩) (nn hn277_0) (.string (rdOf ByteArray.empty t268 1))).trans hx277_0; clear hn277_0; replace p277 := eq_true p277; replace q277 := eq_true q277) | (refine gL (some 39) rfl Tryz.func87 #[.string (rdOf ByteArray.empty t268 2)] ?_; (with_reducible refine (sat_Parse.calls (hL := ld) (rdOf ByteArray.empty t268 2) t278 t279 t280 _ A11.out).mono ?_); rintro e w19 ⟨rfl, hb⟩; refine ⟨_, rfl, ?_⟩; replace HO270 := fcR HO270 BK267 hb; replace BK267 := fcB BK267 hb; replace HB := Aside0.mk (below_step bl hb); (try clear hb); obtain ⟨hcz20_0, hcz20_1, hcz20_2, hcz20_3, hfz20_0, hfz20_1, hfz20_2, hfz20_3⟩ := z4 BK267) | ((with_reducible refine gate_store (t := 60) (p := 2) rfl ?_); refine store_event (t := 60) (p := 2) (v := ?vo_w21) (w1 := ((((((w19.setCell ⟨gb267, 2, none⟩ (.int .i64 t278)).setCell ⟨gb267, 3, none⟩ (.bool t279)).setCell ⟨gb267, 0, none⟩ (.int .i64 t272)).setCell ⟨gb267, 1, none⟩ (.string (rdOf ByteArray.empty t268 1))).setCell ⟨gb267, 2, none⟩ (.int .i64 t278)).setCell ⟨gb267, 3, none⟩ (.bool t279))) ?hg ?ho ?hn ?hr ?_; (case ho => rfl); (case hg => rfl); (case hn => rfl); (case hr => first | (go_simp; done) | (go_simp; rfl)); intro w21 hw; replace HO270 := fgR (ok' := fun _ => True) hw HO270 BK267 fun _ _ => trivial; replace HB : Aside0 (Below w.heap.size w w21) := fgW hw bl; replace BK267 := fgB hw BK267; clear hw))
    refine bodyPost_ret (results_ct rfl _ _ gb267 60 #[.int .i64 t272, .string (rdOf ByteArray.empty t268 1), .int .i64 t278, .bool t279] (0, 0) _ rfl (uB BK267.out) Tryz.underlying60 rfl (by kernel_rfl)) rfl ?_
    exact ⟨re_, bl⟩
   ·
    rw [if_neg c9] at H
    have c9b0 : (t275 == 0) = false := beq_eq_false_iff_ne.mpr c9
    have c9b1 : (t275 != 0) = true := bne_iff_ne.mpr c9
    simp only [Option.some.injEq, Prod.mk.injEq] at H
    obtain ⟨rfl, rfl, rfl, rfl, rfl⟩ := H
    go_enter Tryz.func69, Tryz.ntmps69
    go_wp2_with (first | ((with_reducible refine gate_dst (N := 2) rfl ?_); refine bx (N := 2) #[.int .i64 0, .string (⟨#[]⟩ : ByteArray), .int .i64 0, .bool false] 60 ?_; intro gb267 hg w22 hbox hb; have BK267 := Aside0.mk (hbox); have GW267 := gw hg (uW HB.out); have GE267 := GW267; replace HB := cW HB hb; clear hb hbox hg) | (refine gL (some 6) rfl Tryz.func67 #[.string a0, .int .u8 124] ?_; (with_reducible refine (word_Split.calls k a0 124 t268 _ A2.out).mono ?_); rintro e w23 ⟨v269, rfl, ho0, hb⟩; refine ⟨_, rfl, ?_⟩; have HO270 := Aside0.mk (Kd.R_lower ho0 (below_size bl)); replace BK267 := cB BK267 hb; replace HB := Aside0.mk (below_step bl hb); (try clear hb); (try clear ho0); obtain ⟨Ao24, co24, eo24⟩ := Kd.R_slice HO270.out; subst eo24; have p271 : 0 ≤ (0 : Int) := (by omega); have q271 : 0 < (t268.length : Int) := od; obtain ⟨ad271, e271, hx271_0⟩ := Kd.at_string (Kd.R_reads' HO270.out).2.2 0 p271 q271; cases e271; have qi271 : (0 < t268.length) = True := eq_true (by omega); (try rw [show ((0 : Int)).toNat = 0 from rfl] at hx271_0); (try rw [Addr.add_zero'] at hx271_0); replace p271 := eq_true p271; replace q271 := eq_true q271) | (refine gL (some 15) rfl Tryz.func68 #[.string (rdOf ByteArray.empty t268 0)] ?_; (with_reducible refine (sat_Read.calls (hL := ld) (rdOf ByteArray.empty t268 0) t272 t273 _ A5.out).mono ?_); rintro e w25 ⟨rfl, hb⟩; refine ⟨_, rfl, ?_⟩; replace HO270 := cR HO270 hb; replace BK267 := cB BK267 hb; replace HB := Aside0.mk (below_step bl hb); (try clear hb); obtain ⟨hcz26_0, hcz26_1, hcz26_2, hcz26_3, hfz26_0, hfz26_1, hfz26_2, hfz26_3⟩ := z4 BK267; have p274 : 0 ≤ (1 : Int) := (by omega); have q274 : 1 < (t268.length : Int) := od; obtain ⟨ad274, e274, hx274_0⟩ := Kd.at_string (Kd.R_reads' HO270.out).2.2 1 p274 q274; obtain rfl : ad271 = ad274 := (by injection e274); (try simp only [show (1 : Int).toNat = 1 from rfl, Nat.reduceMul, Nat.reduceEqDiff, Go.Addr.add, ↓reduceIte] at hx274_0); have qi274 : (1 < t268.length) = True := eq_true (by omega); (try rw [show ((1 : Int)).toNat = 1 from rfl] at hx274_0); have hn274_0 : ad271.block ≠ gb267 := Kd.own_blk (Kd.R_ne HO270.out BK267.out (by decide)); replace hx274_0 := (cell_far (p := ⟨gb267, 0, none⟩) (nn hn274_0) (.int .i64 t272)).trans hx274_0; clear hn274_0; replace p274 := eq_true p274; replace q274 := eq_true q274) | (refine gL (some 26) rfl Tryz.func86 #[.string (rdOf ByteArray.empty t268 1)] ?_; (with_reducible refine (row_group.calls (hL := ld) k (rdOf ByteArray.empty t268 1) t275 _ A8.out).mono ?_); rintro e w27 ⟨rfl, hb⟩; refine ⟨_, rfl, ?_⟩; replace HO270 := fcR HO270 BK267 hb; replace BK267 := fcB BK267 hb; replace HB := Aside0.mk (below_step bl hb); (try clear hb); obtain ⟨hcz28_0, hcz28_1, hcz28_2, hcz28_3, hfz28_0, hfz28_1, hfz28_2, hfz28_3⟩ := z4 BK267))
    refine bodyPost_ret (results_ct rfl _ _ gb267 60 #[.int .i64 t272, .string (⟨#[]⟩ : ByteArray), .int .i64 0, .bool false] (0, 0) _ rfl (fB BK267.out) Tryz.underlying60 rfl (by kernel_rfl)) rfl ?_
    exact ⟨re_, bl⟩
  ·
   rw [if_neg c6] at H
   have c6b0 : (t273 == 0) = false := beq_eq_false_iff_ne.mpr c6
   have c6b1 : (t273 != 0) = true := bne_iff_ne.mpr c6
   simp only [Option.some.injEq, Prod.mk.injEq] at H
   obtain ⟨rfl, rfl, rfl, rfl, rfl⟩ := H
   go_enter Tryz.func69, Tryz.ntmps69
   go_wp2_with (first | ((with_reducible refine gate_dst (N := 2) rfl ?_); refine bx (N := 2) #[.int .i64 0, .string (⟨#[]⟩ : ByteArray), .int .i64 0, .bool false] 60 ?_; intro gb267 hg w29 hbox hb; have BK267 := Aside0.mk (hbox); have GW267 := gw hg (uW HB.out); have GE267 := GW267; replace HB := cW HB hb; clear hb hbox hg) | (refine gL (some 6) rfl Tryz.func67 #[.string a0, .int .u8 124] ?_; (with_reducible refine (word_Split.calls k a0 124 t268 _ A2.out).mono ?_); rintro e w30 ⟨v269, rfl, ho0, hb⟩; refine ⟨_, rfl, ?_⟩; have HO270 := Aside0.mk (Kd.R_lower ho0 (below_size bl)); replace BK267 := cB BK267 hb; replace HB := Aside0.mk (below_step bl hb); (try clear hb); (try clear ho0); obtain ⟨Ao31, co31, eo31⟩ := Kd.R_slice HO270.out; subst eo31; have p271 : 0 ≤ (0 : Int) := (by omega); have q271 : 0 < (t268.length : Int) := od; obtain ⟨ad271, e271, hx271_0⟩ := Kd.at_string (Kd.R_reads' HO270.out).2.2 0 p271 q271; cases e271; have qi271 : (0 < t268.length) = True := eq_true (by omega); (try rw [show ((0 : Int)).toNat = 0 from rfl] at hx271_0); (try rw [Addr.add_zero'] at hx271_0); replace p271 := eq_true p271; replace q271 := eq_true q271) | (refine gL (some 15) rfl Tryz.func68 #[.string (rdOf ByteArray.empty t268 0)] ?_; (with_reducible refine (sat_Read.calls (hL := ld) (rdOf ByteArray.empty t268 0) t272 t273 _ A5.out).mono ?_); rintro e w32 ⟨rfl, hb⟩; refine ⟨_, rfl, ?_⟩; replace HO270 := cR HO270 hb; replace BK267 := cB BK267 hb; replace HB := Aside0.mk (below_step bl hb); (try clear hb); obtain ⟨hcz33_0, hcz33_1, hcz33_2, hcz33_3, hfz33_0, hfz33_1, hfz33_2, hfz33_3⟩ := z4 BK267) | ((with_reducible refine gate_store (t := 60) (p := 2) rfl ?_); refine store_event (t := 60) (p := 2) (v := ?vo_w34) (w1 := (((((w32.setCell ⟨gb267, 0, none⟩ (.int .i64 t272)).setCell ⟨gb267, 0, none⟩ (.int .i64 t272)).setCell ⟨gb267, 1, none⟩ (.string (⟨#[]⟩ : ByteArray))).setCell ⟨gb267, 2, none⟩ (.int .i64 0)).setCell ⟨gb267, 3, none⟩ (.bool false))) ?hg ?ho ?hn ?hr ?_; (case ho => rfl); (case hg => rfl); (case hn => rfl); (case hr => first | (go_simp; done) | (go_simp; rfl)); intro w34 hw; replace HO270 := fgR (ok' := fun _ => True) hw HO270 BK267 fun _ _ => trivial; replace HB : Aside0 (Below w.heap.size w w34) := fgW hw bl; replace BK267 := fgB hw BK267; clear hw))
   refine bodyPost_ret (results_ct rfl _ _ gb267 60 #[.int .i64 t272, .string (⟨#[]⟩ : ByteArray), .int .i64 0, .bool false] (0, 0) _ rfl (uB BK267.out) Tryz.underlying60 rfl (by kernel_rfl)) rfl ?_
   exact ⟨re_, bl⟩
 ·
  rw [if_neg c3] at H
  have c3b0 : ((t268.length : Int) == 3) = false := beq_eq_false_iff_ne.mpr c3
  have c3b1 : ((t268.length : Int) != 3) = true := bne_iff_ne.mpr c3
  simp only [Option.some.injEq, Prod.mk.injEq] at H
  obtain ⟨rfl, rfl, rfl, rfl, rfl⟩ := H
  go_enter Tryz.func69, Tryz.ntmps69
  go_wp2_with (first | ((with_reducible refine gate_dst (N := 2) rfl ?_); refine bx (N := 2) #[.int .i64 0, .string (⟨#[]⟩ : ByteArray), .int .i64 0, .bool false] 60 ?_; intro gb267 hg w35 hbox hb; have BK267 := Aside0.mk (hbox); have GW267 := gw hg (uW HB.out); have GE267 := GW267; replace HB := cW HB hb; clear hb hbox hg) | (refine gL (some 6) rfl Tryz.func67 #[.string a0, .int .u8 124] ?_; (with_reducible refine (word_Split.calls k a0 124 t268 _ A2.out).mono ?_); rintro e w36 ⟨v269, rfl, ho0, hb⟩; refine ⟨_, rfl, ?_⟩; have HO270 := Aside0.mk (Kd.R_lower ho0 (below_size bl)); replace BK267 := cB BK267 hb; replace HB := Aside0.mk (below_step bl hb); (try clear hb); (try clear ho0); obtain ⟨Ao37, co37, eo37⟩ := Kd.R_slice HO270.out; subst eo37; obtain ⟨hcz38_0, hcz38_1, hcz38_2, hcz38_3, hfz38_0, hfz38_1, hfz38_2, hfz38_3⟩ := z4 BK267))
  refine bodyPost_ret (results_ct rfl _ _ gb267 60 #[.int .i64 0, .string (⟨#[]⟩ : ByteArray), .int .i64 0, .bool false] (0, 0) _ rfl (fB BK267.out) Tryz.underlying60 rfl (by kernel_rfl)) rfl ?_
  exact ⟨re_, bl⟩
def cmp_Or_int.l0 : Nat → Int → List Int → Int → Int → Option (Int)
 | 0, _, _, _, _ => none
 | k + 1, x3, x6, x7, x8 => if x8 < x7 then (if 0 ≤ x8 then (if x8 < (x6.length : Int) then (if (rd x6 x8) = x3 then (cmp_Or_int.l0 k x3 x6 x7 (wrap64 (x8 + 1))) else (some (rd x6 x8))) else (none)) else (none)) else (some x3)
def cmp_Or_int.f (k : Nat) (l0 : List Int) : Option (Int) := cmp_Or_int.l0 k 0 l0 (l0.length : Int) 0
theorem cmp_Or_int.mono_l : ∀ k, (∀ y0 y1 y2 y3, LeC (cmp_Or_int.l0 k y0 y1 y2 y3) (cmp_Or_int.l0 (k + 1) y0 y1 y2 y3))
 | 0 => fun _ _ _ _ => ⟨fun r h => by simp [cmp_Or_int.l0] at h⟩
 | k + 1 => by have ih0 := cmp_Or_int.mono_l k; exact fun _ _ _ _ => by unfold cmp_Or_int.l0; exact lm
theorem cmp_Or_int.mono : ∀ a0 k, LeO (cmp_Or_int.f k a0) (cmp_Or_int.f (k + 1) a0) := by
 intro a0 k
 have ih0 := cmp_Or_int.mono_l k
 unfold cmp_Or_int.f
 exact lo
instance cmp_Or_int.mI {a0 k} : LeC (cmp_Or_int.f k a0) (cmp_Or_int.f (k + 1) a0) := ⟨cmp_Or_int.mono _ _⟩
theorem cmp_Or_int.calls (k : Nat) (A0 : Option Addr) (c0 : Nat) (l0 : List Int) (r : Int) (w : World) (hr0 : Kd.C (Kd.int .i64) w A0 l0.length l0) (hc0 : l0.length ≤ c0) (h : cmp_Or_int.f k l0 = some r) :
 Calls Tryz.prog 143 #[.slice A0 l0.length c0] w fun e w' => e = .returned (.int .i64 r) ∧ Drawn0 w w' := by
 have HR0 := Aside0.mk hr0
 have HC0 := Aside0.mk hc0
 clear hr0 hc0
 have H : (cmp_Or_int.l0 k 0 l0 (l0.length : Int) 0) = some r := h
 clear h
 have H' := Aside0.mk H
 clear H
 go_enter Tryz.func143, Tryz.ntmps143
 go_wp2
 go_loopg [8] k (fun kq v8 w' => ∃ (x8_1 : Int), v8 = .int .i64 x8_1 ∧ Aside0 (cmp_Or_int.l0 kq 0 l0 (l0.length : Int) x8_1 = some r) ∧ Aside0 (kq ≤ k) ∧ Drawn0 w w')
 case atStart => exact ⟨(0), rs_, H', ⟨Nat.le_refl _⟩, dr_⟩
 case round =>
  clear H'
  obtain ⟨x8_1, rfl, HA, HK1, ⟨m1, rfl⟩⟩ := hrel
  cases gk with
  | zero => exact absurd HA.out (by simp [cmp_Or_int.l0])
  | succ k1 =>
   have H := HA.out
   clear HA
   simp only [cmp_Or_int.l0] at H
   by_cases c2 : x8_1 < (l0.length : Int)
   ·
    rw [if_pos c2] at H
    have c2b0 : decide (x8_1 < (l0.length : Int)) = true := decide_eq_true c2
    clear c2
    obtain ⟨c3b0, H⟩ := gdd H
    obtain ⟨c4b0, H⟩ := gdd H
    by_cases c5 : (rd l0 x8_1) = 0
    ·
     rw [if_pos c5] at H
     have c5b0 : ((rd l0 x8_1) == 0) = true := beq_iff_eq.mpr c5
     have c5b1 : ((rd l0 x8_1) != 0) = false := bne_eq_false_iff_eq.mpr c5
     clear c5
     have H' := Aside0.mk H
     clear H
     have p281 : 0 ≤ (x8_1 : Int) := od
     have q281 : x8_1 < (l0.length : Int) := od
     obtain ⟨ad281, e281, hx281_0⟩ := Kd.at_int HR0.out x8_1 p281 q281
     cases e281
     replace p281 := eq_true p281
     replace q281 := eq_true q281
     go_wp2
     go_roundg k1
     case measure => have := HK1.out; omega
     case rel => exact ⟨(wrap64 (x8_1 + 1)), rs_, H', ⟨by have := HK1.out; omega⟩, dr_⟩
    ·
     rw [if_neg c5] at H
     have c5b0 : ((rd l0 x8_1) == 0) = false := beq_eq_false_iff_ne.mpr c5
     have c5b1 : ((rd l0 x8_1) != 0) = true := bne_iff_ne.mpr c5
     obtain rfl := Option.some.inj H
     have p281 : 0 ≤ (x8_1 : Int) := od
     have q281 : x8_1 < (l0.length : Int) := od
     obtain ⟨ad281, e281, hx281_0⟩ := Kd.at_int HR0.out x8_1 p281 q281
     cases e281
     replace p281 := eq_true p281
     replace q281 := eq_true q281
     go_wp2
     go_ret
     exact ⟨rs_, dr_⟩
   ·
    rw [if_neg c2] at H
    have c2b0 : decide (x8_1 < (l0.length : Int)) = false := decide_eq_false c2
    clear c2
    obtain rfl := Option.some.inj H
    go_wp2
    go_ret
    exact ⟨rs_, dr_⟩
def cmp_isNaN_int64.f (a0 : Int) : Option (Bool) := some (a0 != a0)
theorem cmp_isNaN_int64.calls (a0 : Int) (r : Bool) (w : World) (h : cmp_isNaN_int64.f a0 = some r) :
 Calls Tryz.prog 170 #[.int .i64 a0] w fun e w' => e = .returned (.bool r) ∧ Drawn0 w w' := by
 have H : (some (a0 != a0)) = some r := h
 clear h
 obtain rfl := Option.some.inj H
 go_enter Tryz.func170, Tryz.ntmps170
 go_wp2
 go_ret
 exact ⟨rs_, dr_⟩
def cmp_Compare_int64.f (a0 : Int) (a1 : Int) : Option (Int) := (cmp_isNaN_int64.f a0).bind fun t282 => ((cmp_isNaN_int64.f a1).bind fun t283 => (if t282 = true then (if t283 = true then (some 0) else (some (-1))) else (if t283 = true then (some 1) else (if a0 < a1 then (some (-1)) else (if a0 > a1 then (some 1) else (some 0))))))
theorem cmp_Compare_int64.calls (a0 : Int) (a1 : Int) (r : Int) (w : World) (h : cmp_Compare_int64.f a0 a1 = some r) :
 Calls Tryz.prog 144 #[.int .i64 a0, .int .i64 a1] w fun e w' => e = .returned (.int .i64 r) ∧ Drawn0 w w' := by
 have H : ((cmp_isNaN_int64.f a0).bind fun t282 => ((cmp_isNaN_int64.f a1).bind fun t283 => (if t282 = true then (if t283 = true then (some 0) else (some (-1))) else (if t283 = true then (some 1) else (if a0 < a1 then (some (-1)) else (if a0 > a1 then (some 1) else (some 0))))))) = some r := h
 clear h
 obtain ⟨t282, A3, H⟩ := bs H
 try dsimp only at H
 obtain ⟨t283, A4, H⟩ := bs H
 try dsimp only at H
 by_cases c5 : t282 = true
 ·
  subst c5
  rw [if_pos rfl] at H
  by_cases c6 : t283 = true
  ·
   subst c6
   rw [if_pos rfl] at H
   obtain rfl := Option.some.inj H
   go_enter Tryz.func144, Tryz.ntmps144
   go_wp2_with (first | (refine gL (some 8) rfl Tryz.func170 #[.int .i64 a0] ?_; (with_reducible refine (cmp_isNaN_int64.calls a0 true _ A3.out).mono ?_); rintro e w' ⟨rfl, ⟨nd, rfl⟩⟩; refine ⟨_, rfl, ?_⟩) | (refine gL (some 10) rfl Tryz.func170 #[.int .i64 a1] ?_; (with_reducible refine (cmp_isNaN_int64.calls a1 true _ A4.out).mono ?_); rintro e w' ⟨rfl, ⟨nd, rfl⟩⟩; refine ⟨_, rfl, ?_⟩))
   go_ret
   exact ⟨rs_, dr_⟩
  ·
   replace c6 := Bool.eq_false_iff.mpr c6
   subst c6
   rw [if_neg (show ¬ (false = true) by decide)] at H
   obtain rfl := Option.some.inj H
   go_enter Tryz.func144, Tryz.ntmps144
   go_wp2_with (first | (refine gL (some 8) rfl Tryz.func170 #[.int .i64 a0] ?_; (with_reducible refine (cmp_isNaN_int64.calls a0 true _ A3.out).mono ?_); rintro e w' ⟨rfl, ⟨nd, rfl⟩⟩; refine ⟨_, rfl, ?_⟩) | (refine gL (some 10) rfl Tryz.func170 #[.int .i64 a1] ?_; (with_reducible refine (cmp_isNaN_int64.calls a1 false _ A4.out).mono ?_); rintro e w' ⟨rfl, ⟨nd, rfl⟩⟩; refine ⟨_, rfl, ?_⟩))
   go_ret
   exact ⟨rs_, dr_⟩
 ·
  replace c5 := Bool.eq_false_iff.mpr c5
  subst c5
  rw [if_neg (show ¬ (false = true) by decide)] at H
  by_cases c7 : t283 = true
  ·
   subst c7
   rw [if_pos rfl] at H
   obtain rfl := Option.some.inj H
   go_enter Tryz.func144, Tryz.ntmps144
   go_wp2_with (first | (refine gL (some 8) rfl Tryz.func170 #[.int .i64 a0] ?_; (with_reducible refine (cmp_isNaN_int64.calls a0 false _ A3.out).mono ?_); rintro e w' ⟨rfl, ⟨nd, rfl⟩⟩; refine ⟨_, rfl, ?_⟩) | (refine gL (some 10) rfl Tryz.func170 #[.int .i64 a1] ?_; (with_reducible refine (cmp_isNaN_int64.calls a1 true _ A4.out).mono ?_); rintro e w' ⟨rfl, ⟨nd, rfl⟩⟩; refine ⟨_, rfl, ?_⟩))
   go_ret
   exact ⟨rs_, dr_⟩
  ·
   replace c7 := Bool.eq_false_iff.mpr c7
   subst c7
   rw [if_neg (show ¬ (false = true) by decide)] at H
   by_cases c8 : a0 < a1
   ·
    rw [if_pos c8] at H
    have c8b0 : decide (a0 < a1) = true := decide_eq_true c8
    clear c8
    obtain rfl := Option.some.inj H
    go_enter Tryz.func144, Tryz.ntmps144
    go_wp2_with (first | (refine gL (some 8) rfl Tryz.func170 #[.int .i64 a0] ?_; (with_reducible refine (cmp_isNaN_int64.calls a0 false _ A3.out).mono ?_); rintro e w' ⟨rfl, ⟨nd, rfl⟩⟩; refine ⟨_, rfl, ?_⟩) | (refine gL (some 10) rfl Tryz.func170 #[.int .i64 a1] ?_; (with_reducible refine (cmp_isNaN_int64.calls a1 false _ A4.out).mono ?_); rintro e w' ⟨rfl, ⟨nd, rfl⟩⟩; refine ⟨_, rfl, ?_⟩))
    go_ret
    exact ⟨rs_, dr_⟩
   ·
    rw [if_neg c8] at H
    have c8b0 : decide (a0 < a1) = false := decide_eq_false c8
    clear c8
    by_cases c9 : a0 > a1
    ·
     rw [if_pos c9] at H
     have c9b0 : decide (a1 < a0) = true := decide_eq_true c9
     clear c9
     obtain rfl := Option.some.inj H
     go_enter Tryz.func144, Tryz.ntmps144
     go_wp2_with (first | (refine gL (some 8) rfl Tryz.func170 #[.int .i64 a0] ?_; (with_reducible refine (cmp_isNaN_int64.calls a0 false _ A3.out).mono ?_); rintro e w' ⟨rfl, ⟨nd, rfl⟩⟩; refine ⟨_, rfl, ?_⟩) | (refine gL (some 10) rfl Tryz.func170 #[.int .i64 a1] ?_; (with_reducible refine (cmp_isNaN_int64.calls a1 false _ A4.out).mono ?_); rintro e w' ⟨rfl, ⟨nd, rfl⟩⟩; refine ⟨_, rfl, ?_⟩))
     go_ret
     exact ⟨rs_, dr_⟩
    ·
     rw [if_neg c9] at H
     have c9b0 : decide (a1 < a0) = false := decide_eq_false c9
     clear c9
     obtain rfl := Option.some.inj H
     go_enter Tryz.func144, Tryz.ntmps144
     go_wp2_with (first | (refine gL (some 8) rfl Tryz.func170 #[.int .i64 a0] ?_; (with_reducible refine (cmp_isNaN_int64.calls a0 false _ A3.out).mono ?_); rintro e w' ⟨rfl, ⟨nd, rfl⟩⟩; refine ⟨_, rfl, ?_⟩) | (refine gL (some 10) rfl Tryz.func170 #[.int .i64 a1] ?_; (with_reducible refine (cmp_isNaN_int64.calls a1 false _ A4.out).mono ?_); rintro e w' ⟨rfl, ⟨nd, rfl⟩⟩; refine ⟨_, rfl, ?_⟩))
     go_ret
     exact ⟨rs_, dr_⟩
def row_order.f (k : Nat) (a0_0 : Int) (a0_1 : ByteArray) (a1_0 : Int) (a1_1 : ByteArray) : Option (Int) := (cmp_Compare_int64.f a0_0 a1_0).bind fun t286 => ((strings_Compare.f a0_1 a1_1).bind fun t287 => ((cmp_Or_int.f k (([t286, t287] : List Int))).bind fun t291 => (some t291)))
theorem row_order.mono : ∀ a0 a1 a2 a3 k, LeO (row_order.f k a0 a1 a2 a3) (row_order.f (k + 1) a0 a1 a2 a3) := by
 intro a0 a1 a2 a3 k
 unfold row_order.f
 exact lo
instance row_order.mI {a0 a1 a2 a3 k} : LeC (row_order.f k a0 a1 a2 a3) (row_order.f (k + 1) a0 a1 a2 a3) := ⟨row_order.mono _ _ _ _ _⟩
def row_order.T1 : Bool × List (List Nat × List Nat) := (true, [([], []), ([0], [0]), ([], []), ([2], [2]), ([1, 3], [1, 3]), ([], []), ([5], [5]), ([], []), ([7], [7]), ([6, 8, 4], [6, 8]), ([4, 9], [4, 9]), ([10, 9], [10]), ([11, 11, 0, 1, 2, 3, 4, 5, 6, 7, 8, 9, 10, 11], [11])])
def row_order.B1 : List Nat := [0, 1, 0, 4, 15, 0, 32, 0, 128, 511, 1023, 2047, 4095]
theorem row_order.tab1 : rtab .any (opsOf Tryz.f111 1) = row_order.T1 := by kernel_rfl
theorem row_order.bits1 : waitsOk row_order.T1.2 row_order.B1 = true := by kernel_rfl
theorem row_order.calls (k : Nat) (a0_0 : Int) (a0_1 : ByteArray) (a1_0 : Int) (a1_1 : ByteArray) (r : Int) (w : World) (h : row_order.f k a0_0 a0_1 a1_0 a1_1 = some r) :
 Calls Tryz.prog 111 #[.agg #[.int .i64 a0_0, .string a0_1], .agg #[.int .i64 a1_0, .string a1_1]] w fun e w' => e = .returned (.int .i64 r) ∧ Below w.heap.size w w' := by
 have hu137 := Tryz.underlying137
 have HB := Aside0.mk (Below.refl w.heap.size w)
 have H : ((cmp_Compare_int64.f a0_0 a1_0).bind fun t286 => ((strings_Compare.f a0_1 a1_1).bind fun t287 => ((cmp_Or_int.f k (([t286, t287] : List Int))).bind fun t291 => (some t291)))) = some r := h
 clear h
 obtain ⟨t286, A3, H⟩ := bs H
 try dsimp only at H
 obtain ⟨t287, A4, H⟩ := bs H
 try dsimp only at H
 obtain ⟨y288, hy288⟩ : ∃ y_ : List Int, y_ = (([t286, t287] : List Int)) := ⟨_, rfl⟩
 replace H : ((cmp_Or_int.f k y288).bind fun t291 => (some t291)) = some r := by first | (rw [hy288]; with_reducible exact H) | (have H2_ := (Option.bind_some _ _).symm.trans H; rw [hy288]; with_reducible exact H2_) | (have H2_ := (Option.bind_some _ _).symm.trans H; with_reducible exact H2_) | with_reducible exact H | (rw [hy288]; exact H) | exact H
 have Ny288 := Aside0.mk hy288
 clear hy288
 obtain ⟨t291, A5, H⟩ := bs H
 try dsimp only at H
 obtain rfl := Option.some.inj H
 go_enter Tryz.func111, Tryz.ntmps111
 try go_wp2_with (first | ((with_reducible refine gate_dst (N := 2) rfl ?_); refine bx (N := 2) #[.int .i64 a0_0, .string a0_1] 137 ?_; intro gb284 hg w6 hbox hb; have BK284 := Aside0.mk (hbox); have GW284 := gw hg (uW HB.out); have GE284 := GW284; replace HB := cW HB hb; clear hb hbox hg) | ((with_reducible refine gate_dst (N := 3) rfl ?_); refine bx (N := 3) #[.int .i64 a1_0, .string a1_1] 137 ?_; intro gb285 hg w7 hbox hb; have BK285 := Aside0.mk (hbox); have GW285 := gw hg bl; have GE285 := GW285; replace HB := Aside0.mk (below_step bl hb); have NB284_285 := nl BK284 hg; have NB285_284 := nr BK284 hg; replace BK284 := cB BK284 hb; clear hb hbox hg))
 replace BK284 := Aside0.mk (blk_drew BK284.out)
 replace BK285 := Aside0.mk (blk_drew BK285.out)
 replace HB := Aside0.mk (below_drew1 HB.out)
 refine start_ (n := 13) (S := fun w' => w'.cell? ⟨gb284, 0, none⟩ = some (.int .i64 a0_0) ∧ w'.cell? ⟨gb284, 1, none⟩ = some (.string a0_1) ∧ w'.cell? ⟨gb285, 0, none⟩ = some (.int .i64 a1_0) ∧ w'.cell? ⟨gb285, 1, none⟩ = some (.string a1_1)) (ds := []) _ (by kernel_rfl) rfl rfl ⟨(blk_cell BK284.out 0).trans rfl, (blk_cell BK284.out 1).trans rfl, (blk_cell BK285.out 0).trans rfl, (blk_cell BK285.out 1).trans rfl⟩ (fun hHeld => ?_); refine with_tabW row_order.tab1 row_order.bits1 (fun HT_ HW_ => ?_)
 generalize w7.drew = w8 at BK284 BK285 HB hHeld ⊢
 refine p1 0 (some 5) ?_
 refine p1 2 (some 7) ?_
 refine p1 5 (some 10) ?_
 refine p1 7 (some 12) ?_
 refine t1 1 (some 6) rfl rfl hHeld (Or.inl ⟨by rfl, by rintro w' ⟨s0, s1, s2, s3⟩; go_simp; with_reducible rfl⟩) ?_
 refine t1 3 (some 8) rfl rfl hHeld (Or.inl ⟨by rfl, by rintro w' ⟨s0, s1, s2, s3⟩; go_simp; with_reducible rfl⟩) ?_
 refine t1 6 (some 11) rfl rfl hHeld (Or.inl ⟨by rfl, by rintro w' ⟨s0, s1, s2, s3⟩; go_simp; with_reducible rfl⟩) ?_
 refine t1 8 (some 13) rfl rfl hHeld (Or.inl ⟨by rfl, by rintro w' ⟨s0, s1, s2, s3⟩; go_simp; with_reducible rfl⟩) ?_
 refine o1 4 (some 9) rfl rfl (fun K hK => ?_)
 refine gS Tryz.func144 #[.int .i64 a0_0, .int .i64 a1_0] ?_
 with_reducible refine (cmp_Compare_int64.calls a0_0 a1_0 t286 _ A3.out).mono ?_
 rintro e w' ⟨rfl, ⟨nd, rfl⟩⟩
 refine ⟨_, rfl, ?_⟩
 refine hK.out _ _ ⟨(blk_cell BK284.out 0).trans rfl, (blk_cell BK284.out 1).trans rfl, (blk_cell BK285.out 0).trans rfl, (blk_cell BK285.out 1).trans rfl⟩ (fun hHeld => ?_)
 clear hK K
 refine norm_ (a' := ?_) ?_ ?_
 rotate_left
 ·
  show Act.put _ (some 9) _ = _
  simp only [Act.put, List.setIfInBounds_toArray, List.set_cons_zero, List.set_cons_succ, i64_w, i32_w]
  rfl
 refine o1 9 (some 14) rfl rfl (fun K hK => ?_)
 refine gS Tryz.func145 #[.string a0_1, .string a1_1] ?_
 with_reducible refine (strings_Compare.calls a0_1 a1_1 t287 _ A4.out).mono ?_
 rintro e w' ⟨rfl, ⟨nd, rfl⟩⟩
 refine ⟨_, rfl, ?_⟩
 refine hK.out _ _ ⟨(blk_cell BK284.out 0).trans rfl, (blk_cell BK284.out 1).trans rfl, (blk_cell BK285.out 0).trans rfl, (blk_cell BK285.out 1).trans rfl⟩ (fun hHeld => ?_)
 clear hK K
 refine norm_ (a' := ?_) ?_ ?_
 rotate_left
 ·
  show Act.put _ (some 14) _ = _
  simp only [Act.put, List.setIfInBounds_toArray, List.set_cons_zero, List.set_cons_succ, i64_w, i32_w]
  rfl
 refine o1 10 (some 15) rfl rfl (fun K hK => ?_)
 refine Kd.R_lit_step (Kd.int .i64) _ 3 ?hg (N := 15) ?hd (xs := ([t286, t287] : List Int)) (inner := [.int .i64 t286, .int .i64 t287]) (ok := fun _ => True) (okp := fun _ => True) ?hr ?hp (fun _ hk => hk) trivial (Below.refl _ _) (Nat.le_refl _) (by simp) ?_; (case hd => rfl); (case hg => rfl); (case hr => first | (go_simp; done) | (go_simp; rfl)); (case hp => exact (Reps.one (show Kd.M (Kd.int .i64) _ _ _ t286 [.int .i64 t286] from rfl) (Reps.one (show Kd.M (Kd.int .i64) _ _ _ t287 [.int .i64 t287] from rfl) (Reps.none _ _))))
 intro v289 w9 ho10 hb hg_ hnew_
 clear hg_ hnew_
 (first | rw [← Ny288.out] at ho10 | (simp only [Int.reduceToNat] at ho10; rw [← Ny288.out] at ho10))
 have HO290 := Aside0.mk (Kd.R_lower ho10 (below_size bl))
 replace BK284 := cB BK284 hb
 replace BK285 := cB BK285 hb
 replace HB := Aside0.mk (below_step bl hb)
 clear hb ho10
 obtain ⟨Ao11, co11, eo11⟩ := Kd.R_slice HO290.out
 (first | subst eo11 | (injection eo11 with f1_ f2_ f3_; have f4_ := f1_.symm; have f5_ := f3_.symm; clear f1_ f2_ f3_; subst f4_; subst f5_))
 refine hK.out _ _ ⟨(blk_cell BK284.out 0).trans rfl, (blk_cell BK284.out 1).trans rfl, (blk_cell BK285.out 0).trans rfl, (blk_cell BK285.out 1).trans rfl⟩ (fun hHeld => ?_)
 clear hK K
 refine norm_ (a' := ?_) ?_ ?_
 rotate_left
 ·
  show Act.put _ (some 15) _ = _
  simp only [Act.put, List.setIfInBounds_toArray, List.set_cons_zero, List.set_cons_succ, i64_w, i32_w]
  rfl
 refine o1 11 (some 16) rfl rfl (fun K hK => ?_)
 refine gS Tryz.func143 #[.slice Ao11 y288.length co11] ?_
 with_reducible refine (cmp_Or_int.calls k _ _ y288 t291 _ ?side1 ?side2 A5.out).mono ?_
 (case side1 => exact uC <| (Kd.R_reads' HO290.out).2.2)
 (case side2 => exact (Kd.R_reads' HO290.out).2.1)
 rintro e w' ⟨rfl, ⟨nd, rfl⟩⟩
 refine ⟨_, rfl, ?_⟩
 refine hK.out _ _ ⟨(blk_cell BK284.out 0).trans rfl, (blk_cell BK284.out 1).trans rfl, (blk_cell BK285.out 0).trans rfl, (blk_cell BK285.out 1).trans rfl⟩ (fun hHeld => ?_)
 clear hK K
 refine norm_ (a' := ?_) ?_ ?_
 rotate_left
 ·
  show Act.put _ (some 16) _ = _
  simp only [Act.put, List.setIfInBounds_toArray, List.set_cons_zero, List.set_cons_succ, i64_w, i32_w]
  rfl
 refine p1 12 (some 4) ?_
 refine done_ (done_of HT_.out (by kernel_rfl)) ?_
 try go_wp2
 go_ret
 exact ⟨re_, bl⟩
def row_of.f (a0_0 : Int) (a0_1 : ByteArray) (a0_2 : Int) (a0_3 : Bool) : Option (Int × ByteArray) := some (a0_0, a0_1)
theorem row_of.calls (a0_0 : Int) (a0_1 : ByteArray) (a0_2 : Int) (a0_3 : Bool) (r1 : Int) (r2 : ByteArray) (w : World) (h : row_of.f a0_0 a0_1 a0_2 a0_3 = some (r1, r2)) :
 Calls Tryz.prog 112 #[.agg #[.int .i64 a0_0, .string a0_1, .int .i64 a0_2, .bool a0_3]] w fun e w' => e = .returned (.agg #[.int .i64 r1, .string r2]) ∧ Below w.heap.size w w' := by
 have hu60 := Tryz.underlying60
 have hu137 := Tryz.underlying137
 have HB := Aside0.mk (Below.refl w.heap.size w)
 have H : (some (a0_0, a0_1)) = some (r1, r2) := h
 clear h
 simp only [Option.some.injEq, Prod.mk.injEq] at H
 obtain ⟨rfl, rfl⟩ := H
 go_enter Tryz.func112, Tryz.ntmps112
 go_wp2_with (first | ((with_reducible refine gate_dst (N := 1) rfl ?_); refine bx (N := 1) #[.int .i64 a0_0, .string a0_1, .int .i64 a0_2, .bool a0_3] 60 ?_; intro gb292 hg w2 hbox hb; have BK292 := Aside0.mk (hbox); have GW292 := gw hg (uW HB.out); have GE292 := GW292; replace HB := cW HB hb; clear hb hbox hg) | ((with_reducible refine gate_dst (N := 2) rfl ?_); refine bx (N := 2) #[.int .i64 0, .string (⟨#[]⟩ : ByteArray)] 137 ?_; intro gb293 hg w3 hbox hb; have BK293 := Aside0.mk (hbox); have GW293 := gw hg bl; have GE293 := GW293; replace HB := Aside0.mk (below_step bl hb); have NB292_293 := nl BK292 hg; have NB293_292 := nr BK292 hg; replace BK292 := cB BK292 hb; clear hb hbox hg; have hnb4 := NB292_293.out; have hnc4 := NB293_292.out; obtain ⟨hcz5_0, hcz5_1, hcz5_2, hcz5_3, hfz5_0, hfz5_1, hfz5_2, hfz5_3⟩ := z4 BK292; obtain ⟨hcz6_0, hcz6_1, hfz6_0, hfz6_1⟩ := z2 BK293))
 refine bodyPost_ret (results_cell_row rfl _ _ gb293 137 #[.int .i64 a0_0, .string a0_1] (0, 0) _ rfl (fB BK293.out) Tryz.underlying137 rfl (by kernel_rfl)) rfl ?_
 exact ⟨re_, bl⟩
def row_Before.f (k : Nat) (a0_0 : Int) (a0_1 : ByteArray) (a0_2 : Int) (a0_3 : Bool) (a1_0 : Int) (a1_1 : ByteArray) (a1_2 : Int) (a1_3 : Bool) : Option (Bool) := (row_of.f a0_0 a0_1 a0_2 a0_3).bind fun bt296 => ((row_of.f a1_0 a1_1 a1_2 a1_3).bind fun bt298 => ((row_order.f k bt296.1 bt296.2 bt298.1 bt298.2).bind fun t300 => (some (decide (t300 < 0)))))
theorem row_Before.mono : ∀ a0 a1 a2 a3 a4 a5 a6 a7 k, LeO (row_Before.f k a0 a1 a2 a3 a4 a5 a6 a7) (row_Before.f (k + 1) a0 a1 a2 a3 a4 a5 a6 a7) := by
 intro a0 a1 a2 a3 a4 a5 a6 a7 k
 unfold row_Before.f
 exact lo
instance row_Before.mI {a0 a1 a2 a3 a4 a5 a6 a7 k} : LeC (row_Before.f k a0 a1 a2 a3 a4 a5 a6 a7) (row_Before.f (k + 1) a0 a1 a2 a3 a4 a5 a6 a7) := ⟨row_Before.mono _ _ _ _ _ _ _ _ _⟩
theorem row_Before.calls (k : Nat) (a0_0 : Int) (a0_1 : ByteArray) (a0_2 : Int) (a0_3 : Bool) (a1_0 : Int) (a1_1 : ByteArray) (a1_2 : Int) (a1_3 : Bool) (r : Bool) (w : World) (h : row_Before.f k a0_0 a0_1 a0_2 a0_3 a1_0 a1_1 a1_2 a1_3 = some r) :
 Calls Tryz.prog 88 #[.agg #[.int .i64 a0_0, .string a0_1, .int .i64 a0_2, .bool a0_3], .agg #[.int .i64 a1_0, .string a1_1, .int .i64 a1_2, .bool a1_3]] w fun e w' => e = .returned (.bool r) ∧ Below w.heap.size w w' := by
 have hu60 := Tryz.underlying60
 have HB := Aside0.mk (Below.refl w.heap.size w)
 have H : ((row_of.f a0_0 a0_1 a0_2 a0_3).bind fun bt296 => ((row_of.f a1_0 a1_1 a1_2 a1_3).bind fun bt298 => ((row_order.f k bt296.1 bt296.2 bt298.1 bt298.2).bind fun t300 => (some (decide (t300 < 0)))))) = some r := h
 clear h
 obtain ⟨⟨t296, t297⟩, A3, H⟩ := bs H
 try dsimp only at H
 obtain ⟨⟨t298, t299⟩, A4, H⟩ := bs H
 try dsimp only at H
 obtain ⟨t300, A5, H⟩ := bs H
 try dsimp only at H
 obtain rfl := Option.some.inj H
 go_enter Tryz.func88, Tryz.ntmps88
 try go_wp2_with (first | ((with_reducible refine gate_dst (N := 2) rfl ?_); refine bx (N := 2) #[.int .i64 a0_0, .string a0_1, .int .i64 a0_2, .bool a0_3] 60 ?_; intro gb294 hg w6 hbox hb; have BK294 := Aside0.mk (hbox); have GW294 := gw hg (uW HB.out); have GE294 := GW294; replace HB := cW HB hb; clear hb hbox hg) | ((with_reducible refine gate_dst (N := 3) rfl ?_); refine bx (N := 3) #[.int .i64 a1_0, .string a1_1, .int .i64 a1_2, .bool a1_3] 60 ?_; intro gb295 hg w7 hbox hb; have BK295 := Aside0.mk (hbox); have GW295 := gw hg bl; have GE295 := GW295; replace HB := Aside0.mk (below_step bl hb); have NB294_295 := nl BK294 hg; have NB295_294 := nr BK294 hg; replace BK294 := cB BK294 hb; clear hb hbox hg))
 replace BK294 := Aside0.mk (blk_drew BK294.out)
 replace BK295 := Aside0.mk (blk_drew BK295.out)
 replace HB := Aside0.mk (below_drew1 HB.out)
 refine start_ (n := 7) (S := fun w' => w'.cell? ⟨gb294, 0, none⟩ = some (.int .i64 a0_0) ∧ w'.cell? ⟨gb294, 1, none⟩ = some (.string a0_1) ∧ w'.cell? ⟨gb294, 2, none⟩ = some (.int .i64 a0_2) ∧ w'.cell? ⟨gb294, 3, none⟩ = some (.bool a0_3) ∧ w'.cell? ⟨gb295, 0, none⟩ = some (.int .i64 a1_0) ∧ w'.cell? ⟨gb295, 1, none⟩ = some (.string a1_1) ∧ w'.cell? ⟨gb295, 2, none⟩ = some (.int .i64 a1_2) ∧ w'.cell? ⟨gb295, 3, none⟩ = some (.bool a1_3)) (ds := []) _ (by kernel_rfl) rfl rfl ⟨(blk_cell BK294.out 0).trans rfl, (blk_cell BK294.out 1).trans rfl, (blk_cell BK294.out 2).trans rfl, (blk_cell BK294.out 3).trans rfl, (blk_cell BK295.out 0).trans rfl, (blk_cell BK295.out 1).trans rfl, (blk_cell BK295.out 2).trans rfl, (blk_cell BK295.out 3).trans rfl⟩ (fun hHeld => ?_)
 generalize w7.drew = w8 at BK294 BK295 HB hHeld ⊢
 refine take_ (i := 0) (N := some 5) (v := ?_) (a' := ?_) #[true, false, false, false, false, false, false] rfl rfl (by kernel_rfl) (fun _ _ _ h => h) (Or.inl ⟨by rfl, ?_⟩) hHeld ?_ ?_
 rotate_left
 ·
  rintro w' ⟨s0, s1, s2, s3, s4, s5, s6, s7⟩
  go_simp
  with_reducible rfl
 rotate_left
 ·
  simp only [Act.put, List.setIfInBounds_toArray, List.set_cons_zero, List.set_cons_succ, i64_w, i32_w]
  rfl
 refine take_ (i := 2) (N := some 7) (v := ?_) (a' := ?_) #[true, false, true, false, false, false, false] rfl rfl (by kernel_rfl) (fun _ _ _ h => h) (Or.inl ⟨by rfl, ?_⟩) hHeld ?_ ?_
 rotate_left
 ·
  rintro w' ⟨s0, s1, s2, s3, s4, s5, s6, s7⟩
  go_simp
  with_reducible rfl
 rotate_left
 ·
  simp only [Act.put, List.setIfInBounds_toArray, List.set_cons_zero, List.set_cons_succ, i64_w, i32_w]
  rfl
 refine one_ (i := 1) (N := some 6) #[true, true, true, false, false, false, false] rfl rfl (by kernel_rfl) (by decide) (fun K hK => ?_)
 refine gS Tryz.func112 #[.agg #[.int .i64 a0_0, .string a0_1, .int .i64 a0_2, .bool a0_3]] ?_
 with_reducible refine (row_of.calls a0_0 a0_1 a0_2 a0_3 t296 t297 _ A3.out).mono ?_
 rintro e w9 ⟨rfl, hb⟩
 refine ⟨_, rfl, ?_⟩
 replace BK294 := cB BK294 hb
 replace BK295 := cB BK295 hb
 replace HB := Aside0.mk (below_step bl hb)
 (try clear hb)
 refine hK.out _ _ ⟨(blk_cell BK294.out 0).trans rfl, (blk_cell BK294.out 1).trans rfl, (blk_cell BK294.out 2).trans rfl, (blk_cell BK294.out 3).trans rfl, (blk_cell BK295.out 0).trans rfl, (blk_cell BK295.out 1).trans rfl, (blk_cell BK295.out 2).trans rfl, (blk_cell BK295.out 3).trans rfl⟩ (fun hHeld => ?_)
 clear hK K
 refine norm_ (a' := ?_) ?_ ?_
 rotate_left
 ·
  show Act.put _ (some 6) _ = _
  simp only [Act.put, List.setIfInBounds_toArray, List.set_cons_zero, List.set_cons_succ, i64_w, i32_w]
  rfl
 refine one_ (i := 3) (N := some 8) #[true, true, true, true, false, false, false] rfl rfl (by kernel_rfl) (by decide) (fun K hK => ?_)
 refine gS Tryz.func112 #[.agg #[.int .i64 a1_0, .string a1_1, .int .i64 a1_2, .bool a1_3]] ?_
 with_reducible refine (row_of.calls a1_0 a1_1 a1_2 a1_3 t298 t299 _ A4.out).mono ?_
 rintro e w10 ⟨rfl, hb⟩
 refine ⟨_, rfl, ?_⟩
 replace BK294 := cB BK294 hb
 replace BK295 := cB BK295 hb
 replace HB := Aside0.mk (below_step bl hb)
 (try clear hb)
 refine hK.out _ _ ⟨(blk_cell BK294.out 0).trans rfl, (blk_cell BK294.out 1).trans rfl, (blk_cell BK294.out 2).trans rfl, (blk_cell BK294.out 3).trans rfl, (blk_cell BK295.out 0).trans rfl, (blk_cell BK295.out 1).trans rfl, (blk_cell BK295.out 2).trans rfl, (blk_cell BK295.out 3).trans rfl⟩ (fun hHeld => ?_)
 clear hK K
 refine norm_ (a' := ?_) ?_ ?_
 rotate_left
 ·
  show Act.put _ (some 8) _ = _
  simp only [Act.put, List.setIfInBounds_toArray, List.set_cons_zero, List.set_cons_succ, i64_w, i32_w]
  rfl
 refine one_ (i := 4) (N := some 9) #[true, true, true, true, true, false, false] rfl rfl (by kernel_rfl) (by decide) (fun K hK => ?_)
 refine gS Tryz.func111 #[.agg #[.int .i64 t296, .string t297], .agg #[.int .i64 t298, .string t299]] ?_
 with_reducible refine (row_order.calls k t296 t297 t298 t299 t300 _ A5.out).mono ?_
 rintro e w11 ⟨rfl, hb⟩
 refine ⟨_, rfl, ?_⟩
 replace BK294 := cB BK294 hb
 replace BK295 := cB BK295 hb
 replace HB := Aside0.mk (below_step bl hb)
 (try clear hb)
 refine hK.out _ _ ⟨(blk_cell BK294.out 0).trans rfl, (blk_cell BK294.out 1).trans rfl, (blk_cell BK294.out 2).trans rfl, (blk_cell BK294.out 3).trans rfl, (blk_cell BK295.out 0).trans rfl, (blk_cell BK295.out 1).trans rfl, (blk_cell BK295.out 2).trans rfl, (blk_cell BK295.out 3).trans rfl⟩ (fun hHeld => ?_)
 clear hK K
 refine norm_ (a' := ?_) ?_ ?_
 rotate_left
 ·
  show Act.put _ (some 9) _ = _
  simp only [Act.put, List.setIfInBounds_toArray, List.set_cons_zero, List.set_cons_succ, i64_w, i32_w]
  rfl
 refine pure_ (i := 5) (N := some 10) (v := ?_) (a' := ?_) #[true, true, true, true, true, true, false] rfl rfl (by kernel_rfl) (fun _ _ _ h => h) (Or.inl ⟨by rfl, ?_⟩) ?_ ?_
 rotate_left
 ·
  intro w'
  go_simp
  with_reducible rfl
 rotate_left
 ·
  simp only [Act.put, List.setIfInBounds_toArray, List.set_cons_zero, List.set_cons_succ, i64_w, i32_w]
  rfl
 refine pure_ (i := 6) (N := some 4) (v := ?_) (a' := ?_) #[true, true, true, true, true, true, true] rfl rfl (by kernel_rfl) (fun _ _ _ h => h) (Or.inl ⟨by rfl, ?_⟩) ?_ ?_
 rotate_left
 ·
  intro w'
  go_simp
  with_reducible rfl
 rotate_left
 ·
  simp only [Act.put, List.setIfInBounds_toArray, List.set_cons_zero, List.set_cons_succ, i64_w, i32_w]
  rfl
 refine done_ (by kernel_rfl) ?_
 try go_wp2
 go_ret
 exact ⟨re_, bl⟩
def row_rise.l0 : Nat → List (S60) → Int → Option (Bool)
 | 0, _, _ => none
 | k + 1, x0, x3 => if x3 < (x0.length : Int) then (if 0 ≤ (wrap64 (x3 - 1)) then (if (wrap64 (x3 - 1)) < (x0.length : Int) then (if 0 ≤ x3 then ((row_Before.f k ((rd_T60 x0 (wrap64 (x3 - 1))).f0) ((rd_T60 x0 (wrap64 (x3 - 1))).f1) ((rd_T60 x0 (wrap64 (x3 - 1))).f2.f0) ((rd_T60 x0 (wrap64 (x3 - 1))).f2.f1) ((rd_T60 x0 x3).f0) ((rd_T60 x0 x3).f1) ((rd_T60 x0 x3).f2.f0) ((rd_T60 x0 x3).f2.f1)).bind fun t303 => (if t303 = true then (row_rise.l0 k x0 (wrap64 (x3 + 1))) else (some false))) else (none)) else (none)) else (none)) else (some true)
def row_rise.f (k : Nat) (l0 : List (S60)) : Option (Bool) := row_rise.l0 k l0 1
theorem row_rise.mono_l : ∀ k, (∀ y0 y1, LeC (row_rise.l0 k y0 y1) (row_rise.l0 (k + 1) y0 y1))
 | 0 => fun _ _ => ⟨fun r h => by simp [row_rise.l0] at h⟩
 | k + 1 => by have ih0 := row_rise.mono_l k; exact fun _ _ => by unfold row_rise.l0; exact lm
theorem row_rise.mono : ∀ a0 k, LeO (row_rise.f k a0) (row_rise.f (k + 1) a0) := by
 intro a0 k
 have ih0 := row_rise.mono_l k
 unfold row_rise.f
 exact lo
instance row_rise.mI {a0 k} : LeC (row_rise.f k a0) (row_rise.f (k + 1) a0) := ⟨row_rise.mono _ _⟩
def row_rise.T4 : Bool × List (List Nat × List Nat) := (true, [([], []), ([], []), ([1], [1]), ([0, 2], [0, 2]), ([3], [3]), ([], []), ([], []), ([5, 6], [5, 6]), ([7], [7]), ([4, 8], [4, 8]), ([9], [9])])
def row_rise.B4 : List Nat := [0, 0, 2, 7, 15, 0, 0, 96, 224, 511, 1023]
theorem row_rise.tab4 : rtab .any (opsOf Tryz.f70 4) = row_rise.T4 := by kernel_rfl
theorem row_rise.bits4 : waitsOk row_rise.T4.2 row_rise.B4 = true := by kernel_rfl
theorem row_rise.calls (k : Nat) (A0 : Option Addr) (c0 : Nat) (l0 : List (S60)) (r : Bool) (w : World) (hr0 : Kd.C k60 w A0 l0.length l0) (hc0 : l0.length ≤ c0) (h : row_rise.f k l0 = some r) :
 Calls Tryz.prog 70 #[.slice A0 l0.length c0] w fun e w' => e = .returned (.bool r) ∧ Below w.heap.size w w' := by
 have hu60 := Tryz.underlying60
 have HR0 := Aside0.mk hr0
 have HC0 := Aside0.mk hc0
 clear hr0 hc0
 have HB := Aside0.mk (Below.refl w.heap.size w)
 have H : (row_rise.l0 k l0 1) = some r := h
 clear h
 have H' := Aside0.mk H
 clear H
 go_enter Tryz.func70, Tryz.ntmps70
 go_wp2
 go_loopg [3] k (fun kq v3 w' => ∃ (x3_1 : Int), v3 = .int .i64 x3_1 ∧ Aside0 (row_rise.l0 kq l0 x3_1 = some r) ∧ Aside0 (kq ≤ k) ∧ Aside0 (Below w.heap.size w w'))
 case atStart => exact ⟨(1), rs_, H', ⟨Nat.le_refl _⟩, ⟨uW HB.out⟩⟩
 case round =>
  clear H'
  obtain ⟨x3_1, rfl, HA, HK1, HB⟩ := hrel
  cases gk with
  | zero => exact absurd HA.out (by simp [row_rise.l0])
  | succ k1 =>
   have H := HA.out
   clear HA
   simp only [row_rise.l0] at H
   by_cases c2 : x3_1 < (l0.length : Int)
   ·
    rw [if_pos c2] at H
    have c2b0 : decide (x3_1 < (l0.length : Int)) = true := decide_eq_true c2
    clear c2
    obtain ⟨ji3, hji3⟩ : ∃ j_ : Int, (wrap64 (x3_1 - 1)) = j_ := ⟨_, rfl⟩
    (first | rw [hji3] at H | simp only [hji3] at H)
    have hji3w : (IntKind.i64.wrap (x3_1 - 1)) = ji3 := (i64_w _).trans hji3
    obtain ⟨c4b0, H⟩ := gdd H
    obtain ⟨c5b0, H⟩ := gdd H
    obtain ⟨c6b0, H⟩ := gdd H
    obtain ⟨t303, A7, H⟩ := bs H
    try dsimp only at H
    by_cases c8 : t303 = true
    ·
     subst c8
     rw [if_pos rfl] at H
     have H' := Aside0.mk H
     clear H
     try go_wp2
     replace HB := Aside0.mk (below_drew1 HB.out)
     have p301 : 0 ≤ ((ji3) : Int) := od
     have q301 : (ji3) < (l0.length : Int) := od
     obtain ⟨ad301, e301, hx301_0, hx301_1, hx301_2, hx301_3⟩ := at_T60 HR0.out (ji3) p301 q301
     have hw301_3 := hx301_3
     have hw301_2 := hx301_2
     have hw301_1 := hx301_1
     have hw301_0 := hx301_0
     cases e301
     replace hx301_0 := kc HB hx301_0
     replace hx301_1 := kc HB hx301_1
     replace hx301_2 := kc HB hx301_2
     replace hx301_3 := kc HB hx301_3
     replace p301 := eq_true p301
     replace q301 := eq_true q301
     have p302 : 0 ≤ (x3_1 : Int) := od
     have q302 : x3_1 < (l0.length : Int) := od
     obtain ⟨ad302, e302, hx302_0, hx302_1, hx302_2, hx302_3⟩ := at_T60 HR0.out x3_1 p302 q302
     have hw302_3 := hx302_3
     have hw302_2 := hx302_2
     have hw302_1 := hx302_1
     have hw302_0 := hx302_0
     obtain rfl : ad301 = ad302 := (by injection e302)
     replace hx302_0 := kc HB hx302_0
     replace hx302_1 := kc HB hx302_1
     replace hx302_2 := kc HB hx302_2
     replace hx302_3 := kc HB hx302_3
     replace p302 := eq_true p302
     replace q302 := eq_true q302
     refine start_ (n := 11) (S := fun w' => w'.cell? (ad301.add (((ji3)).toNat * 4)) = some (.int .i64 ((rd_T60 l0 (ji3)).f0)) ∧ w'.cell? ⟨(ad301.add (((ji3)).toNat * 4)).block, (ad301.add (((ji3)).toNat * 4)).off + 1, none⟩ = some (.string ((rd_T60 l0 (ji3)).f1)) ∧ w'.cell? ⟨(ad301.add (((ji3)).toNat * 4)).block, (ad301.add (((ji3)).toNat * 4)).off + 2, none⟩ = some (.int .i64 ((rd_T60 l0 (ji3)).f2.f0)) ∧ w'.cell? ⟨(ad301.add (((ji3)).toNat * 4)).block, (ad301.add (((ji3)).toNat * 4)).off + 3, none⟩ = some (.bool ((rd_T60 l0 (ji3)).f2.f1)) ∧ w'.cell? (ad301.add ((x3_1).toNat * 4)) = some (.int .i64 ((rd_T60 l0 x3_1).f0)) ∧ w'.cell? ⟨(ad301.add ((x3_1).toNat * 4)).block, (ad301.add ((x3_1).toNat * 4)).off + 1, none⟩ = some (.string ((rd_T60 l0 x3_1).f1)) ∧ w'.cell? ⟨(ad301.add ((x3_1).toNat * 4)).block, (ad301.add ((x3_1).toNat * 4)).off + 2, none⟩ = some (.int .i64 ((rd_T60 l0 x3_1).f2.f0)) ∧ w'.cell? ⟨(ad301.add ((x3_1).toNat * 4)).block, (ad301.add ((x3_1).toNat * 4)).off + 3, none⟩ = some (.bool ((rd_T60 l0 x3_1).f2.f1))) (ds := []) _ (by kernel_rfl) rfl rfl ⟨(kc HB hw301_0), (kc HB hw301_1), (kc HB hw301_2), (kc HB hw301_3), (kc HB hw302_0), (kc HB hw302_1), (kc HB hw302_2), (kc HB hw302_3)⟩ (fun hHeld => ?_); refine with_tabW row_rise.tab4 row_rise.bits4 (fun HT_ HW_ => ?_)
     generalize wr.drew = w9 at HB hx301_0 hx301_1 hx301_2 hx301_3 hx302_0 hx302_1 hx302_2 hx302_3 hHeld ⊢
     refine p1 0 (some 10) ?_
     refine p1 1 (some 11) ?_
     refine p1 2 (some 12) ?_
     refine p1 3 (some 13) ?_
     refine p1 5 (some 15) ?_
     refine p1 6 (some 16) ?_
     refine p1 7 (some 17) ?_
     refine t1 4 (some 14) rfl rfl hHeld (Or.inl ⟨by rfl, by rintro w' ⟨s0, s1, s2, s3, s4, s5, s6, s7⟩; go_simp; with_reducible rfl⟩) ?_
     refine t1 8 (some 18) rfl rfl hHeld (Or.inl ⟨by rfl, by rintro w' ⟨s0, s1, s2, s3, s4, s5, s6, s7⟩; go_simp; with_reducible rfl⟩) ?_
     refine o1 9 (some 19) rfl rfl (fun K hK => ?_)
     refine goes_ Tryz.func88 (by kernel_rfl) rfl #[.agg #[.int .i64 ((rd_T60 l0 (ji3)).f0), .string ((rd_T60 l0 (ji3)).f1), .int .i64 ((rd_T60 l0 (ji3)).f2.f0), .bool ((rd_T60 l0 (ji3)).f2.f1)], .agg #[.int .i64 ((rd_T60 l0 x3_1).f0), .string ((rd_T60 l0 x3_1).f1), .int .i64 ((rd_T60 l0 x3_1).f2.f0), .bool ((rd_T60 l0 x3_1).f2.f1)]] (by rfl) rfl rfl (by (try simp only [List.map_toArray, List.map_cons, List.map_nil]); first | done | (simp only [hji3]; rfl) | rfl | (simp only [List.length_drop, List.length_take]; rfl)) ?_
     with_reducible refine (row_Before.calls k1 ((rd_T60 l0 (ji3)).f0) ((rd_T60 l0 (ji3)).f1) ((rd_T60 l0 (ji3)).f2.f0) ((rd_T60 l0 (ji3)).f2.f1) ((rd_T60 l0 x3_1).f0) ((rd_T60 l0 x3_1).f1) ((rd_T60 l0 x3_1).f2.f0) ((rd_T60 l0 x3_1).f2.f1) true _ A7.out).mono ?_
     rintro e w10 ⟨rfl, hb⟩
     refine ⟨_, rfl, ?_⟩
     replace HB := cW HB hb
     (try clear hb)
     refine hK.out _ _ ⟨(kc HB hw301_0), (kc HB hw301_1), (kc HB hw301_2), (kc HB hw301_3), (kc HB hw302_0), (kc HB hw302_1), (kc HB hw302_2), (kc HB hw302_3)⟩ (fun hHeld => ?_)
     clear hK K
     refine norm_ (a' := ?_) ?_ ?_
     rotate_left
     ·
      show Act.put _ (some 19) _ = _
      simp only [Act.put, List.setIfInBounds_toArray, List.set_cons_zero, List.set_cons_succ, i64_w, i32_w]
      rfl
     refine p1 10 (some 20) ?_
     refine done_ (done_of HT_.out (by kernel_rfl)) ?_
     try go_wp2
     go_roundg k1
     case measure => have := HK1.out; omega
     case rel => exact ⟨(wrap64 (x3_1 + 1)), rs_, H', ⟨by have := HK1.out; omega⟩, ⟨uW HB.out⟩⟩
    ·
     replace c8 := Bool.eq_false_iff.mpr c8
     subst c8
     rw [if_neg (show ¬ (false = true) by decide)] at H
     obtain rfl := Option.some.inj H
     try go_wp2
     replace HB := Aside0.mk (below_drew1 HB.out)
     have p301 : 0 ≤ ((ji3) : Int) := od
     have q301 : (ji3) < (l0.length : Int) := od
     obtain ⟨ad301, e301, hx301_0, hx301_1, hx301_2, hx301_3⟩ := at_T60 HR0.out (ji3) p301 q301
     have hw301_3 := hx301_3
     have hw301_2 := hx301_2
     have hw301_1 := hx301_1
     have hw301_0 := hx301_0
     cases e301
     replace hx301_0 := kc HB hx301_0
     replace hx301_1 := kc HB hx301_1
     replace hx301_2 := kc HB hx301_2
     replace hx301_3 := kc HB hx301_3
     replace p301 := eq_true p301
     replace q301 := eq_true q301
     have p302 : 0 ≤ (x3_1 : Int) := od
     have q302 : x3_1 < (l0.length : Int) := od
     obtain ⟨ad302, e302, hx302_0, hx302_1, hx302_2, hx302_3⟩ := at_T60 HR0.out x3_1 p302 q302
     have hw302_3 := hx302_3
     have hw302_2 := hx302_2
     have hw302_1 := hx302_1
     have hw302_0 := hx302_0
     obtain rfl : ad301 = ad302 := (by injection e302)
     replace hx302_0 := kc HB hx302_0
     replace hx302_1 := kc HB hx302_1
     replace hx302_2 := kc HB hx302_2
     replace hx302_3 := kc HB hx302_3
     replace p302 := eq_true p302
     replace q302 := eq_true q302
     refine start_ (n := 11) (S := fun w' => w'.cell? (ad301.add (((ji3)).toNat * 4)) = some (.int .i64 ((rd_T60 l0 (ji3)).f0)) ∧ w'.cell? ⟨(ad301.add (((ji3)).toNat * 4)).block, (ad301.add (((ji3)).toNat * 4)).off + 1, none⟩ = some (.string ((rd_T60 l0 (ji3)).f1)) ∧ w'.cell? ⟨(ad301.add (((ji3)).toNat * 4)).block, (ad301.add (((ji3)).toNat * 4)).off + 2, none⟩ = some (.int .i64 ((rd_T60 l0 (ji3)).f2.f0)) ∧ w'.cell? ⟨(ad301.add (((ji3)).toNat * 4)).block, (ad301.add (((ji3)).toNat * 4)).off + 3, none⟩ = some (.bool ((rd_T60 l0 (ji3)).f2.f1)) ∧ w'.cell? (ad301.add ((x3_1).toNat * 4)) = some (.int .i64 ((rd_T60 l0 x3_1).f0)) ∧ w'.cell? ⟨(ad301.add ((x3_1).toNat * 4)).block, (ad301.add ((x3_1).toNat * 4)).off + 1, none⟩ = some (.string ((rd_T60 l0 x3_1).f1)) ∧ w'.cell? ⟨(ad301.add ((x3_1).toNat * 4)).block, (ad301.add ((x3_1).toNat * 4)).off + 2, none⟩ = some (.int .i64 ((rd_T60 l0 x3_1).f2.f0)) ∧ w'.cell? ⟨(ad301.add ((x3_1).toNat * 4)).block, (ad301.add ((x3_1).toNat * 4)).off + 3, none⟩ = some (.bool ((rd_T60 l0 x3_1).f2.f1))) (ds := []) _ (by kernel_rfl) rfl rfl ⟨(kc HB hw301_0), (kc HB hw301_1), (kc HB hw301_2), (kc HB hw301_3), (kc HB hw302_0), (kc HB hw302_1), (kc HB hw302_2), (kc HB hw302_3)⟩ (fun hHeld => ?_); refine with_tabW row_rise.tab4 row_rise.bits4 (fun HT_ HW_ => ?_)
     generalize wr.drew = w11 at HB hx301_0 hx301_1 hx301_2 hx301_3 hx302_0 hx302_1 hx302_2 hx302_3 hHeld ⊢
     refine p1 0 (some 10) ?_
     refine p1 1 (some 11) ?_
     refine p1 2 (some 12) ?_
     refine p1 3 (some 13) ?_
     refine p1 5 (some 15) ?_
     refine p1 6 (some 16) ?_
     refine p1 7 (some 17) ?_
     refine t1 4 (some 14) rfl rfl hHeld (Or.inl ⟨by rfl, by rintro w' ⟨s0, s1, s2, s3, s4, s5, s6, s7⟩; go_simp; with_reducible rfl⟩) ?_
     refine t1 8 (some 18) rfl rfl hHeld (Or.inl ⟨by rfl, by rintro w' ⟨s0, s1, s2, s3, s4, s5, s6, s7⟩; go_simp; with_reducible rfl⟩) ?_
     refine o1 9 (some 19) rfl rfl (fun K hK => ?_)
     refine goes_ Tryz.func88 (by kernel_rfl) rfl #[.agg #[.int .i64 ((rd_T60 l0 (ji3)).f0), .string ((rd_T60 l0 (ji3)).f1), .int .i64 ((rd_T60 l0 (ji3)).f2.f0), .bool ((rd_T60 l0 (ji3)).f2.f1)], .agg #[.int .i64 ((rd_T60 l0 x3_1).f0), .string ((rd_T60 l0 x3_1).f1), .int .i64 ((rd_T60 l0 x3_1).f2.f0), .bool ((rd_T60 l0 x3_1).f2.f1)]] (by rfl) rfl rfl (by (try simp only [List.map_toArray, List.map_cons, List.map_nil]); first | done | (simp only [hji3]; rfl) | rfl | (simp only [List.length_drop, List.length_take]; rfl)) ?_
     with_reducible refine (row_Before.calls k1 ((rd_T60 l0 (ji3)).f0) ((rd_T60 l0 (ji3)).f1) ((rd_T60 l0 (ji3)).f2.f0) ((rd_T60 l0 (ji3)).f2.f1) ((rd_T60 l0 x3_1).f0) ((rd_T60 l0 x3_1).f1) ((rd_T60 l0 x3_1).f2.f0) ((rd_T60 l0 x3_1).f2.f1) false _ A7.out).mono ?_
     rintro e w12 ⟨rfl, hb⟩
     refine ⟨_, rfl, ?_⟩
     replace HB := cW HB hb
     (try clear hb)
     refine hK.out _ _ ⟨(kc HB hw301_0), (kc HB hw301_1), (kc HB hw301_2), (kc HB hw301_3), (kc HB hw302_0), (kc HB hw302_1), (kc HB hw302_2), (kc HB hw302_3)⟩ (fun hHeld => ?_)
     clear hK K
     refine norm_ (a' := ?_) ?_ ?_
     rotate_left
     ·
      show Act.put _ (some 19) _ = _
      simp only [Act.put, List.setIfInBounds_toArray, List.set_cons_zero, List.set_cons_succ, i64_w, i32_w]
      rfl
     refine p1 10 (some 20) ?_
     refine done_ (done_of HT_.out (by kernel_rfl)) ?_
     try go_wp2
     go_ret
     exact ⟨by first | rfl | (simp [errW_none, errW_some] <;> rfl) | (simp only [← hji3]; first | rfl | (simp [errW_none, errW_some] <;> rfl)) | (simp [*, errW_none, errW_some] <;> rfl), uW HB.out⟩
   ·
    rw [if_neg c2] at H
    have c2b0 : decide (x3_1 < (l0.length : Int)) = false := decide_eq_false c2
    clear c2
    obtain rfl := Option.some.inj H
    go_wp2
    go_ret
    exact ⟨re_, uW HB.out⟩
end Go.Proofs.YteckidchnicjeaaGreatDoor.X
