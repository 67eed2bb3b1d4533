/- Printed by a program of this session's own: what functions of the program compute, and that the machine computes it. No condition of its own. -/
import Derived.Test.YtgcbejidponoaaaGreatDoorM3
import Derived.Test.YtgcbejidponoaaaGreatDoorM6
namespace Go.Proofs.YtgcbejidponoaaaGreatDoor.X
open Go.RowKit Go.Proofs.YtgcbejidponoaaaGreatDoorW.PrintWords Go.Proofs.YtgcbejidponoaaaGreatDoorW.PrintLast Go.Proofs.YtgcbejidponoaaaGreatDoorW.PrintMore
attribute [local go_sem] max2_int min2_int max_two min_two max_three min_three max_four min_four
set_option linter.unusedVariables false
set_option linter.unusedSimpArgs false
set_option maxHeartbeats 8000000
set_option maxRecDepth 100000
theorem api_Tag_with_102_145.goesV_ {P : Program} {ops : Array Oper} {Q : Exit → Act → World → Prop} {oi : Oper} {N : Option Tmp} {a : Act} {w : World} {K : Act → World → Prop} {f : FuncId} {fn : Func} {cal : Operand} {as_ : Array Operand} {ts : Array TypeId} (hf : P.funcs[f]? = some fn) (hname : (fn.name == "runtime.NumGoroutine") = false) (hb : fn.body.isSome = true) (args : Array Value)
 (hw : Region.wanted oi (yielded ops a.tmps) = true) (hN : oi.dst = N) (hop : oi.op = .call { callee := .value cal, args := as_, argTypes := ts }) (hev : a.eval cal = .func (.func f) #[] #[]) (hargs : as_.map a.eval = args)
 (h : Calls P f args w fun e w' => ∃ v, e = .returned v ∧ K (a.put N v) w') : if Region.wanted oi (yielded ops a.tmps) = true then Oper.wp P oi a w K Q else K (a.put N undef) w := by
 refine call_ f args hw hN ?_ h
 have he := enters_ hf hname hb args w
 unfold execOp
 simp [hop, resolve, Deferred.ofValue, invoke, hev, hargs, he]
theorem api_Tag_with_102_145.goesVL_ {P : Program} {ops : Array Oper} {Q : Exit → Act → World → Prop} {rest : List Oper} {oi : Oper} {a : Act} {w : World} (N : Option Tmp) (hd : oi.dst = N) (hg : oi.guard = none) {f : FuncId} {fn : Func} {cal : Operand} {as_ : Array Operand} {ts : Array TypeId} (hf : P.funcs[f]? = some fn) (hname : (fn.name == "runtime.NumGoroutine") = false) (hb : fn.body.isSome = true) (args : Array Value)
 (hop : oi.op = .call { callee := .value cal, args := as_, argTypes := ts }) (hev : a.eval cal = .func (.func f) #[] #[]) (hargs : as_.map a.eval = args)
 (h : Calls P f args w fun e w' => ∃ v, e = .returned v ∧ wpList P ops Q rest (a.put N v) w') : wpList P ops Q (oi :: rest) a w := by
 refine wpList_plain hg fun K hK => ?_
 have he := enters_ hf hname hb args w
 have hrun : (execOp a.eval oi).run P w = .ok (.enter f args) w := by
  unfold execOp
  simp [hop, resolve, Deferred.ofValue, invoke, hev, hargs, he]
 unfold Oper.wp
 rw [hrun, Oper.upon_enter]
 refine h.mono fun e w'' hh => ?_
 obtain ⟨v, rfl, hk⟩ := hh
 subst hd
 exact hK _ _ hk
mutual
def api_Tag_with_102_145.l0 : Nat → List (S98) → Int → Int → Int → Option ((List (S98)))
 | 0, _, _, _, _ => none
 | k + 1, x0, x1, x2, x8 => if x8 < x2 then (api_Tag_with_102_145.l1 k x0 x1 x2 x8 x8) else (some x0)
def api_Tag_with_102_145.l1 : Nat → List (S98) → Int → Int → Int → Int → Option ((List (S98)))
 | 0, _, _, _, _, _ => none
 | k + 1, x0, x1, x2, x8, x9 => if x9 > x1 then (if 0 ≤ x9 then (if x9 < (x0.length : Int) then (if 0 ≤ (wrap64 (x9 - 1)) then (if (wrap64 (x9 - 1)) < (x0.length : Int) then ((tag_order.f ((rd_T98 x0 x9).f0) ((rd_T98 x0 x9).f1) ((rd_T98 x0 (wrap64 (x9 - 1))).f0) ((rd_T98 x0 (wrap64 (x9 - 1))).f1)).bind fun t283 => (if t283 < 0 then (api_Tag_with_102_145.l1 k ((x0.set (x9 : Int).toNat (⟨(rd_T98 x0 (wrap64 (x9 - 1))).f0, (rd_T98 x0 (wrap64 (x9 - 1))).f1⟩ : S98)).set ((wrap64 (x9 - 1)) : Int).toNat (⟨(rd_T98 x0 x9).f0, (rd_T98 x0 x9).f1⟩ : S98)) x1 x2 x8 (wrap64 (x9 - 1))) else (api_Tag_with_102_145.l0 k x0 x1 x2 (wrap64 (x8 + 1))))) else (none)) else (none)) else (none)) else (none)) else (api_Tag_with_102_145.l0 k x0 x1 x2 (wrap64 (x8 + 1)))
end
def api_Tag_with_102_145.f (k : Nat) (l0 : List (S98)) (a1 : Int) (a2 : Int) : Option ((List (S98))) := api_Tag_with_102_145.l0 k l0 a1 a2 (wrap64 (a1 + 1))
theorem api_Tag_with_102_145.mono_l : ∀ k, (∀ y0 y1 y2 y3, LeC (api_Tag_with_102_145.l0 k y0 y1 y2 y3) (api_Tag_with_102_145.l0 (k + 1) y0 y1 y2 y3)) ∧ (∀ y0 y1 y2 y3 y4, LeC (api_Tag_with_102_145.l1 k y0 y1 y2 y3 y4) (api_Tag_with_102_145.l1 (k + 1) y0 y1 y2 y3 y4))
 | 0 => ⟨fun _ _ _ _ => ⟨fun r h => by simp [api_Tag_with_102_145.l0] at h⟩, fun _ _ _ _ _ => ⟨fun r h => by simp [api_Tag_with_102_145.l1] at h⟩⟩
 | k + 1 => by obtain ⟨ih0, ih1⟩ := api_Tag_with_102_145.mono_l k; exact ⟨fun _ _ _ _ => by unfold api_Tag_with_102_145.l0; exact lm, fun _ _ _ _ _ => by unfold api_Tag_with_102_145.l1; exact lm⟩
theorem api_Tag_with_102_145.mono : ∀ a0 a1 a2 k, LeO (api_Tag_with_102_145.f k a0 a1 a2) (api_Tag_with_102_145.f (k + 1) a0 a1 a2) := by
 intro a0 a1 a2 k
 obtain ⟨ih0, ih1⟩ := api_Tag_with_102_145.mono_l k
 unfold api_Tag_with_102_145.f
 exact lo
instance api_Tag_with_102_145.mI {a0 a1 a2 k} : LeC (api_Tag_with_102_145.f k a0 a1 a2) (api_Tag_with_102_145.f (k + 1) a0 a1 a2) := ⟨api_Tag_with_102_145.mono _ _ _ _⟩
def api_Tag_with_102_145.T4 : Bool × List (List Nat × List Nat) := (true, [([], []), ([], []), ([0, 1], [0, 1]), ([2], [2]), ([3], [3]), ([3], [3]), ([3], [3]), ([5, 6, 3], [3, 5, 6]), ([7, 3], [3, 7]), ([3], [3]), ([3], [3]), ([10, 3], [3, 10]), ([9, 11, 3], [3, 9, 11]), ([12, 3], [3, 12]), ([4, 8, 13, 3, 3], [3, 4, 8, 13]), ([14, 3], [3, 14]), ([3, 15], [3, 15])])
def api_Tag_with_102_145.B4 : List Nat := [0, 0, 3, 7, 15, 15, 15, 111, 239, 15, 15, 1039, 3599, 7695, 16383, 32767, 65535]
theorem api_Tag_with_102_145.tab4 : rtab .any (opsOf Tryz.f145 4) = api_Tag_with_102_145.T4 := by kernel_rfl
theorem api_Tag_with_102_145.bits4 : waitsOk api_Tag_with_102_145.T4.2 api_Tag_with_102_145.B4 = true := by kernel_rfl
def api_Tag_with_102_145.T6 : Bool × List (List Nat × List Nat) := (true, [([], []), ([], []), ([], []), ([], []), ([3], [3]), ([], []), ([], []), ([6], [6]), ([5, 7], [5, 7]), ([8], [8]), ([], []), ([], []), ([10, 11], [10, 11]), ([12], [12]), ([0, 1, 0, 1, 5, 6, 7, 8, 9, 13], [0, 1]), ([14, 9, 0, 1, 5, 6, 7, 8, 9, 13], [9, 14]), ([2, 4, 0, 1, 2, 3, 4, 5, 6, 7, 8, 9, 10, 11, 12, 13, 14, 15], [2, 4]), ([16, 13, 15, 0, 1, 2, 3, 4, 5, 6, 7, 8, 9, 10, 11, 12, 13, 14, 15], [13, 16])])
def api_Tag_with_102_145.B6 : List Nat := [0, 0, 0, 0, 8, 0, 0, 64, 224, 480, 0, 0, 3072, 7168, 16355, 32739, 65535, 131071]
theorem api_Tag_with_102_145.tab6 : rtab .any (opsOf Tryz.f145 6) = api_Tag_with_102_145.T6 := by kernel_rfl
theorem api_Tag_with_102_145.bits6 : waitsOk api_Tag_with_102_145.T6.2 api_Tag_with_102_145.B6 = true := by kernel_rfl
theorem api_Tag_with_102_145.calls (k : Nat) (P0_ : Nat → Prop) (u9000_ : Value) (l0 : List (S98)) (a1 : Int) (a2 : Int) (r : List (S98)) (w0 w : World) (hB : Below w0.heap.size w0 w) (ho0 : Kd.R k98 98 w w0.heap.size P0_ u9000_ l0) (h : api_Tag_with_102_145.f k l0 a1 a2 = some r) :
 Calls Tryz.prog 145 #[u9000_, .int .i64 a1, .int .i64 a2, .func (.func 102) #[] #[]] w fun e w' => e = .returned (.tuple #[]) ∧ Kd.R k98 98 w' w0.heap.size (fun k_ => (P0_ k_ ∨ w.heap.size ≤ k_)) u9000_ r ∧ Below w0.heap.size w0 w' ∧ Kept w w' (fun k_ => P0_ k_) := by
 have hu98 := Tryz.underlying98
 have HO0 := Aside0.mk (show Kd.R k98 98 w w0.heap.size (fun k_ => (P0_ k_ ∨ w.heap.size ≤ k_)) u9000_ l0 from Kd.R_mono ho0 (fun k_ hk => (.inl hk)))
 have HK := Aside0.mk (Kept.refl w (fun k_ => P0_ k_))
 have HW0 := Aside0.mk hB.size
 have HB := Aside0.mk hB
 clear hB
 have H : (api_Tag_with_102_145.l0 k l0 a1 a2 (wrap64 (a1 + 1))) = some r := h
 clear h
 have H' := Aside0.mk H
 clear H
 have eg102 : ∀ args w, (callFunc 102 args).run Tryz.prog w = .ok (.enter 102 args) w := enters_of Tryz.func102 (by kernel_rfl) rfl
 go_enter Tryz.func145, Tryz.ntmps145
 go_wp2
 go_loopg [8] k (fun kq v8 w' => ∃ (x0_1 : List (S98)) (x8_1 : Int), v8 = .int .i64 x8_1 ∧ Aside0 (api_Tag_with_102_145.l0 kq x0_1 a1 a2 x8_1 = some r) ∧ Aside0 (kq ≤ k) ∧ Aside0 (Kd.R k98 98 w' w0.heap.size (fun k_ => (P0_ k_ ∨ w.heap.size ≤ k_)) u9000_ x0_1) ∧ Aside0 (Kept w w' (fun k_ => P0_ k_)) ∧ Aside0 (Below w0.heap.size w0 w'))
 case atStart => exact ⟨(l0), (wrap64 (a1 + 1)), rs_, H', ⟨Nat.le_refl _⟩, ⟨uR HO0.out⟩, ⟨by repeat (first | (with_reducible first | exact HK.out | apply Kept.alloc | apply Kept.drewN | apply Kept.drew) | exact HK.out)⟩, ⟨uW HB.out⟩⟩
 case round =>
  clear H'
  try clear p2
  obtain ⟨x0_1, x8_1, rfl, HA, HK1, HO_0, HK, HB⟩ := hrel
  cases gk with
  | zero => exact absurd HA.out (by simp [api_Tag_with_102_145.l0])
  | succ k1 =>
   have H := HA.out
   clear HA
   simp only [api_Tag_with_102_145.l0] at H
   by_cases c4 : x8_1 < a2
   ·
    rw [if_pos c4] at H
    have c4b0 : decide (x8_1 < a2) = true := decide_eq_true c4
    clear c4
    have H' := Aside0.mk H
    clear H
    go_wp2
    go_loopg [9] k1 (fun kq v9 w' => ∃ (x0_2 : List (S98)) (x9_2 : Int), v9 = .int .i64 x9_2 ∧ Aside0 (api_Tag_with_102_145.l1 kq x0_2 a1 a2 x8_1 x9_2 = some r) ∧ Aside0 (kq ≤ k1) ∧ Aside0 (Kd.R k98 98 w' w0.heap.size (fun k_ => (P0_ k_ ∨ w.heap.size ≤ k_)) u9000_ x0_2) ∧ Aside0 (Kept w w' (fun k_ => P0_ k_)) ∧ Aside0 (Below w0.heap.size w0 w'))
    case atStart => exact ⟨(x0_1), (x8_1), rs_, H', ⟨Nat.le_refl _⟩, ⟨uR HO_0.out⟩, ⟨by repeat (first | (with_reducible first | exact HK.out | apply Kept.alloc | apply Kept.drewN | apply Kept.drew) | exact HK.out)⟩, ⟨uW HB.out⟩⟩
    case round =>
     clear H'
     try clear p2
     try clear c4
     try clear c4b0
     try clear p2
     obtain ⟨x0_2, x9_2, rfl, HA, HK2, HO_0, HK, HB⟩ := hrel
     cases gk with
     | zero => exact absurd HA.out (by simp [api_Tag_with_102_145.l1])
     | succ k2 =>
      have H := HA.out
      clear HA
      simp only [api_Tag_with_102_145.l1] at H
      by_cases c5 : x9_2 > a1
      ·
       rw [if_pos c5] at H
       have c5b0 : decide (a1 < x9_2) = true := decide_eq_true c5
       clear c5
       obtain ⟨c6b0, H⟩ := gdd H
       obtain ⟨c7b0, H⟩ := gdd H
       obtain ⟨ji8, hji8⟩ : ∃ j_ : Int, (wrap64 (x9_2 - 1)) = j_ := ⟨_, rfl⟩
       (first | rw [hji8] at H | simp only [hji8] at H)
       have hji8w : (IntKind.i64.wrap (x9_2 - 1)) = ji8 := (i64_w _).trans hji8
       obtain ⟨c9b0, H⟩ := gdd H
       obtain ⟨c10b0, H⟩ := gdd H
       obtain ⟨t283, A11, H⟩ := bs H
       try dsimp only at H
       by_cases c12 : t283 < 0
       ·
        rw [if_pos c12] at H
        have c12b0 : decide (t283 < 0) = true := decide_eq_true c12
        clear c12
        obtain ⟨y286, hy286⟩ : ∃ y_ : List (S98), y_ = (x0_2.set (x9_2 : Int).toNat (⟨(rd_T98 x0_2 (ji8)).f0, (rd_T98 x0_2 (ji8)).f1⟩ : S98)) := ⟨_, rfl⟩
        replace H : (api_Tag_with_102_145.l1 k2 (y286.set ((ji8) : Int).toNat (⟨(rd_T98 x0_2 x9_2).f0, (rd_T98 x0_2 x9_2).f1⟩ : S98)) a1 a2 x8_1 ji8) = some r := by first | (rw [hy286]; with_reducible exact H) | (have H2_ := (Option.bind_some _ _).symm.trans H; rw [hy286]; with_reducible exact H2_) | (have H2_ := (Option.bind_some _ _).symm.trans H; with_reducible exact H2_) | with_reducible exact H | (rw [hy286]; exact H) | exact H
        have Ny286 := Aside0.mk hy286
        clear hy286
        obtain ⟨y287, hy287⟩ : ∃ y_ : List (S98), y_ = (y286.set ((ji8) : Int).toNat (⟨(rd_T98 x0_2 x9_2).f0, (rd_T98 x0_2 x9_2).f1⟩ : S98)) := ⟨_, rfl⟩
        replace H : (api_Tag_with_102_145.l1 k2 y287 a1 a2 x8_1 ji8) = some r := by first | (rw [hy287]; with_reducible exact H) | (have H2_ := (Option.bind_some _ _).symm.trans H; rw [hy287]; with_reducible exact H2_) | (have H2_ := (Option.bind_some _ _).symm.trans H; with_reducible exact H2_) | with_reducible exact H | (rw [hy287]; exact H) | exact H
        have Ny287 := Aside0.mk hy287
        clear hy287
        have H' := Aside0.mk H
        clear H
        try go_wp2
        replace HO_0 := Aside0.mk (Kd.R_drew HO_0.out)
        replace HK := Aside0.mk (Kept.drew HK.out)
        replace HB := Aside0.mk (below_drew1 HB.out)
        obtain ⟨Ao16, co16, eo16⟩ := Kd.R_slice HO_0.out
        (first | subst eo16 | (injection eo16 with f1_ f2_ f3_; have f4_ := f1_.symm; have f5_ := f3_.symm; clear f1_ f2_ f3_; subst f4_; subst f5_))
        have p281 : 0 ≤ (x9_2 : Int) := od
        have q281 : x9_2 < (x0_2.length : Int) := od
        obtain ⟨ad281, e281, hx281_0, hx281_1⟩ := at_T98 (Kd.R_reads' HO_0.out).2.2 x9_2 p281 q281
        cases e281
        replace p281 := eq_true p281
        replace q281 := eq_true q281
        have p282 : 0 ≤ ((ji8) : Int) := od
        have q282 : (ji8) < (x0_2.length : Int) := od
        obtain ⟨ad282, e282, hx282_0, hx282_1⟩ := at_T98 (Kd.R_reads' HO_0.out).2.2 (ji8) p282 q282
        obtain rfl : ad281 = ad282 := (by injection e282)
        replace p282 := eq_true p282
        replace q282 := eq_true q282
        refine start_ (n := 17) (S := fun w' => w'.cell? (ad281.add ((x9_2).toNat * 2)) = some (.string ((rd_T98 x0_2 x9_2).f0)) ∧ w'.cell? ⟨(ad281.add ((x9_2).toNat * 2)).block, (ad281.add ((x9_2).toNat * 2)).off + 1, none⟩ = some (.string ((rd_T98 x0_2 x9_2).f1)) ∧ w'.cell? (ad281.add (((ji8)).toNat * 2)) = some (.string ((rd_T98 x0_2 (ji8)).f0)) ∧ w'.cell? ⟨(ad281.add (((ji8)).toNat * 2)).block, (ad281.add (((ji8)).toNat * 2)).off + 1, none⟩ = some (.string ((rd_T98 x0_2 (ji8)).f1))) (ds := []) _ (by kernel_rfl) rfl rfl ⟨hx281_0, hx281_1, hx282_0, hx282_1⟩ (fun hHeld => ?_); refine with_tabW api_Tag_with_102_145.tab4 api_Tag_with_102_145.bits4 (fun HT_ HW_ => ?_)
        generalize wr.drew = w15 at HO_0 HK HB hx281_0 hx281_1 hx282_0 hx282_1 hHeld ⊢
        refine p1 0 (some 18) ?_
        refine p1 1 (some 19) ?_
        refine p1 2 (some 20) ?_
        refine p1 3 (some 21) ?_
        refine p1 4 (some 22) ?_
        refine p1 5 (some 23) ?_
        refine p1 6 (some 24) ?_
        refine p1 7 (some 25) ?_
        refine p1 9 (some 27) ?_
        refine p1 10 (some 28) ?_
        refine p1 11 (some 29) ?_
        refine p1 12 (some 30) ?_
        refine t1 8 (some 26) rfl rfl hHeld (Or.inl ⟨by rfl, by rintro w' ⟨s0, s1, s2, s3⟩; go_simp; with_reducible rfl⟩) ?_
        refine t1 13 (some 31) rfl rfl hHeld (Or.inl ⟨by rfl, by rintro w' ⟨s0, s1, s2, s3⟩; go_simp; with_reducible rfl⟩) ?_
        refine o1 14 (some 32) rfl rfl (fun K hK => ?_)
        refine api_Tag_with_102_145.goesV_ Tryz.func102 (by kernel_rfl) rfl #[.agg #[.string ((rd_T98 x0_2 x9_2).f0), .string ((rd_T98 x0_2 x9_2).f1)], .agg #[.string ((rd_T98 x0_2 (ji8)).f0), .string ((rd_T98 x0_2 (ji8)).f1)]] (by rfl) rfl rfl (by rfl) (by (try simp only [List.map_toArray, List.map_cons, List.map_nil]); first | done | (simp only [hji8]; rfl) | rfl | (simp only [List.length_drop, List.length_take]; rfl)) ?_
        with_reducible refine (tag_order.calls ((rd_T98 x0_2 x9_2).f0) ((rd_T98 x0_2 x9_2).f1) ((rd_T98 x0_2 (ji8)).f0) ((rd_T98 x0_2 (ji8)).f1) t283 _ A11.out).mono ?_
        rintro e w17 ⟨rfl, hb⟩
        have HS0_ := (hb.cell (World.block_lt_of_cell? _ _ (hHeld.1))).trans (hHeld.1)
        have HS1_ := (hb.cell (World.block_lt_of_cell? _ _ (hHeld.2.1))).trans (hHeld.2.1)
        have HS2_ := (hb.cell (World.block_lt_of_cell? _ _ (hHeld.2.2.1))).trans (hHeld.2.2.1)
        have HS3_ := (hb.cell (World.block_lt_of_cell? _ _ (hHeld.2.2.2))).trans (hHeld.2.2.2)
        refine ⟨_, rfl, ?_⟩
        replace HO_0 := cR HO_0 hb
        replace HK := Aside0.mk (Kept.below (S := (fun k_ => P0_ k_)) (by repeat (first | (with_reducible first | exact HK.out | apply Kept.alloc | apply Kept.drewN | apply Kept.drew) | exact HK.out)) hb)
        replace HB := cW HB hb
        (try clear hb)
        refine hK.out _ _ ⟨HS0_, HS1_, HS2_, HS3_⟩ (fun hHeld => ?_)
        clear hK K
        refine norm_ (a' := ?_) ?_ ?_
        rotate_left
        ·
         show Act.put _ (some 32) _ = _
         simp only [Act.put, List.setIfInBounds_toArray, List.set_cons_zero, List.set_cons_succ, i64_w, i32_w]
         rfl
        refine p1 15 (some 33) ?_
        refine p1 16 (some 34) ?_
        refine done_ (done_of HT_.out (by kernel_rfl)) ?_
        try go_wp2
        replace HO_0 := Aside0.mk (Kd.R_drew HO_0.out)
        replace HK := Aside0.mk (Kept.drew HK.out)
        replace HB := Aside0.mk (below_drew1 HB.out)
        have p284 : 0 ≤ ((ji8) : Int) := od
        have q284 : (ji8) < (x0_2.length : Int) := od
        obtain ⟨ad284, e284, hx284_0, hx284_1⟩ := at_T98 (Kd.R_reads' HO_0.out).2.2 (ji8) p284 q284
        obtain rfl : ad281 = ad284 := (by injection e284)
        replace p284 := eq_true p284
        replace q284 := eq_true q284
        have p285 : 0 ≤ (x9_2 : Int) := od
        have q285 : x9_2 < (x0_2.length : Int) := od
        obtain ⟨ad285, e285, hx285_0, hx285_1⟩ := at_T98 (Kd.R_reads' HO_0.out).2.2 x9_2 p285 q285
        obtain rfl : ad281 = ad285 := (by injection e285)
        replace p285 := eq_true p285
        replace q285 := eq_true q285
        have p13 : 0 ≤ (x9_2 : Int) := od
        have q13 : (x9_2 : Int) < ((x0_2.length : Int) : Int) := od
        obtain ⟨go13, co13, eo13, gb13, gl13, cl13, HG13⟩ := Kd.R_form HO_0.out (by omega)
        (first | cases eo13 | (injection eo13 with ea_ en_ ec_; (first | subst ea_ | (injection ea_ with ea_; subst ea_)); subst ec_; clear en_))
        have GB13 := Aside0.mk gb13
        have GG13 := Aside0.mk HG13
        clear gb13 gl13 HG13
        have HMgo13 := Aside0.mk (show (P0_ go13 ∨ w.heap.size ≤ go13) from (HO_0.out.1 _ rfl))
        (first | simp only [add_plain] at hx281_0 | skip)
        (first | simp only [add_plain] at hx281_1 | skip)
        (first | simp only [add_plain] at hx282_0 | skip)
        (first | simp only [add_plain] at hx282_1 | skip)
        (first | simp only [add_plain] at hx284_0 | skip)
        (first | simp only [add_plain] at hx284_1 | skip)
        (first | simp only [add_plain] at hx285_0 | skip)
        (first | simp only [add_plain] at hx285_1 | skip)
        obtain ⟨ce13, hcl13, hM13, hcc13, hfr13⟩ := Kd.R_elem HO_0.out z98 (x9_2 : Int) p13 q13
        obtain rfl := k98_openM hM13
        have hx13_0 : World.cell? _ ⟨go13, (x9_2 : Int).toNat * 2, none⟩ = some (.string ((rd_T98 x0_2 x9_2).f0)) := hcc13 0 _ rfl
        have hx13_1 : World.cell? _ ⟨go13, (x9_2 : Int).toNat * 2 + 1, none⟩ = some (.string ((rd_T98 x0_2 x9_2).f1)) := hcc13 1 _ rfl
        have hf13_0 : World.frozen? _ ⟨go13, (x9_2 : Int).toNat * 2, none⟩ = false := hfr13 0
        have hf13_1 : World.frozen? _ ⟨go13, (x9_2 : Int).toNat * 2 + 1, none⟩ = false := hfr13 1
        clear hcl13 hcc13 hfr13 hM13
        replace p13 := eq_true p13
        replace q13 := eq_true q13
        obtain ⟨ce19, hcl19, hM19, hcc19, hfr19⟩ := Kd.R_elem HO_0.out z98 (x9_2 : Int) (od) (by have h_ : (x9_2 : Int) < ((x0_2.length : Int) : Int) := od; first | exact h_ | (have e_ := (Kd.R_reads' HO_0.out).1; omega) | simpa using h_)
        obtain rfl := k98_openM hM19
        have HP19 := (Kd.R_seg HO_0.out (x9_2 : Int) (od) (by have h_ : (x9_2 : Int) < ((x0_2.length : Int) : Int) := od; first | exact h_ | (have e_ := (Kd.R_reads' HO_0.out).1; omega) | simpa using h_) (seg := [.string ((rd_T98 x0_2 (ji8)).f0), .string ((rd_T98 x0_2 (ji8)).f1)]) (j := 0) hcl19 hcc19 (show 2 ≤ 2 from by decide) (x' := (⟨(rd_T98 x0_2 (ji8)).f0, (rd_T98 x0_2 (ji8)).f1⟩ : S98)) (k98_mkM _ _ _ (⟨(rd_T98 x0_2 (ji8)).f0, (rd_T98 x0_2 (ji8)).f1⟩ : S98) ) (fun _ hk => hk)).1
        rw [← Ny286.out] at HP19
        have HQ19 := Aside0.mk HP19
        clear hcl19 hcc19 hfr19 hM19 HP19
        have p14 : 0 ≤ ((ji8) : Int) := od
        have q14 : ((ji8) : Int) < ((x0_2.length : Int) : Int) := od
        obtain ⟨ce14, hcl14, hM14, hcc14, hfr14⟩ := Kd.R_elem HQ19.out z98 ((ji8) : Int) p14 q14
        obtain rfl := k98_openM hM14
        have hx14_0 : World.cell? _ ⟨go13, ((ji8) : Int).toNat * 2, none⟩ = some (.string ((rd_T98 y286 (ji8)).f0)) := hcc14 0 _ rfl
        have hx14_1 : World.cell? _ ⟨go13, ((ji8) : Int).toNat * 2 + 1, none⟩ = some (.string ((rd_T98 y286 (ji8)).f1)) := hcc14 1 _ rfl
        have hf14_0 : World.frozen? _ ⟨go13, ((ji8) : Int).toNat * 2, none⟩ = false := hfr14 0
        have hf14_1 : World.frozen? _ ⟨go13, ((ji8) : Int).toNat * 2 + 1, none⟩ = false := hfr14 1
        clear hcl14 hcc14 hfr14 hM14
        replace p14 := eq_true p14
        replace q14 := eq_true q14
        obtain ⟨ce20, hcl20, hM20, hcc20, hfr20⟩ := Kd.R_elem HQ19.out z98 ((ji8) : Int) (od) (by have h_ : ((ji8) : Int) < ((x0_2.length : Int) : Int) := od; first | exact h_ | (have e_ := (Kd.R_reads' HO_0.out).1; omega) | simpa using h_)
        obtain rfl := k98_openM hM20
        have HP20 := (Kd.R_seg HQ19.out ((ji8) : Int) (od) (by have h_ : ((ji8) : Int) < ((x0_2.length : Int) : Int) := od; first | exact h_ | (have e_ := (Kd.R_reads' HO_0.out).1; omega) | simpa using h_) (seg := [.string ((rd_T98 x0_2 x9_2).f0), .string ((rd_T98 x0_2 x9_2).f1)]) (j := 0) hcl20 hcc20 (show 2 ≤ 2 from by decide) (x' := (⟨(rd_T98 x0_2 x9_2).f0, (rd_T98 x0_2 x9_2).f1⟩ : S98)) (k98_mkM _ _ _ (⟨(rd_T98 x0_2 x9_2).f0, (rd_T98 x0_2 x9_2).f1⟩ : S98) ) (fun _ hk => hk)).1
        rw [← Ny287.out] at HP20
        have HQ20 := Aside0.mk HP20
        clear hcl20 hcc20 hfr20 hM20 HP20
        have hnq_ : ji8.toNat ≠ x9_2.toNat := by have a_ := of_eq_true p14; have b_ := of_eq_true p13; have c_ := hji8; unfold wrap64 at c_; omega
        have hnq1_ : (ji8.toNat * 2 = x9_2.toNat * 2) = False := eq_false (by omega)
        have hnq2_ : (x9_2.toNat * 2 = ji8.toNat * 2) = False := eq_false (by omega)
        have hnq3_ : (ji8.toNat = x9_2.toNat) = False := eq_false hnq_
        have hnq4_ : (x9_2.toNat = ji8.toNat) = False := eq_false (Ne.symm hnq_)
        obtain ⟨_, _, _, _, hfrq_⟩ := Kd.R_elem HO_0.out z98 ((ji8) : Int) (of_eq_true p14) (of_eq_true q14)
        have hfq_0 : World.frozen? _ ⟨go13, ((ji8) : Int).toNat * 2, none⟩ = false := hfrq_ 0
        have hfq_1 : World.frozen? _ ⟨go13, ((ji8) : Int).toNat * 2 + 1, none⟩ = false := hfrq_ 1
        clear hfrq_
        refine start_ (n := 18) (S := fun w' => w'.cell? ⟨go13, (((ji8)).toNat * 2), none⟩ = some (.string ((rd_T98 x0_2 (ji8)).f0)) ∧ w'.cell? ⟨go13, (((ji8)).toNat * 2) + 1, none⟩ = some (.string ((rd_T98 x0_2 (ji8)).f1)) ∧ w'.cell? ⟨go13, ((x9_2).toNat * 2), none⟩ = some (.string ((rd_T98 x0_2 x9_2).f0)) ∧ w'.cell? ⟨go13, ((x9_2).toNat * 2) + 1, none⟩ = some (.string ((rd_T98 x0_2 x9_2).f1))) (ds := [15, 17]) _ (by kernel_rfl) rfl rfl ⟨hx284_0, hx284_1, hx285_0, hx285_1⟩ (fun hHeld => ?_); refine with_tabW api_Tag_with_102_145.tab6 api_Tag_with_102_145.bits6 (fun HT_ HW_ => ?_)
        generalize w17.drew = w18 at HO_0 HK HB GG13 HQ19 HQ20 hf13_0 hf13_1 hf14_0 hf14_1 hx13_0 hx13_1 hx14_0 hx14_1 hx281_0 hx281_1 hx282_0 hx282_1 hx284_0 hx284_1 hx285_0 hx285_1 hfq_0 hfq_1 hHeld ⊢
        refine p1 0 (some 37) ?_
        refine p1 1 (some 38) ?_
        refine p1 2 (some 39) ?_
        refine p1 3 (some 40) ?_
        refine p1 4 (some 41) ?_
        refine p1 5 (some 42) ?_
        refine p1 6 (some 43) ?_
        refine p1 7 (some 44) ?_
        refine p1 8 (some 45) ?_
        refine p1 10 (some 47) ?_
        refine p1 11 (some 48) ?_
        refine p1 12 (some 49) ?_
        refine t1 9 (some 46) rfl rfl hHeld (Or.inl ⟨by rfl, by rintro w' ⟨s0, s1, s2, s3⟩; go_simp; with_reducible rfl⟩) ?_
        refine t1 13 (some 50) rfl rfl hHeld (Or.inl ⟨by rfl, by rintro w' ⟨s0, s1, s2, s3⟩; go_simp; with_reducible rfl⟩) ?_
        refine p1 14 (some 51) ?_
        refine l1_ 15 none rfl rfl (fun K hK => ?_)
        refine skip_ (w1 := ?_) (by rfl) rfl ?_ ?_
        rotate_left
        ·
         go_simp
         rfl
        refine hK.out _ _ ?_
        clear hK K
        refine p1 16 (some 52) ?_
        refine l1_ 17 none rfl rfl (fun K hK => ?_)
        refine skip_ (w1 := ?_) (by rfl) rfl ?_ ?_
        rotate_left
        ·
         go_simp
         rfl
        refine hK.out _ _ ?_
        clear hK K
        refine done_ (done_of HT_.out (by kernel_rfl)) ?_
        try go_wp2
        go_roundg k2
        case measure => have := HK1.out; have := HK2.out; omega
        case rel => exact ⟨(y287), (ji8), (by first | rfl | (simp; done) | (simp only [← hji8] <;> (first | rfl | simp)) | (simp [*]; done)), H', ⟨by have := HK1.out; have := HK2.out; omega⟩, ⟨by (with_reducible repeat (first | apply Kd.R_alloc | apply Kd.R_drewN | apply Kd.R_drew)); exact HQ20.out⟩, ⟨by repeat (first | (with_reducible first | exact HK.out | apply Kept.alloc | apply Kept.drewN | apply Kept.drew | refine Kept.setCell ?_ HMgo13.out _ | refine Kept.setCell ?_ HMgo13.out _ | refine Kept.setCell ?_ HMgo13.out _ | refine Kept.setCell ?_ HMgo13.out _) | exact HK.out)⟩, ⟨by repeat (first | (with_reducible first | exact HB.out | apply below_alloc | apply pw_below_drewN | apply below_drew1 | refine below_set ?_ GB13.out | refine below_set ?_ GB13.out | refine below_set ?_ GB13.out | refine below_set ?_ GB13.out) | exact HB.out)⟩⟩
       ·
        rw [if_neg c12] at H
        have c12b0 : decide (t283 < 0) = false := decide_eq_false c12
        clear c12
        have H' := Aside0.mk H
        clear H
        try go_wp2
        replace HO_0 := Aside0.mk (Kd.R_drew HO_0.out)
        replace HK := Aside0.mk (Kept.drew HK.out)
        replace HB := Aside0.mk (below_drew1 HB.out)
        obtain ⟨Ao22, co22, eo22⟩ := Kd.R_slice HO_0.out
        (first | subst eo22 | (injection eo22 with f1_ f2_ f3_; have f4_ := f1_.symm; have f5_ := f3_.symm; clear f1_ f2_ f3_; subst f4_; subst f5_))
        have p281 : 0 ≤ (x9_2 : Int) := od
        have q281 : x9_2 < (x0_2.length : Int) := od
        obtain ⟨ad281, e281, hx281_0, hx281_1⟩ := at_T98 (Kd.R_reads' HO_0.out).2.2 x9_2 p281 q281
        cases e281
        replace p281 := eq_true p281
        replace q281 := eq_true q281
        have p282 : 0 ≤ ((ji8) : Int) := od
        have q282 : (ji8) < (x0_2.length : Int) := od
        obtain ⟨ad282, e282, hx282_0, hx282_1⟩ := at_T98 (Kd.R_reads' HO_0.out).2.2 (ji8) p282 q282
        obtain rfl : ad281 = ad282 := (by injection e282)
        replace p282 := eq_true p282
        replace q282 := eq_true q282
        refine start_ (n := 17) (S := fun w' => w'.cell? (ad281.add ((x9_2).toNat * 2)) = some (.string ((rd_T98 x0_2 x9_2).f0)) ∧ w'.cell? ⟨(ad281.add ((x9_2).toNat * 2)).block, (ad281.add ((x9_2).toNat * 2)).off + 1, none⟩ = some (.string ((rd_T98 x0_2 x9_2).f1)) ∧ w'.cell? (ad281.add (((ji8)).toNat * 2)) = some (.string ((rd_T98 x0_2 (ji8)).f0)) ∧ w'.cell? ⟨(ad281.add (((ji8)).toNat * 2)).block, (ad281.add (((ji8)).toNat * 2)).off + 1, none⟩ = some (.string ((rd_T98 x0_2 (ji8)).f1))) (ds := []) _ (by kernel_rfl) rfl rfl ⟨hx281_0, hx281_1, hx282_0, hx282_1⟩ (fun hHeld => ?_); refine with_tabW api_Tag_with_102_145.tab4 api_Tag_with_102_145.bits4 (fun HT_ HW_ => ?_)
        generalize wr.drew = w21 at HO_0 HK HB hx281_0 hx281_1 hx282_0 hx282_1 hHeld ⊢
        refine p1 0 (some 18) ?_
        refine p1 1 (some 19) ?_
        refine p1 2 (some 20) ?_
        refine p1 3 (some 21) ?_
        refine p1 4 (some 22) ?_
        refine p1 5 (some 23) ?_
        refine p1 6 (some 24) ?_
        refine p1 7 (some 25) ?_
        refine p1 9 (some 27) ?_
        refine p1 10 (some 28) ?_
        refine p1 11 (some 29) ?_
        refine p1 12 (some 30) ?_
        refine t1 8 (some 26) rfl rfl hHeld (Or.inl ⟨by rfl, by rintro w' ⟨s0, s1, s2, s3⟩; go_simp; with_reducible rfl⟩) ?_
        refine t1 13 (some 31) rfl rfl hHeld (Or.inl ⟨by rfl, by rintro w' ⟨s0, s1, s2, s3⟩; go_simp; with_reducible rfl⟩) ?_
        refine o1 14 (some 32) rfl rfl (fun K hK => ?_)
        refine api_Tag_with_102_145.goesV_ Tryz.func102 (by kernel_rfl) rfl #[.agg #[.string ((rd_T98 x0_2 x9_2).f0), .string ((rd_T98 x0_2 x9_2).f1)], .agg #[.string ((rd_T98 x0_2 (ji8)).f0), .string ((rd_T98 x0_2 (ji8)).f1)]] (by rfl) rfl rfl (by rfl) (by (try simp only [List.map_toArray, List.map_cons, List.map_nil]); first | done | (simp only [hji8]; rfl) | rfl | (simp only [List.length_drop, List.length_take]; rfl)) ?_
        with_reducible refine (tag_order.calls ((rd_T98 x0_2 x9_2).f0) ((rd_T98 x0_2 x9_2).f1) ((rd_T98 x0_2 (ji8)).f0) ((rd_T98 x0_2 (ji8)).f1) t283 _ A11.out).mono ?_
        rintro e w23 ⟨rfl, hb⟩
        have HS0_ := (hb.cell (World.block_lt_of_cell? _ _ (hHeld.1))).trans (hHeld.1)
        have HS1_ := (hb.cell (World.block_lt_of_cell? _ _ (hHeld.2.1))).trans (hHeld.2.1)
        have HS2_ := (hb.cell (World.block_lt_of_cell? _ _ (hHeld.2.2.1))).trans (hHeld.2.2.1)
        have HS3_ := (hb.cell (World.block_lt_of_cell? _ _ (hHeld.2.2.2))).trans (hHeld.2.2.2)
        refine ⟨_, rfl, ?_⟩
        replace HO_0 := cR HO_0 hb
        replace HK := Aside0.mk (Kept.below (S := (fun k_ => P0_ k_)) (by repeat (first | (with_reducible first | exact HK.out | apply Kept.alloc | apply Kept.drewN | apply Kept.drew) | exact HK.out)) hb)
        replace HB := cW HB hb
        (try clear hb)
        refine hK.out _ _ ⟨HS0_, HS1_, HS2_, HS3_⟩ (fun hHeld => ?_)
        clear hK K
        refine norm_ (a' := ?_) ?_ ?_
        rotate_left
        ·
         show Act.put _ (some 32) _ = _
         simp only [Act.put, List.setIfInBounds_toArray, List.set_cons_zero, List.set_cons_succ, i64_w, i32_w]
         rfl
        refine p1 15 (some 33) ?_
        refine p1 16 (some 34) ?_
        refine done_ (done_of HT_.out (by kernel_rfl)) ?_
        try go_wp2
        go_roundg k2
        case measure => have := HK1.out; have := HK2.out; omega
        case rel => exact ⟨(x0_2), (wrap64 (x8_1 + 1)), rs_, H', ⟨by have := HK1.out; have := HK2.out; omega⟩, ⟨uR HO_0.out⟩, ⟨by repeat (first | (with_reducible first | exact HK.out | apply Kept.alloc | apply Kept.drewN | apply Kept.drew) | exact HK.out)⟩, ⟨uW HB.out⟩⟩
      ·
       rw [if_neg c5] at H
       have c5b0 : decide (a1 < x9_2) = false := decide_eq_false c5
       clear c5
       have H' := Aside0.mk H
       clear H
       try go_wp2
       replace HO_0 := Aside0.mk (Kd.R_drew HO_0.out)
       replace HK := Aside0.mk (Kept.drew HK.out)
       replace HB := Aside0.mk (below_drew1 HB.out)
       refine start_ (n := 17) (S := fun w' => True) (ds := []) _ (by kernel_rfl) rfl rfl trivial (fun hHeld => ?_); refine with_tabW api_Tag_with_102_145.tab4 api_Tag_with_102_145.bits4 (fun HT_ HW_ => ?_)
       generalize wr.drew = w24 at HO_0 HK HB hHeld ⊢
       refine p1 0 (some 18) ?_
       refine p1 1 (some 19) ?_
       refine p1 2 (some 20) ?_
       refine p1 3 (some 21) ?_
       refine p2 4 (some 22) ?_
       refine p2 5 (some 23) ?_
       refine p2 6 (some 24) ?_
       refine p2 7 (some 25) ?_
       refine p2 8 (some 26) ?_
       refine p2 9 (some 27) ?_
       refine p2 10 (some 28) ?_
       refine p2 11 (some 29) ?_
       refine p2 12 (some 30) ?_
       refine p2 13 (some 31) ?_
       refine p2 14 (some 32) ?_
       refine p2 15 (some 33) ?_
       refine p1 16 (some 34) ?_
       refine done_ (done_of HT_.out (by kernel_rfl)) ?_
       try go_wp2
       go_roundg k2
       case measure => have := HK1.out; have := HK2.out; omega
       case rel => exact ⟨(x0_2), (wrap64 (x8_1 + 1)), rs_, H', ⟨by have := HK1.out; have := HK2.out; omega⟩, ⟨uR HO_0.out⟩, ⟨by repeat (first | (with_reducible first | exact HK.out | apply Kept.alloc | apply Kept.drewN | apply Kept.drew) | exact HK.out)⟩, ⟨uW HB.out⟩⟩
   ·
    rw [if_neg c4] at H
    have c4b0 : decide (x8_1 < a2) = false := decide_eq_false c4
    clear c4
    obtain rfl := Option.some.inj H
    go_wp2
    first | go_end0 | ((try simp only [Exit.inBlock, Exit.then]); refine bodyPost_ret (results_none rfl _ _ _) rfl ?_)
    exact ⟨re_, uR HO_0.out, uW HB.out, by repeat (first | (with_reducible first | exact HK.out | apply Kept.alloc | apply Kept.drewN | apply Kept.drew) | exact HK.out)⟩
theorem api_Tag_with_102_122.goesV_ {P : Program} {ops : Array Oper} {Q : Exit → Act → World → Prop} {oi : Oper} {N : Option Tmp} {a : Act} {w : World} {K : Act → World → Prop} {f : FuncId} {fn : Func} {cal : Operand} {as_ : Array Operand} {ts : Array TypeId} (hf : P.funcs[f]? = some fn) (hname : (fn.name == "runtime.NumGoroutine") = false) (hb : fn.body.isSome = true) (args : Array Value)
 (hw : Region.wanted oi (yielded ops a.tmps) = true) (hN : oi.dst = N) (hop : oi.op = .call { callee := .value cal, args := as_, argTypes := ts }) (hev : a.eval cal = .func (.func f) #[] #[]) (hargs : as_.map a.eval = args)
 (h : Calls P f args w fun e w' => ∃ v, e = .returned v ∧ K (a.put N v) w') : if Region.wanted oi (yielded ops a.tmps) = true then Oper.wp P oi a w K Q else K (a.put N undef) w := by
 refine call_ f args hw hN ?_ h
 have he := enters_ hf hname hb args w
 unfold execOp
 simp [hop, resolve, Deferred.ofValue, invoke, hev, hargs, he]
theorem api_Tag_with_102_122.goesVL_ {P : Program} {ops : Array Oper} {Q : Exit → Act → World → Prop} {rest : List Oper} {oi : Oper} {a : Act} {w : World} (N : Option Tmp) (hd : oi.dst = N) (hg : oi.guard = none) {f : FuncId} {fn : Func} {cal : Operand} {as_ : Array Operand} {ts : Array TypeId} (hf : P.funcs[f]? = some fn) (hname : (fn.name == "runtime.NumGoroutine") = false) (hb : fn.body.isSome = true) (args : Array Value)
 (hop : oi.op = .call { callee := .value cal, args := as_, argTypes := ts }) (hev : a.eval cal = .func (.func f) #[] #[]) (hargs : as_.map a.eval = args)
 (h : Calls P f args w fun e w' => ∃ v, e = .returned v ∧ wpList P ops Q rest (a.put N v) w') : wpList P ops Q (oi :: rest) a w := by
 refine wpList_plain hg fun K hK => ?_
 have he := enters_ hf hname hb args w
 have hrun : (execOp a.eval oi).run P w = .ok (.enter f args) w := by
  unfold execOp
  simp [hop, resolve, Deferred.ofValue, invoke, hev, hargs, he]
 unfold Oper.wp
 rw [hrun, Oper.upon_enter]
 refine h.mono fun e w'' hh => ?_
 obtain ⟨v, rfl, hk⟩ := hh
 subst hd
 exact hK _ _ hk
mutual
def api_Tag_with_102_122.l0 : Nat → List (S98) → Int → Int → Int → Bool → Option ((List (S98)))
 | 0, _, _, _, _, _ => none
 | k + 1, x0, x1, x2, x3, x10 => if (wrap64 (x2 - x1)) ≤ 12 then ((api_Tag_with_102_145.f k x0 x1 x2).bind fun t288 => (some t288)) else (if x3 = 0 then (none) else (if x10 = true then (none) else (none)))
def api_Tag_with_102_122.f : Nat → List (S98) → Int → Int → Int → Option ((List (S98)))
 | 0, _, _, _, _ => none
 | k + 1, l0, a1, a2, a3 => api_Tag_with_102_122.l0 k l0 a1 a2 a3 true
end
theorem api_Tag_with_102_122.mono_l : ∀ k, (∀ y0 y1 y2 y3, LeC (api_Tag_with_102_122.f k y0 y1 y2 y3) (api_Tag_with_102_122.f (k + 1) y0 y1 y2 y3)) ∧ (∀ y0 y1 y2 y3 y4, LeC (api_Tag_with_102_122.l0 k y0 y1 y2 y3 y4) (api_Tag_with_102_122.l0 (k + 1) y0 y1 y2 y3 y4))
 | 0 => ⟨fun _ _ _ _ => ⟨fun r h => by simp [api_Tag_with_102_122.f] at h⟩, fun _ _ _ _ _ => ⟨fun r h => by simp [api_Tag_with_102_122.l0] at h⟩⟩
 | k + 1 => by obtain ⟨ih0, ih1⟩ := api_Tag_with_102_122.mono_l k; exact ⟨fun _ _ _ _ => by unfold api_Tag_with_102_122.f; exact lm, fun _ _ _ _ _ => by unfold api_Tag_with_102_122.l0; exact lm⟩
theorem api_Tag_with_102_122.mono : ∀ a0 a1 a2 a3 k, LeO (api_Tag_with_102_122.f k a0 a1 a2 a3) (api_Tag_with_102_122.f (k + 1) a0 a1 a2 a3) := by
 intro a0 a1 a2 a3 k
 obtain ⟨ih0, ih1⟩ := api_Tag_with_102_122.mono_l k
 exact LeC.out
instance api_Tag_with_102_122.mI {a0 a1 a2 a3 k} : LeC (api_Tag_with_102_122.f k a0 a1 a2 a3) (api_Tag_with_102_122.f (k + 1) a0 a1 a2 a3) := ⟨api_Tag_with_102_122.mono _ _ _ _ _⟩
theorem api_Tag_with_102_122.calls (k : Nat) : ∀ (P0_ : Nat → Prop) (u9000_ : Value) (l0 : List (S98)) (a1 : Int) (a2 : Int) (a3 : Int) (r : List (S98)) (w0 w : World) (hB : Below w0.heap.size w0 w) (ho0 : Kd.R k98 98 w w0.heap.size P0_ u9000_ l0) (h : api_Tag_with_102_122.f k l0 a1 a2 a3 = some r),
 Calls Tryz.prog 122 #[u9000_, .int .i64 a1, .int .i64 a2, .int .i64 a3, .func (.func 102) #[] #[]] w fun e w' => e = .returned (.tuple #[]) ∧ Kd.R k98 98 w' w0.heap.size (fun k_ => (P0_ k_ ∨ w.heap.size ≤ k_)) u9000_ r ∧ Below w0.heap.size w0 w' ∧ Kept w w' (fun k_ => P0_ k_) := by
 induction k using Nat.strongRecOn with
 | _ k ih =>
 intro P0_ u9000_ l0 a1 a2 a3 r w0 w hB ho0 h
 cases k with
 | zero => exact absurd h (by simp [api_Tag_with_102_122.f])
 | succ k =>
 simp only [api_Tag_with_102_122.f] at h
 have hu98 := Tryz.underlying98
 have HO0 := Aside0.mk (show Kd.R k98 98 w w0.heap.size (fun k_ => (P0_ k_ ∨ w.heap.size ≤ k_)) u9000_ l0 from Kd.R_mono ho0 (fun k_ hk => (.inl hk)))
 have HK := Aside0.mk (Kept.refl w (fun k_ => P0_ k_))
 have HW0 := Aside0.mk hB.size
 have HB := Aside0.mk hB
 clear hB
 have H : (api_Tag_with_102_122.l0 k l0 a1 a2 a3 true) = some r := h
 clear h
 have H' := Aside0.mk H
 clear H
 have eg102 : ∀ args w, (callFunc 102 args).run Tryz.prog w = .ok (.enter 102 args) w := enters_of Tryz.func102 (by kernel_rfl) rfl
 go_enter Tryz.func122, Tryz.ntmps122
 go_wp2
 go_loopg [1, 2, 3, 10] k (fun kq v1 v2 v3 v10 w' => ∃ (x0_1 : List (S98)) (x1_1 : Int) (x2_1 : Int) (x3_1 : Int) (x10_1 : Bool), v1 = .int .i64 x1_1 ∧ v2 = .int .i64 x2_1 ∧ v3 = .int .i64 x3_1 ∧ v10 = .bool x10_1 ∧ Aside0 (api_Tag_with_102_122.l0 kq x0_1 x1_1 x2_1 x3_1 x10_1 = some r) ∧ Aside0 (kq ≤ k) ∧ Aside0 (Kd.R k98 98 w' w0.heap.size (fun k_ => (P0_ k_ ∨ w.heap.size ≤ k_)) u9000_ x0_1) ∧ Aside0 (Kept w w' (fun k_ => P0_ k_)) ∧ Aside0 (Below w0.heap.size w0 w'))
 case atStart => exact ⟨(l0), (a1), (a2), (a3), (true), rs_, rs_, rs_, rs_, H', ⟨Nat.le_refl _⟩, ⟨uR HO0.out⟩, ⟨by repeat (first | (with_reducible first | exact HK.out | apply Kept.alloc | apply Kept.drewN | apply Kept.drew) | exact HK.out)⟩, ⟨uW HB.out⟩⟩
 case round =>
  clear H'
  try clear p2
  obtain ⟨x0_1, x1_1, x2_1, x3_1, x10_1, rfl, rfl, rfl, rfl, HA, HK1, HO_0, HK, HB⟩ := hrel
  cases gk with
  | zero => exact absurd HA.out (by simp [api_Tag_with_102_122.l0])
  | succ k1 =>
   have H := HA.out
   clear HA
   simp only [api_Tag_with_102_122.l0] at H
   by_cases c5 : (wrap64 (x2_1 - x1_1)) ≤ 12
   ·
    rw [if_pos c5] at H
    have c5b0 : decide ((wrap64 (x2_1 - x1_1)) ≤ 12) = true := decide_eq_true c5
    clear c5
    obtain ⟨t288, A6, H⟩ := bs H
    try dsimp only at H
    obtain rfl := Option.some.inj H
    obtain ⟨Ao7, co7, eo7⟩ := Kd.R_slice HO_0.out
    subst eo7
    go_wp2_with (first | (refine gL (some 30) rfl Tryz.func145 #[.slice Ao7 x0_1.length co7, .int .i64 x1_1, .int .i64 x2_1, (.func (.func 102) #[] #[])] ?_; (with_reducible refine (api_Tag_with_102_145.calls k1 (fun k_ => some k_ = (.slice Ao7 x0_1.length co7 : Value).ownBlock) (.slice Ao7 x0_1.length co7) x0_1 x1_1 x2_1 t288 w0 _ ?side1 ?side2 A6.out).mono ?_); (case side1 => repeat (first | (with_reducible first | exact HB.out | apply below_alloc | apply pw_below_drewN | apply below_drew1) | exact HB.out)); (case side2 => exact Kd.R_tight rfl HO_0.out); rintro e w8 ⟨rfl, hy0, hb, hkp⟩; refine ⟨_, rfl, ?_⟩; replace HK := Aside0.mk (Kept.then_ (S := (fun k_ => P0_ k_)) (by repeat (first | (with_reducible first | exact HK.out | apply Kept.alloc | apply Kept.drewN | apply Kept.drew) | exact HK.out)) hkp (fun k_ hs_ => (fun e_ => (HO_0.out.1 k_ e_.symm)) hs_)); replace HO_0 := Aside0.mk (Kd.R_reok rfl hy0 (fun k_ e_ => HO_0.out.1 k_ e_)); replace HB := Aside0.mk (hb); (try clear hb); (try clear hkp); (try clear hy0)))
    first | go_end0 | ((try simp only [Exit.inBlock, Exit.then]); refine bodyPost_ret (results_none rfl _ _ _) rfl ?_)
    exact ⟨re_, uR HO_0.out, uW HB.out, by repeat (first | (with_reducible first | exact HK.out | apply Kept.alloc | apply Kept.drewN | apply Kept.drew) | exact HK.out)⟩
   ·
    rw [if_neg c5] at H
    have c5b0 : decide ((wrap64 (x2_1 - x1_1)) ≤ 12) = false := decide_eq_false c5
    clear c5
    obtain ⟨c9, H⟩ := gn H
    have c9b0 : (x3_1 == 0) = false := beq_eq_false_iff_ne.mpr c9
    have c9b1 : (x3_1 != 0) = true := bne_iff_ne.mpr c9
    by_cases c10 : x10_1 = true
    ·
     subst c10
     rw [if_pos rfl] at H
     exact absurd H (by simp)
    ·
     replace c10 := Bool.eq_false_iff.mpr c10
     subst c10
     rw [if_neg (show ¬ (false = true) by decide)] at H
     exact absurd H (by simp)
def api_Tag_with_102_101.f (k : Nat) (l0 : List (S98)) : Option ((List (S98))) := (bits_Len.f (IntKind.u64.wrap ((l0.length : Int)))).bind fun t289 => ((api_Tag_with_102_122.f k l0 0 (l0.length : Int) t289).bind fun t290 => (some t290))
theorem api_Tag_with_102_101.mono : ∀ a0 k, LeO (api_Tag_with_102_101.f k a0) (api_Tag_with_102_101.f (k + 1) a0) := by
 intro a0 k
 unfold api_Tag_with_102_101.f
 exact lo
instance api_Tag_with_102_101.mI {a0 k} : LeC (api_Tag_with_102_101.f k a0) (api_Tag_with_102_101.f (k + 1) a0) := ⟨api_Tag_with_102_101.mono _ _⟩
theorem api_Tag_with_102_101.calls (k : Nat) (P0_ : Nat → Prop) (u9000_ : Value) (l0 : List (S98)) (r : List (S98)) (w0 w : World) (hB : Below w0.heap.size w0 w) (ho0 : Kd.R k98 98 w w0.heap.size P0_ u9000_ l0) (h : api_Tag_with_102_101.f k l0 = some r) :
 Calls Tryz.prog 101 #[u9000_, .func (.func 102) #[] #[]] w fun e w' => e = .returned (.tuple #[]) ∧ Kd.R k98 98 w' w0.heap.size (fun k_ => (P0_ k_ ∨ w.heap.size ≤ k_)) u9000_ r ∧ Below w0.heap.size w0 w' ∧ Kept w w' (fun k_ => P0_ k_) := by
 have HO0 := Aside0.mk (show Kd.R k98 98 w w0.heap.size (fun k_ => (P0_ k_ ∨ w.heap.size ≤ k_)) u9000_ l0 from Kd.R_mono ho0 (fun k_ hk => (.inl hk)))
 have HK := Aside0.mk (Kept.refl w (fun k_ => P0_ k_))
 have HW0 := Aside0.mk hB.size
 have HB := Aside0.mk hB
 clear hB
 have H : ((bits_Len.f (IntKind.u64.wrap ((l0.length : Int)))).bind fun t289 => ((api_Tag_with_102_122.f k l0 0 (l0.length : Int) t289).bind fun t290 => (some t290))) = some r := h
 clear h
 obtain ⟨t289, A2, H⟩ := bs H
 try dsimp only at H
 obtain ⟨t290, A3, H⟩ := bs H
 try dsimp only at H
 obtain rfl := Option.some.inj H
 obtain ⟨Ao4, co4, eo4⟩ := Kd.R_slice HO0.out
 subst eo4
 go_enter Tryz.func101, Tryz.ntmps101
 go_wp2_with (first | (refine gL (some 11) rfl Tryz.func123 #[.int .u64 (IntKind.u64.wrap ((l0.length : Int)))] ?_; (with_reducible refine (bits_Len.calls (IntKind.u64.wrap ((l0.length : Int))) t289 _ A2.out).mono ?_); rintro e w' ⟨rfl, ⟨nd, rfl⟩⟩; refine ⟨_, rfl, ?_⟩) | (refine gL (some 13) rfl Tryz.func122 #[.slice Ao4 l0.length co4, .int .i64 0, .int .i64 (l0.length : Int), .int .i64 t289, (.func (.func 102) #[] #[])] ?_; (with_reducible refine (api_Tag_with_102_122.calls k (fun k_ => some k_ = (.slice Ao4 l0.length co4 : Value).ownBlock) (.slice Ao4 l0.length co4) l0 0 (l0.length : Int) t289 t290 w0 _ ?side1 ?side2 A3.out).mono ?_); (case side1 => repeat (first | (with_reducible first | exact HB.out | apply below_alloc | apply pw_below_drewN | apply below_drew1) | exact HB.out)); (case side2 => exact Kd.R_tight rfl HO0.out); rintro e w5 ⟨rfl, hy0, hb, hkp⟩; refine ⟨_, rfl, ?_⟩; replace HK := Aside0.mk (Kept.then_ (S := (fun k_ => P0_ k_)) (by repeat (first | (with_reducible first | exact HK.out | apply Kept.alloc | apply Kept.drewN | apply Kept.drew) | exact HK.out)) hkp (fun k_ hs_ => (fun e_ => (HO0.out.1 k_ e_.symm)) hs_)); replace HO0 := Aside0.mk (Kd.R_reok rfl hy0 (fun k_ e_ => HO0.out.1 k_ e_)); replace HB := Aside0.mk (hb); (try clear hb); (try clear hkp); (try clear hy0)))
 first | go_end0 | ((try simp only [Exit.inBlock, Exit.then]); refine bodyPost_ret (results_none rfl _ _ _) rfl ?_)
 exact ⟨re_, uR HO0.out, uW HB.out, by repeat (first | (with_reducible first | exact HK.out | apply Kept.alloc | apply Kept.drewN | apply Kept.drew) | exact HK.out)⟩
def tag_Canon.l0 : Nat → List (S98) → Int → Option ((List (S98)) × Int)
 | 0, _, _ => none
 | k + 1, x4, x5 => if x5 < (x4.length : Int) then (if 0 ≤ (wrap64 (x5 - 1)) then (if (wrap64 (x5 - 1)) < (x4.length : Int) then (if 0 ≤ x5 then ((tag_order.f ((rd_T98 x4 (wrap64 (x5 - 1))).f0) ((rd_T98 x4 (wrap64 (x5 - 1))).f1) ((rd_T98 x4 x5).f0) ((rd_T98 x4 x5).f1)).bind fun t298 => (if t298 = 0 then (some (([] : List (S98)), 5)) else (tag_Canon.l0 k x4 (wrap64 (x5 + 1))))) else (none)) else (none)) else (none)) else (some (x4, 0))
def tag_Canon.f (k : Nat) (l0 : List (S98)) : Option ((List (S98)) × Int) := (api_Tag_with_98_97.f k l0).bind fun t291 => (if t291 = true then (some (([] : List (S98)), 2)) else (if (l0.length : Int) > 4 then (some (([] : List (S98)), 4)) else ((api_Tag_100.f l0).bind fun t292 => ((api_Tag_with_102_101.f k t292).bind fun t295 => (tag_Canon.l0 k t295 1)))))
theorem tag_Canon.mono_l : ∀ k, (∀ y0 y1, LeC (tag_Canon.l0 k y0 y1) (tag_Canon.l0 (k + 1) y0 y1))
 | 0 => fun _ _ => ⟨fun r h => by simp [tag_Canon.l0] at h⟩
 | k + 1 => by have ih0 := tag_Canon.mono_l k; exact fun _ _ => by unfold tag_Canon.l0; exact lm
theorem tag_Canon.mono : ∀ a0 k, LeO (tag_Canon.f k a0) (tag_Canon.f (k + 1) a0) := by
 intro a0 k
 have ih0 := tag_Canon.mono_l k
 unfold tag_Canon.f
 exact lo
instance tag_Canon.mI {a0 k} : LeC (tag_Canon.f k a0) (tag_Canon.f (k + 1) a0) := ⟨tag_Canon.mono _ _⟩
def tag_Canon.T10 : Bool × List (List Nat × List Nat) := (true, [([], []), ([], []), ([1], [1]), ([0, 2], [0, 2]), ([3], [3]), ([], []), ([], []), ([5, 6], [5, 6]), ([7], [7]), ([4, 8], [4, 8]), ([9], [9])])
def tag_Canon.B10 : List Nat := [0, 0, 2, 7, 15, 0, 0, 96, 224, 511, 1023]
theorem tag_Canon.tab10 : rtab .any (opsOf Tryz.f80 10) = tag_Canon.T10 := by kernel_rfl
theorem tag_Canon.bits10 : waitsOk tag_Canon.T10.2 tag_Canon.B10 = true := by kernel_rfl
theorem tag_Canon.calls (k : Nat) (A0 : Option Addr) (c0 : Nat) (l0 : List (S98)) (r1 : List (S98)) (r2 : Int) (w : World) (hr0 : Kd.C k98 w A0 l0.length l0) (hc0 : l0.length ≤ c0) (h : tag_Canon.f k l0 = some (r1, r2)) :
 Calls Tryz.prog 80 #[.slice A0 l0.length c0] w fun e w' => ∃ v0_ : Value, e = .returned (.tuple #[v0_, .int .i64 r2]) ∧ Kd.R k98 98 w' w.heap.size (fun _ => True) v0_ r1 ∧ Below w.heap.size w w' := by
 have hu98 := Tryz.underlying98
 have HR0 := Aside0.mk hr0
 have HC0 := Aside0.mk hc0
 clear hr0 hc0
 have HB := Aside0.mk (Below.refl w.heap.size w)
 have H : ((api_Tag_with_98_97.f k l0).bind fun t291 => (if t291 = true then (some (([] : List (S98)), 2)) else (if (l0.length : Int) > 4 then (some (([] : List (S98)), 4)) else ((api_Tag_100.f l0).bind fun t292 => ((api_Tag_with_102_101.f k t292).bind fun t295 => (tag_Canon.l0 k t295 1)))))) = some (r1, r2) := h
 clear h
 obtain ⟨t291, A2, H⟩ := bs H
 try dsimp only at H
 by_cases c3 : t291 = true
 ·
  subst c3
  rw [if_pos rfl] at H
  simp only [Option.some.injEq, Prod.mk.injEq] at H
  obtain ⟨rfl, rfl⟩ := H
  go_enter Tryz.func80, Tryz.ntmps80
  go_wp2_with (first | (refine gL (some 7) rfl Tryz.func97 #[.slice A0 l0.length c0, (.func (.func 98) #[] #[])] ?_; (with_reducible refine (api_Tag_with_98_97.calls k _ _ l0 true _ ?side1 ?side2 A2.out).mono ?_); (case side1 => exact uC <| HR0.out); (case side2 => exact HC0.out); rintro e w4 ⟨rfl, hb⟩; refine ⟨_, rfl, ?_⟩; replace HB := cW HB hb; (try clear hb)))
  go_ret2
  exact ⟨_, re_, nl_, uW HB.out⟩
 ·
  replace c3 := Bool.eq_false_iff.mpr c3
  subst c3
  rw [if_neg (show ¬ (false = true) by decide)] at H
  by_cases c5 : (l0.length : Int) > 4
  ·
   rw [if_pos c5] at H
   have c5b0 : decide (4 < (l0.length : Int)) = true := decide_eq_true c5
   have c5b1 : decide (4 < l0.length) = true := decide_eq_true (by omega)
   clear c5
   simp only [Option.some.injEq, Prod.mk.injEq] at H
   obtain ⟨rfl, rfl⟩ := H
   go_enter Tryz.func80, Tryz.ntmps80
   go_wp2_with (first | (refine gL (some 7) rfl Tryz.func97 #[.slice A0 l0.length c0, (.func (.func 98) #[] #[])] ?_; (with_reducible refine (api_Tag_with_98_97.calls k _ _ l0 false _ ?side1 ?side2 A2.out).mono ?_); (case side1 => exact uC <| HR0.out); (case side2 => exact HC0.out); rintro e w6 ⟨rfl, hb⟩; refine ⟨_, rfl, ?_⟩; replace HB := cW HB hb; (try clear hb)))
   go_ret2
   exact ⟨_, re_, nl_, uW HB.out⟩
  ·
   rw [if_neg c5] at H
   have c5b0 : decide (4 < (l0.length : Int)) = false := decide_eq_false c5
   have c5b1 : decide (4 < l0.length) = false := decide_eq_false (by omega)
   clear c5
   obtain ⟨t292, A7, H⟩ := bs H
   try dsimp only at H
   obtain ⟨t295, A8, H⟩ := bs H
   try dsimp only at H
   have H' := Aside0.mk H
   clear H
   go_enter Tryz.func80, Tryz.ntmps80
   go_wp2_with (first | (refine gL (some 7) rfl Tryz.func97 #[.slice A0 l0.length c0, (.func (.func 98) #[] #[])] ?_; (with_reducible refine (api_Tag_with_98_97.calls k _ _ l0 false _ ?side1 ?side2 A2.out).mono ?_); (case side1 => exact uC <| HR0.out); (case side2 => exact HC0.out); rintro e w9 ⟨rfl, hb⟩; refine ⟨_, rfl, ?_⟩; replace HB := cW HB hb; (try clear hb)) | (refine gL (some 12) rfl Tryz.func100 #[.slice A0 l0.length c0] ?_; (with_reducible refine (api_Tag_100.calls _ _ l0 t292 _ ?side1 ?side2 A7.out).mono ?_); (case side1 => exact uC <| (Kd.C_below HR0.out HB.out)); (case side2 => exact HC0.out); rintro e w10 ⟨v293, rfl, ho0, hb⟩; refine ⟨_, rfl, ?_⟩; have HO294 := Aside0.mk (Kd.R_lower ho0 (below_size (uW HB.out))); replace HB := cW HB hb; (try clear hb); (try clear ho0); obtain ⟨Ao11, co11, eo11⟩ := Kd.R_slice HO294.out; subst eo11) | (refine gL (some 14) rfl Tryz.func101 #[.slice Ao11 t292.length co11, (.func (.func 102) #[] #[])] ?_; (with_reducible refine (api_Tag_with_102_101.calls k (fun k_ => some k_ = (.slice Ao11 t292.length co11 : Value).ownBlock) (.slice Ao11 t292.length co11) t292 t295 w _ ?side1 ?side2 A8.out).mono ?_); (case side1 => repeat (first | (with_reducible first | exact HB.out | apply below_alloc | apply pw_below_drewN | apply below_drew1) | exact HB.out)); (case side2 => exact Kd.R_tight rfl HO294.out); rintro e w12 ⟨rfl, hy0, hb, hkp⟩; refine ⟨_, rfl, ?_⟩; replace HO294 := Aside0.mk (Kd.R_reok rfl hy0 (fun k_ e_ => HO294.out.1 k_ e_)); replace HB := Aside0.mk (hb); (try clear hb); (try clear hkp); (try clear hy0)))
   (try simp only [Act.put, List.setIfInBounds_toArray, List.set_cons_zero, List.set_cons_succ])
   go_loopg [5] k (fun kq v5 w' => ∃ (x5_1 : Int), v5 = .int .i64 x5_1 ∧ Aside0 (tag_Canon.l0 kq t295 x5_1 = some (r1, r2)) ∧ Aside0 (kq ≤ k) ∧ Aside0 (Kd.R k98 98 w' w.heap.size (fun _ => True) (.slice Ao11 t292.length co11) t295) ∧ Aside0 (Below w.heap.size w w'))
   case atStart => exact ⟨(1), rs_, H', ⟨Nat.le_refl _⟩, ⟨uR HO294.out⟩, ⟨uW HB.out⟩⟩
   case round =>
    clear H'
    try clear c1
    try clear p2
    try clear c3
    try clear c5
    try clear c5b0
    try clear c5b1
    try clear c8
    try clear c9
    try clear c10
    obtain ⟨x5_1, rfl, HA, HK1, HO_4, HB⟩ := hrel
    have hl4_1 := (Kd.R_reads' HO_4.out).1
    rw [hl4_1] at HO_4
    (try simp only [hl4_1])
    cases gk with
    | zero => exact absurd HA.out (by simp [tag_Canon.l0])
    | succ k1 =>
     have H := HA.out
     clear HA
     simp only [tag_Canon.l0] at H
     by_cases c13 : x5_1 < (t295.length : Int)
     ·
      rw [if_pos c13] at H
      have c13b0 : decide (x5_1 < (t295.length : Int)) = true := decide_eq_true c13
      clear c13
      obtain ⟨ji14, hji14⟩ : ∃ j_ : Int, (wrap64 (x5_1 - 1)) = j_ := ⟨_, rfl⟩
      (first | rw [hji14] at H | simp only [hji14] at H)
      have hji14w : (IntKind.i64.wrap (x5_1 - 1)) = ji14 := (i64_w _).trans hji14
      obtain ⟨c15b0, H⟩ := gdd H
      obtain ⟨c16b0, H⟩ := gdd H
      obtain ⟨c17b0, H⟩ := gdd H
      obtain ⟨t298, A18, H⟩ := bs H
      try dsimp only at H
      by_cases c19 : t298 = 0
      ·
       rw [if_pos c19] at H
       have c19b0 : (t298 == 0) = true := beq_iff_eq.mpr c19
       have c19b1 : (t298 != 0) = false := bne_eq_false_iff_eq.mpr c19
       clear c19
       simp only [Option.some.injEq, Prod.mk.injEq] at H
       obtain ⟨rfl, rfl⟩ := H
       try go_wp2
       replace HO_4 := Aside0.mk (Kd.R_drew HO_4.out)
       replace HB := Aside0.mk (below_drew1 HB.out)
       have p296 : 0 ≤ ((ji14) : Int) := od
       have q296 : (ji14) < (t295.length : Int) := od
       obtain ⟨ad296, e296, hx296_0, hx296_1⟩ := at_T98 (Kd.R_reads' HO_4.out).2.2 (ji14) p296 q296
       cases e296
       replace p296 := eq_true p296
       replace q296 := eq_true q296
       have p297 : 0 ≤ (x5_1 : Int) := od
       have q297 : x5_1 < (t295.length : Int) := od
       obtain ⟨ad297, e297, hx297_0, hx297_1⟩ := at_T98 (Kd.R_reads' HO_4.out).2.2 x5_1 p297 q297
       obtain rfl : ad296 = ad297 := (by injection e297)
       replace p297 := eq_true p297
       replace q297 := eq_true q297
       refine start_ (n := 11) (S := fun w' => w'.cell? (ad296.add (((ji14)).toNat * 2)) = some (.string ((rd_T98 t295 (ji14)).f0)) ∧ w'.cell? ⟨(ad296.add (((ji14)).toNat * 2)).block, (ad296.add (((ji14)).toNat * 2)).off + 1, none⟩ = some (.string ((rd_T98 t295 (ji14)).f1)) ∧ w'.cell? (ad296.add ((x5_1).toNat * 2)) = some (.string ((rd_T98 t295 x5_1).f0)) ∧ w'.cell? ⟨(ad296.add ((x5_1).toNat * 2)).block, (ad296.add ((x5_1).toNat * 2)).off + 1, none⟩ = some (.string ((rd_T98 t295 x5_1).f1))) (ds := []) _ (by kernel_rfl) rfl rfl ⟨hx296_0, hx296_1, hx297_0, hx297_1⟩ (fun hHeld => ?_); refine with_tabW tag_Canon.tab10 tag_Canon.bits10 (fun HT_ HW_ => ?_)
       generalize wr.drew = w20 at HO_4 HB hx296_0 hx296_1 hx297_0 hx297_1 hHeld ⊢
       refine p1 0 (some 21) ?_
       refine p1 1 (some 22) ?_
       refine p1 2 (some 23) ?_
       refine p1 3 (some 24) ?_
       refine p1 5 (some 26) ?_
       refine p1 6 (some 27) ?_
       refine p1 7 (some 28) ?_
       refine t1 4 (some 25) rfl rfl hHeld (Or.inl ⟨by rfl, by rintro w' ⟨s0, s1, s2, s3⟩; go_simp; with_reducible rfl⟩) ?_
       refine t1 8 (some 29) rfl rfl hHeld (Or.inl ⟨by rfl, by rintro w' ⟨s0, s1, s2, s3⟩; go_simp; with_reducible rfl⟩) ?_
       refine o1 9 (some 30) rfl rfl (fun K hK => ?_)
       refine goes_ Tryz.func102 (by kernel_rfl) rfl #[.agg #[.string ((rd_T98 t295 (ji14)).f0), .string ((rd_T98 t295 (ji14)).f1)], .agg #[.string ((rd_T98 t295 x5_1).f0), .string ((rd_T98 t295 x5_1).f1)]] (by rfl) rfl rfl (by (try simp only [List.map_toArray, List.map_cons, List.map_nil]); first | done | (simp only [hji14]; rfl) | rfl | (simp only [List.length_drop, List.length_take]; rfl)) ?_
       with_reducible refine (tag_order.calls ((rd_T98 t295 (ji14)).f0) ((rd_T98 t295 (ji14)).f1) ((rd_T98 t295 x5_1).f0) ((rd_T98 t295 x5_1).f1) t298 _ A18.out).mono ?_
       rintro e w21 ⟨rfl, hb⟩
       have HS0_ := (hb.cell (World.block_lt_of_cell? _ _ (hHeld.1))).trans (hHeld.1)
       have HS1_ := (hb.cell (World.block_lt_of_cell? _ _ (hHeld.2.1))).trans (hHeld.2.1)
       have HS2_ := (hb.cell (World.block_lt_of_cell? _ _ (hHeld.2.2.1))).trans (hHeld.2.2.1)
       have HS3_ := (hb.cell (World.block_lt_of_cell? _ _ (hHeld.2.2.2))).trans (hHeld.2.2.2)
       refine ⟨_, rfl, ?_⟩
       replace HO_4 := cR HO_4 hb
       replace HB := cW HB hb
       (try clear hb)
       refine hK.out _ _ ⟨HS0_, HS1_, HS2_, HS3_⟩ (fun hHeld => ?_)
       clear hK K
       refine norm_ (a' := ?_) ?_ ?_
       rotate_left
       ·
        show Act.put _ (some 30) _ = _
        simp only [Act.put, List.setIfInBounds_toArray, List.set_cons_zero, List.set_cons_succ, i64_w, i32_w]
        rfl
       refine p1 10 (some 31) ?_
       refine done_ (done_of HT_.out (by kernel_rfl)) ?_
       try go_wp2
       go_ret2
       exact ⟨_, by first | rfl | (simp [errW_none, errW_some] <;> rfl) | (simp only [← hji14]; first | rfl | (simp [errW_none, errW_some] <;> rfl)) | (simp [*, errW_none, errW_some] <;> rfl), nl_, uW HB.out⟩
      ·
       rw [if_neg c19] at H
       have c19b0 : (t298 == 0) = false := beq_eq_false_iff_ne.mpr c19
       have c19b1 : (t298 != 0) = true := bne_iff_ne.mpr c19
       have H' := Aside0.mk H
       clear H
       try go_wp2
       replace HO_4 := Aside0.mk (Kd.R_drew HO_4.out)
       replace HB := Aside0.mk (below_drew1 HB.out)
       have p296 : 0 ≤ ((ji14) : Int) := od
       have q296 : (ji14) < (t295.length : Int) := od
       obtain ⟨ad296, e296, hx296_0, hx296_1⟩ := at_T98 (Kd.R_reads' HO_4.out).2.2 (ji14) p296 q296
       cases e296
       replace p296 := eq_true p296
       replace q296 := eq_true q296
       have p297 : 0 ≤ (x5_1 : Int) := od
       have q297 : x5_1 < (t295.length : Int) := od
       obtain ⟨ad297, e297, hx297_0, hx297_1⟩ := at_T98 (Kd.R_reads' HO_4.out).2.2 x5_1 p297 q297
       obtain rfl : ad296 = ad297 := (by injection e297)
       replace p297 := eq_true p297
       replace q297 := eq_true q297
       refine start_ (n := 11) (S := fun w' => w'.cell? (ad296.add (((ji14)).toNat * 2)) = some (.string ((rd_T98 t295 (ji14)).f0)) ∧ w'.cell? ⟨(ad296.add (((ji14)).toNat * 2)).block, (ad296.add (((ji14)).toNat * 2)).off + 1, none⟩ = some (.string ((rd_T98 t295 (ji14)).f1)) ∧ w'.cell? (ad296.add ((x5_1).toNat * 2)) = some (.string ((rd_T98 t295 x5_1).f0)) ∧ w'.cell? ⟨(ad296.add ((x5_1).toNat * 2)).block, (ad296.add ((x5_1).toNat * 2)).off + 1, none⟩ = some (.string ((rd_T98 t295 x5_1).f1))) (ds := []) _ (by kernel_rfl) rfl rfl ⟨hx296_0, hx296_1, hx297_0, hx297_1⟩ (fun hHeld => ?_); refine with_tabW tag_Canon.tab10 tag_Canon.bits10 (fun HT_ HW_ => ?_)
       generalize wr.drew = w22 at HO_4 HB hx296_0 hx296_1 hx297_0 hx297_1 hHeld ⊢
       refine p1 0 (some 21) ?_
       refine p1 1 (some 22) ?_
       refine p1 2 (some 23) ?_
       refine p1 3 (some 24) ?_
       refine p1 5 (some 26) ?_
       refine p1 6 (some 27) ?_
       refine p1 7 (some 28) ?_
       refine t1 4 (some 25) rfl rfl hHeld (Or.inl ⟨by rfl, by rintro w' ⟨s0, s1, s2, s3⟩; go_simp; with_reducible rfl⟩) ?_
       refine t1 8 (some 29) rfl rfl hHeld (Or.inl ⟨by rfl, by rintro w' ⟨s0, s1, s2, s3⟩; go_simp; with_reducible rfl⟩) ?_
       refine o1 9 (some 30) rfl rfl (fun K hK => ?_)
       refine goes_ Tryz.func102 (by kernel_rfl) rfl #[.agg #[.string ((rd_T98 t295 (ji14)).f0), .string ((rd_T98 t295 (ji14)).f1)], .agg #[.string ((rd_T98 t295 x5_1).f0), .string ((rd_T98 t295 x5_1).f1)]] (by rfl) rfl rfl (by (try simp only [List.map_toArray, List.map_cons, List.map_nil]); first | done | (simp only [hji14]; rfl) | rfl | (simp only [List.length_drop, List.length_take]; rfl)) ?_
       with_reducible refine (tag_order.calls ((rd_T98 t295 (ji14)).f0) ((rd_T98 t295 (ji14)).f1) ((rd_T98 t295 x5_1).f0) ((rd_T98 t295 x5_1).f1) t298 _ A18.out).mono ?_
       rintro e w23 ⟨rfl, hb⟩
       have HS0_ := (hb.cell (World.block_lt_of_cell? _ _ (hHeld.1))).trans (hHeld.1)
       have HS1_ := (hb.cell (World.block_lt_of_cell? _ _ (hHeld.2.1))).trans (hHeld.2.1)
       have HS2_ := (hb.cell (World.block_lt_of_cell? _ _ (hHeld.2.2.1))).trans (hHeld.2.2.1)
       have HS3_ := (hb.cell (World.block_lt_of_cell? _ _ (hHeld.2.2.2))).trans (hHeld.2.2.2)
       refine ⟨_, rfl, ?_⟩
       replace HO_4 := cR HO_4 hb
       replace HB := cW HB hb
       (try clear hb)
       refine hK.out _ _ ⟨HS0_, HS1_, HS2_, HS3_⟩ (fun hHeld => ?_)
       clear hK K
       refine norm_ (a' := ?_) ?_ ?_
       rotate_left
       ·
        show Act.put _ (some 30) _ = _
        simp only [Act.put, List.setIfInBounds_toArray, List.set_cons_zero, List.set_cons_succ, i64_w, i32_w]
        rfl
       refine p1 10 (some 31) ?_
       refine done_ (done_of HT_.out (by kernel_rfl)) ?_
       try go_wp2
       (try simp only [← hl4_1])
       go_roundg k1
       case measure => have := HK1.out; omega
       case rel => exact ⟨(wrap64 (x5_1 + 1)), rs_, H', ⟨by have := HK1.out; omega⟩, ⟨by (try simp only [hl4_1]); exact uR <| HO_4.out⟩, ⟨uW HB.out⟩⟩
     ·
      rw [if_neg c13] at H
      have c13b0 : decide (x5_1 < (t295.length : Int)) = false := decide_eq_false c13
      clear c13
      simp only [Option.some.injEq, Prod.mk.injEq] at H
      obtain ⟨rfl, rfl⟩ := H
      go_wp2
      go_ret2
      exact ⟨_, re_, uR HO_4.out, uW HB.out⟩
def tag_Parse.l0 : Nat → List (S98) → List ByteArray → Int → Int → Option ((List (S98)) × Int)
 | 0, _, _, _, _ => none
 | k + 1, x4, x13, x14, x15 => if x15 < x14 then (if 0 ≤ x15 then (if x15 < (x13.length : Int) then ((strings_Cut.f (rdOf ByteArray.empty x13 x15) (⟨#[61]⟩ : ByteArray)).bind fun bt303 => (if bt303.2.2 = true then (if x4.length < 4398046511104 then (tag_Parse.l0 k (x4 ++ [(⟨bt303.1, bt303.2.1⟩ : S98)]) x13 x14 (wrap64 (x15 + 1))) else (none)) else (some (([] : List (S98)), 2)))) else (none)) else (none)) else ((tag_Canon.f k x4).bind fun bt309 => (some (bt309.1, bt309.2)))
def tag_Parse.f (k : Nat) (a0 : ByteArray) : Option ((List (S98)) × Int) := if a0.toList = ([] : List UInt8) then (some (([] : List (S98)), 0)) else ((word_Split.f k a0 44).bind fun t299 => (tag_Parse.l0 k ([] : List (S98)) t299 (t299.length : Int) 0))
theorem tag_Parse.mono_l : ∀ k, (∀ y0 y1 y2 y3, LeC (tag_Parse.l0 k y0 y1 y2 y3) (tag_Parse.l0 (k + 1) y0 y1 y2 y3))
 | 0 => fun _ _ _ _ => ⟨fun r h => by simp [tag_Parse.l0] at h⟩
 | k + 1 => by have ih0 := tag_Parse.mono_l k; exact fun _ _ _ _ => by unfold tag_Parse.l0; exact lm
theorem tag_Parse.mono : ∀ a0 k, LeO (tag_Parse.f k a0) (tag_Parse.f (k + 1) a0) := by
 intro a0 k
 have ih0 := tag_Parse.mono_l k
 unfold tag_Parse.f
 exact lo
instance tag_Parse.mI {a0 k} : LeC (tag_Parse.f k a0) (tag_Parse.f (k + 1) a0) := ⟨tag_Parse.mono _ _⟩
theorem tag_Parse.calls (k : Nat) (a0 : ByteArray) (r1 : List (S98)) (r2 : Int) (w : World) (hL : LD w) (h : tag_Parse.f k a0 = some (r1, r2)) :
 Calls Tryz.prog 65 #[.string a0] w fun e w' => ∃ v0_ : Value, e = .returned (.tuple #[v0_, .int .i64 r2]) ∧ Kd.R k98 98 w' w.heap.size (fun _ => True) v0_ r1 ∧ Below w.heap.size w w' := by
 have HL0 := Aside0.mk hL
 clear hL
 have hu98 := Tryz.underlying98
 have HB := Aside0.mk (Below.refl w.heap.size w)
 have H : (if a0.toList = ([] : List UInt8) then (some (([] : List (S98)), 0)) else ((word_Split.f k a0 44).bind fun t299 => (tag_Parse.l0 k ([] : List (S98)) t299 (t299.length : Int) 0))) = some (r1, r2) := h
 clear h
 by_cases c2 : a0.toList = ([] : List UInt8)
 ·
  rw [if_pos c2] at H
  have c2b0 : (a0.toList == ([] : List UInt8)) = true := beq_iff_eq.mpr c2
  have c2b1 : (a0.toList != ([] : List UInt8)) = false := bne_eq_false_iff_eq.mpr c2
  clear c2
  simp only [Option.some.injEq, Prod.mk.injEq] at H
  obtain ⟨rfl, rfl⟩ := H
  go_enter Tryz.func65, Tryz.ntmps65
  go_wp2
  go_ret2
  exact ⟨_, re_, nl_, uW HB.out⟩
 ·
  rw [if_neg c2] at H
  have c2b0 : (a0.toList == ([] : List UInt8)) = false := beq_eq_false_iff_ne.mpr c2
  have c2b1 : (a0.toList != ([] : List UInt8)) = true := bne_iff_ne.mpr c2
  obtain ⟨t299, A3, H⟩ := bs H
  try dsimp only at H
  have H' := Aside0.mk H
  clear H
  go_enter Tryz.func65, Tryz.ntmps65
  go_wp2_with (first | (refine gL (some 13) rfl Tryz.func39 #[.string a0, .int .u8 44] ?_; (with_reducible refine (word_Split.calls k a0 44 t299 _ A3.out).mono ?_); rintro e w4 ⟨v300, rfl, ho0, hb⟩; refine ⟨_, rfl, ?_⟩; have HO301 := Aside0.mk (Kd.R_lower ho0 (below_size (uW HB.out))); replace HB := cW HB hb; (try clear hb); (try clear ho0); obtain ⟨Ao5, co5, eo5⟩ := Kd.R_slice HO301.out; subst eo5))
  (try simp only [Act.put, List.setIfInBounds_toArray, List.set_cons_zero, List.set_cons_succ])
  go_loopg [4, 15] k (fun kq v4 v15 w' => ∃ (x4_1 : List (S98)) (x15_1 : Int), v15 = .int .i64 x15_1 ∧ Aside0 (tag_Parse.l0 kq x4_1 t299 (t299.length : Int) x15_1 = some (r1, r2)) ∧ Aside0 (kq ≤ k) ∧ Aside0 (Kd.R k98 98 w' w.heap.size (fun _ => True) v4 x4_1) ∧ Aside0 (Kd.R Kd.string 9 w' w.heap.size (fun _ => True) (.slice Ao5 t299.length co5) t299) ∧ Aside0 (Below w.heap.size w w'))
  case atStart => exact ⟨(([] : List (S98))), (0), rs_, H', ⟨Nat.le_refl _⟩, ⟨nl_⟩, ⟨uR HO301.out⟩, ⟨uW HB.out⟩⟩
  case round =>
   clear H'
   try clear c2
   try clear c2b0
   try clear c2b1
   try clear p2
   try clear c3
   obtain ⟨x4_1, x15_1, rfl, HA, HK1, HO_4, HO_13, HB⟩ := hrel
   cases gk with
   | zero => exact absurd HA.out (by simp [tag_Parse.l0])
   | succ k1 =>
    have H := HA.out
    clear HA
    simp only [tag_Parse.l0] at H
    by_cases c6 : x15_1 < (t299.length : Int)
    ·
     rw [if_pos c6] at H
     have c6b0 : decide (x15_1 < (t299.length : Int)) = true := decide_eq_true c6
     clear c6
     obtain ⟨c7b0, H⟩ := gdd H
     obtain ⟨c8b0, H⟩ := gdd H
     obtain ⟨⟨t303, t304, t305⟩, A9, H⟩ := bs H
     try dsimp only at H
     by_cases c10 : t305 = true
     ·
      subst c10
      rw [if_pos rfl] at H
      obtain ⟨c11, H⟩ := gd H
      have LMc11 := Aside0.mk c11
      clear c11
      obtain ⟨y306, hy306⟩ : ∃ y_ : List (S98), y_ = (x4_1 ++ [(⟨t303, t304⟩ : S98)]) := ⟨_, rfl⟩
      replace H : (tag_Parse.l0 k1 y306 t299 (t299.length : Int) (wrap64 (x15_1 + 1))) = some (r1, r2) := by first | (rw [hy306]; with_reducible exact H) | (have H2_ := (Option.bind_some _ _).symm.trans H; rw [hy306]; with_reducible exact H2_) | (have H2_ := (Option.bind_some _ _).symm.trans H; with_reducible exact H2_) | with_reducible exact H | (rw [hy306]; exact H) | exact H
      have Ny306 := Aside0.mk hy306
      clear hy306
      have H' := Aside0.mk H
      clear H
      have p302 : 0 ≤ (x15_1 : Int) := od
      have q302 : x15_1 < (t299.length : Int) := od
      obtain ⟨ad302, e302, hx302_0⟩ := Kd.at_string (Kd.R_reads' HO_13.out).2.2 x15_1 p302 q302
      cases e302
      replace p302 := eq_true p302
      replace q302 := eq_true q302
      go_wp2_with (first | (refine gL (some 21) rfl Tryz.func79 #[.string (rdOf ByteArray.empty t299 x15_1), .string (⟨#[61]⟩ : ByteArray)] ?_; (with_reducible refine (strings_Cut.calls (hL := ld) (rdOf ByteArray.empty t299 x15_1) (⟨#[61]⟩ : ByteArray) t303 t304 true _ A9.out).mono ?_); rintro e w' ⟨rfl, ⟨nd, rfl⟩⟩; refine ⟨_, rfl, ?_⟩) | ((with_reducible refine gate_builtin (b := .append) (xs := #[.tmp 27, .tmp 31]) rfl ?_); at_builtin; refine Kd.R_append k98 (w0 := w) w.heap.size rfl (.tmp 27) (.tmp 31) 78 98 (.agg #[(.string ⟨#[]⟩), (.string ⟨#[]⟩)]) 32 rfl Tryz.underlying78 info98 rfl (by decide) (by omega) u4 x4_1 (⟨t303, t304⟩ : S98) [.string t303, .string t304] (fun _ => True) (fun _ => False) rfl rfl ?aP (fun _ hk => hk.elim) ?aF ?aO ?aB ?aS ?aL ?_; (case aP => exact k98_mkM _ _ _ (⟨t303, t304⟩ : S98)); (case aB => exact (uW HB.out)); (case aF => exact (fun _ _ => trivial)); (case aO => exact (uR HO_4.out)); (case aS => exact (below_size (uW HB.out))); (case aL => have := LMc11.out; omega); intro v307 w12 ho hb hg hat; rw [← Ny306.out] at ho; replace HO_13 := Aside0.mk (Kd.R_over' (uR HO_13.out) (Kd.R_typed (uR HO_4.out)) (by decide) hg); replace HB := Aside0.mk (hb); have HO308 := Aside0.mk (ho); clear HO_4; clear ho hb hg hat))
      go_roundg k1
      case measure => have := HK1.out; omega
      case rel => exact ⟨(y306), (wrap64 (x15_1 + 1)), rs_, H', ⟨by have := HK1.out; omega⟩, ⟨uR HO308.out⟩, ⟨uR HO_13.out⟩, ⟨uW HB.out⟩⟩
     ·
      replace c10 := Bool.eq_false_iff.mpr c10
      subst c10
      rw [if_neg (show ¬ (false = true) by decide)] at H
      simp only [Option.some.injEq, Prod.mk.injEq] at H
      obtain ⟨rfl, rfl⟩ := H
      have p302 : 0 ≤ (x15_1 : Int) := od
      have q302 : x15_1 < (t299.length : Int) := od
      obtain ⟨ad302, e302, hx302_0⟩ := Kd.at_string (Kd.R_reads' HO_13.out).2.2 x15_1 p302 q302
      cases e302
      replace p302 := eq_true p302
      replace q302 := eq_true q302
      go_wp2_with (first | (refine gL (some 21) rfl Tryz.func79 #[.string (rdOf ByteArray.empty t299 x15_1), .string (⟨#[61]⟩ : ByteArray)] ?_; (with_reducible refine (strings_Cut.calls (hL := ld) (rdOf ByteArray.empty t299 x15_1) (⟨#[61]⟩ : ByteArray) t303 t304 false _ A9.out).mono ?_); rintro e w' ⟨rfl, ⟨nd, rfl⟩⟩; refine ⟨_, rfl, ?_⟩))
      go_ret2
      exact ⟨_, re_, nl_, uW HB.out⟩
    ·
     rw [if_neg c6] at H
     have c6b0 : decide (x15_1 < (t299.length : Int)) = false := decide_eq_false c6
     clear c6
     obtain ⟨⟨t309, t310⟩, A13, H⟩ := bs H
     try dsimp only at H
     simp only [Option.some.injEq, Prod.mk.injEq] at H
     obtain ⟨rfl, rfl⟩ := H
     obtain ⟨Ao14, co14, eo14⟩ := Kd.R_slice HO_4.out
     subst eo14
     go_wp2_with (first | (refine gL (some 35) rfl Tryz.func80 #[.slice Ao14 x4_1.length co14] ?_; (with_reducible refine (tag_Canon.calls k1 _ _ x4_1 t309 t310 _ ?side1 ?side2 A13.out).mono ?_); (case side1 => exact uC <| (Kd.R_reads' HO_4.out).2.2); (case side2 => exact (Kd.R_reads' HO_4.out).2.1); rintro e w15 ⟨v311, rfl, ho0, hb⟩; refine ⟨_, rfl, ?_⟩; replace HO_13 := cR HO_13 hb; have HO312 := Aside0.mk (Kd.R_lower (Kd.R_new' ho0 (Kd.R_lt (uR HO_4.out))) (below_size (uW HB.out))); replace HO_4 := Aside0.mk (Kd.R_elder' (uR HO_4.out) (Kd.R_base ho0) hb); replace HB := cW HB hb; (try clear hb); (try clear ho0)))
     go_ret2
     exact ⟨_, re_, by exact uR <| Kd.R_mono HO312.out (fun _ hk => trivial), uW HB.out⟩
def strings_Join.f (l0 : List ByteArray) (a1 : ByteArray) : Option (ByteArray) := if l0.length ≤ 140737488355328 ∧ (Lib.join (l0.map (·.data.toList)) a1.data.toList).length ≤ 140737488355328 then (some (⟨(Lib.join (l0.map (·.data.toList)) a1.data.toList).toArray⟩ : ByteArray)) else (none)
theorem strings_Join.calls (A0 : Option Addr) (c0 : Nat) (l0 : List ByteArray) (a1 : ByteArray) (r : ByteArray) (w : World) (hr0 : Kd.C Kd.string w A0 l0.length l0) (hc0 : l0.length ≤ c0) (h : strings_Join.f l0 a1 = some r) :
 Calls Tryz.prog 52 #[.slice A0 l0.length c0, .string a1] w fun e w' => e = .returned (.string r) ∧ Below w.heap.size w w' := by
 unfold strings_Join.f at h
 by_cases hc : l0.length ≤ 140737488355328 ∧ (Lib.join (l0.map (·.data.toList)) a1.data.toList).length ≤ 140737488355328
 ·
  rw [if_pos hc] at h
  obtain rfl := Option.some.inj h
  cases hl : l0 with
  | nil => exact (Tryz.strings_Join_none A0 c0 a1 w).mono fun e w' hh => ⟨hh.1, hh.2 ▸ Below.refl _ _⟩
  | cons x xs =>
   rw [← hl]
   have hpos : 0 < l0.length := by rw [hl]; simp
   obtain ⟨ad, e0, h0⟩ := Kd.at_string hr0 0 (Int.le_refl _) (by omega)
   subst e0
   obtain ⟨b, o, p⟩ := ad
   have hnn : p = none := by
    cases p with
    | none => rfl
    | some q =>
     exfalso
     revert h0
     unfold World.cell?
     simp only [Addr.add]
     split <;> simp
   subst hnn
   refine Tryz.strings_Join b o c0 l0 a1 w (fun j y hy => ?_) ?_ hc.1 hc0 hc.2
   ·
    obtain ⟨hj, hy2⟩ := List.getElem?_eq_some_iff.mp hy
    obtain ⟨ad2, e2, h2⟩ := Kd.at_string hr0 (j : Int) (by omega) (by omega)
    cases e2
    rw [Int.toNat_natCast, Addr.add_lit] at h2
    rw [h2]
    congr 2
    show l0.getD ((j : Int)).toNat _ = y
    rw [Int.toNat_natCast, List.getD_eq_getElem?_getD, hy, Option.getD_some]
   ·
    exact World.block_lt_of_cell? w _ h0
 ·
  rw [if_neg hc] at h
  exact absurd h (by simp)
def word_Join.f (a0 : ByteArray) (l1 : List ByteArray) : Option (ByteArray) := (strings_Join.f l1 a0).bind fun t313 => (some t313)
theorem word_Join.calls (a0 : ByteArray) (A1 : Option Addr) (c1 : Nat) (l1 : List ByteArray) (r : ByteArray) (w : World) (hr1 : Kd.C Kd.string w A1 l1.length l1) (hc1 : l1.length ≤ c1) (h : word_Join.f a0 l1 = some r) :
 Calls Tryz.prog 30 #[.string a0, .slice A1 l1.length c1] w fun e w' => e = .returned (.string r) ∧ Below w.heap.size w w' := by
 have HR1 := Aside0.mk hr1
 have HC1 := Aside0.mk hc1
 clear hr1 hc1
 have HB := Aside0.mk (Below.refl w.heap.size w)
 have H : ((strings_Join.f l1 a0).bind fun t313 => (some t313)) = some r := h
 clear h
 obtain ⟨t313, A3, H⟩ := bs H
 try dsimp only at H
 obtain rfl := Option.some.inj H
 go_enter Tryz.func30, Tryz.ntmps30
 go_wp2_with (first | (refine gL (some 7) rfl Tryz.func52 #[.slice A1 l1.length c1, .string a0] ?_; (with_reducible refine (strings_Join.calls _ _ l1 a0 t313 _ ?side1 ?side2 A3.out).mono ?_); (case side1 => exact uC <| HR1.out); (case side2 => exact HC1.out); rintro e w4 ⟨rfl, hb⟩; refine ⟨_, rfl, ?_⟩; replace HB := cW HB hb; (try clear hb)))
 go_ret
 exact ⟨re_, uW HB.out⟩
def tag_Text.l0 : Nat → List ByteArray → List (S98) → Int → Int → Option (ByteArray)
 | 0, _, _, _, _ => none
 | k + 1, x3, x6, x7, x8 => if x8 < x7 then (if 0 ≤ x8 then (if x8 < (x6.length : Int) then ((word_Join.f (⟨#[61]⟩ : ByteArray) (([(rd_T98 x6 x8).f0, (rd_T98 x6 x8).f1] : List ByteArray))).bind fun t319 => (if x3.length < 8796093022208 then (tag_Text.l0 k (x3 ++ [t319]) x6 x7 (wrap64 (x8 + 1))) else (none))) else (none)) else (none)) else ((word_Join.f (⟨#[44]⟩ : ByteArray) x3).bind fun t323 => (some t323))
def tag_Text.f (k : Nat) (l0 : List (S98)) : Option (ByteArray) := tag_Text.l0 k ([] : List ByteArray) l0 (l0.length : Int) 0
theorem tag_Text.mono_l : ∀ k, (∀ y0 y1 y2 y3, LeC (tag_Text.l0 k y0 y1 y2 y3) (tag_Text.l0 (k + 1) y0 y1 y2 y3))
 | 0 => fun _ _ _ _ => ⟨fun r h => by simp [tag_Text.l0] at h⟩
 | k + 1 => by have ih0 := tag_Text.mono_l k; exact fun _ _ _ _ => by unfold tag_Text.l0; exact lm
theorem tag_Text.mono : ∀ a0 k, LeO (tag_Text.f k a0) (tag_Text.f (k + 1) a0) := by
 intro a0 k
 have ih0 := tag_Text.mono_l k
 unfold tag_Text.f
 exact lo
instance tag_Text.mI {a0 k} : LeC (tag_Text.f k a0) (tag_Text.f (k + 1) a0) := ⟨tag_Text.mono _ _⟩
theorem tag_Text.calls (k : Nat) (A0 : Option Addr) (c0 : Nat) (l0 : List (S98)) (r : ByteArray) (w : World) (hr0 : Kd.C k98 w A0 l0.length l0) (hc0 : l0.length ≤ c0) (h : tag_Text.f k l0 = some r) :
 Calls Tryz.prog 66 #[.slice A0 l0.length c0] w fun e w' => e = .returned (.string r) ∧ Below w.heap.size w w' := by
 have hu98 := Tryz.underlying98
 have HR0 := Aside0.mk hr0
 have HC0 := Aside0.mk hc0
 clear hr0 hc0
 have HB := Aside0.mk (Below.refl w.heap.size w)
 have H : (tag_Text.l0 k ([] : List ByteArray) l0 (l0.length : Int) 0) = some r := h
 clear h
 have H' := Aside0.mk H
 clear H
 go_enter Tryz.func66, Tryz.ntmps66
 go_wp2
 go_loopg [3, 8] k (fun kq v3 v8 w' => ∃ (x3_1 : List ByteArray) (x8_1 : Int), v8 = .int .i64 x8_1 ∧ Aside0 (tag_Text.l0 kq x3_1 l0 (l0.length : Int) x8_1 = some r) ∧ Aside0 (kq ≤ k) ∧ Aside0 (Kd.R Kd.string 9 w' w.heap.size (fun _ => True) v3 x3_1) ∧ Aside0 (Below w.heap.size w w'))
 case atStart => exact ⟨(([] : List ByteArray)), (0), rs_, H', ⟨Nat.le_refl _⟩, ⟨nl_⟩, ⟨uW HB.out⟩⟩
 case round =>
  clear H'
  obtain ⟨x3_1, x8_1, rfl, HA, HK1, HO_3, HB⟩ := hrel
  cases gk with
  | zero => exact absurd HA.out (by simp [tag_Text.l0])
  | succ k1 =>
   have H := HA.out
   clear HA
   simp only [tag_Text.l0] at H
   by_cases c2 : x8_1 < (l0.length : Int)
   ·
    rw [if_pos c2] at H
    have c2b0 : decide (x8_1 < (l0.length : Int)) = true := decide_eq_true c2
    clear c2
    obtain ⟨c3b0, H⟩ := gdd H
    obtain ⟨c4b0, H⟩ := gdd H
    obtain ⟨y316, hy316⟩ : ∃ y_ : List ByteArray, y_ = (([(rd_T98 l0 x8_1).f0, (rd_T98 l0 x8_1).f1] : List ByteArray)) := ⟨_, rfl⟩
    replace H : ((word_Join.f (⟨#[61]⟩ : ByteArray) y316).bind fun t319 => (if x3_1.length < 8796093022208 then (tag_Text.l0 k1 (x3_1 ++ [t319]) l0 (l0.length : Int) (wrap64 (x8_1 + 1))) else (none))) = some r := by first | (rw [hy316]; with_reducible exact H) | (have H2_ := (Option.bind_some _ _).symm.trans H; rw [hy316]; with_reducible exact H2_) | (have H2_ := (Option.bind_some _ _).symm.trans H; with_reducible exact H2_) | with_reducible exact H | (rw [hy316]; exact H) | exact H
    have Ny316 := Aside0.mk hy316
    clear hy316
    obtain ⟨t319, A5, H⟩ := bs H
    try dsimp only at H
    obtain ⟨c6, H⟩ := gd H
    have LMc6 := Aside0.mk c6
    clear c6
    obtain ⟨y320, hy320⟩ : ∃ y_ : List ByteArray, y_ = (x3_1 ++ [t319]) := ⟨_, rfl⟩
    replace H : (tag_Text.l0 k1 y320 l0 (l0.length : Int) (wrap64 (x8_1 + 1))) = some r := by first | (rw [hy320]; with_reducible exact H) | (have H2_ := (Option.bind_some _ _).symm.trans H; rw [hy320]; with_reducible exact H2_) | (have H2_ := (Option.bind_some _ _).symm.trans H; with_reducible exact H2_) | with_reducible exact H | (rw [hy320]; exact H) | exact H
    have Ny320 := Aside0.mk hy320
    clear hy320
    have H' := Aside0.mk H
    clear H
    have p314 : 0 ≤ (x8_1 : Int) := od
    have q314 : x8_1 < (l0.length : Int) := od
    obtain ⟨ad314, e314, hx314_0, hx314_1⟩ := at_T98 HR0.out x8_1 p314 q314
    cases e314
    replace hx314_0 := kc HB hx314_0
    replace hx314_1 := kc HB hx314_1
    replace p314 := eq_true p314
    replace q314 := eq_true q314
    go_wp2_with (first | ((with_reducible refine gate_dst (N := 5) rfl ?_); refine bx (N := 5) #[.string (⟨#[]⟩ : ByteArray), .string (⟨#[]⟩ : ByteArray)] 98 ?_; intro gb315 hg w7 hbox hb; replace HO_3 := cR HO_3 hb; have BK315 := Aside0.mk (hbox); have GW315 := gw hg (uW HB.out); have GE315 := GW315; replace HB := cW HB hb; clear hb hbox hg; obtain ⟨hcz8_0, hcz8_1, hfz8_0, hfz8_1⟩ := z2 BK315) | ((with_reducible refine gate_dst (N := 17) rfl ?_); refine Kd.R_lit Kd.string _ 9 ?hg (N := 17) ?hd (xs := ([(rd_T98 l0 x8_1).f0, (rd_T98 l0 x8_1).f1] : List ByteArray)) (inner := [.string ((rd_T98 l0 x8_1).f0), .string ((rd_T98 l0 x8_1).f1)]) (ok := fun _ => True) (okp := fun _ => True) ?hr ?hp (fun _ hk => hk) trivial (Below.refl _ _) (Nat.le_refl _) (by simp) ?_; (case hd => rfl); (case hg => rfl); (case hr => first | (go_simp; done) | (go_simp; rfl)); (case hp => exact (Reps.one (show Kd.M Kd.string _ _ _ ((rd_T98 l0 x8_1).f0) [.string ((rd_T98 l0 x8_1).f0)] from rfl) (Reps.one (show Kd.M Kd.string _ _ _ ((rd_T98 l0 x8_1).f1) [.string ((rd_T98 l0 x8_1).f1)] from rfl) (Reps.none _ _)))); intro v317 w9 ho10 hb hg_ hnew_; clear hg_ hnew_; (first | rw [← Ny316.out] at ho10 | (simp only [Int.reduceToNat] at ho10; rw [← Ny316.out] at ho10)); have HO318 := Aside0.mk (Kd.R_lower (Kd.R_new' ho10 (Kd.R_lt (by exact uR <| (Kd.R_mono (Kd.R_far (p := ⟨gb315, 1, none⟩) (Kd.R_far (p := ⟨gb315, 0, none⟩) (Kd.R_types HO_3.out BK315.out (by decide)) (fun _ hk => hk.2) (.string ((rd_T98 l0 x8_1).f0))) (fun _ hk => hk.2) (.string ((rd_T98 l0 x8_1).f1))) (fun _ h_ => h_.1))))) (below_size bl)); replace HO_3 := Aside0.mk (Kd.R_elder' (by exact uR <| (Kd.R_mono (Kd.R_far (p := ⟨gb315, 1, none⟩) (Kd.R_far (p := ⟨gb315, 0, none⟩) (Kd.R_types HO_3.out BK315.out (by decide)) (fun _ hk => hk.2) (.string ((rd_T98 l0 x8_1).f0))) (fun _ hk => hk.2) (.string ((rd_T98 l0 x8_1).f1))) (fun _ h_ => h_.1))) (Kd.R_base ho10) hb); replace BK315 := Aside0.mk (blk_below (g := gb315) (o := .cells #[.string ((rd_T98 l0 x8_1).f0), .string ((rd_T98 l0 x8_1).f1)] 98 (0, 0)) (by (with_reducible repeat (first | refine blk_drewN ?_ _ | refine blk_drew ?_ | refine blk_alloc ?_ _)); refine blk_put (cs := #[.string ((rd_T98 l0 x8_1).f0), .string (⟨#[]⟩ : ByteArray)]) ?_ 1 _ rfl; (with_reducible repeat (first | refine blk_drewN ?_ _ | refine blk_drew ?_ | refine blk_alloc ?_ _)); refine blk_put (cs := #[.string (⟨#[]⟩ : ByteArray), .string (⟨#[]⟩ : ByteArray)]) ?_ 0 _ rfl; exact uB <| BK315.out) hb); replace HB := Aside0.mk (below_step bl hb); clear hb ho10; obtain ⟨Ao11, co11, eo11⟩ := Kd.R_slice HO318.out; subst eo11) | (refine gL (some 18) rfl Tryz.func30 #[.string (⟨#[61]⟩ : ByteArray), .slice Ao11 y316.length co11] ?_; (with_reducible refine (word_Join.calls (⟨#[61]⟩ : ByteArray) _ _ y316 t319 _ ?side1 ?side2 A5.out).mono ?_); (case side1 => exact uC <| (Kd.R_reads' HO318.out).2.2); (case side2 => exact (Kd.R_reads' HO318.out).2.1); rintro e w12 ⟨rfl, hb⟩; refine ⟨_, rfl, ?_⟩; replace HO_3 := cR HO_3 hb; replace HO318 := cR HO318 hb; replace BK315 := cB BK315 hb; replace HB := Aside0.mk (below_step bl hb); (try clear hb)) | ((with_reducible refine gate_builtin (b := .append) (xs := #[.tmp 12, .tmp 19]) rfl ?_); at_builtin; refine Kd.R_append Kd.string (w0 := w) w.heap.size rfl (.tmp 12) (.tmp 19) 52 9 (.string ⟨#[]⟩) 16 rfl Tryz.underlying52 info9 rfl (by decide) (by omega) u3 x3_1 t319 [.string t319] (fun k_ => some k_ ≠ (.slice Ao11 y316.length co11 : Value).ownBlock) (fun _ => False) rfl rfl ?aP (fun _ hk => hk.elim) ?aF ?aO ?aB ?aS ?aL ?_; (case aP => exact rfl); (case aB => exact bl); (case aF => exact (fun k_ hk => Kd.fresh' (Kd.R_lt (uR HO318.out)) k_ hk)); (case aO => exact (by exact uR <| Kd.R_mono HO_3.out (fun _ hk => hk.2))); (case aS => exact (below_size bl)); (case aL => have := LMc6.out; omega); intro v321 w13 ho hb hg hat; rw [← Ny320.out] at ho; replace BK315 := Aside0.mk (blk_grown (g := gb315) (o := .cells #[.string ((rd_T98 l0 x8_1).f0), .string ((rd_T98 l0 x8_1).f1)] 98 (0, 0)) (uB BK315.out) hg (Kd.R_ne HO_3.out BK315.out (by decide))); replace HO318 := Aside0.mk (Kd.R_after (ok := (fun _ => True)) (uR HO318.out) hg hat); replace HB := Aside0.mk (hb); have HO322 := Aside0.mk (ho); clear HO_3; clear ho hb hg hat))
    go_roundg k1
    case measure => have := HK1.out; omega
    case rel => exact ⟨(y320), (wrap64 (x8_1 + 1)), rs_, H', ⟨by have := HK1.out; omega⟩, ⟨by exact uR <| Kd.R_mono HO322.out (fun _ hk => trivial)⟩, ⟨bl⟩⟩
   ·
    rw [if_neg c2] at H
    have c2b0 : decide (x8_1 < (l0.length : Int)) = false := decide_eq_false c2
    clear c2
    obtain ⟨t323, A14, H⟩ := bs H
    try dsimp only at H
    obtain rfl := Option.some.inj H
    obtain ⟨Ao15, co15, eo15⟩ := Kd.R_slice HO_3.out
    subst eo15
    go_wp2_with (first | (refine gL (some 23) rfl Tryz.func30 #[.string (⟨#[44]⟩ : ByteArray), .slice Ao15 x3_1.length co15] ?_; (with_reducible refine (word_Join.calls (⟨#[44]⟩ : ByteArray) _ _ x3_1 t323 _ ?side1 ?side2 A14.out).mono ?_); (case side1 => exact uC <| (Kd.R_reads' HO_3.out).2.2); (case side2 => exact (Kd.R_reads' HO_3.out).2.1); rintro e w16 ⟨rfl, hb⟩; refine ⟨_, rfl, ?_⟩; replace HO_3 := cR HO_3 hb; replace HB := cW HB hb; (try clear hb)))
    go_ret
    exact ⟨re_, uW HB.out⟩
def row_group.f (k : Nat) (a0 : ByteArray) : Option (Int) := (tag_Parse.f k a0).bind fun bt324 => (if bt324.2 = 0 then ((tag_Text.f k bt324.1).bind fun t328 => (if t328.toList = a0.toList then (some bt324.2) else (some 2))) else (some bt324.2))
theorem row_group.mono : ∀ a0 k, LeO (row_group.f k a0) (row_group.f (k + 1) a0) := by
 intro a0 k
 unfold row_group.f
 exact lo
instance row_group.mI {a0 k} : LeC (row_group.f k a0) (row_group.f (k + 1) a0) := ⟨row_group.mono _ _⟩
theorem row_group.calls (k : Nat) (a0 : ByteArray) (r : Int) (w : World) (hL : LD w) (h : row_group.f k a0 = some r) :
 Calls Tryz.prog 48 #[.string a0] w fun e w' => e = .returned (.int .i64 r) ∧ Below w.heap.size w w' := by
 have HL0 := Aside0.mk hL
 clear hL
 have HB := Aside0.mk (Below.refl w.heap.size w)
 have H : ((tag_Parse.f k a0).bind fun bt324 => (if bt324.2 = 0 then ((tag_Text.f k bt324.1).bind fun t328 => (if t328.toList = a0.toList then (some bt324.2) else (some 2))) else (some bt324.2))) = some r := h
 clear h
 obtain ⟨⟨t324, t325⟩, A2, H⟩ := bs H
 try dsimp only at H
 by_cases c3 : t325 = 0
 ·
  rw [if_pos c3] at H
  have c3b0 : (t325 == 0) = true := beq_iff_eq.mpr c3
  have c3b1 : (t325 != 0) = false := bne_eq_false_iff_eq.mpr c3
  clear c3
  obtain ⟨t328, A4, H⟩ := bs H
  try dsimp only at H
  by_cases c5 : t328.toList = a0.toList
  ·
   rw [if_pos c5] at H
   have c5b0 : (t328.toList == a0.toList) = true := beq_iff_eq.mpr c5
   have c5b1 : (t328.toList != a0.toList) = false := bne_eq_false_iff_eq.mpr c5
   clear c5
   obtain rfl := Option.some.inj H
   go_enter Tryz.func48, Tryz.ntmps48
   go_wp2_with (first | (refine gL (some 7) rfl Tryz.func65 #[.string a0] ?_; (with_reducible refine (tag_Parse.calls (hL := ld) k a0 t324 t325 _ A2.out).mono ?_); rintro e w6 ⟨v326, rfl, ho0, hb⟩; refine ⟨_, rfl, ?_⟩; have HO327 := Aside0.mk (Kd.R_lower ho0 (below_size (uW HB.out))); replace HB := cW HB hb; (try clear hb); (try clear ho0); obtain ⟨Ao7, co7, eo7⟩ := Kd.R_slice HO327.out; subst eo7) | (go_at_call 66; (with_reducible refine (tag_Text.calls k _ _ t324 t328 _ ?side1 ?side2 A4.out).mono ?_); (case side1 => exact uC <| (Kd.R_reads' HO327.out).2.2); (case side2 => exact (Kd.R_reads' HO327.out).2.1); rintro e w8 ⟨rfl, hb⟩; replace HO327 := cR HO327 hb; replace HB := cW HB hb; (try clear hb)))
   go_ret
   exact ⟨re_, uW HB.out⟩
  ·
   rw [if_neg c5] at H
   have c5b0 : (t328.toList == a0.toList) = false := beq_eq_false_iff_ne.mpr c5
   have c5b1 : (t328.toList != a0.toList) = true := bne_iff_ne.mpr c5
   obtain rfl := Option.some.inj H
   go_enter Tryz.func48, Tryz.ntmps48
   go_wp2_with (first | (refine gL (some 7) rfl Tryz.func65 #[.string a0] ?_; (with_reducible refine (tag_Parse.calls (hL := ld) k a0 t324 t325 _ A2.out).mono ?_); rintro e w9 ⟨v326, rfl, ho0, hb⟩; refine ⟨_, rfl, ?_⟩; have HO327 := Aside0.mk (Kd.R_lower ho0 (below_size (uW HB.out))); replace HB := cW HB hb; (try clear hb); (try clear ho0); obtain ⟨Ao10, co10, eo10⟩ := Kd.R_slice HO327.out; subst eo10) | (go_at_call 66; (with_reducible refine (tag_Text.calls k _ _ t324 t328 _ ?side1 ?side2 A4.out).mono ?_); (case side1 => exact uC <| (Kd.R_reads' HO327.out).2.2); (case side2 => exact (Kd.R_reads' HO327.out).2.1); rintro e w11 ⟨rfl, hb⟩; replace HO327 := cR HO327 hb; replace HB := cW HB hb; (try clear hb)))
   go_ret
   exact ⟨re_, uW HB.out⟩
 ·
  rw [if_neg c3] at H
  have c3b0 : (t325 == 0) = false := beq_eq_false_iff_ne.mpr c3
  have c3b1 : (t325 != 0) = true := bne_iff_ne.mpr c3
  obtain rfl := Option.some.inj H
  go_enter Tryz.func48, Tryz.ntmps48
  go_wp2_with (first | (refine gL (some 7) rfl Tryz.func65 #[.string a0] ?_; (with_reducible refine (tag_Parse.calls (hL := ld) k a0 t324 t325 _ A2.out).mono ?_); rintro e w12 ⟨v326, rfl, ho0, hb⟩; refine ⟨_, rfl, ?_⟩; have HO327 := Aside0.mk (Kd.R_lower ho0 (below_size (uW HB.out))); replace HB := cW HB hb; (try clear hb); (try clear ho0)))
  go_ret
  exact ⟨re_, uW HB.out⟩
def row_Right_1.f (k : Nat) (a0_0 : Int) (a0_1 : ByteArray) (a0_2 : Int) (a0_3 : Bool) : Option (Bool) := (row_group.f k a0_1).bind fun t330 => (some (t330 != 0))
theorem row_Right_1.mono : ∀ a0 a1 a2 a3 k, LeO (row_Right_1.f k a0 a1 a2 a3) (row_Right_1.f (k + 1) a0 a1 a2 a3) := by
 intro a0 a1 a2 a3 k
 unfold row_Right_1.f
 exact lo
instance row_Right_1.mI {a0 a1 a2 a3 k} : LeC (row_Right_1.f k a0 a1 a2 a3) (row_Right_1.f (k + 1) a0 a1 a2 a3) := ⟨row_Right_1.mono _ _ _ _ _⟩
theorem row_Right_1.calls (k : Nat) (a0_0 : Int) (a0_1 : ByteArray) (a0_2 : Int) (a0_3 : Bool) (r : Bool) (w : World) (hL : LD w) (h : row_Right_1.f k a0_0 a0_1 a0_2 a0_3 = some r) :
 Calls Tryz.prog 47 #[.agg #[.int .i64 a0_0, .string a0_1, .int .i64 a0_2, .bool a0_3]] w fun e w' => e = .returned (.bool r) ∧ Below w.heap.size w w' := by
 have HL0 := Aside0.mk hL
 clear hL
 have hu45 := Tryz.underlying45
 have HB := Aside0.mk (Below.refl w.heap.size w)
 have H : ((row_group.f k a0_1).bind fun t330 => (some (t330 != 0))) = some r := h
 clear h
 obtain ⟨t330, A2, H⟩ := bs H
 try dsimp only at H
 obtain rfl := Option.some.inj H
 go_enter Tryz.func47, Tryz.ntmps47
 go_wp2_with (first | ((with_reducible refine gate_dst (N := 1) rfl ?_); refine bx (N := 1) #[.int .i64 a0_0, .string a0_1, .int .i64 a0_2, .bool a0_3] 45 ?_; intro gb329 hg w3 hbox hb; have BK329 := Aside0.mk (hbox); have GW329 := gw hg (uW HB.out); have GE329 := GW329; replace HB := cW HB hb; clear hb hbox hg; obtain ⟨hcz4_0, hcz4_1, hcz4_2, hcz4_3, hfz4_0, hfz4_1, hfz4_2, hfz4_3⟩ := z4 BK329) | (refine gL (some 5) rfl Tryz.func48 #[.string a0_1] ?_; (with_reducible refine (row_group.calls (hL := ld) k a0_1 t330 _ A2.out).mono ?_); rintro e w5 ⟨rfl, hb⟩; refine ⟨_, rfl, ?_⟩; replace BK329 := cB BK329 hb; replace HB := Aside0.mk (below_step bl hb); (try clear hb)))
 go_ret
 exact ⟨re_, bl⟩
theorem api_Row_with_47_64.goesV_ {P : Program} {ops : Array Oper} {Q : Exit → Act → World → Prop} {oi : Oper} {N : Option Tmp} {a : Act} {w : World} {K : Act → World → Prop} {f : FuncId} {fn : Func} {cal : Operand} {as_ : Array Operand} {ts : Array TypeId} (hf : P.funcs[f]? = some fn) (hname : (fn.name == "runtime.NumGoroutine") = false) (hb : fn.body.isSome = true) (args : Array Value)
 (hw : Region.wanted oi (yielded ops a.tmps) = true) (hN : oi.dst = N) (hop : oi.op = .call { callee := .value cal, args := as_, argTypes := ts }) (hev : a.eval cal = .func (.func f) #[] #[]) (hargs : as_.map a.eval = args)
 (h : Calls P f args w fun e w' => ∃ v, e = .returned v ∧ K (a.put N v) w') : if Region.wanted oi (yielded ops a.tmps) = true then Oper.wp P oi a w K Q else K (a.put N undef) w := by
 refine call_ f args hw hN ?_ h
 have he := enters_ hf hname hb args w
 unfold execOp
 simp [hop, resolve, Deferred.ofValue, invoke, hev, hargs, he]
theorem api_Row_with_47_64.goesVL_ {P : Program} {ops : Array Oper} {Q : Exit → Act → World → Prop} {rest : List Oper} {oi : Oper} {a : Act} {w : World} (N : Option Tmp) (hd : oi.dst = N) (hg : oi.guard = none) {f : FuncId} {fn : Func} {cal : Operand} {as_ : Array Operand} {ts : Array TypeId} (hf : P.funcs[f]? = some fn) (hname : (fn.name == "runtime.NumGoroutine") = false) (hb : fn.body.isSome = true) (args : Array Value)
 (hop : oi.op = .call { callee := .value cal, args := as_, argTypes := ts }) (hev : a.eval cal = .func (.func f) #[] #[]) (hargs : as_.map a.eval = args)
 (h : Calls P f args w fun e w' => ∃ v, e = .returned v ∧ wpList P ops Q rest (a.put N v) w') : wpList P ops Q (oi :: rest) a w := by
 refine wpList_plain hg fun K hK => ?_
 have he := enters_ hf hname hb args w
 have hrun : (execOp a.eval oi).run P w = .ok (.enter f args) w := by
  unfold execOp
  simp [hop, resolve, Deferred.ofValue, invoke, hev, hargs, he]
 unfold Oper.wp
 rw [hrun, Oper.upon_enter]
 refine h.mono fun e w'' hh => ?_
 obtain ⟨v, rfl, hk⟩ := hh
 subst hd
 exact hK _ _ hk
def api_Row_with_47_64.l0 : Nat → List (S45) → Int → Int → Option (Int)
 | 0, _, _, _ => none
 | k + 1, x0, x7, x8 => if x8 < x7 then (if 0 ≤ x8 then (if x8 < (x0.length : Int) then ((row_Right_1.f k ((rd_T45 x0 x8).f0) ((rd_T45 x0 x8).f1) ((rd_T45 x0 x8).f2.f0) ((rd_T45 x0 x8).f2.f1)).bind fun t332 => (if t332 = true then (some x8) else (api_Row_with_47_64.l0 k x0 x7 (wrap64 (x8 + 1))))) else (none)) else (none)) else (some (-1))
def api_Row_with_47_64.f (k : Nat) (l0 : List (S45)) : Option (Int) := api_Row_with_47_64.l0 k l0 (l0.length : Int) 0
theorem api_Row_with_47_64.mono_l : ∀ k, (∀ y0 y1 y2, LeC (api_Row_with_47_64.l0 k y0 y1 y2) (api_Row_with_47_64.l0 (k + 1) y0 y1 y2))
 | 0 => fun _ _ _ => ⟨fun r h => by simp [api_Row_with_47_64.l0] at h⟩
 | k + 1 => by have ih0 := api_Row_with_47_64.mono_l k; exact fun _ _ _ => by unfold api_Row_with_47_64.l0; exact lm
theorem api_Row_with_47_64.mono : ∀ a0 k, LeO (api_Row_with_47_64.f k a0) (api_Row_with_47_64.f (k + 1) a0) := by
 intro a0 k
 have ih0 := api_Row_with_47_64.mono_l k
 unfold api_Row_with_47_64.f
 exact lo
instance api_Row_with_47_64.mI {a0 k} : LeC (api_Row_with_47_64.f k a0) (api_Row_with_47_64.f (k + 1) a0) := ⟨api_Row_with_47_64.mono _ _⟩
theorem api_Row_with_47_64.calls (k : Nat) (A0 : Option Addr) (c0 : Nat) (l0 : List (S45)) (r : Int) (w : World) (hr0 : Kd.C k45 w A0 l0.length l0) (hc0 : l0.length ≤ c0) (hL : LD w) (h : api_Row_with_47_64.f k l0 = some r) :
 Calls Tryz.prog 64 #[.slice A0 l0.length c0, .func (.func 47) #[] #[]] w fun e w' => e = .returned (.int .i64 r) ∧ Below w.heap.size w w' := by
 have HL0 := Aside0.mk hL
 clear hL
 have hu45 := Tryz.underlying45
 have HR0 := Aside0.mk hr0
 have HC0 := Aside0.mk hc0
 clear hr0 hc0
 have HB := Aside0.mk (Below.refl w.heap.size w)
 have H : (api_Row_with_47_64.l0 k l0 (l0.length : Int) 0) = some r := h
 clear h
 have H' := Aside0.mk H
 clear H
 have eg47 : ∀ args w, (callFunc 47 args).run Tryz.prog w = .ok (.enter 47 args) w := enters_of Tryz.func47 (by kernel_rfl) rfl
 go_enter Tryz.func64, Tryz.ntmps64
 go_wp2
 go_loopg [8] k (fun kq v8 w' => ∃ (x8_1 : Int), v8 = .int .i64 x8_1 ∧ Aside0 (api_Row_with_47_64.l0 kq l0 (l0.length : Int) x8_1 = some r) ∧ Aside0 (kq ≤ k) ∧ Aside0 (Below w.heap.size w w'))
 case atStart => exact ⟨(0), rs_, H', ⟨Nat.le_refl _⟩, ⟨uW HB.out⟩⟩
 case round =>
  clear H'
  obtain ⟨x8_1, rfl, HA, HK1, HB⟩ := hrel
  cases gk with
  | zero => exact absurd HA.out (by simp [api_Row_with_47_64.l0])
  | succ k1 =>
   have H := HA.out
   clear HA
   simp only [api_Row_with_47_64.l0] at H
   by_cases c2 : x8_1 < (l0.length : Int)
   ·
    rw [if_pos c2] at H
    have c2b0 : decide (x8_1 < (l0.length : Int)) = true := decide_eq_true c2
    clear c2
    obtain ⟨c3b0, H⟩ := gdd H
    obtain ⟨c4b0, H⟩ := gdd H
    obtain ⟨t332, A5, H⟩ := bs H
    try dsimp only at H
    by_cases c6 : t332 = true
    ·
     subst c6
     rw [if_pos rfl] at H
     obtain rfl := Option.some.inj H
     have p331 : 0 ≤ (x8_1 : Int) := od
     have q331 : x8_1 < (l0.length : Int) := od
     obtain ⟨ad331, e331, hx331_0, hx331_1, hx331_2, hx331_3⟩ := at_T45 HR0.out x8_1 p331 q331
     cases e331
     replace hx331_0 := kc HB hx331_0
     replace hx331_1 := kc HB hx331_1
     replace hx331_2 := kc HB hx331_2
     replace hx331_3 := kc HB hx331_3
     replace p331 := eq_true p331
     replace q331 := eq_true q331
     go_wp2_with (first | (refine api_Row_with_47_64.goesVL_ (some 16) rfl rfl Tryz.func47 (by kernel_rfl) rfl #[.agg #[.int .i64 ((rd_T45 l0 x8_1).f0), .string ((rd_T45 l0 x8_1).f1), .int .i64 ((rd_T45 l0 x8_1).f2.f0), .bool ((rd_T45 l0 x8_1).f2.f1)]] rfl (by rfl) (by (try simp only [List.map_toArray, List.map_cons, List.map_nil]); first | done | rfl | (simp only [List.length_drop, List.length_take]; rfl)) ?_; (with_reducible refine (row_Right_1.calls (hL := ld) k1 ((rd_T45 l0 x8_1).f0) ((rd_T45 l0 x8_1).f1) ((rd_T45 l0 x8_1).f2.f0) ((rd_T45 l0 x8_1).f2.f1) true _ A5.out).mono ?_); rintro e w7 ⟨rfl, hb⟩; refine ⟨_, rfl, ?_⟩; replace HB := cW HB hb; (try clear hb)))
     go_ret
     exact ⟨re_, uW HB.out⟩
    ·
     replace c6 := Bool.eq_false_iff.mpr c6
     subst c6
     rw [if_neg (show ¬ (false = true) by decide)] at H
     have H' := Aside0.mk H
     clear H
     have p331 : 0 ≤ (x8_1 : Int) := od
     have q331 : x8_1 < (l0.length : Int) := od
     obtain ⟨ad331, e331, hx331_0, hx331_1, hx331_2, hx331_3⟩ := at_T45 HR0.out x8_1 p331 q331
     cases e331
     replace hx331_0 := kc HB hx331_0
     replace hx331_1 := kc HB hx331_1
     replace hx331_2 := kc HB hx331_2
     replace hx331_3 := kc HB hx331_3
     replace p331 := eq_true p331
     replace q331 := eq_true q331
     go_wp2_with (first | (refine api_Row_with_47_64.goesVL_ (some 16) rfl rfl Tryz.func47 (by kernel_rfl) rfl #[.agg #[.int .i64 ((rd_T45 l0 x8_1).f0), .string ((rd_T45 l0 x8_1).f1), .int .i64 ((rd_T45 l0 x8_1).f2.f0), .bool ((rd_T45 l0 x8_1).f2.f1)]] rfl (by rfl) (by (try simp only [List.map_toArray, List.map_cons, List.map_nil]); first | done | rfl | (simp only [List.length_drop, List.length_take]; rfl)) ?_; (with_reducible refine (row_Right_1.calls (hL := ld) k1 ((rd_T45 l0 x8_1).f0) ((rd_T45 l0 x8_1).f1) ((rd_T45 l0 x8_1).f2.f0) ((rd_T45 l0 x8_1).f2.f1) false _ A5.out).mono ?_); rintro e w8 ⟨rfl, hb⟩; refine ⟨_, rfl, ?_⟩; replace HB := cW HB hb; (try clear hb)))
     go_roundg k1
     case measure => have := HK1.out; omega
     case rel => exact ⟨(wrap64 (x8_1 + 1)), rs_, H', ⟨by have := HK1.out; omega⟩, ⟨uW HB.out⟩⟩
   ·
    rw [if_neg c2] at H
    have c2b0 : decide (x8_1 < (l0.length : Int)) = false := decide_eq_false c2
    clear c2
    obtain rfl := Option.some.inj H
    go_wp2
    go_ret
    exact ⟨re_, uW HB.out⟩
def api_Row_with_47_46.f (k : Nat) (l0 : List (S45)) : Option (Bool) := (api_Row_with_47_64.f k l0).bind fun t333 => (some (decide (t333 ≥ 0)))
theorem api_Row_with_47_46.mono : ∀ a0 k, LeO (api_Row_with_47_46.f k a0) (api_Row_with_47_46.f (k + 1) a0) := by
 intro a0 k
 unfold api_Row_with_47_46.f
 exact lo
instance api_Row_with_47_46.mI {a0 k} : LeC (api_Row_with_47_46.f k a0) (api_Row_with_47_46.f (k + 1) a0) := ⟨api_Row_with_47_46.mono _ _⟩
theorem api_Row_with_47_46.calls (k : Nat) (A0 : Option Addr) (c0 : Nat) (l0 : List (S45)) (r : Bool) (w : World) (hr0 : Kd.C k45 w A0 l0.length l0) (hc0 : l0.length ≤ c0) (hL : LD w) (h : api_Row_with_47_46.f k l0 = some r) :
 Calls Tryz.prog 46 #[.slice A0 l0.length c0, .func (.func 47) #[] #[]] w fun e w' => e = .returned (.bool r) ∧ Below w.heap.size w w' := by
 have HL0 := Aside0.mk hL
 clear hL
 have HR0 := Aside0.mk hr0
 have HC0 := Aside0.mk hc0
 clear hr0 hc0
 have HB := Aside0.mk (Below.refl w.heap.size w)
 have H : ((api_Row_with_47_64.f k l0).bind fun t333 => (some (decide (t333 ≥ 0)))) = some r := h
 clear h
 obtain ⟨t333, A2, H⟩ := bs H
 try dsimp only at H
 obtain rfl := Option.some.inj H
 go_enter Tryz.func46, Tryz.ntmps46
 go_wp2_with (first | (refine gL (some 7) rfl Tryz.func64 #[.slice A0 l0.length c0, (.func (.func 47) #[] #[])] ?_; (with_reducible refine (api_Row_with_47_64.calls (hL := ld) k _ _ l0 t333 _ ?side1 ?side2 A2.out).mono ?_); (case side1 => exact uC <| HR0.out); (case side2 => exact HC0.out); rintro e w3 ⟨rfl, hb⟩; refine ⟨_, rfl, ?_⟩; replace HB := cW HB hb; (try clear hb)))
 go_ret
 exact ⟨re_, uW HB.out⟩
def row_Right.f (k : Nat) (l0 : List (S45)) : Option (Bool) := (row_rise.f k l0).bind fun t334 => (if t334 = true then ((api_Row_with_47_46.f k l0).bind fun t335 => (some (!t335))) else (some false))
theorem row_Right.mono : ∀ a0 k, LeO (row_Right.f k a0) (row_Right.f (k + 1) a0) := by
 intro a0 k
 unfold row_Right.f
 exact lo
instance row_Right.mI {a0 k} : LeC (row_Right.f k a0) (row_Right.f (k + 1) a0) := ⟨row_Right.mono _ _⟩
theorem row_Right.calls (k : Nat) (A0 : Option Addr) (c0 : Nat) (l0 : List (S45)) (r : Bool) (w : World) (hr0 : Kd.C k45 w A0 l0.length l0) (hc0 : l0.length ≤ c0) (hL : LD w) (h : row_Right.f k l0 = some r) :
 Calls Tryz.prog 24 #[.slice A0 l0.length c0] w fun e w' => e = .returned (.bool r) ∧ Below w.heap.size w w' := by
 have HL0 := Aside0.mk hL
 clear hL
 have HR0 := Aside0.mk hr0
 have HC0 := Aside0.mk hc0
 clear hr0 hc0
 have HB := Aside0.mk (Below.refl w.heap.size w)
 have H : ((row_rise.f k l0).bind fun t334 => (if t334 = true then ((api_Row_with_47_46.f k l0).bind fun t335 => (some (!t335))) else (some false))) = some r := h
 clear h
 obtain ⟨t334, A2, H⟩ := bs H
 try dsimp only at H
 by_cases c3 : t334 = true
 ·
  subst c3
  rw [if_pos rfl] at H
  obtain ⟨t335, A4, H⟩ := bs H
  try dsimp only at H
  obtain rfl := Option.some.inj H
  go_enter Tryz.func24, Tryz.ntmps24
  go_wp2_with (first | (refine gL (some 4) rfl Tryz.func45 #[.slice A0 l0.length c0] ?_; (with_reducible refine (row_rise.calls k _ _ l0 true _ ?side1 ?side2 A2.out).mono ?_); (case side1 => exact uC <| HR0.out); (case side2 => exact HC0.out); rintro e w5 ⟨rfl, hb⟩; refine ⟨_, rfl, ?_⟩; replace HB := cW HB hb; (try clear hb)) | (go_at_call 46; (with_reducible refine (api_Row_with_47_46.calls (hL := ld) k _ _ l0 t335 _ ?side1 ?side2 A4.out).mono ?_); (case side1 => exact uC <| (Kd.C_below HR0.out HB.out)); (case side2 => exact HC0.out); rintro e w6 ⟨rfl, hb⟩; replace HB := cW HB hb; (try clear hb)))
  go_ret
  exact ⟨re_, uW HB.out⟩
 ·
  replace c3 := Bool.eq_false_iff.mpr c3
  subst c3
  rw [if_neg (show ¬ (false = true) by decide)] at H
  obtain rfl := Option.some.inj H
  go_enter Tryz.func24, Tryz.ntmps24
  go_wp2_with (first | (refine gL (some 4) rfl Tryz.func45 #[.slice A0 l0.length c0] ?_; (with_reducible refine (row_rise.calls k _ _ l0 false _ ?side1 ?side2 A2.out).mono ?_); (case side1 => exact uC <| HR0.out); (case side2 => exact HC0.out); rintro e w7 ⟨rfl, hb⟩; refine ⟨_, rfl, ?_⟩; replace HB := cW HB hb; (try clear hb)))
  go_ret
  exact ⟨re_, uW HB.out⟩
def diff_gone.f (a0_0 : Int) (a0_1 : ByteArray) (a0_2 : Int) (a0_3 : Bool) : Option (Int × ByteArray × Int × Bool × Bool) := some (a0_0, a0_1, 0, false, true)
theorem diff_gone.calls (a0_0 : Int) (a0_1 : ByteArray) (a0_2 : Int) (a0_3 : Bool) (r1 : Int) (r2 : ByteArray) (r3 : Int) (r4 : Bool) (r5 : Bool) (w : World) (h : diff_gone.f a0_0 a0_1 a0_2 a0_3 = some (r1, r2, r3, r4, r5)) :
 Calls Tryz.prog 26 #[.agg #[.int .i64 a0_0, .string a0_1, .int .i64 a0_2, .bool a0_3]] w fun e w' => e = .returned (.agg #[.int .i64 r1, .string r2, .int .i64 r3, .bool r4, .bool r5]) ∧ Below w.heap.size w w' := by
 have hu45 := Tryz.underlying45
 have hu48 := Tryz.underlying48
 have HB := Aside0.mk (Below.refl w.heap.size w)
 have H : (some (a0_0, a0_1, 0, false, true)) = some (r1, r2, r3, r4, r5) := h
 clear h
 simp only [Option.some.injEq, Prod.mk.injEq] at H
 obtain ⟨rfl, rfl, rfl, rfl, rfl⟩ := H
 go_enter Tryz.func26, Tryz.ntmps26
 go_wp2_with (first | ((with_reducible refine gate_dst (N := 1) rfl ?_); refine bx (N := 1) #[.int .i64 a0_0, .string a0_1, .int .i64 a0_2, .bool a0_3] 45 ?_; intro gb336 hg w2 hbox hb; have BK336 := Aside0.mk (hbox); have GW336 := gw hg (uW HB.out); have GE336 := GW336; replace HB := cW HB hb; clear hb hbox hg) | ((with_reducible refine gate_dst (N := 2) rfl ?_); refine bx (N := 2) #[.int .i64 0, .string (⟨#[]⟩ : ByteArray), .int .i64 0, .bool false, .bool false] 48 ?_; intro gb337 hg w3 hbox hb; have BK337 := Aside0.mk (hbox); have GW337 := gw hg bl; have GE337 := GW337; replace HB := Aside0.mk (below_step bl hb); have NB336_337 := Aside0.mk ((by rw [hg]; exact Nat.ne_of_lt (blk_lt (g := gb336) (o := .cells #[.int .i64 a0_0, .string a0_1, .int .i64 a0_2, .bool a0_3] 45 (0, 0)) (uB BK336.out)) : gb336 ≠ gb337)); have NB337_336 := Aside0.mk ((by rw [hg]; exact Nat.ne_of_gt (blk_lt (g := gb336) (o := .cells #[.int .i64 a0_0, .string a0_1, .int .i64 a0_2, .bool a0_3] 45 (0, 0)) (uB BK336.out)) : gb337 ≠ gb336)); replace BK336 := cB BK336 hb; clear hb hbox hg; have hnb4 := NB336_337.out; have hnc4 := NB337_336.out; obtain ⟨hcz5_0, hcz5_1, hcz5_2, hcz5_3, hfz5_0, hfz5_1, hfz5_2, hfz5_3⟩ := z4 BK336; obtain ⟨hcz6_0, hcz6_1, hcz6_2, hcz6_3, hcz6_4, hfz6_0, hfz6_1, hfz6_2, hfz6_3, hfz6_4⟩ := z5 BK337) | ((with_reducible refine gate_store (t := 48) (p := 2) rfl ?_); refine store_event (t := 48) (p := 2) (v := ?vo_w7) (w1 := (((((w3.setCell ⟨gb337, 0, none⟩ (.int .i64 a0_0)).setCell ⟨gb337, 1, none⟩ (.string a0_1)).setCell ⟨gb337, 2, none⟩ (.int .i64 0)).setCell ⟨gb337, 3, none⟩ (.bool false)).setCell ⟨gb337, 4, none⟩ (.bool true))) ?hg ?ho ?hn ?hr ?_; (case ho => rfl); (case hg => rfl); (case hn => rfl); (case hr => first | (go_simp; done) | (go_simp; rfl)); intro w7 hw; have n0_ : Aside0 (w7.heap[gb336]? = some (.cells #[.int .i64 a0_0, .string a0_1, .int .i64 a0_2, .bool a0_3] 45 (0, 0))) := ⟨(by rw [hw]; exact (by (with_reducible repeat (first | refine blk_drewN ?_ _ | refine blk_drew ?_ | refine blk_alloc ?_ _)); refine blk_far ?_ NB336_337.out _; (with_reducible repeat (first | refine blk_drewN ?_ _ | refine blk_drew ?_ | refine blk_alloc ?_ _)); refine blk_far ?_ NB336_337.out _; (with_reducible repeat (first | refine blk_drewN ?_ _ | refine blk_drew ?_ | refine blk_alloc ?_ _)); refine blk_far ?_ NB336_337.out _; (with_reducible repeat (first | refine blk_drewN ?_ _ | refine blk_drew ?_ | refine blk_alloc ?_ _)); refine blk_far ?_ NB336_337.out _; (with_reducible repeat (first | refine blk_drewN ?_ _ | refine blk_drew ?_ | refine blk_alloc ?_ _)); refine blk_far ?_ NB336_337.out _; exact uB <| BK336.out))⟩; have n1_ : Aside0 (w7.heap[gb337]? = some (.cells #[.int .i64 a0_0, .string a0_1, .int .i64 0, .bool false, .bool true] 48 (0, 0))) := ⟨(by rw [hw]; exact (by (with_reducible repeat (first | refine blk_drewN ?_ _ | refine blk_drew ?_ | refine blk_alloc ?_ _)); refine blk_put (cs := #[.int .i64 a0_0, .string a0_1, .int .i64 0, .bool false, .bool false]) ?_ 4 _ rfl; (with_reducible repeat (first | refine blk_drewN ?_ _ | refine blk_drew ?_ | refine blk_alloc ?_ _)); refine blk_put (cs := #[.int .i64 a0_0, .string a0_1, .int .i64 0, .bool false, .bool false]) ?_ 3 _ rfl; (with_reducible repeat (first | refine blk_drewN ?_ _ | refine blk_drew ?_ | refine blk_alloc ?_ _)); refine blk_put (cs := #[.int .i64 a0_0, .string a0_1, .int .i64 0, .bool false, .bool false]) ?_ 2 _ rfl; (with_reducible repeat (first | refine blk_drewN ?_ _ | refine blk_drew ?_ | refine blk_alloc ?_ _)); refine blk_put (cs := #[.int .i64 a0_0, .string (⟨#[]⟩ : ByteArray), .int .i64 0, .bool false, .bool false]) ?_ 1 _ rfl; (with_reducible repeat (first | refine blk_drewN ?_ _ | refine blk_drew ?_ | refine blk_alloc ?_ _)); refine blk_put (cs := #[.int .i64 0, .string (⟨#[]⟩ : ByteArray), .int .i64 0, .bool false, .bool false]) ?_ 0 _ rfl; exact uB <| BK337.out))⟩; have n2_ : Aside0 (Below w.heap.size w w7) := ⟨(by rw [hw]; exact bl)⟩; clear hw; clear BK336; clear BK337; clear HB; have BK336 := n0_; have BK337 := n1_; have HB := n2_; clear n0_ n1_ n2_))
 refine bodyPost_ret (results_cell_row rfl _ _ gb337 48 #[.int .i64 a0_0, .string a0_1, .int .i64 0, .bool false, .bool true] (0, 0) _ rfl (uB BK337.out) Tryz.underlying48 rfl (by kernel_rfl)) rfl ?_
 exact ⟨re_, bl⟩
end Go.Proofs.YtgcbejidponoaaaGreatDoor.X
