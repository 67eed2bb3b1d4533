/- Printed by a program of this session's own: what functions of the program compute, and that the machine computes it. No condition of its own. -/
import Derived.Test.YtklhjponikgkkaaM3
import Derived.Test.YtklhjponikgkkaaM4
namespace Go.Proofs.Ytklhjponikgkkaa.X
open Go.RowKit Go.Proofs.YtklhjponikgkkaaW.PrintWords Go.Proofs.YtklhjponikgkkaaW.PrintLast Go.Proofs.YtklhjponikgkkaaW.PrintMore
attribute [local go_sem] max2_int min2_int max_two min_two max_three min_three max_four min_four
set_option linter.unusedVariables false
set_option linter.unusedSimpArgs false
set_option maxHeartbeats 8000000
set_option maxRecDepth 100000
def strings_Compare.f (a0 : ByteArray) (a1 : ByteArray) : Option (Int) := some (Lib.compareBytes a0.data.toList a1.data.toList)
theorem strings_Compare.calls (a0 : ByteArray) (a1 : ByteArray) (r : Int) (w : World) (h : strings_Compare.f a0 a1 = some r) :
 Calls Try.prog 35 #[.string a0, .string a1] w fun e w' => e = .returned (.int .i64 r) ∧ Drawn0 w w' := by
 obtain rfl := Option.some.inj h
 exact (Try.strings_Compare a0 a1 w).mono fun e w' hh => ⟨hh.1, hh.2 ▸ Drawn0.refl _⟩
def emit_Take_1.f (a0_0 : Int) (a0_1 : ByteArray) (a0_2 : Int) (a0_3 : Int) (a0_4 : Bool) (a0_5 : Int) (a0_6 : Int) (a1_0 : Int) (a1_1 : ByteArray) (a1_2 : Int) (a1_3 : Int) (a1_4 : Bool) (a1_5 : Int) (a1_6 : Int) : Option (Int) := (strings_Compare.f a0_1 a1_1).bind fun t142 => (some t142)
theorem emit_Take_1.calls (a0_0 : Int) (a0_1 : ByteArray) (a0_2 : Int) (a0_3 : Int) (a0_4 : Bool) (a0_5 : Int) (a0_6 : Int) (a1_0 : Int) (a1_1 : ByteArray) (a1_2 : Int) (a1_3 : Int) (a1_4 : Bool) (a1_5 : Int) (a1_6 : Int) (r : Int) (w : World) (h : emit_Take_1.f a0_0 a0_1 a0_2 a0_3 a0_4 a0_5 a0_6 a1_0 a1_1 a1_2 a1_3 a1_4 a1_5 a1_6 = some r) :
 Calls Try.prog 34 #[.agg #[.int .i64 a0_0, .string a0_1, .int .i64 a0_2, .int .i64 a0_3, .bool a0_4, .int .i64 a0_5, .int .i64 a0_6], .agg #[.int .i64 a1_0, .string a1_1, .int .i64 a1_2, .int .i64 a1_3, .bool a1_4, .int .i64 a1_5, .int .i64 a1_6]] w fun e w' => e = .returned (.int .i64 r) ∧ Below w.heap.size w w' := by
 have hu56 := Try.underlying56
 have HB := Aside0.mk (Below.refl w.heap.size w)
 have H : ((strings_Compare.f a0_1 a1_1).bind fun t142 => (some t142)) = some r := h
 clear h
 obtain ⟨t142, A3, H⟩ := bs H
 try dsimp only at H
 obtain rfl := Option.some.inj H
 go_enter Try.func34, Try.ntmps34
 go_wp2_with (first | ((with_reducible refine gate_dst (N := 2) rfl ?_); refine bx (N := 2) #[.int .i64 a0_0, .string a0_1, .int .i64 a0_2, .int .i64 a0_3, .bool a0_4, .int .i64 a0_5, .int .i64 a0_6] 56 ?_; intro gb140 hg w4 hbox hb; have BK140 := Aside0.mk (hbox); have GW140 := gw hg (uW HB.out); have GE140 := GW140; replace HB := cW HB hb; clear hb hbox hg) | ((with_reducible refine gate_dst (N := 3) rfl ?_); refine bx (N := 3) #[.int .i64 a1_0, .string a1_1, .int .i64 a1_2, .int .i64 a1_3, .bool a1_4, .int .i64 a1_5, .int .i64 a1_6] 56 ?_; intro gb141 hg w5 hbox hb; have BK141 := Aside0.mk (hbox); have GW141 := gw hg bl; have GE141 := GW141; replace HB := Aside0.mk (below_step bl hb); have NB140_141 := Aside0.mk ((by rw [hg]; exact Nat.ne_of_lt (blk_lt (g := gb140) (o := .cells #[.int .i64 a0_0, .string a0_1, .int .i64 a0_2, .int .i64 a0_3, .bool a0_4, .int .i64 a0_5, .int .i64 a0_6] 56 (0, 0)) (uB BK140.out)) : gb140 ≠ gb141)); have NB141_140 := Aside0.mk ((by rw [hg]; exact Nat.ne_of_gt (blk_lt (g := gb140) (o := .cells #[.int .i64 a0_0, .string a0_1, .int .i64 a0_2, .int .i64 a0_3, .bool a0_4, .int .i64 a0_5, .int .i64 a0_6] 56 (0, 0)) (uB BK140.out)) : gb141 ≠ gb140)); replace BK140 := cB BK140 hb; clear hb hbox hg; have hnb6 := NB140_141.out; have hnc6 := NB141_140.out; obtain ⟨hcz7_0, hcz7_1, hcz7_2, hcz7_3, hcz7_4, hcz7_5, hcz7_6, hfz7_0, hfz7_1, hfz7_2, hfz7_3, hfz7_4, hfz7_5, hfz7_6⟩ := z7 BK140; obtain ⟨hcz8_0, hcz8_1, hcz8_2, hcz8_3, hcz8_4, hcz8_5, hcz8_6, hfz8_0, hfz8_1, hfz8_2, hfz8_3, hfz8_4, hfz8_5, hfz8_6⟩ := z7 BK141) | (refine gL (some 9) rfl Try.func35 #[.string a0_1, .string a1_1] ?_; (with_reducible refine (strings_Compare.calls a0_1 a1_1 t142 _ A3.out).mono ?_); rintro e w' ⟨rfl, ⟨nd, rfl⟩⟩; refine ⟨_, rfl, ?_⟩))
 go_ret
 exact ⟨re_, bl⟩
theorem api_Item_with_34_59.goesV_ {P : Program} {ops : Array Oper} {Q : Exit → Act → World → Prop} {oi : Oper} {N : Option Tmp} {a : Act} {w : World} {K : Act → World → Prop} {f : FuncId} {fn : Func} {cal : Operand} {as_ : Array Operand} {ts : Array TypeId} (hf : P.funcs[f]? = some fn) (hname : (fn.name == "runtime.NumGoroutine") = false) (hb : fn.body.isSome = true) (args : Array Value)
 (hw : Region.wanted oi (yielded ops a.tmps) = true) (hN : oi.dst = N) (hop : oi.op = .call { callee := .value cal, args := as_, argTypes := ts }) (hev : a.eval cal = .func (.func f) #[] #[]) (hargs : as_.map a.eval = args)
 (h : Calls P f args w fun e w' => ∃ v, e = .returned v ∧ K (a.put N v) w') : if Region.wanted oi (yielded ops a.tmps) = true then Oper.wp P oi a w K Q else K (a.put N undef) w := by
 refine call_ f args hw hN ?_ h
 have he := enters_ hf hname hb args w
 unfold execOp
 simp [hop, resolve, Deferred.ofValue, invoke, hev, hargs, he]
theorem api_Item_with_34_59.goesVL_ {P : Program} {ops : Array Oper} {Q : Exit → Act → World → Prop} {rest : List Oper} {oi : Oper} {a : Act} {w : World} (N : Option Tmp) (hd : oi.dst = N) (hg : oi.guard = none) {f : FuncId} {fn : Func} {cal : Operand} {as_ : Array Operand} {ts : Array TypeId} (hf : P.funcs[f]? = some fn) (hname : (fn.name == "runtime.NumGoroutine") = false) (hb : fn.body.isSome = true) (args : Array Value)
 (hop : oi.op = .call { callee := .value cal, args := as_, argTypes := ts }) (hev : a.eval cal = .func (.func f) #[] #[]) (hargs : as_.map a.eval = args)
 (h : Calls P f args w fun e w' => ∃ v, e = .returned v ∧ wpList P ops Q rest (a.put N v) w') : wpList P ops Q (oi :: rest) a w := by
 refine wpList_plain hg fun K hK => ?_
 have he := enters_ hf hname hb args w
 have hrun : (execOp a.eval oi).run P w = .ok (.enter f args) w := by
  unfold execOp
  simp [hop, resolve, Deferred.ofValue, invoke, hev, hargs, he]
 unfold Oper.wp
 rw [hrun, Oper.upon_enter]
 refine h.mono fun e w'' hh => ?_
 obtain ⟨v, rfl, hk⟩ := hh
 subst hd
 exact hK _ _ hk
mutual
def api_Item_with_34_59.l0 : Nat → List (S56) → Int → Int → Int → Option (Unit)
 | 0, _, _, _, _ => none
 | k + 1, x0, x1, x2, x8 => if x8 < x2 then (api_Item_with_34_59.l1 k x0 x1 x2 x8 x8) else (some ())
def api_Item_with_34_59.l1 : Nat → List (S56) → Int → Int → Int → Int → Option (Unit)
 | 0, _, _, _, _, _ => none
 | k + 1, x0, x1, x2, x8, x9 => if x9 > x1 then (if 0 ≤ x9 then (if x9 < (x0.length : Int) then (if 0 ≤ (wrap64 (x9 - 1)) then (if (wrap64 (x9 - 1)) < (x0.length : Int) then ((emit_Take_1.f ((rd_T56 x0 x9).f0) ((rd_T56 x0 x9).f1) ((rd_T56 x0 x9).f2.f0) ((rd_T56 x0 x9).f2.f1.f0) ((rd_T56 x0 x9).f2.f1.f1) ((rd_T56 x0 x9).f2.f2) ((rd_T56 x0 x9).f2.f3) ((rd_T56 x0 (wrap64 (x9 - 1))).f0) ((rd_T56 x0 (wrap64 (x9 - 1))).f1) ((rd_T56 x0 (wrap64 (x9 - 1))).f2.f0) ((rd_T56 x0 (wrap64 (x9 - 1))).f2.f1.f0) ((rd_T56 x0 (wrap64 (x9 - 1))).f2.f1.f1) ((rd_T56 x0 (wrap64 (x9 - 1))).f2.f2) ((rd_T56 x0 (wrap64 (x9 - 1))).f2.f3)).bind fun t145 => (if t145 < 0 then (none) else (api_Item_with_34_59.l0 k x0 x1 x2 (wrap64 (x8 + 1))))) else (none)) else (none)) else (none)) else (none)) else (api_Item_with_34_59.l0 k x0 x1 x2 (wrap64 (x8 + 1)))
end
def api_Item_with_34_59.f (k : Nat) (l0 : List (S56)) (a1 : Int) (a2 : Int) : Option (Unit) := api_Item_with_34_59.l0 k l0 a1 a2 (wrap64 (a1 + 1))
theorem api_Item_with_34_59.mono_l : ∀ k, (∀ y0 y1 y2 y3, LeC (api_Item_with_34_59.l0 k y0 y1 y2 y3) (api_Item_with_34_59.l0 (k + 1) y0 y1 y2 y3)) ∧ (∀ y0 y1 y2 y3 y4, LeC (api_Item_with_34_59.l1 k y0 y1 y2 y3 y4) (api_Item_with_34_59.l1 (k + 1) y0 y1 y2 y3 y4))
 | 0 => ⟨fun _ _ _ _ => ⟨fun r h => by simp [api_Item_with_34_59.l0] at h⟩, fun _ _ _ _ _ => ⟨fun r h => by simp [api_Item_with_34_59.l1] at h⟩⟩
 | k + 1 => by obtain ⟨ih0, ih1⟩ := api_Item_with_34_59.mono_l k; exact ⟨fun _ _ _ _ => by unfold api_Item_with_34_59.l0; exact lm, fun _ _ _ _ _ => by unfold api_Item_with_34_59.l1; exact lm⟩
theorem api_Item_with_34_59.mono : ∀ a0 a1 a2 k, LeO (api_Item_with_34_59.f k a0 a1 a2) (api_Item_with_34_59.f (k + 1) a0 a1 a2) := by
 intro a0 a1 a2 k
 obtain ⟨ih0, ih1⟩ := api_Item_with_34_59.mono_l k
 unfold api_Item_with_34_59.f
 exact lo
instance api_Item_with_34_59.mI {a0 a1 a2 k} : LeC (api_Item_with_34_59.f k a0 a1 a2) (api_Item_with_34_59.f (k + 1) a0 a1 a2) := ⟨api_Item_with_34_59.mono _ _ _ _⟩
def api_Item_with_34_59.T4 : Bool × List (List Nat × List Nat) := (true, [([], []), ([], []), ([0, 1], [0, 1]), ([2], [2]), ([3], [3]), ([3], [3]), ([3], [3]), ([5, 6, 3], [3, 5, 6]), ([7, 3], [3, 7]), ([3], [3]), ([3], [3]), ([10, 3], [3, 10]), ([9, 11, 3], [3, 9, 11]), ([12, 3], [3, 12]), ([4, 8, 13, 3, 3], [3, 4, 8, 13]), ([14, 3], [3, 14]), ([3, 15], [3, 15])])
def api_Item_with_34_59.B4 : List Nat := [0, 0, 3, 7, 15, 15, 15, 111, 239, 15, 15, 1039, 3599, 7695, 16383, 32767, 65535]
theorem api_Item_with_34_59.tab4 : rtab .any (opsOf Try.f59 4) = api_Item_with_34_59.T4 := by kernel_rfl
theorem api_Item_with_34_59.bits4 : waitsOk api_Item_with_34_59.T4.2 api_Item_with_34_59.B4 = true := by kernel_rfl
theorem api_Item_with_34_59.calls (k : Nat) (A0 : Option Addr) (c0 : Nat) (l0 : List (S56)) (a1 : Int) (a2 : Int) (w : World) (hr0 : Kd.C k56 w A0 l0.length l0) (hc0 : l0.length ≤ c0) (h : api_Item_with_34_59.f k l0 a1 a2 = some ()) :
 Calls Try.prog 59 #[.slice A0 l0.length c0, .int .i64 a1, .int .i64 a2, .func (.func 34) #[] #[]] w fun e w' => e = .returned (.tuple #[]) ∧ Below w.heap.size w w' := by
 have hu56 := Try.underlying56
 have HR0 := Aside0.mk hr0
 have HC0 := Aside0.mk hc0
 clear hr0 hc0
 have HB := Aside0.mk (Below.refl w.heap.size w)
 have H : (api_Item_with_34_59.l0 k l0 a1 a2 (wrap64 (a1 + 1))) = some () := h
 clear h
 have H' := Aside0.mk H
 clear H
 have eg34 : ∀ args w, (callFunc 34 args).run Try.prog w = .ok (.enter 34 args) w := enters_of Try.func34 (by kernel_rfl) rfl
 go_enter Try.func59, Try.ntmps59
 go_wp2
 go_loopg [8] k (fun kq v8 w' => ∃ (x8_1 : Int), v8 = .int .i64 x8_1 ∧ Aside0 (api_Item_with_34_59.l0 kq l0 a1 a2 x8_1 = some ()) ∧ Aside0 (kq ≤ k) ∧ Aside0 (Below w.heap.size w w'))
 case atStart => exact ⟨(wrap64 (a1 + 1)), rs_, H', ⟨Nat.le_refl _⟩, ⟨uW HB.out⟩⟩
 case round =>
  clear H'
  try clear p2
  obtain ⟨x8_1, rfl, HA, HK1, HB⟩ := hrel
  cases gk with
  | zero => exact absurd HA.out (by simp [api_Item_with_34_59.l0])
  | succ k1 =>
   have H := HA.out
   clear HA
   simp only [api_Item_with_34_59.l0] at H
   by_cases c4 : x8_1 < a2
   ·
    rw [if_pos c4] at H
    have c4b0 : decide (x8_1 < a2) = true := decide_eq_true c4
    clear c4
    have H' := Aside0.mk H
    clear H
    go_wp2
    go_loopg [9] k1 (fun kq v9 w' => ∃ (x9_2 : Int), v9 = .int .i64 x9_2 ∧ Aside0 (api_Item_with_34_59.l1 kq l0 a1 a2 x8_1 x9_2 = some ()) ∧ Aside0 (kq ≤ k1) ∧ Aside0 (Below w.heap.size w w'))
    case atStart => exact ⟨(x8_1), rs_, H', ⟨Nat.le_refl _⟩, ⟨uW HB.out⟩⟩
    case round =>
     clear H'
     try clear p2
     try clear c4
     try clear c4b0
     try clear p2
     obtain ⟨x9_2, rfl, HA, HK2, HB⟩ := hrel
     cases gk with
     | zero => exact absurd HA.out (by simp [api_Item_with_34_59.l1])
     | succ k2 =>
      have H := HA.out
      clear HA
      simp only [api_Item_with_34_59.l1] at H
      by_cases c5 : x9_2 > a1
      ·
       rw [if_pos c5] at H
       have c5b0 : decide (a1 < x9_2) = true := decide_eq_true c5
       clear c5
       obtain ⟨c6b0, H⟩ := gdd H
       obtain ⟨c7b0, H⟩ := gdd H
       obtain ⟨ji8, hji8⟩ : ∃ j_ : Int, (wrap64 (x9_2 - 1)) = j_ := ⟨_, rfl⟩
       (first | rw [hji8] at H | simp only [hji8] at H)
       have hji8w : (IntKind.i64.wrap (x9_2 - 1)) = ji8 := (i64_w _).trans hji8
       obtain ⟨c9b0, H⟩ := gdd H
       obtain ⟨c10b0, H⟩ := gdd H
       obtain ⟨t145, A11, H⟩ := bs H
       try dsimp only at H
       by_cases c12 : t145 < 0
       ·
        rw [if_pos c12] at H
        have c12b0 : decide (t145 < 0) = true := decide_eq_true c12
        clear c12
        exact absurd H (by simp)
       ·
        rw [if_neg c12] at H
        have c12b0 : decide (t145 < 0) = false := decide_eq_false c12
        clear c12
        have H' := Aside0.mk H
        clear H
        try go_wp2
        have n0_ := Aside0.mk (below_drew1 HB.out)
        clear HB
        have HB := n0_
        clear n0_
        have p143 : 0 ≤ (x9_2 : Int) := od
        have q143 : x9_2 < (l0.length : Int) := od
        obtain ⟨ad143, e143, hx143_0, hx143_1, hx143_2, hx143_3, hx143_4, hx143_5, hx143_6⟩ := at_T56 HR0.out x9_2 p143 q143
        have hw143_6 := hx143_6
        have hw143_5 := hx143_5
        have hw143_4 := hx143_4
        have hw143_3 := hx143_3
        have hw143_2 := hx143_2
        have hw143_1 := hx143_1
        have hw143_0 := hx143_0
        cases e143
        replace hx143_0 := kc HB hx143_0
        replace hx143_1 := kc HB hx143_1
        replace hx143_2 := kc HB hx143_2
        replace hx143_3 := kc HB hx143_3
        replace hx143_4 := kc HB hx143_4
        replace hx143_5 := kc HB hx143_5
        replace hx143_6 := kc HB hx143_6
        replace p143 := eq_true p143
        replace q143 := eq_true q143
        have p144 : 0 ≤ ((ji8) : Int) := od
        have q144 : (ji8) < (l0.length : Int) := od
        obtain ⟨ad144, e144, hx144_0, hx144_1, hx144_2, hx144_3, hx144_4, hx144_5, hx144_6⟩ := at_T56 HR0.out (ji8) p144 q144
        have hw144_6 := hx144_6
        have hw144_5 := hx144_5
        have hw144_4 := hx144_4
        have hw144_3 := hx144_3
        have hw144_2 := hx144_2
        have hw144_1 := hx144_1
        have hw144_0 := hx144_0
        obtain rfl : ad143 = ad144 := (by injection e144)
        replace hx144_0 := kc HB hx144_0
        replace hx144_1 := kc HB hx144_1
        replace hx144_2 := kc HB hx144_2
        replace hx144_3 := kc HB hx144_3
        replace hx144_4 := kc HB hx144_4
        replace hx144_5 := kc HB hx144_5
        replace hx144_6 := kc HB hx144_6
        replace p144 := eq_true p144
        replace q144 := eq_true q144
        refine start_ (n := 17) (S := fun w' => w'.cell? (ad143.add ((x9_2).toNat * 7)) = some (.int .i64 ((rd_T56 l0 x9_2).f0)) ∧ w'.cell? ⟨(ad143.add ((x9_2).toNat * 7)).block, (ad143.add ((x9_2).toNat * 7)).off + 1, none⟩ = some (.string ((rd_T56 l0 x9_2).f1)) ∧ w'.cell? ⟨(ad143.add ((x9_2).toNat * 7)).block, (ad143.add ((x9_2).toNat * 7)).off + 2, none⟩ = some (.int .i64 ((rd_T56 l0 x9_2).f2.f0)) ∧ w'.cell? ⟨(ad143.add ((x9_2).toNat * 7)).block, (ad143.add ((x9_2).toNat * 7)).off + 3, none⟩ = some (.int .i64 ((rd_T56 l0 x9_2).f2.f1.f0)) ∧ w'.cell? ⟨(ad143.add ((x9_2).toNat * 7)).block, (ad143.add ((x9_2).toNat * 7)).off + 4, none⟩ = some (.bool ((rd_T56 l0 x9_2).f2.f1.f1)) ∧ w'.cell? ⟨(ad143.add ((x9_2).toNat * 7)).block, (ad143.add ((x9_2).toNat * 7)).off + 5, none⟩ = some (.int .i64 ((rd_T56 l0 x9_2).f2.f2)) ∧ w'.cell? ⟨(ad143.add ((x9_2).toNat * 7)).block, (ad143.add ((x9_2).toNat * 7)).off + 6, none⟩ = some (.int .i64 ((rd_T56 l0 x9_2).f2.f3)) ∧ w'.cell? (ad143.add (((ji8)).toNat * 7)) = some (.int .i64 ((rd_T56 l0 (ji8)).f0)) ∧ w'.cell? ⟨(ad143.add (((ji8)).toNat * 7)).block, (ad143.add (((ji8)).toNat * 7)).off + 1, none⟩ = some (.string ((rd_T56 l0 (ji8)).f1)) ∧ w'.cell? ⟨(ad143.add (((ji8)).toNat * 7)).block, (ad143.add (((ji8)).toNat * 7)).off + 2, none⟩ = some (.int .i64 ((rd_T56 l0 (ji8)).f2.f0)) ∧ w'.cell? ⟨(ad143.add (((ji8)).toNat * 7)).block, (ad143.add (((ji8)).toNat * 7)).off + 3, none⟩ = some (.int .i64 ((rd_T56 l0 (ji8)).f2.f1.f0)) ∧ w'.cell? ⟨(ad143.add (((ji8)).toNat * 7)).block, (ad143.add (((ji8)).toNat * 7)).off + 4, none⟩ = some (.bool ((rd_T56 l0 (ji8)).f2.f1.f1)) ∧ w'.cell? ⟨(ad143.add (((ji8)).toNat * 7)).block, (ad143.add (((ji8)).toNat * 7)).off + 5, none⟩ = some (.int .i64 ((rd_T56 l0 (ji8)).f2.f2)) ∧ w'.cell? ⟨(ad143.add (((ji8)).toNat * 7)).block, (ad143.add (((ji8)).toNat * 7)).off + 6, none⟩ = some (.int .i64 ((rd_T56 l0 (ji8)).f2.f3))) (ds := []) #[false, false, false, false, false, false, false, false, false, false, false, false, false, false, false, false, false] (by kernel_rfl) rfl rfl ⟨(kc HB hw143_0), (kc HB hw143_1), (kc HB hw143_2), (kc HB hw143_3), (kc HB hw143_4), (kc HB hw143_5), (kc HB hw143_6), (kc HB hw144_0), (kc HB hw144_1), (kc HB hw144_2), (kc HB hw144_3), (kc HB hw144_4), (kc HB hw144_5), (kc HB hw144_6)⟩ (fun hHeld => ?_); refine with_tabW api_Item_with_34_59.tab4 api_Item_with_34_59.bits4 (fun HT_ HW_ => ?_)
        generalize wr.drew = w13 at HB hx143_0 hx143_1 hx143_2 hx143_3 hx143_4 hx143_5 hx143_6 hx144_0 hx144_1 hx144_2 hx144_3 hx144_4 hx144_5 hx144_6 hHeld ⊢
        refine p1 0 (some 18) ?_
        refine p1 1 (some 19) ?_
        refine p1 2 (some 20) ?_
        refine p1 3 (some 21) ?_
        refine p1 4 (some 22) ?_
        refine p1 5 (some 23) ?_
        refine p1 6 (some 24) ?_
        refine p1 7 (some 25) ?_
        refine p1 9 (some 27) ?_
        refine p1 10 (some 28) ?_
        refine p1 11 (some 29) ?_
        refine p1 12 (some 30) ?_
        refine t1 8 (some 26) rfl rfl hHeld (Or.inl ⟨by rfl, by rintro w' ⟨s0, s1, s2, s3, s4, s5, s6, s7, s8, s9, s10, s11, s12, s13⟩; go_simp; with_reducible rfl⟩) ?_
        refine t1 13 (some 31) rfl rfl hHeld (Or.inl ⟨by rfl, by rintro w' ⟨s0, s1, s2, s3, s4, s5, s6, s7, s8, s9, s10, s11, s12, s13⟩; go_simp; with_reducible rfl⟩) ?_
        refine one_ (i := 14) (N := some 32) #[true, true, true, true, true, true, true, true, true, true, true, true, true, true, true, false, false] rfl rfl (one_of HT_.out (by kernel_rfl)) (by decide) (fun K hK => ?_)
        refine api_Item_with_34_59.goesV_ Try.func34 (by kernel_rfl) rfl #[.agg #[.int .i64 ((rd_T56 l0 x9_2).f0), .string ((rd_T56 l0 x9_2).f1), .int .i64 ((rd_T56 l0 x9_2).f2.f0), .int .i64 ((rd_T56 l0 x9_2).f2.f1.f0), .bool ((rd_T56 l0 x9_2).f2.f1.f1), .int .i64 ((rd_T56 l0 x9_2).f2.f2), .int .i64 ((rd_T56 l0 x9_2).f2.f3)], .agg #[.int .i64 ((rd_T56 l0 (ji8)).f0), .string ((rd_T56 l0 (ji8)).f1), .int .i64 ((rd_T56 l0 (ji8)).f2.f0), .int .i64 ((rd_T56 l0 (ji8)).f2.f1.f0), .bool ((rd_T56 l0 (ji8)).f2.f1.f1), .int .i64 ((rd_T56 l0 (ji8)).f2.f2), .int .i64 ((rd_T56 l0 (ji8)).f2.f3)]] (by rfl) rfl rfl (by rfl) (by (try simp only [List.map_toArray, List.map_cons, List.map_nil]); first | done | (simp only [hji8]; rfl) | rfl | (simp only [List.length_drop, List.length_take]; rfl)) ?_
        with_reducible refine (emit_Take_1.calls ((rd_T56 l0 x9_2).f0) ((rd_T56 l0 x9_2).f1) ((rd_T56 l0 x9_2).f2.f0) ((rd_T56 l0 x9_2).f2.f1.f0) ((rd_T56 l0 x9_2).f2.f1.f1) ((rd_T56 l0 x9_2).f2.f2) ((rd_T56 l0 x9_2).f2.f3) ((rd_T56 l0 (ji8)).f0) ((rd_T56 l0 (ji8)).f1) ((rd_T56 l0 (ji8)).f2.f0) ((rd_T56 l0 (ji8)).f2.f1.f0) ((rd_T56 l0 (ji8)).f2.f1.f1) ((rd_T56 l0 (ji8)).f2.f2) ((rd_T56 l0 (ji8)).f2.f3) t145 _ A11.out).mono ?_
        rintro e w14 ⟨rfl, hb⟩
        refine ⟨_, rfl, ?_⟩
        have n0_ := cW HB hb
        clear HB
        have HB := n0_
        clear n0_
        (try clear hb)
        (try clear hb2)
        (try clear hk)
        (try clear hi)
        refine hK.out _ _ ⟨(kc HB hw143_0), (kc HB hw143_1), (kc HB hw143_2), (kc HB hw143_3), (kc HB hw143_4), (kc HB hw143_5), (kc HB hw143_6), (kc HB hw144_0), (kc HB hw144_1), (kc HB hw144_2), (kc HB hw144_3), (kc HB hw144_4), (kc HB hw144_5), (kc HB hw144_6)⟩ (fun hHeld => ?_)
        clear hK K
        refine norm_ (a' := ?_) ?_ ?_
        rotate_left
        ·
         show Act.put _ (some 32) _ = _
         simp only [Act.put, List.setIfInBounds_toArray, List.set_cons_zero, List.set_cons_succ, i64_w, i32_w]
         rfl
        refine p1 15 (some 33) ?_
        refine p1 16 (some 34) ?_
        refine done_ (done_of HT_.out (by kernel_rfl)) ?_
        try go_wp2
        go_roundg k2
        case measure => have := HK1.out; have := HK2.out; omega
        case rel => exact ⟨(wrap64 (x8_1 + 1)), rs_, H', ⟨by have := HK1.out; have := HK2.out; omega⟩, ⟨uW HB.out⟩⟩
      ·
       rw [if_neg c5] at H
       have c5b0 : decide (a1 < x9_2) = false := decide_eq_false c5
       clear c5
       have H' := Aside0.mk H
       clear H
       try go_wp2
       have n0_ := Aside0.mk (below_drew1 HB.out)
       clear HB
       have HB := n0_
       clear n0_
       refine start_ (n := 17) (S := fun w' => True) (ds := []) #[false, false, false, false, false, false, false, false, false, false, false, false, false, false, false, false, false] (by kernel_rfl) rfl rfl trivial (fun hHeld => ?_); refine with_tabW api_Item_with_34_59.tab4 api_Item_with_34_59.bits4 (fun HT_ HW_ => ?_)
       generalize wr.drew = w15 at HB hHeld ⊢
       refine p1 0 (some 18) ?_
       refine p1 1 (some 19) ?_
       refine p1 2 (some 20) ?_
       refine p1 3 (some 21) ?_
       refine p2 4 (some 22) ?_
       refine p2 5 (some 23) ?_
       refine p2 6 (some 24) ?_
       refine p2 7 (some 25) ?_
       refine p2 8 (some 26) ?_
       refine p2 9 (some 27) ?_
       refine p2 10 (some 28) ?_
       refine p2 11 (some 29) ?_
       refine p2 12 (some 30) ?_
       refine p2 13 (some 31) ?_
       refine p2 14 (some 32) ?_
       refine p2 15 (some 33) ?_
       refine p1 16 (some 34) ?_
       refine done_ (done_of HT_.out (by kernel_rfl)) ?_
       try go_wp2
       go_roundg k2
       case measure => have := HK1.out; have := HK2.out; omega
       case rel => exact ⟨(wrap64 (x8_1 + 1)), rs_, H', ⟨by have := HK1.out; have := HK2.out; omega⟩, ⟨uW HB.out⟩⟩
   ·
    rw [if_neg c4] at H
    have c4b0 : decide (x8_1 < a2) = false := decide_eq_false c4
    clear c4
    go_wp2
    first | go_end0 | ((try simp only [Exit.inBlock, Exit.then]); refine bodyPost_ret (results_none rfl _ _ _) rfl ?_)
    exact ⟨re_, uW HB.out⟩
mutual
def api_Item_with_34_52.l0 : Nat → List (S56) → Int → Int → Int → Int → Option (Unit)
 | 0, _, _, _, _, _ => none
 | k + 1, x0, x1, x6, x7, x8 => if x8 ≤ x1 then ((api_Item_with_34_59.f k x0 x7 x8).bind fun _ => (api_Item_with_34_52.l0 k x0 x1 x6 x8 (wrap64 (x8 + x6)))) else ((api_Item_with_34_59.f k x0 x7 x1).bind fun _ => (api_Item_with_34_52.l1 k x1 x6))
def api_Item_with_34_52.l1 : Nat → Int → Int → Option (Unit)
 | 0, _, _ => none
 | k + 1, x1, x6 => if x6 < x1 then (api_Item_with_34_52.l2 k x1 x6 0 (wrap64 (2 * x6))) else (some ())
def api_Item_with_34_52.l2 : Nat → Int → Int → Int → Int → Option (Unit)
 | 0, _, _, _, _ => none
 | k + 1, x1, x6, x7, x8 => if x8 ≤ x1 then (none) else (if (wrap64 (x7 + x6)) < x1 then (none) else (api_Item_with_34_52.l1 k x1 (wrap64 (x6 * 2))))
end
def api_Item_with_34_52.f (k : Nat) (l0 : List (S56)) (a1 : Int) : Option (Unit) := api_Item_with_34_52.l0 k l0 a1 20 0 20
theorem api_Item_with_34_52.mono_l : ∀ k, (∀ y0 y1 y2 y3 y4, LeC (api_Item_with_34_52.l0 k y0 y1 y2 y3 y4) (api_Item_with_34_52.l0 (k + 1) y0 y1 y2 y3 y4)) ∧ (∀ y0 y1, LeC (api_Item_with_34_52.l1 k y0 y1) (api_Item_with_34_52.l1 (k + 1) y0 y1)) ∧ (∀ y0 y1 y2 y3, LeC (api_Item_with_34_52.l2 k y0 y1 y2 y3) (api_Item_with_34_52.l2 (k + 1) y0 y1 y2 y3))
 | 0 => ⟨fun _ _ _ _ _ => ⟨fun r h => by simp [api_Item_with_34_52.l0] at h⟩, fun _ _ => ⟨fun r h => by simp [api_Item_with_34_52.l1] at h⟩, fun _ _ _ _ => ⟨fun r h => by simp [api_Item_with_34_52.l2] at h⟩⟩
 | k + 1 => by obtain ⟨ih0, ih1, ih2⟩ := api_Item_with_34_52.mono_l k; exact ⟨fun _ _ _ _ _ => by unfold api_Item_with_34_52.l0; exact lm, fun _ _ => by unfold api_Item_with_34_52.l1; exact lm, fun _ _ _ _ => by unfold api_Item_with_34_52.l2; exact lm⟩
theorem api_Item_with_34_52.mono : ∀ a0 a1 k, LeO (api_Item_with_34_52.f k a0 a1) (api_Item_with_34_52.f (k + 1) a0 a1) := by
 intro a0 a1 k
 obtain ⟨ih0, ih1, ih2⟩ := api_Item_with_34_52.mono_l k
 unfold api_Item_with_34_52.f
 exact lo
instance api_Item_with_34_52.mI {a0 a1 k} : LeC (api_Item_with_34_52.f k a0 a1) (api_Item_with_34_52.f (k + 1) a0 a1) := ⟨api_Item_with_34_52.mono _ _ _⟩
theorem api_Item_with_34_52.calls (k : Nat) (A0 : Option Addr) (c0 : Nat) (l0 : List (S56)) (a1 : Int) (w : World) (hr0 : Kd.C k56 w A0 l0.length l0) (hc0 : l0.length ≤ c0) (h : api_Item_with_34_52.f k l0 a1 = some ()) :
 Calls Try.prog 52 #[.slice A0 l0.length c0, .int .i64 a1, .func (.func 34) #[] #[]] w fun e w' => e = .returned (.tuple #[]) ∧ Below w.heap.size w w' := by
 have HR0 := Aside0.mk hr0
 have HC0 := Aside0.mk hc0
 clear hr0 hc0
 have HB := Aside0.mk (Below.refl w.heap.size w)
 have H : (api_Item_with_34_52.l0 k l0 a1 20 0 20) = some () := h
 clear h
 have H' := Aside0.mk H
 clear H
 go_enter Try.func52, Try.ntmps52
 go_wp2
 go_loopg [7, 8] k (fun kq v7 v8 w' => ∃ (x7_1 : Int) (x8_1 : Int), v7 = .int .i64 x7_1 ∧ v8 = .int .i64 x8_1 ∧ Aside0 (api_Item_with_34_52.l0 kq l0 a1 20 x7_1 x8_1 = some ()) ∧ Aside0 (kq ≤ k) ∧ Aside0 (Below w.heap.size w w'))
 case atStart => exact ⟨(0), (20), rs_, rs_, H', ⟨Nat.le_refl _⟩, ⟨uW HB.out⟩⟩
 case round =>
  clear H'
  try clear p2
  obtain ⟨x7_1, x8_1, rfl, rfl, HA, HK1, HB⟩ := hrel
  cases gk with
  | zero => exact absurd HA.out (by simp [api_Item_with_34_52.l0])
  | succ k1 =>
   have H := HA.out
   clear HA
   simp only [api_Item_with_34_52.l0] at H
   by_cases c3 : x8_1 ≤ a1
   ·
    rw [if_pos c3] at H
    have c3b0 : decide (x8_1 ≤ a1) = true := decide_eq_true c3
    clear c3
    obtain ⟨_, A4, H⟩ := bs H
    try dsimp only at H
    have H' := Aside0.mk H
    clear H
    go_wp2_with (first | (refine gL (some 18) rfl Try.func59 #[.slice A0 l0.length c0, .int .i64 x7_1, .int .i64 x8_1, (.func (.func 34) #[] #[])] ?_; (with_reducible refine (api_Item_with_34_59.calls k1 _ _ l0 x7_1 x8_1  _ ?side1 ?side2 A4.out).mono ?_); (case side1 => exact uC <| (Kd.C_below HR0.out HB.out)); (case side2 => exact HC0.out); rintro e w5 ⟨rfl, hb⟩; refine ⟨_, rfl, ?_⟩; replace HB := cW HB hb; (try clear hb)))
    go_roundg k1
    case measure => have := HK1.out; omega
    case rel => exact ⟨(x8_1), (wrap64 (x8_1 + 20)), rs_, rs_, H', ⟨by have := HK1.out; omega⟩, ⟨uW HB.out⟩⟩
   ·
    rw [if_neg c3] at H
    have c3b0 : decide (x8_1 ≤ a1) = false := decide_eq_false c3
    clear c3
    obtain ⟨_, A6, H⟩ := bs H
    try dsimp only at H
    have H' := Aside0.mk H
    clear H
    go_wp2_with (first | (refine gL (some 27) rfl Try.func59 #[.slice A0 l0.length c0, .int .i64 x7_1, .int .i64 a1, (.func (.func 34) #[] #[])] ?_; (with_reducible refine (api_Item_with_34_59.calls k1 _ _ l0 x7_1 a1  _ ?side1 ?side2 A6.out).mono ?_); (case side1 => exact uC <| (Kd.C_below HR0.out HB.out)); (case side2 => exact HC0.out); rintro e w7 ⟨rfl, hb⟩; refine ⟨_, rfl, ?_⟩; replace HB := cW HB hb; (try clear hb)))
    (try simp only [Act.put, List.setIfInBounds_toArray, List.set_cons_zero, List.set_cons_succ])
    go_loopg [6] k1 (fun kq v6 w' => ∃ (x6_2 : Int), v6 = .int .i64 x6_2 ∧ Aside0 (api_Item_with_34_52.l1 kq a1 x6_2 = some ()) ∧ Aside0 (kq ≤ k1) ∧ Aside0 (Below w.heap.size w w'))
    case atStart => exact ⟨(20), rs_, H', ⟨Nat.le_refl _⟩, ⟨uW HB.out⟩⟩
    case round =>
     clear H'
     try clear p2
     try clear c3
     try clear c3b0
     try clear p6
     try clear p2
     obtain ⟨x6_2, rfl, HA, HK2, HB⟩ := hrel
     cases gk with
     | zero => exact absurd HA.out (by simp [api_Item_with_34_52.l1])
     | succ k2 =>
      have H := HA.out
      clear HA
      simp only [api_Item_with_34_52.l1] at H
      by_cases c8 : x6_2 < a1
      ·
       rw [if_pos c8] at H
       have c8b0 : decide (x6_2 < a1) = true := decide_eq_true c8
       clear c8
       have H' := Aside0.mk H
       clear H
       go_wp2
       go_loopg [7, 8] k2 (fun kq v7 v8 w' => ∃ (x7_3 : Int) (x8_3 : Int), v7 = .int .i64 x7_3 ∧ v8 = .int .i64 x8_3 ∧ Aside0 (api_Item_with_34_52.l2 kq a1 x6_2 x7_3 x8_3 = some ()) ∧ Aside0 (kq ≤ k2) ∧ Aside0 (Below w.heap.size w w'))
       case atStart => exact ⟨(0), (wrap64 (2 * x6_2)), rs_, rs_, H', ⟨Nat.le_refl _⟩, ⟨uW HB.out⟩⟩
       case round =>
        clear H'
        try clear p2
        try clear c3
        try clear c3b0
        try clear p6
        try clear c8
        try clear c8b0
        try clear p2
        try clear p6
        obtain ⟨x7_3, x8_3, rfl, rfl, HA, HK3, HB⟩ := hrel
        cases gk with
        | zero => exact absurd HA.out (by simp [api_Item_with_34_52.l2])
        | succ k3 =>
         have H := HA.out
         clear HA
         simp only [api_Item_with_34_52.l2] at H
         obtain ⟨c9b0, H⟩ := gnn H
         obtain ⟨c10b0, H⟩ := gnn H
         have H' := Aside0.mk H
         clear H
         go_wp2
         go_roundg k3
         case measure => have := HK1.out; have := HK2.out; have := HK3.out; omega
         case rel => exact ⟨(wrap64 (x6_2 * 2)), rs_, H', ⟨by have := HK1.out; have := HK2.out; have := HK3.out; omega⟩, ⟨uW HB.out⟩⟩
      ·
       rw [if_neg c8] at H
       have c8b0 : decide (x6_2 < a1) = false := decide_eq_false c8
       clear c8
       go_wp2
       first | go_end0 | ((try simp only [Exit.inBlock, Exit.then]); refine bodyPost_ret (results_none rfl _ _ _) rfl ?_)
       exact ⟨re_, uW HB.out⟩
def api_Item_with_34_33.f (k : Nat) (l0 : List (S56)) : Option (Unit) := (api_Item_with_34_52.f k l0 (l0.length : Int)).bind fun _ => (some ())
theorem api_Item_with_34_33.mono : ∀ a0 k, LeO (api_Item_with_34_33.f k a0) (api_Item_with_34_33.f (k + 1) a0) := by
 intro a0 k
 unfold api_Item_with_34_33.f
 exact lo
instance api_Item_with_34_33.mI {a0 k} : LeC (api_Item_with_34_33.f k a0) (api_Item_with_34_33.f (k + 1) a0) := ⟨api_Item_with_34_33.mono _ _⟩
theorem api_Item_with_34_33.calls (k : Nat) (A0 : Option Addr) (c0 : Nat) (l0 : List (S56)) (w : World) (hr0 : Kd.C k56 w A0 l0.length l0) (hc0 : l0.length ≤ c0) (h : api_Item_with_34_33.f k l0 = some ()) :
 Calls Try.prog 33 #[.slice A0 l0.length c0, .func (.func 34) #[] #[]] w fun e w' => e = .returned (.tuple #[]) ∧ Below w.heap.size w w' := by
 have HR0 := Aside0.mk hr0
 have HC0 := Aside0.mk hc0
 clear hr0 hc0
 have HB := Aside0.mk (Below.refl w.heap.size w)
 have H : ((api_Item_with_34_52.f k l0 (l0.length : Int)).bind fun _ => (some ())) = some () := h
 clear h
 obtain ⟨_, A2, H⟩ := bs H
 try dsimp only at H
 go_enter Try.func33, Try.ntmps33
 go_wp2_with (first | (refine gL (some 8) rfl Try.func52 #[.slice A0 l0.length c0, .int .i64 (l0.length : Int), (.func (.func 34) #[] #[])] ?_; (with_reducible refine (api_Item_with_34_52.calls k _ _ l0 (l0.length : Int)  _ ?side1 ?side2 A2.out).mono ?_); (case side1 => exact uC <| HR0.out); (case side2 => exact HC0.out); rintro e w3 ⟨rfl, hb⟩; refine ⟨_, rfl, ?_⟩; replace HB := cW HB hb; (try clear hb)))
 first | go_end0 | ((try simp only [Exit.inBlock, Exit.then]); refine bodyPost_ret (results_none rfl _ _ _) rfl ?_)
 exact ⟨re_, uW HB.out⟩
def emit_Take.l0 : Nat → Int → Int → List (S70) → Int → Int → Int → Int → List (S56) → Option (Int × Int × (List (S56)))
 | 0, _, _, _, _, _, _, _, _ => none
 | k + 1, x0, x1, x15, x16, x17, x148000, x148001, x148002 => if x17 < x16 then (if 0 ≤ x17 then (if x17 < (x15.length : Int) then ((chain_At.f k ((rd_T70 x15 x17).f2) x1).bind fun bt153 => (if ((rd_T70 x15 x17).f0) = x0 then ((cell_Empty.f bt153.1 bt153.2.1 bt153.2.2.1 bt153.2.2.2.1 bt153.2.2.2.2).bind fun t159 => (if t159 = true then (emit_Take.l0 k x0 x1 x15 x16 (wrap64 (x17 + 1)) x148000 x148001 x148002) else (if x148002.length < 2199023255552 then (emit_Take.l0 k x0 x1 x15 x16 (wrap64 (x17 + 1)) x148000 x148001 (x148002 ++ [(⟨x0, (rd_T70 x15 x17).f1, (⟨bt153.1, (⟨bt153.2.1, bt153.2.2.1⟩ : S52), bt153.2.2.2.1, bt153.2.2.2.2⟩ : S54)⟩ : S56)])) else (none)))) else (emit_Take.l0 k x0 x1 x15 x16 (wrap64 (x17 + 1)) x148000 x148001 x148002))) else (none)) else (none)) else ((api_Item_with_34_33.f k x148002).bind fun _ => (some (x148000, x148001, x148002)))
def emit_Take.f (k : Nat) (a0 : Int) (a1 : Int) (l2 : List (S50)) : Option (Int × Int × (List (S56))) := (emit_entries.f k l2).bind fun t148 => (emit_Take.l0 k a0 a1 t148 (t148.length : Int) 0 a0 a1 ([] : List (S56)))
theorem emit_Take.mono_l : ∀ k, (∀ y0 y1 y2 y3 y4 y5 y6 y7, LeC (emit_Take.l0 k y0 y1 y2 y3 y4 y5 y6 y7) (emit_Take.l0 (k + 1) y0 y1 y2 y3 y4 y5 y6 y7))
 | 0 => fun _ _ _ _ _ _ _ _ => ⟨fun r h => by simp [emit_Take.l0] at h⟩
 | k + 1 => by have ih0 := emit_Take.mono_l k; exact fun _ _ _ _ _ _ _ _ => by unfold emit_Take.l0; exact lm
theorem emit_Take.mono : ∀ a0 a1 a2 k, LeO (emit_Take.f k a0 a1 a2) (emit_Take.f (k + 1) a0 a1 a2) := by
 intro a0 a1 a2 k
 have ih0 := emit_Take.mono_l k
 unfold emit_Take.f
 exact lo
instance emit_Take.mI {a0 a1 a2 k} : LeC (emit_Take.f k a0 a1 a2) (emit_Take.f (k + 1) a0 a1 a2) := ⟨emit_Take.mono _ _ _ _⟩
theorem emit_Take.calls (k : Nat) (a0 : Int) (a1 : Int) (A2 : Option Addr) (c2 : Nat) (l2 : List (S50)) (r1 : Int) (r2 : Int) (r3 : List (S56)) (w : World) (hr2 : Kd.C k50 w A2 l2.length l2) (hc2 : l2.length ≤ c2) (h : emit_Take.f k a0 a1 l2 = some (r1, r2, r3)) :
 Calls Try.prog 12 #[.int .i64 a0, .int .i64 a1, .slice A2 l2.length c2] w fun e w' => ∃ v2_ : Value, e = .returned (.agg #[.int .i64 r1, .int .i64 r2, v2_]) ∧ Kd.R k56 56 w' w.heap.size (fun _ => True) v2_ r3 ∧ Below w.heap.size w w' := by
 have hu38 := Try.underlying38
 have hu70 := Try.underlying70
 have hu54 := Try.underlying54
 have hu56 := Try.underlying56
 have HR2 := Aside0.mk hr2
 have HC2 := Aside0.mk hc2
 clear hr2 hc2
 have HB := Aside0.mk (Below.refl w.heap.size w)
 have H : ((emit_entries.f k l2).bind fun t148 => (emit_Take.l0 k a0 a1 t148 (t148.length : Int) 0 a0 a1 ([] : List (S56)))) = some (r1, r2, r3) := h
 clear h
 obtain ⟨t148, A4, H⟩ := bs H
 try dsimp only at H
 have H' := Aside0.mk H
 clear H
 go_enter Try.func12, Try.ntmps12
 go_wp2_with (first | ((with_reducible refine gate_dst (N := 6) rfl ?_); refine bx (N := 6) #[.int .i64 0, .int .i64 0, .slice none 0 0] 38 ?_; intro gb146 hg w5 hbox hb; have BK146 := Aside0.mk (hbox); have GW146 := gw hg (uW HB.out); have GE146 := GW146; replace HB := cW HB hb; clear hb hbox hg) | ((with_reducible refine gate_dst (N := 7) rfl ?_); refine bx (N := 7) #[.int .i64 0, .int .i64 0, .slice none 0 0] 38 ?_; intro gb147 hg w6 hbox hb; have BK147 := Aside0.mk (hbox); have GW147 := gw hg bl; have GE147 := GW147; replace HB := Aside0.mk (below_step bl hb); have NB146_147 := Aside0.mk ((by rw [hg]; exact Nat.ne_of_lt (blk_lt (g := gb146) (o := .cells #[.int .i64 0, .int .i64 0, .slice none 0 0] 38 (0, 0)) (uB BK146.out)) : gb146 ≠ gb147)); have NB147_146 := Aside0.mk ((by rw [hg]; exact Nat.ne_of_gt (blk_lt (g := gb146) (o := .cells #[.int .i64 0, .int .i64 0, .slice none 0 0] 38 (0, 0)) (uB BK146.out)) : gb147 ≠ gb146)); replace BK146 := cB BK146 hb; clear hb hbox hg; have hnb7 := NB147_146.out; have hnc7 := NB146_147.out; obtain ⟨hcz8_0, hcz8_1, hcz8_2, hfz8_0, hfz8_1, hfz8_2⟩ := z3 BK147) | ((with_reducible refine gate_store (t := 38) (p := 7) rfl ?_); refine store_event (t := 38) (p := 7) (v := ?vo_w9) (w1 := (((w6.setCell ⟨gb147, 0, none⟩ (.int .i64 a0)).setCell ⟨gb147, 1, none⟩ (.int .i64 a1)).setCell ⟨gb147, 2, none⟩ (.slice none 0 0))) ?hg ?ho ?hn ?hr ?_; (case ho => rfl); (case hg => rfl); (case hn => rfl); (case hr => first | (go_simp; done) | (go_simp; rfl)); intro w9 hw; have n0_ : Aside0 (w9.heap[gb146]? = some (.cells #[.int .i64 0, .int .i64 0, .slice none 0 0] 38 (0, 0))) := ⟨(by rw [hw]; exact (by (with_reducible repeat (first | refine blk_drewN ?_ _ | refine blk_drew ?_ | refine blk_alloc ?_ _)); refine blk_far ?_ NB146_147.out _; (with_reducible repeat (first | refine blk_drewN ?_ _ | refine blk_drew ?_ | refine blk_alloc ?_ _)); refine blk_far ?_ NB146_147.out _; (with_reducible repeat (first | refine blk_drewN ?_ _ | refine blk_drew ?_ | refine blk_alloc ?_ _)); refine blk_far ?_ NB146_147.out _; exact uB <| BK146.out))⟩; have n1_ : Aside0 (w9.heap[gb147]? = some (.cells #[.int .i64 a0, .int .i64 a1, .slice none 0 0] 38 (0, 0))) := ⟨(by rw [hw]; exact (by (with_reducible repeat (first | refine blk_drewN ?_ _ | refine blk_drew ?_ | refine blk_alloc ?_ _)); refine blk_put (cs := #[.int .i64 a0, .int .i64 a1, .slice none 0 0]) ?_ 2 _ rfl; (with_reducible repeat (first | refine blk_drewN ?_ _ | refine blk_drew ?_ | refine blk_alloc ?_ _)); refine blk_put (cs := #[.int .i64 a0, .int .i64 0, .slice none 0 0]) ?_ 1 _ rfl; (with_reducible repeat (first | refine blk_drewN ?_ _ | refine blk_drew ?_ | refine blk_alloc ?_ _)); refine blk_put (cs := #[.int .i64 0, .int .i64 0, .slice none 0 0]) ?_ 0 _ rfl; exact uB <| BK147.out))⟩; have n2_ : Aside0 (Below w.heap.size w w9) := ⟨(by rw [hw]; exact bl)⟩; clear hw; clear BK146; clear BK147; clear HB; have BK146 := n0_; have BK147 := n1_; have HB := n2_; clear n0_ n1_ n2_) | (refine gL (some 15) rfl Try.func23 #[.slice A2 l2.length c2] ?_; (with_reducible refine (emit_entries.calls k (fun k_ => k_ < w.heap.size) _ _ l2 t148 _ ?side1 A4.out).mono ?_); (case side1 => exact Kd.V_mk HC2.out (Kd.F_below (Kd.C_F k50_heap HR2.out) bl)); rintro e w10 ⟨v149, rfl, ho0, hb⟩; refine ⟨_, rfl, ?_⟩; have HO150 := Aside0.mk (Kd.N_lower (Kd.N_mono (ok' := fun k_ => k_ ≠ gb146 ∧ k_ ≠ gb147) ho0 (fun k_ hk_ => ⟨Or.elim hk_ (fun hs_ => fun e_ => Nat.not_le.2 hs_ (by rw [e_]; exact GW146.out)) (fun hn_ => (Kd.freshB (g := gb146) (o := .cells #[.int .i64 0, .int .i64 0, .slice none 0 0] 38 (0, 0)) (uB BK146.out) k_ hn_)), Or.elim hk_ (fun hs_ => fun e_ => Nat.not_le.2 hs_ (by rw [e_]; exact GW147.out)) (fun hn_ => (Kd.freshB (g := gb147) (o := .cells #[.int .i64 a0, .int .i64 a1, .slice none 0 0] 38 (0, 0)) (uB BK147.out) k_ hn_))⟩)) (below_size bl)); replace BK146 := cB BK146 hb; replace BK147 := cB BK147 hb; replace HB := Aside0.mk (below_step bl hb); (try clear hb); (try clear ho0); obtain ⟨Ao11, co11, eo11⟩ := Kd.N_slice HO150.out; subst eo11))
 (try simp only [Act.put, List.setIfInBounds_toArray, List.set_cons_zero, List.set_cons_succ])
 go_loopg [17] k (fun kq v17 w' => ∃ (x17_1 : Int) (x148002_1 : List (S56)) (u148002 : Value), v17 = .int .i64 x17_1 ∧ Aside0 (emit_Take.l0 kq a0 a1 t148 (t148.length : Int) x17_1 a0 a1 x148002_1 = some (r1, r2, r3)) ∧ Aside0 (kq ≤ k) ∧ Aside0 (Kd.N k70 70 w' w.heap.size (fun k_ => some k_ ≠ (u148002 : Value).ownBlock ∧ k_ ≠ gb146 ∧ k_ ≠ gb147) (.slice Ao11 t148.length co11) t148) ∧ Aside0 (Kd.R k56 56 w' w.heap.size (fun _ => True) u148002 x148002_1) ∧ Aside0 (w'.heap[gb146]? = some (.cells #[.int .i64 0, .int .i64 0, (.slice none 0 0)] 38 (0, 0))) ∧ Aside0 (w'.heap[gb147]? = some (.cells #[.int .i64 a0, .int .i64 a1, u148002] 38 (0, 0))) ∧ Aside0 (Below w.heap.size w w'))
 case atStart => exact ⟨(0), (([] : List (S56))), (.slice none 0 0), rs_, H', ⟨Nat.le_refl _⟩, ⟨by (with_reducible repeat (first | apply Kd.N_alloc | apply Kd.N_drewN | apply Kd.N_drew)); exact Kd.N_mono HO150.out (fun _ hk => ⟨(by simp [Value.ownBlock]), ⟨hk.1, hk.2⟩⟩)⟩, ⟨nl_⟩, ⟨uB BK146.out⟩, ⟨uB BK147.out⟩, ⟨bl⟩⟩
 case round =>
  clear H'
  try clear c1
  try clear c2
  try clear p2
  try clear c7
  try clear hcz8_0
  try clear hcz8_1
  try clear hcz8_2
  try clear hfz8_0
  try clear hfz8_1
  try clear hfz8_2
  obtain ⟨x17_1, x148002_1, u148002, rfl, HA, HK1, HO_15, HO_148002, BK146, BK147, HB⟩ := hrel
  cases gk with
  | zero => exact absurd HA.out (by simp [emit_Take.l0])
  | succ k1 =>
   have H := HA.out
   clear HA
   simp only [emit_Take.l0] at H
   by_cases c12 : x17_1 < (t148.length : Int)
   ·
    rw [if_pos c12] at H
    have c12b0 : decide (x17_1 < (t148.length : Int)) = true := decide_eq_true c12
    clear c12
    obtain ⟨c13b0, H⟩ := gdd H
    obtain ⟨c14b0, H⟩ := gdd H
    obtain ⟨⟨t153, t154, t155, t156, t157⟩, A15, H⟩ := bs H
    try dsimp only at H
    by_cases c16 : ((rd_T70 t148 x17_1).f0) = a0
    ·
     rw [if_pos c16] at H
     have c16b0 : (((rd_T70 t148 x17_1).f0) == a0) = true := beq_iff_eq.mpr c16
     have c16b1 : (((rd_T70 t148 x17_1).f0) != a0) = false := bne_eq_false_iff_eq.mpr c16
     clear c16
     obtain ⟨t159, A17, H⟩ := bs H
     try dsimp only at H
     by_cases c18 : t159 = true
     ·
      subst c18
      rw [if_pos rfl] at H
      have H' := Aside0.mk H
      clear H
      have p151 : 0 ≤ (x17_1 : Int) := od
      have q151 : x17_1 < (t148.length : Int) := od
      obtain ⟨ad151, A151_2, c151_2, e151, hx151_0, hx151_1, hx151_2, hl151_2, hi151_2⟩ := at_T70 (Kd.N_reads' HO_15.out).2.2 x17_1 p151 q151
      cases e151
      obtain ⟨ce151, hce151, hMe151, hcc151⟩ := Kd.N_get HO_15.out z70 x17_1 p151 (by first | exact q151 | exact od | (have e_ := (Kd.N_reads' HO_15.out).1; omega))
      obtain ⟨ua151_2, uc151_2, rfl, ul151_2, ge151_2⟩ := k70_openF hMe151
      have hv151_2 := hcc151 2 _ rfl
      rw [add_field _ _ 2 (by omega)] at hv151_2
      replace hv151_2 := Option.some.inj (hv151_2.symm.trans hx151_2)
      injection hv151_2 with hva_ hvn_ hvc_
      rw [hva_] at ge151_2
      rw [hvc_] at ul151_2
      have HL151_2 := Aside0.mk (show Kd.V k96 96 _ w.heap.size _ _ ((rd_T70 t148 x17_1).f2) from Kd.V_mk ul151_2 ge151_2)
      clear hva_ hvn_ hvc_ ge151_2 ul151_2
      clear hcc151 hce151
      have HR151_2 := Aside0.mk hi151_2
      have HC151_2 := Aside0.mk hl151_2
      clear hi151_2 hl151_2
      replace p151 := eq_true p151
      replace q151 := eq_true q151
      go_wp2_with (first | ((with_reducible refine gate_dst (N := 9) rfl ?_); refine bx (N := 9) #[.int .i64 0, .string (⟨#[]⟩ : ByteArray), .slice none 0 0] 70 ?_; intro gb152 hg w19 hbox hb; replace HO_15 := Aside0.mk (Kd.N_below (Kd.N_elderB (by (with_reducible repeat (first | apply Kd.N_alloc | apply Kd.N_drewN | apply Kd.N_drew)); exact HO_15.out) gb152 (Nat.le_of_eq hg.symm)) hb); replace HO_148002 := cR HO_148002 hb; replace HL151_2 := Aside0.mk (Kd.V_below (Kd.V_elderB (uV HL151_2.out) gb152 (Nat.le_of_eq hg.symm)) hb); replace HR151_2 := cC HR151_2 hb; have BK152 := Aside0.mk (hbox); have GW152 := gw hg bl; have GE152 := GW152; replace HB := Aside0.mk (below_step bl hb); have NB146_152 := Aside0.mk ((by rw [hg]; exact Nat.ne_of_lt (blk_lt (g := gb146) (o := .cells #[.int .i64 0, .int .i64 0, .slice none 0 0] 38 (0, 0)) (uB BK146.out)) : gb146 ≠ gb152)); have NB152_146 := Aside0.mk ((by rw [hg]; exact Nat.ne_of_gt (blk_lt (g := gb146) (o := .cells #[.int .i64 0, .int .i64 0, .slice none 0 0] 38 (0, 0)) (uB BK146.out)) : gb152 ≠ gb146)); replace BK146 := cB BK146 hb; have NB147_152 := Aside0.mk ((by rw [hg]; exact Nat.ne_of_lt (blk_lt (g := gb147) (o := .cells #[.int .i64 a0, .int .i64 a1, u148002] 38 (0, 0)) (uB BK147.out)) : gb147 ≠ gb152)); have NB152_147 := Aside0.mk ((by rw [hg]; exact Nat.ne_of_gt (blk_lt (g := gb147) (o := .cells #[.int .i64 a0, .int .i64 a1, u148002] 38 (0, 0)) (uB BK147.out)) : gb152 ≠ gb147)); replace BK147 := cB BK147 hb; clear hb hbox hg; have hnb20 := NB152_146.out; have hnc20 := NB146_152.out; have hnb21 := NB152_147.out; have hnc21 := NB147_152.out; obtain ⟨hcz22_0, hcz22_1, hcz22_2, hfz22_0, hfz22_1, hfz22_2⟩ := z3 BK152) | (refine gL (some 24) rfl Try.func31 #[.slice A151_2 ((rd_T70 t148 x17_1).f2).length c151_2, .int .i64 a1] ?_; (with_reducible refine (chain_At.calls k1 _ _ ((rd_T70 t148 x17_1).f2) a1 t153 t154 t155 t156 t157 _ ?side1 ?side2 A15.out).mono ?_); (case side1 => repeat (first | exact ((Kd.V_reads' (by exact uV <| (Kd.V_mono (Kd.V_far (p := ⟨gb152, 2, none⟩) (Kd.V_far (p := ⟨gb152, 1, none⟩) (Kd.V_far (p := ⟨gb152, 0, none⟩) (Kd.V_mono HL151_2.out (fun k_ hk => (⟨hk, hk.2⟩ : _ ∧ k_ ≠ gb152))) (fun _ hk => hk.2) (.int .i64 ((rd_T70 t148 x17_1).f0))) (fun _ hk => hk.2) (.string ((rd_T70 t148 x17_1).f1))) (fun _ hk => hk.2) (.slice A151_2 ((rd_T70 t148 x17_1).f2).length c151_2)) (fun _ h_ => h_.1)))).2.2) | (with_reducible refine Kd.C_alloc ?_ _) | (with_reducible refine Kd.C_drewN ?_ _) | (with_reducible refine Kd.C_drew ?_))); (case side2 => exact HC151_2.out); rintro e w23 ⟨rfl, hb⟩; refine ⟨_, rfl, ?_⟩; replace HO_15 := Aside0.mk (Kd.N_below (by (with_reducible repeat (first | apply Kd.N_alloc | apply Kd.N_drewN | apply Kd.N_drew)); exact (Kd.N_mono (Kd.N_far (p := ⟨gb152, 2, none⟩) (Kd.N_far (p := ⟨gb152, 1, none⟩) (Kd.N_far (p := ⟨gb152, 0, none⟩) (Kd.N_mono HO_15.out (fun k_ hk => (⟨hk, hk.2⟩ : _ ∧ k_ ≠ gb152))) (fun _ hk => hk.2) (.int .i64 ((rd_T70 t148 x17_1).f0))) (fun _ hk => hk.2) (.string ((rd_T70 t148 x17_1).f1))) (fun _ hk => hk.2) (.slice A151_2 ((rd_T70 t148 x17_1).f2).length c151_2)) (fun _ h_ => h_.1))) hb); replace HO_148002 := Aside0.mk (Kd.R_below (by exact uR <| (Kd.R_mono (Kd.R_far (p := ⟨gb152, 2, none⟩) (Kd.R_far (p := ⟨gb152, 1, none⟩) (Kd.R_far (p := ⟨gb152, 0, none⟩) (Kd.R_types HO_148002.out BK152.out (by decide)) (fun _ hk => hk.2) (.int .i64 ((rd_T70 t148 x17_1).f0))) (fun _ hk => hk.2) (.string ((rd_T70 t148 x17_1).f1))) (fun _ hk => hk.2) (.slice A151_2 ((rd_T70 t148 x17_1).f2).length c151_2)) (fun _ h_ => h_.1))) hb); replace BK146 := Aside0.mk (blk_below (g := gb146) (o := .cells #[.int .i64 0, .int .i64 0, .slice none 0 0] 38 (0, 0)) (by (with_reducible repeat (first | refine blk_drewN ?_ _ | refine blk_drew ?_ | refine blk_alloc ?_ _)); refine blk_far ?_ NB146_152.out _; (with_reducible repeat (first | refine blk_drewN ?_ _ | refine blk_drew ?_ | refine blk_alloc ?_ _)); refine blk_far ?_ NB146_152.out _; (with_reducible repeat (first | refine blk_drewN ?_ _ | refine blk_drew ?_ | refine blk_alloc ?_ _)); refine blk_far ?_ NB146_152.out _; exact uB <| BK146.out) hb); replace BK147 := Aside0.mk (blk_below (g := gb147) (o := .cells #[.int .i64 a0, .int .i64 a1, u148002] 38 (0, 0)) (by (with_reducible repeat (first | refine blk_drewN ?_ _ | refine blk_drew ?_ | refine blk_alloc ?_ _)); refine blk_far ?_ NB147_152.out _; (with_reducible repeat (first | refine blk_drewN ?_ _ | refine blk_drew ?_ | refine blk_alloc ?_ _)); refine blk_far ?_ NB147_152.out _; (with_reducible repeat (first | refine blk_drewN ?_ _ | refine blk_drew ?_ | refine blk_alloc ?_ _)); refine blk_far ?_ NB147_152.out _; exact uB <| BK147.out) hb); replace HR151_2 := Aside0.mk (Kd.C_below ((Kd.V_reads' (by exact uV <| (Kd.V_mono (Kd.V_far (p := ⟨gb152, 2, none⟩) (Kd.V_far (p := ⟨gb152, 1, none⟩) (Kd.V_far (p := ⟨gb152, 0, none⟩) (Kd.V_mono HL151_2.out (fun k_ hk => (⟨hk, hk.2⟩ : _ ∧ k_ ≠ gb152))) (fun _ hk => hk.2) (.int .i64 ((rd_T70 t148 x17_1).f0))) (fun _ hk => hk.2) (.string ((rd_T70 t148 x17_1).f1))) (fun _ hk => hk.2) (.slice A151_2 ((rd_T70 t148 x17_1).f2).length c151_2)) (fun _ h_ => h_.1)))).2.2) hb); replace HL151_2 := Aside0.mk (Kd.V_below (by exact uV <| (Kd.V_mono (Kd.V_far (p := ⟨gb152, 2, none⟩) (Kd.V_far (p := ⟨gb152, 1, none⟩) (Kd.V_far (p := ⟨gb152, 0, none⟩) (Kd.V_mono HL151_2.out (fun k_ hk => (⟨hk, hk.2⟩ : _ ∧ k_ ≠ gb152))) (fun _ hk => hk.2) (.int .i64 ((rd_T70 t148 x17_1).f0))) (fun _ hk => hk.2) (.string ((rd_T70 t148 x17_1).f1))) (fun _ hk => hk.2) (.slice A151_2 ((rd_T70 t148 x17_1).f2).length c151_2)) (fun _ h_ => h_.1))) hb); replace BK152 := Aside0.mk (blk_below (g := gb152) (o := .cells #[.int .i64 ((rd_T70 t148 x17_1).f0), .string ((rd_T70 t148 x17_1).f1), .slice A151_2 ((rd_T70 t148 x17_1).f2).length c151_2] 70 (0, 0)) (by (with_reducible repeat (first | refine blk_drewN ?_ _ | refine blk_drew ?_ | refine blk_alloc ?_ _)); refine blk_put (cs := #[.int .i64 ((rd_T70 t148 x17_1).f0), .string ((rd_T70 t148 x17_1).f1), .slice none 0 0]) ?_ 2 _ rfl; (with_reducible repeat (first | refine blk_drewN ?_ _ | refine blk_drew ?_ | refine blk_alloc ?_ _)); refine blk_put (cs := #[.int .i64 ((rd_T70 t148 x17_1).f0), .string (⟨#[]⟩ : ByteArray), .slice none 0 0]) ?_ 1 _ rfl; (with_reducible repeat (first | refine blk_drewN ?_ _ | refine blk_drew ?_ | refine blk_alloc ?_ _)); refine blk_put (cs := #[.int .i64 0, .string (⟨#[]⟩ : ByteArray), .slice none 0 0]) ?_ 0 _ rfl; exact uB <| BK152.out) hb); replace HB := Aside0.mk (below_step bl hb); (try clear hb)) | ((with_reducible refine gate_dst (N := 10) rfl ?_); refine bx (N := 10) #[.int .i64 0, .int .i64 0, .bool false, .int .i64 0, .int .i64 0] 54 ?_; intro gb158 hg w24 hbox hb; replace HO_15 := Aside0.mk (Kd.N_below (Kd.N_elderB (by (with_reducible repeat (first | apply Kd.N_alloc | apply Kd.N_drewN | apply Kd.N_drew)); exact HO_15.out) gb158 (Nat.le_of_eq hg.symm)) hb); replace HO_148002 := cR HO_148002 hb; replace HL151_2 := Aside0.mk (Kd.V_below (Kd.V_elderB (uV HL151_2.out) gb158 (Nat.le_of_eq hg.symm)) hb); replace HR151_2 := cC HR151_2 hb; have BK158 := Aside0.mk (hbox); have GW158 := gw hg bl; have GE158 := GW158; replace HB := Aside0.mk (below_step bl hb); have NB146_158 := Aside0.mk ((by rw [hg]; exact Nat.ne_of_lt (blk_lt (g := gb146) (o := .cells #[.int .i64 0, .int .i64 0, .slice none 0 0] 38 (0, 0)) (uB BK146.out)) : gb146 ≠ gb158)); have NB158_146 := Aside0.mk ((by rw [hg]; exact Nat.ne_of_gt (blk_lt (g := gb146) (o := .cells #[.int .i64 0, .int .i64 0, .slice none 0 0] 38 (0, 0)) (uB BK146.out)) : gb158 ≠ gb146)); replace BK146 := cB BK146 hb; have NB147_158 := Aside0.mk ((by rw [hg]; exact Nat.ne_of_lt (blk_lt (g := gb147) (o := .cells #[.int .i64 a0, .int .i64 a1, u148002] 38 (0, 0)) (uB BK147.out)) : gb147 ≠ gb158)); have NB158_147 := Aside0.mk ((by rw [hg]; exact Nat.ne_of_gt (blk_lt (g := gb147) (o := .cells #[.int .i64 a0, .int .i64 a1, u148002] 38 (0, 0)) (uB BK147.out)) : gb158 ≠ gb147)); replace BK147 := cB BK147 hb; have NB152_158 := Aside0.mk ((by rw [hg]; exact Nat.ne_of_lt (blk_lt (g := gb152) (o := .cells #[.int .i64 ((rd_T70 t148 x17_1).f0), .string ((rd_T70 t148 x17_1).f1), .slice A151_2 ((rd_T70 t148 x17_1).f2).length c151_2] 70 (0, 0)) (uB BK152.out)) : gb152 ≠ gb158)); have NB158_152 := Aside0.mk ((by rw [hg]; exact Nat.ne_of_gt (blk_lt (g := gb152) (o := .cells #[.int .i64 ((rd_T70 t148 x17_1).f0), .string ((rd_T70 t148 x17_1).f1), .slice A151_2 ((rd_T70 t148 x17_1).f2).length c151_2] 70 (0, 0)) (uB BK152.out)) : gb158 ≠ gb152)); replace BK152 := cB BK152 hb; clear hb hbox hg; have hnb25 := NB158_146.out; have hnc25 := NB146_158.out; have hnb26 := NB158_147.out; have hnc26 := NB147_158.out; have hnb27 := NB158_152.out; have hnc27 := NB152_158.out; obtain ⟨hcz28_0, hcz28_1, hcz28_2, hcz28_3, hcz28_4, hfz28_0, hfz28_1, hfz28_2, hfz28_3, hfz28_4⟩ := z5 BK158) | ((with_reducible refine gate_store (t := 54) (p := 10) rfl ?_); refine store_event (t := 54) (p := 10) (v := ?vo_w29) (w1 := (((((w24.setCell ⟨gb158, 0, none⟩ (.int .i64 t153)).setCell ⟨gb158, 1, none⟩ (.int .i64 t154)).setCell ⟨gb158, 2, none⟩ (.bool t155)).setCell ⟨gb158, 3, none⟩ (.int .i64 t156)).setCell ⟨gb158, 4, none⟩ (.int .i64 t157))) ?hg ?ho ?hn ?hr ?_; (case ho => rfl); (case hg => rfl); (case hn => rfl); (case hr => first | (go_simp; done) | (go_simp; rfl)); intro w29 hw; have n0_ : Aside0 (Kd.N k70 70 w29 w.heap.size (fun k_ => some k_ ≠ (u148002 : Value).ownBlock ∧ k_ ≠ gb146 ∧ k_ ≠ gb147 ∧ k_ ≠ gb152 ∧ k_ ≠ gb158) (.slice (some ad151) t148.length co11) t148) := ⟨(by rw [hw]; exact (by (with_reducible repeat (first | apply Kd.N_alloc | apply Kd.N_drewN | apply Kd.N_drew)); exact Kd.N_mono (Kd.N_far (p := ⟨gb158, 4, none⟩) (Kd.N_far (p := ⟨gb158, 3, none⟩) (Kd.N_far (p := ⟨gb158, 2, none⟩) (Kd.N_far (p := ⟨gb158, 1, none⟩) (Kd.N_far (p := ⟨gb158, 0, none⟩) (Kd.N_mono HO_15.out (fun k_ hk => (⟨hk, hk.2⟩ : _ ∧ k_ ≠ gb158))) (fun _ hk => hk.2) (.int .i64 t153)) (fun _ hk => hk.2) (.int .i64 t154)) (fun _ hk => hk.2) (.bool t155)) (fun _ hk => hk.2) (.int .i64 t156)) (fun _ hk => hk.2) (.int .i64 t157)) (fun _ hk => ⟨hk.1.1.1.1, ⟨hk.1.1.1.2.1, ⟨hk.1.1.1.2.2, ⟨hk.1.1.2, hk.1.2⟩⟩⟩⟩)))⟩; have n1_ : Aside0 (Kd.R k56 56 w29 w.heap.size (fun _ => True) u148002 x148002_1) := ⟨(by rw [hw]; exact (by exact uR <| Kd.R_mono (Kd.R_far (p := ⟨gb158, 4, none⟩) (Kd.R_far (p := ⟨gb158, 3, none⟩) (Kd.R_far (p := ⟨gb158, 2, none⟩) (Kd.R_far (p := ⟨gb158, 1, none⟩) (Kd.R_far (p := ⟨gb158, 0, none⟩) (Kd.R_types HO_148002.out BK158.out (by decide)) (fun _ hk => hk.2) (.int .i64 t153)) (fun _ hk => hk.2) (.int .i64 t154)) (fun _ hk => hk.2) (.bool t155)) (fun _ hk => hk.2) (.int .i64 t156)) (fun _ hk => hk.2) (.int .i64 t157)) (fun _ hk => trivial)))⟩; have n2_ : Aside0 (Kd.V k96 96 w29 w.heap.size (fun k_ => some k_ ≠ (.slice (some ad151) t148.length co11 : Value).ownBlock ∧ some k_ ≠ (u148002 : Value).ownBlock ∧ k_ ≠ gb146 ∧ k_ ≠ gb147 ∧ k_ ≠ gb152 ∧ k_ ≠ gb158) (.slice A151_2 ((rd_T70 t148 x17_1).f2).length c151_2) ((rd_T70 t148 x17_1).f2)) := ⟨(by rw [hw]; exact (by exact uV <| Kd.V_mono (Kd.V_far (p := ⟨gb158, 4, none⟩) (Kd.V_far (p := ⟨gb158, 3, none⟩) (Kd.V_far (p := ⟨gb158, 2, none⟩) (Kd.V_far (p := ⟨gb158, 1, none⟩) (Kd.V_far (p := ⟨gb158, 0, none⟩) (Kd.V_mono HL151_2.out (fun k_ hk => (⟨hk, hk.2⟩ : _ ∧ k_ ≠ gb158))) (fun _ hk => hk.2) (.int .i64 t153)) (fun _ hk => hk.2) (.int .i64 t154)) (fun _ hk => hk.2) (.bool t155)) (fun _ hk => hk.2) (.int .i64 t156)) (fun _ hk => hk.2) (.int .i64 t157)) (fun _ hk => ⟨hk.1.1.1.2, ⟨hk.1.1.1.1.1, ⟨hk.1.1.1.1.2.1, ⟨hk.1.1.1.1.2.2, ⟨hk.1.1.2, hk.1.2⟩⟩⟩⟩⟩)))⟩; have n3_ : Aside0 (w29.heap[gb146]? = some (.cells #[.int .i64 0, .int .i64 0, .slice none 0 0] 38 (0, 0))) := ⟨(by rw [hw]; exact (by (with_reducible repeat (first | refine blk_drewN ?_ _ | refine blk_drew ?_ | refine blk_alloc ?_ _)); refine blk_far ?_ NB146_158.out _; (with_reducible repeat (first | refine blk_drewN ?_ _ | refine blk_drew ?_ | refine blk_alloc ?_ _)); refine blk_far ?_ NB146_158.out _; (with_reducible repeat (first | refine blk_drewN ?_ _ | refine blk_drew ?_ | refine blk_alloc ?_ _)); refine blk_far ?_ NB146_158.out _; (with_reducible repeat (first | refine blk_drewN ?_ _ | refine blk_drew ?_ | refine blk_alloc ?_ _)); refine blk_far ?_ NB146_158.out _; (with_reducible repeat (first | refine blk_drewN ?_ _ | refine blk_drew ?_ | refine blk_alloc ?_ _)); refine blk_far ?_ NB146_158.out _; exact uB <| BK146.out))⟩; have n4_ : Aside0 (w29.heap[gb147]? = some (.cells #[.int .i64 a0, .int .i64 a1, u148002] 38 (0, 0))) := ⟨(by rw [hw]; exact (by (with_reducible repeat (first | refine blk_drewN ?_ _ | refine blk_drew ?_ | refine blk_alloc ?_ _)); refine blk_far ?_ NB147_158.out _; (with_reducible repeat (first | refine blk_drewN ?_ _ | refine blk_drew ?_ | refine blk_alloc ?_ _)); refine blk_far ?_ NB147_158.out _; (with_reducible repeat (first | refine blk_drewN ?_ _ | refine blk_drew ?_ | refine blk_alloc ?_ _)); refine blk_far ?_ NB147_158.out _; (with_reducible repeat (first | refine blk_drewN ?_ _ | refine blk_drew ?_ | refine blk_alloc ?_ _)); refine blk_far ?_ NB147_158.out _; (with_reducible repeat (first | refine blk_drewN ?_ _ | refine blk_drew ?_ | refine blk_alloc ?_ _)); refine blk_far ?_ NB147_158.out _; exact uB <| BK147.out))⟩; have n5_ : Aside0 (w29.heap[gb152]? = some (.cells #[.int .i64 ((rd_T70 t148 x17_1).f0), .string ((rd_T70 t148 x17_1).f1), .slice A151_2 ((rd_T70 t148 x17_1).f2).length c151_2] 70 (0, 0))) := ⟨(by rw [hw]; exact (by (with_reducible repeat (first | refine blk_drewN ?_ _ | refine blk_drew ?_ | refine blk_alloc ?_ _)); refine blk_far ?_ NB152_158.out _; (with_reducible repeat (first | refine blk_drewN ?_ _ | refine blk_drew ?_ | refine blk_alloc ?_ _)); refine blk_far ?_ NB152_158.out _; (with_reducible repeat (first | refine blk_drewN ?_ _ | refine blk_drew ?_ | refine blk_alloc ?_ _)); refine blk_far ?_ NB152_158.out _; (with_reducible repeat (first | refine blk_drewN ?_ _ | refine blk_drew ?_ | refine blk_alloc ?_ _)); refine blk_far ?_ NB152_158.out _; (with_reducible repeat (first | refine blk_drewN ?_ _ | refine blk_drew ?_ | refine blk_alloc ?_ _)); refine blk_far ?_ NB152_158.out _; exact uB <| BK152.out))⟩; have n6_ : Aside0 (w29.heap[gb158]? = some (.cells #[.int .i64 t153, .int .i64 t154, .bool t155, .int .i64 t156, .int .i64 t157] 54 (0, 0))) := ⟨(by rw [hw]; exact (by (with_reducible repeat (first | refine blk_drewN ?_ _ | refine blk_drew ?_ | refine blk_alloc ?_ _)); refine blk_put (cs := #[.int .i64 t153, .int .i64 t154, .bool t155, .int .i64 t156, .int .i64 0]) ?_ 4 _ rfl; (with_reducible repeat (first | refine blk_drewN ?_ _ | refine blk_drew ?_ | refine blk_alloc ?_ _)); refine blk_put (cs := #[.int .i64 t153, .int .i64 t154, .bool t155, .int .i64 0, .int .i64 0]) ?_ 3 _ rfl; (with_reducible repeat (first | refine blk_drewN ?_ _ | refine blk_drew ?_ | refine blk_alloc ?_ _)); refine blk_put (cs := #[.int .i64 t153, .int .i64 t154, .bool false, .int .i64 0, .int .i64 0]) ?_ 2 _ rfl; (with_reducible repeat (first | refine blk_drewN ?_ _ | refine blk_drew ?_ | refine blk_alloc ?_ _)); refine blk_put (cs := #[.int .i64 t153, .int .i64 0, .bool false, .int .i64 0, .int .i64 0]) ?_ 1 _ rfl; (with_reducible repeat (first | refine blk_drewN ?_ _ | refine blk_drew ?_ | refine blk_alloc ?_ _)); refine blk_put (cs := #[.int .i64 0, .int .i64 0, .bool false, .int .i64 0, .int .i64 0]) ?_ 0 _ rfl; exact uB <| BK158.out))⟩; have n7_ : Aside0 (Below w.heap.size w w29) := ⟨(by rw [hw]; exact bl)⟩; clear hw; clear HO_15; clear HO_148002; clear HL151_2; clear BK146; clear BK147; clear BK152; clear BK158; clear HB; have HO_15 := n0_; have HO_148002 := n1_; have HL151_2 := n2_; have BK146 := n3_; have BK147 := n4_; have BK152 := n5_; have BK158 := n6_; have HB := n7_; clear n0_ n1_ n2_ n3_ n4_ n5_ n6_ n7_; obtain ⟨hcz30_0, hcz30_1, hcz30_2, hfz30_0, hfz30_1, hfz30_2⟩ := z3 BK152; obtain ⟨hcz31_0, hcz31_1, hcz31_2, hcz31_3, hcz31_4, hfz31_0, hfz31_1, hfz31_2, hfz31_3, hfz31_4⟩ := z5 BK158) | (go_at_call 32; (with_reducible refine (cell_Empty.calls t153 t154 t155 t156 t157 true _ A17.out).mono ?_); rintro e w32 ⟨rfl, hb⟩; replace HO_15 := Aside0.mk (Kd.N_below (by (with_reducible repeat (first | apply Kd.N_alloc | apply Kd.N_drewN | apply Kd.N_drew)); exact HO_15.out) hb); replace HO_148002 := cR HO_148002 hb; replace HL151_2 := cV HL151_2 hb; replace BK146 := cB BK146 hb; replace BK147 := cB BK147 hb; replace BK152 := cB BK152 hb; replace BK158 := cB BK158 hb; replace HB := Aside0.mk (below_step bl hb); (try clear hb)))
      go_roundg k1
      case measure => have := HK1.out; omega
      case rel => exact ⟨(wrap64 (x17_1 + 1)), (x148002_1), (u148002), rs_, H', ⟨by have := HK1.out; omega⟩, ⟨by (with_reducible repeat (first | apply Kd.N_alloc | apply Kd.N_drewN | apply Kd.N_drew)); exact Kd.N_mono HO_15.out (fun _ hk => ⟨hk.1, ⟨hk.2.1, hk.2.2.1⟩⟩)⟩, ⟨uR HO_148002.out⟩, ⟨uB BK146.out⟩, ⟨uB BK147.out⟩, ⟨bl⟩⟩
     ·
      replace c18 := Bool.eq_false_iff.mpr c18
      subst c18
      rw [if_neg (show ¬ (false = true) by decide)] at H
      obtain ⟨c33, H⟩ := gd H
      have LMc33 := Aside0.mk c33
      clear c33
      obtain ⟨y160, hy160⟩ : ∃ y_ : List (S56), y_ = (x148002_1 ++ [(⟨a0, (rd_T70 t148 x17_1).f1, (⟨t153, (⟨t154, t155⟩ : S52), t156, t157⟩ : S54)⟩ : S56)]) := ⟨_, rfl⟩
      replace H : (emit_Take.l0 k1 a0 a1 t148 (t148.length : Int) (wrap64 (x17_1 + 1)) a0 a1 y160) = some (r1, r2, r3) := by first | (rw [hy160]; with_reducible exact H) | (have H2_ := (Option.bind_some _ _).symm.trans H; rw [hy160]; with_reducible exact H2_) | (have H2_ := (Option.bind_some _ _).symm.trans H; with_reducible exact H2_) | with_reducible exact H | (rw [hy160]; exact H) | exact H
      have Ny160 := Aside0.mk hy160
      clear hy160
      have H' := Aside0.mk H
      clear H
      have p151 : 0 ≤ (x17_1 : Int) := od
      have q151 : x17_1 < (t148.length : Int) := od
      obtain ⟨ad151, A151_2, c151_2, e151, hx151_0, hx151_1, hx151_2, hl151_2, hi151_2⟩ := at_T70 (Kd.N_reads' HO_15.out).2.2 x17_1 p151 q151
      cases e151
      obtain ⟨ce151, hce151, hMe151, hcc151⟩ := Kd.N_get HO_15.out z70 x17_1 p151 (by first | exact q151 | exact od | (have e_ := (Kd.N_reads' HO_15.out).1; omega))
      obtain ⟨ua151_2, uc151_2, rfl, ul151_2, ge151_2⟩ := k70_openF hMe151
      have hv151_2 := hcc151 2 _ rfl
      rw [add_field _ _ 2 (by omega)] at hv151_2
      replace hv151_2 := Option.some.inj (hv151_2.symm.trans hx151_2)
      injection hv151_2 with hva_ hvn_ hvc_
      rw [hva_] at ge151_2
      rw [hvc_] at ul151_2
      have HL151_2 := Aside0.mk (show Kd.V k96 96 _ w.heap.size _ _ ((rd_T70 t148 x17_1).f2) from Kd.V_mk ul151_2 ge151_2)
      clear hva_ hvn_ hvc_ ge151_2 ul151_2
      clear hcc151 hce151
      have HR151_2 := Aside0.mk hi151_2
      have HC151_2 := Aside0.mk hl151_2
      clear hi151_2 hl151_2
      replace p151 := eq_true p151
      replace q151 := eq_true q151
      go_wp2_with (first | ((with_reducible refine gate_dst (N := 9) rfl ?_); refine bx (N := 9) #[.int .i64 0, .string (⟨#[]⟩ : ByteArray), .slice none 0 0] 70 ?_; intro gb152 hg w34 hbox hb; replace HO_15 := Aside0.mk (Kd.N_below (Kd.N_elderB (by (with_reducible repeat (first | apply Kd.N_alloc | apply Kd.N_drewN | apply Kd.N_drew)); exact HO_15.out) gb152 (Nat.le_of_eq hg.symm)) hb); replace HO_148002 := cR HO_148002 hb; replace HL151_2 := Aside0.mk (Kd.V_below (Kd.V_elderB (uV HL151_2.out) gb152 (Nat.le_of_eq hg.symm)) hb); replace HR151_2 := cC HR151_2 hb; have BK152 := Aside0.mk (hbox); have GW152 := gw hg bl; have GE152 := GW152; replace HB := Aside0.mk (below_step bl hb); have NB146_152 := Aside0.mk ((by rw [hg]; exact Nat.ne_of_lt (blk_lt (g := gb146) (o := .cells #[.int .i64 0, .int .i64 0, .slice none 0 0] 38 (0, 0)) (uB BK146.out)) : gb146 ≠ gb152)); have NB152_146 := Aside0.mk ((by rw [hg]; exact Nat.ne_of_gt (blk_lt (g := gb146) (o := .cells #[.int .i64 0, .int .i64 0, .slice none 0 0] 38 (0, 0)) (uB BK146.out)) : gb152 ≠ gb146)); replace BK146 := cB BK146 hb; have NB147_152 := Aside0.mk ((by rw [hg]; exact Nat.ne_of_lt (blk_lt (g := gb147) (o := .cells #[.int .i64 a0, .int .i64 a1, u148002] 38 (0, 0)) (uB BK147.out)) : gb147 ≠ gb152)); have NB152_147 := Aside0.mk ((by rw [hg]; exact Nat.ne_of_gt (blk_lt (g := gb147) (o := .cells #[.int .i64 a0, .int .i64 a1, u148002] 38 (0, 0)) (uB BK147.out)) : gb152 ≠ gb147)); replace BK147 := cB BK147 hb; clear hb hbox hg; have hnb35 := NB152_146.out; have hnc35 := NB146_152.out; have hnb36 := NB152_147.out; have hnc36 := NB147_152.out; obtain ⟨hcz37_0, hcz37_1, hcz37_2, hfz37_0, hfz37_1, hfz37_2⟩ := z3 BK152) | (refine gL (some 24) rfl Try.func31 #[.slice A151_2 ((rd_T70 t148 x17_1).f2).length c151_2, .int .i64 a1] ?_; (with_reducible refine (chain_At.calls k1 _ _ ((rd_T70 t148 x17_1).f2) a1 t153 t154 t155 t156 t157 _ ?side1 ?side2 A15.out).mono ?_); (case side1 => repeat (first | exact ((Kd.V_reads' (by exact uV <| (Kd.V_mono (Kd.V_far (p := ⟨gb152, 2, none⟩) (Kd.V_far (p := ⟨gb152, 1, none⟩) (Kd.V_far (p := ⟨gb152, 0, none⟩) (Kd.V_mono HL151_2.out (fun k_ hk => (⟨hk, hk.2⟩ : _ ∧ k_ ≠ gb152))) (fun _ hk => hk.2) (.int .i64 ((rd_T70 t148 x17_1).f0))) (fun _ hk => hk.2) (.string ((rd_T70 t148 x17_1).f1))) (fun _ hk => hk.2) (.slice A151_2 ((rd_T70 t148 x17_1).f2).length c151_2)) (fun _ h_ => h_.1)))).2.2) | (with_reducible refine Kd.C_alloc ?_ _) | (with_reducible refine Kd.C_drewN ?_ _) | (with_reducible refine Kd.C_drew ?_))); (case side2 => exact HC151_2.out); rintro e w38 ⟨rfl, hb⟩; refine ⟨_, rfl, ?_⟩; replace HO_15 := Aside0.mk (Kd.N_below (by (with_reducible repeat (first | apply Kd.N_alloc | apply Kd.N_drewN | apply Kd.N_drew)); exact (Kd.N_mono (Kd.N_far (p := ⟨gb152, 2, none⟩) (Kd.N_far (p := ⟨gb152, 1, none⟩) (Kd.N_far (p := ⟨gb152, 0, none⟩) (Kd.N_mono HO_15.out (fun k_ hk => (⟨hk, hk.2⟩ : _ ∧ k_ ≠ gb152))) (fun _ hk => hk.2) (.int .i64 ((rd_T70 t148 x17_1).f0))) (fun _ hk => hk.2) (.string ((rd_T70 t148 x17_1).f1))) (fun _ hk => hk.2) (.slice A151_2 ((rd_T70 t148 x17_1).f2).length c151_2)) (fun _ h_ => h_.1))) hb); replace HO_148002 := Aside0.mk (Kd.R_below (by exact uR <| (Kd.R_mono (Kd.R_far (p := ⟨gb152, 2, none⟩) (Kd.R_far (p := ⟨gb152, 1, none⟩) (Kd.R_far (p := ⟨gb152, 0, none⟩) (Kd.R_types HO_148002.out BK152.out (by decide)) (fun _ hk => hk.2) (.int .i64 ((rd_T70 t148 x17_1).f0))) (fun _ hk => hk.2) (.string ((rd_T70 t148 x17_1).f1))) (fun _ hk => hk.2) (.slice A151_2 ((rd_T70 t148 x17_1).f2).length c151_2)) (fun _ h_ => h_.1))) hb); replace BK146 := Aside0.mk (blk_below (g := gb146) (o := .cells #[.int .i64 0, .int .i64 0, .slice none 0 0] 38 (0, 0)) (by (with_reducible repeat (first | refine blk_drewN ?_ _ | refine blk_drew ?_ | refine blk_alloc ?_ _)); refine blk_far ?_ NB146_152.out _; (with_reducible repeat (first | refine blk_drewN ?_ _ | refine blk_drew ?_ | refine blk_alloc ?_ _)); refine blk_far ?_ NB146_152.out _; (with_reducible repeat (first | refine blk_drewN ?_ _ | refine blk_drew ?_ | refine blk_alloc ?_ _)); refine blk_far ?_ NB146_152.out _; exact uB <| BK146.out) hb); replace BK147 := Aside0.mk (blk_below (g := gb147) (o := .cells #[.int .i64 a0, .int .i64 a1, u148002] 38 (0, 0)) (by (with_reducible repeat (first | refine blk_drewN ?_ _ | refine blk_drew ?_ | refine blk_alloc ?_ _)); refine blk_far ?_ NB147_152.out _; (with_reducible repeat (first | refine blk_drewN ?_ _ | refine blk_drew ?_ | refine blk_alloc ?_ _)); refine blk_far ?_ NB147_152.out _; (with_reducible repeat (first | refine blk_drewN ?_ _ | refine blk_drew ?_ | refine blk_alloc ?_ _)); refine blk_far ?_ NB147_152.out _; exact uB <| BK147.out) hb); replace HR151_2 := Aside0.mk (Kd.C_below ((Kd.V_reads' (by exact uV <| (Kd.V_mono (Kd.V_far (p := ⟨gb152, 2, none⟩) (Kd.V_far (p := ⟨gb152, 1, none⟩) (Kd.V_far (p := ⟨gb152, 0, none⟩) (Kd.V_mono HL151_2.out (fun k_ hk => (⟨hk, hk.2⟩ : _ ∧ k_ ≠ gb152))) (fun _ hk => hk.2) (.int .i64 ((rd_T70 t148 x17_1).f0))) (fun _ hk => hk.2) (.string ((rd_T70 t148 x17_1).f1))) (fun _ hk => hk.2) (.slice A151_2 ((rd_T70 t148 x17_1).f2).length c151_2)) (fun _ h_ => h_.1)))).2.2) hb); replace HL151_2 := Aside0.mk (Kd.V_below (by exact uV <| (Kd.V_mono (Kd.V_far (p := ⟨gb152, 2, none⟩) (Kd.V_far (p := ⟨gb152, 1, none⟩) (Kd.V_far (p := ⟨gb152, 0, none⟩) (Kd.V_mono HL151_2.out (fun k_ hk => (⟨hk, hk.2⟩ : _ ∧ k_ ≠ gb152))) (fun _ hk => hk.2) (.int .i64 ((rd_T70 t148 x17_1).f0))) (fun _ hk => hk.2) (.string ((rd_T70 t148 x17_1).f1))) (fun _ hk => hk.2) (.slice A151_2 ((rd_T70 t148 x17_1).f2).length c151_2)) (fun _ h_ => h_.1))) hb); replace BK152 := Aside0.mk (blk_below (g := gb152) (o := .cells #[.int .i64 ((rd_T70 t148 x17_1).f0), .string ((rd_T70 t148 x17_1).f1), .slice A151_2 ((rd_T70 t148 x17_1).f2).length c151_2] 70 (0, 0)) (by (with_reducible repeat (first | refine blk_drewN ?_ _ | refine blk_drew ?_ | refine blk_alloc ?_ _)); refine blk_put (cs := #[.int .i64 ((rd_T70 t148 x17_1).f0), .string ((rd_T70 t148 x17_1).f1), .slice none 0 0]) ?_ 2 _ rfl; (with_reducible repeat (first | refine blk_drewN ?_ _ | refine blk_drew ?_ | refine blk_alloc ?_ _)); refine blk_put (cs := #[.int .i64 ((rd_T70 t148 x17_1).f0), .string (⟨#[]⟩ : ByteArray), .slice none 0 0]) ?_ 1 _ rfl; (with_reducible repeat (first | refine blk_drewN ?_ _ | refine blk_drew ?_ | refine blk_alloc ?_ _)); refine blk_put (cs := #[.int .i64 0, .string (⟨#[]⟩ : ByteArray), .slice none 0 0]) ?_ 0 _ rfl; exact uB <| BK152.out) hb); replace HB := Aside0.mk (below_step bl hb); (try clear hb)) | ((with_reducible refine gate_dst (N := 10) rfl ?_); refine bx (N := 10) #[.int .i64 0, .int .i64 0, .bool false, .int .i64 0, .int .i64 0] 54 ?_; intro gb158 hg w39 hbox hb; replace HO_15 := Aside0.mk (Kd.N_below (Kd.N_elderB (by (with_reducible repeat (first | apply Kd.N_alloc | apply Kd.N_drewN | apply Kd.N_drew)); exact HO_15.out) gb158 (Nat.le_of_eq hg.symm)) hb); replace HO_148002 := cR HO_148002 hb; replace HL151_2 := Aside0.mk (Kd.V_below (Kd.V_elderB (uV HL151_2.out) gb158 (Nat.le_of_eq hg.symm)) hb); replace HR151_2 := cC HR151_2 hb; have BK158 := Aside0.mk (hbox); have GW158 := gw hg bl; have GE158 := GW158; replace HB := Aside0.mk (below_step bl hb); have NB146_158 := Aside0.mk ((by rw [hg]; exact Nat.ne_of_lt (blk_lt (g := gb146) (o := .cells #[.int .i64 0, .int .i64 0, .slice none 0 0] 38 (0, 0)) (uB BK146.out)) : gb146 ≠ gb158)); have NB158_146 := Aside0.mk ((by rw [hg]; exact Nat.ne_of_gt (blk_lt (g := gb146) (o := .cells #[.int .i64 0, .int .i64 0, .slice none 0 0] 38 (0, 0)) (uB BK146.out)) : gb158 ≠ gb146)); replace BK146 := cB BK146 hb; have NB147_158 := Aside0.mk ((by rw [hg]; exact Nat.ne_of_lt (blk_lt (g := gb147) (o := .cells #[.int .i64 a0, .int .i64 a1, u148002] 38 (0, 0)) (uB BK147.out)) : gb147 ≠ gb158)); have NB158_147 := Aside0.mk ((by rw [hg]; exact Nat.ne_of_gt (blk_lt (g := gb147) (o := .cells #[.int .i64 a0, .int .i64 a1, u148002] 38 (0, 0)) (uB BK147.out)) : gb158 ≠ gb147)); replace BK147 := cB BK147 hb; have NB152_158 := Aside0.mk ((by rw [hg]; exact Nat.ne_of_lt (blk_lt (g := gb152) (o := .cells #[.int .i64 ((rd_T70 t148 x17_1).f0), .string ((rd_T70 t148 x17_1).f1), .slice A151_2 ((rd_T70 t148 x17_1).f2).length c151_2] 70 (0, 0)) (uB BK152.out)) : gb152 ≠ gb158)); have NB158_152 := Aside0.mk ((by rw [hg]; exact Nat.ne_of_gt (blk_lt (g := gb152) (o := .cells #[.int .i64 ((rd_T70 t148 x17_1).f0), .string ((rd_T70 t148 x17_1).f1), .slice A151_2 ((rd_T70 t148 x17_1).f2).length c151_2] 70 (0, 0)) (uB BK152.out)) : gb158 ≠ gb152)); replace BK152 := cB BK152 hb; clear hb hbox hg; have hnb40 := NB158_146.out; have hnc40 := NB146_158.out; have hnb41 := NB158_147.out; have hnc41 := NB147_158.out; have hnb42 := NB158_152.out; have hnc42 := NB152_158.out; obtain ⟨hcz43_0, hcz43_1, hcz43_2, hcz43_3, hcz43_4, hfz43_0, hfz43_1, hfz43_2, hfz43_3, hfz43_4⟩ := z5 BK158) | ((with_reducible refine gate_store (t := 54) (p := 10) rfl ?_); refine store_event (t := 54) (p := 10) (v := ?vo_w44) (w1 := (((((w39.setCell ⟨gb158, 0, none⟩ (.int .i64 t153)).setCell ⟨gb158, 1, none⟩ (.int .i64 t154)).setCell ⟨gb158, 2, none⟩ (.bool t155)).setCell ⟨gb158, 3, none⟩ (.int .i64 t156)).setCell ⟨gb158, 4, none⟩ (.int .i64 t157))) ?hg ?ho ?hn ?hr ?_; (case ho => rfl); (case hg => rfl); (case hn => rfl); (case hr => first | (go_simp; done) | (go_simp; rfl)); intro w44 hw; have n0_ : Aside0 (Kd.N k70 70 w44 w.heap.size (fun k_ => some k_ ≠ (u148002 : Value).ownBlock ∧ k_ ≠ gb146 ∧ k_ ≠ gb147 ∧ k_ ≠ gb152 ∧ k_ ≠ gb158) (.slice (some ad151) t148.length co11) t148) := ⟨(by rw [hw]; exact (by (with_reducible repeat (first | apply Kd.N_alloc | apply Kd.N_drewN | apply Kd.N_drew)); exact Kd.N_mono (Kd.N_far (p := ⟨gb158, 4, none⟩) (Kd.N_far (p := ⟨gb158, 3, none⟩) (Kd.N_far (p := ⟨gb158, 2, none⟩) (Kd.N_far (p := ⟨gb158, 1, none⟩) (Kd.N_far (p := ⟨gb158, 0, none⟩) (Kd.N_mono HO_15.out (fun k_ hk => (⟨hk, hk.2⟩ : _ ∧ k_ ≠ gb158))) (fun _ hk => hk.2) (.int .i64 t153)) (fun _ hk => hk.2) (.int .i64 t154)) (fun _ hk => hk.2) (.bool t155)) (fun _ hk => hk.2) (.int .i64 t156)) (fun _ hk => hk.2) (.int .i64 t157)) (fun _ hk => ⟨hk.1.1.1.1, ⟨hk.1.1.1.2.1, ⟨hk.1.1.1.2.2, ⟨hk.1.1.2, hk.1.2⟩⟩⟩⟩)))⟩; have n1_ : Aside0 (Kd.R k56 56 w44 w.heap.size (fun _ => True) u148002 x148002_1) := ⟨(by rw [hw]; exact (by exact uR <| Kd.R_mono (Kd.R_far (p := ⟨gb158, 4, none⟩) (Kd.R_far (p := ⟨gb158, 3, none⟩) (Kd.R_far (p := ⟨gb158, 2, none⟩) (Kd.R_far (p := ⟨gb158, 1, none⟩) (Kd.R_far (p := ⟨gb158, 0, none⟩) (Kd.R_types HO_148002.out BK158.out (by decide)) (fun _ hk => hk.2) (.int .i64 t153)) (fun _ hk => hk.2) (.int .i64 t154)) (fun _ hk => hk.2) (.bool t155)) (fun _ hk => hk.2) (.int .i64 t156)) (fun _ hk => hk.2) (.int .i64 t157)) (fun _ hk => trivial)))⟩; have n2_ : Aside0 (Kd.V k96 96 w44 w.heap.size (fun k_ => some k_ ≠ (.slice (some ad151) t148.length co11 : Value).ownBlock ∧ some k_ ≠ (u148002 : Value).ownBlock ∧ k_ ≠ gb146 ∧ k_ ≠ gb147 ∧ k_ ≠ gb152 ∧ k_ ≠ gb158) (.slice A151_2 ((rd_T70 t148 x17_1).f2).length c151_2) ((rd_T70 t148 x17_1).f2)) := ⟨(by rw [hw]; exact (by exact uV <| Kd.V_mono (Kd.V_far (p := ⟨gb158, 4, none⟩) (Kd.V_far (p := ⟨gb158, 3, none⟩) (Kd.V_far (p := ⟨gb158, 2, none⟩) (Kd.V_far (p := ⟨gb158, 1, none⟩) (Kd.V_far (p := ⟨gb158, 0, none⟩) (Kd.V_mono HL151_2.out (fun k_ hk => (⟨hk, hk.2⟩ : _ ∧ k_ ≠ gb158))) (fun _ hk => hk.2) (.int .i64 t153)) (fun _ hk => hk.2) (.int .i64 t154)) (fun _ hk => hk.2) (.bool t155)) (fun _ hk => hk.2) (.int .i64 t156)) (fun _ hk => hk.2) (.int .i64 t157)) (fun _ hk => ⟨hk.1.1.1.2, ⟨hk.1.1.1.1.1, ⟨hk.1.1.1.1.2.1, ⟨hk.1.1.1.1.2.2, ⟨hk.1.1.2, hk.1.2⟩⟩⟩⟩⟩)))⟩; have n3_ : Aside0 (w44.heap[gb146]? = some (.cells #[.int .i64 0, .int .i64 0, .slice none 0 0] 38 (0, 0))) := ⟨(by rw [hw]; exact (by (with_reducible repeat (first | refine blk_drewN ?_ _ | refine blk_drew ?_ | refine blk_alloc ?_ _)); refine blk_far ?_ NB146_158.out _; (with_reducible repeat (first | refine blk_drewN ?_ _ | refine blk_drew ?_ | refine blk_alloc ?_ _)); refine blk_far ?_ NB146_158.out _; (with_reducible repeat (first | refine blk_drewN ?_ _ | refine blk_drew ?_ | refine blk_alloc ?_ _)); refine blk_far ?_ NB146_158.out _; (with_reducible repeat (first | refine blk_drewN ?_ _ | refine blk_drew ?_ | refine blk_alloc ?_ _)); refine blk_far ?_ NB146_158.out _; (with_reducible repeat (first | refine blk_drewN ?_ _ | refine blk_drew ?_ | refine blk_alloc ?_ _)); refine blk_far ?_ NB146_158.out _; exact uB <| BK146.out))⟩; have n4_ : Aside0 (w44.heap[gb147]? = some (.cells #[.int .i64 a0, .int .i64 a1, u148002] 38 (0, 0))) := ⟨(by rw [hw]; exact (by (with_reducible repeat (first | refine blk_drewN ?_ _ | refine blk_drew ?_ | refine blk_alloc ?_ _)); refine blk_far ?_ NB147_158.out _; (with_reducible repeat (first | refine blk_drewN ?_ _ | refine blk_drew ?_ | refine blk_alloc ?_ _)); refine blk_far ?_ NB147_158.out _; (with_reducible repeat (first | refine blk_drewN ?_ _ | refine blk_drew ?_ | refine blk_alloc ?_ _)); refine blk_far ?_ NB147_158.out _; (with_reducible repeat (first | refine blk_drewN ?_ _ | refine blk_drew ?_ | refine blk_alloc ?_ _)); refine blk_far ?_ NB147_158.out _; (with_reducible repeat (first | refine blk_drewN ?_ _ | refine blk_drew ?_ | refine blk_alloc ?_ _)); refine blk_far ?_ NB147_158.out _; exact uB <| BK147.out))⟩; have n5_ : Aside0 (w44.heap[gb152]? = some (.cells #[.int .i64 ((rd_T70 t148 x17_1).f0), .string ((rd_T70 t148 x17_1).f1), .slice A151_2 ((rd_T70 t148 x17_1).f2).length c151_2] 70 (0, 0))) := ⟨(by rw [hw]; exact (by (with_reducible repeat (first | refine blk_drewN ?_ _ | refine blk_drew ?_ | refine blk_alloc ?_ _)); refine blk_far ?_ NB152_158.out _; (with_reducible repeat (first | refine blk_drewN ?_ _ | refine blk_drew ?_ | refine blk_alloc ?_ _)); refine blk_far ?_ NB152_158.out _; (with_reducible repeat (first | refine blk_drewN ?_ _ | refine blk_drew ?_ | refine blk_alloc ?_ _)); refine blk_far ?_ NB152_158.out _; (with_reducible repeat (first | refine blk_drewN ?_ _ | refine blk_drew ?_ | refine blk_alloc ?_ _)); refine blk_far ?_ NB152_158.out _; (with_reducible repeat (first | refine blk_drewN ?_ _ | refine blk_drew ?_ | refine blk_alloc ?_ _)); refine blk_far ?_ NB152_158.out _; exact uB <| BK152.out))⟩; have n6_ : Aside0 (w44.heap[gb158]? = some (.cells #[.int .i64 t153, .int .i64 t154, .bool t155, .int .i64 t156, .int .i64 t157] 54 (0, 0))) := ⟨(by rw [hw]; exact (by (with_reducible repeat (first | refine blk_drewN ?_ _ | refine blk_drew ?_ | refine blk_alloc ?_ _)); refine blk_put (cs := #[.int .i64 t153, .int .i64 t154, .bool t155, .int .i64 t156, .int .i64 0]) ?_ 4 _ rfl; (with_reducible repeat (first | refine blk_drewN ?_ _ | refine blk_drew ?_ | refine blk_alloc ?_ _)); refine blk_put (cs := #[.int .i64 t153, .int .i64 t154, .bool t155, .int .i64 0, .int .i64 0]) ?_ 3 _ rfl; (with_reducible repeat (first | refine blk_drewN ?_ _ | refine blk_drew ?_ | refine blk_alloc ?_ _)); refine blk_put (cs := #[.int .i64 t153, .int .i64 t154, .bool false, .int .i64 0, .int .i64 0]) ?_ 2 _ rfl; (with_reducible repeat (first | refine blk_drewN ?_ _ | refine blk_drew ?_ | refine blk_alloc ?_ _)); refine blk_put (cs := #[.int .i64 t153, .int .i64 0, .bool false, .int .i64 0, .int .i64 0]) ?_ 1 _ rfl; (with_reducible repeat (first | refine blk_drewN ?_ _ | refine blk_drew ?_ | refine blk_alloc ?_ _)); refine blk_put (cs := #[.int .i64 0, .int .i64 0, .bool false, .int .i64 0, .int .i64 0]) ?_ 0 _ rfl; exact uB <| BK158.out))⟩; have n7_ : Aside0 (Below w.heap.size w w44) := ⟨(by rw [hw]; exact bl)⟩; clear hw; clear HO_15; clear HO_148002; clear HL151_2; clear BK146; clear BK147; clear BK152; clear BK158; clear HB; have HO_15 := n0_; have HO_148002 := n1_; have HL151_2 := n2_; have BK146 := n3_; have BK147 := n4_; have BK152 := n5_; have BK158 := n6_; have HB := n7_; clear n0_ n1_ n2_ n3_ n4_ n5_ n6_ n7_; obtain ⟨hcz45_0, hcz45_1, hcz45_2, hfz45_0, hfz45_1, hfz45_2⟩ := z3 BK152; obtain ⟨hcz46_0, hcz46_1, hcz46_2, hcz46_3, hcz46_4, hfz46_0, hfz46_1, hfz46_2, hfz46_3, hfz46_4⟩ := z5 BK158) | (go_at_call 32; (with_reducible refine (cell_Empty.calls t153 t154 t155 t156 t157 false _ A17.out).mono ?_); rintro e w47 ⟨rfl, hb⟩; replace HO_15 := Aside0.mk (Kd.N_below (by (with_reducible repeat (first | apply Kd.N_alloc | apply Kd.N_drewN | apply Kd.N_drew)); exact HO_15.out) hb); replace HO_148002 := cR HO_148002 hb; replace HL151_2 := cV HL151_2 hb; replace BK146 := cB BK146 hb; replace BK147 := cB BK147 hb; replace BK152 := cB BK152 hb; replace BK158 := cB BK158 hb; replace HB := Aside0.mk (below_step bl hb); (try clear hb); have hnb48 := NB147_146.out; have hnc48 := NB146_147.out; obtain ⟨hcz49_0, hcz49_1, hcz49_2, hfz49_0, hfz49_1, hfz49_2⟩ := z3 BK147; obtain ⟨hcz50_0, hcz50_1, hcz50_2, hfz50_0, hfz50_1, hfz50_2⟩ := z3 BK152; obtain ⟨hcz51_0, hcz51_1, hcz51_2, hcz51_3, hcz51_4, hfz51_0, hfz51_1, hfz51_2, hfz51_3, hfz51_4⟩ := z5 BK158) | ((with_reducible refine gate_builtin (b := .append) (xs := #[.tmp 35, .tmp 41]) rfl ?_); at_builtin; refine Kd.R_append k56 (w0 := w) w.heap.size rfl (.tmp 35) (.tmp 41) 36 56 (.agg #[(.int .i64 0), (.string ⟨#[]⟩), (.int .i64 0), (.int .i64 0), (.bool false), (.int .i64 0), (.int .i64 0)]) 64 rfl Try.underlying36 info56 rfl (by decide) (by omega) u148002 x148002_1 (⟨a0, (rd_T70 t148 x17_1).f1, (⟨t153, (⟨t154, t155⟩ : S52), t156, t157⟩ : S54)⟩ : S56) [.int .i64 a0, .string ((rd_T70 t148 x17_1).f1), .int .i64 t153, .int .i64 t154, .bool t155, .int .i64 t156, .int .i64 t157] (fun _ => True) (fun _ => False) rfl rfl ?aP (fun _ hk => hk.elim) ?aF ?aO ?aB ?aS ?aL ?_; (case aP => exact k56_mkM _ _ _ (⟨a0, (rd_T70 t148 x17_1).f1, (⟨t153, (⟨t154, t155⟩ : S52), t156, t157⟩ : S54)⟩ : S56)); (case aB => exact bl); (case aF => exact (fun _ _ => trivial)); (case aO => exact (uR HO_148002.out)); (case aS => exact (below_size bl)); (case aL => have := LMc33.out; omega); intro v161 w52 ho hb hg hat; rw [← Ny160.out] at ho; replace HO_15 := Aside0.mk (Kd.N_afterv (ok := (fun k_ => k_ ≠ gb146 ∧ k_ ≠ gb147 ∧ k_ ≠ gb152 ∧ k_ ≠ gb158)) (by (with_reducible repeat (first | apply Kd.N_alloc | apply Kd.N_drewN | apply Kd.N_drew)); exact Kd.N_mono HO_15.out (fun _ hk => ⟨⟨hk.2.1, ⟨hk.2.2.1, ⟨hk.2.2.2.1, hk.2.2.2.2⟩⟩⟩, hk.1⟩)) hg hat); replace BK146 := Aside0.mk (blk_grown (g := gb146) (o := .cells #[.int .i64 0, .int .i64 0, .slice none 0 0] 38 (0, 0)) (uB BK146.out) hg (Kd.R_ne HO_148002.out BK146.out (by decide))); replace BK147 := Aside0.mk (blk_grown (g := gb147) (o := .cells #[.int .i64 a0, .int .i64 a1, u148002] 38 (0, 0)) (uB BK147.out) hg (Kd.R_ne HO_148002.out BK147.out (by decide))); replace HL151_2 := Aside0.mk (Kd.V_afterv (ok := (fun k_ => some k_ ≠ (.slice (some ad151) t148.length co11 : Value).ownBlock ∧ k_ ≠ gb146 ∧ k_ ≠ gb147 ∧ k_ ≠ gb152 ∧ k_ ≠ gb158)) (by exact uV <| Kd.V_mono HL151_2.out (fun _ hk => ⟨⟨hk.1, ⟨hk.2.2.1, ⟨hk.2.2.2.1, ⟨hk.2.2.2.2.1, hk.2.2.2.2.2⟩⟩⟩⟩, hk.2.1⟩)) hg hat); replace BK152 := Aside0.mk (blk_grown (g := gb152) (o := .cells #[.int .i64 ((rd_T70 t148 x17_1).f0), .string ((rd_T70 t148 x17_1).f1), .slice A151_2 ((rd_T70 t148 x17_1).f2).length c151_2] 70 (0, 0)) (uB BK152.out) hg (Kd.R_ne HO_148002.out BK152.out (by decide))); replace BK158 := Aside0.mk (blk_grown (g := gb158) (o := .cells #[.int .i64 t153, .int .i64 t154, .bool t155, .int .i64 t156, .int .i64 t157] 54 (0, 0)) (uB BK158.out) hg (Kd.R_ne HO_148002.out BK158.out (by decide))); replace HB := Aside0.mk (hb); have HO162 := Aside0.mk (ho); clear HO_148002; clear ho hb hg hat; obtain ⟨Ao53, co53, eo53⟩ := Kd.R_slice HO162.out; subst eo53; obtain ⟨hcz54_0, hcz54_1, hcz54_2, hfz54_0, hfz54_1, hfz54_2⟩ := z3 BK147))
      go_roundg k1
      case measure => have := HK1.out; omega
      case rel => exact ⟨(wrap64 (x17_1 + 1)), (y160), (.slice Ao53 y160.length co53), rs_, H', ⟨by have := HK1.out; omega⟩, ⟨by (with_reducible repeat (first | apply Kd.N_alloc | apply Kd.N_drewN | apply Kd.N_drew)); exact Kd.N_mono (Kd.N_far (p := ⟨gb147, 2, none⟩) (Kd.N_mono HO_15.out (fun k_ hk => (⟨hk, hk.1.2.1⟩ : _ ∧ k_ ≠ gb147))) (fun _ hk => hk.2) (.slice Ao53 y160.length co53)) (fun _ hk => ⟨hk.1.2, ⟨hk.1.1.1, hk.1.1.2.1⟩⟩)⟩, ⟨by exact uR <| Kd.R_mono (Kd.R_far (p := ⟨gb147, 2, none⟩) (Kd.R_types HO162.out BK147.out (by decide)) (fun _ hk => hk.2) (.slice Ao53 y160.length co53)) (fun _ hk => trivial)⟩, ⟨by (with_reducible repeat (first | refine blk_drewN ?_ _ | refine blk_drew ?_ | refine blk_alloc ?_ _)); refine blk_far ?_ NB146_147.out _; exact uB <| BK146.out⟩, ⟨by (with_reducible repeat (first | refine blk_drewN ?_ _ | refine blk_drew ?_ | refine blk_alloc ?_ _)); refine blk_put (cs := #[.int .i64 a0, .int .i64 a1, u148002]) ?_ 2 _ rfl; exact uB <| BK147.out⟩, ⟨bl⟩⟩
    ·
     rw [if_neg c16] at H
     have c16b0 : (((rd_T70 t148 x17_1).f0) == a0) = false := beq_eq_false_iff_ne.mpr c16
     have c16b1 : (((rd_T70 t148 x17_1).f0) != a0) = true := bne_iff_ne.mpr c16
     have H' := Aside0.mk H
     clear H
     have p151 : 0 ≤ (x17_1 : Int) := od
     have q151 : x17_1 < (t148.length : Int) := od
     obtain ⟨ad151, A151_2, c151_2, e151, hx151_0, hx151_1, hx151_2, hl151_2, hi151_2⟩ := at_T70 (Kd.N_reads' HO_15.out).2.2 x17_1 p151 q151
     cases e151
     obtain ⟨ce151, hce151, hMe151, hcc151⟩ := Kd.N_get HO_15.out z70 x17_1 p151 (by first | exact q151 | exact od | (have e_ := (Kd.N_reads' HO_15.out).1; omega))
     obtain ⟨ua151_2, uc151_2, rfl, ul151_2, ge151_2⟩ := k70_openF hMe151
     have hv151_2 := hcc151 2 _ rfl
     rw [add_field _ _ 2 (by omega)] at hv151_2
     replace hv151_2 := Option.some.inj (hv151_2.symm.trans hx151_2)
     injection hv151_2 with hva_ hvn_ hvc_
     rw [hva_] at ge151_2
     rw [hvc_] at ul151_2
     have HL151_2 := Aside0.mk (show Kd.V k96 96 _ w.heap.size _ _ ((rd_T70 t148 x17_1).f2) from Kd.V_mk ul151_2 ge151_2)
     clear hva_ hvn_ hvc_ ge151_2 ul151_2
     clear hcc151 hce151
     have HR151_2 := Aside0.mk hi151_2
     have HC151_2 := Aside0.mk hl151_2
     clear hi151_2 hl151_2
     replace p151 := eq_true p151
     replace q151 := eq_true q151
     go_wp2_with (first | ((with_reducible refine gate_dst (N := 9) rfl ?_); refine bx (N := 9) #[.int .i64 0, .string (⟨#[]⟩ : ByteArray), .slice none 0 0] 70 ?_; intro gb152 hg w55 hbox hb; replace HO_15 := Aside0.mk (Kd.N_below (Kd.N_elderB (by (with_reducible repeat (first | apply Kd.N_alloc | apply Kd.N_drewN | apply Kd.N_drew)); exact HO_15.out) gb152 (Nat.le_of_eq hg.symm)) hb); replace HO_148002 := cR HO_148002 hb; replace HL151_2 := Aside0.mk (Kd.V_below (Kd.V_elderB (uV HL151_2.out) gb152 (Nat.le_of_eq hg.symm)) hb); replace HR151_2 := cC HR151_2 hb; have BK152 := Aside0.mk (hbox); have GW152 := gw hg bl; have GE152 := GW152; replace HB := Aside0.mk (below_step bl hb); have NB146_152 := Aside0.mk ((by rw [hg]; exact Nat.ne_of_lt (blk_lt (g := gb146) (o := .cells #[.int .i64 0, .int .i64 0, .slice none 0 0] 38 (0, 0)) (uB BK146.out)) : gb146 ≠ gb152)); have NB152_146 := Aside0.mk ((by rw [hg]; exact Nat.ne_of_gt (blk_lt (g := gb146) (o := .cells #[.int .i64 0, .int .i64 0, .slice none 0 0] 38 (0, 0)) (uB BK146.out)) : gb152 ≠ gb146)); replace BK146 := cB BK146 hb; have NB147_152 := Aside0.mk ((by rw [hg]; exact Nat.ne_of_lt (blk_lt (g := gb147) (o := .cells #[.int .i64 a0, .int .i64 a1, u148002] 38 (0, 0)) (uB BK147.out)) : gb147 ≠ gb152)); have NB152_147 := Aside0.mk ((by rw [hg]; exact Nat.ne_of_gt (blk_lt (g := gb147) (o := .cells #[.int .i64 a0, .int .i64 a1, u148002] 38 (0, 0)) (uB BK147.out)) : gb152 ≠ gb147)); replace BK147 := cB BK147 hb; clear hb hbox hg; have hnb56 := NB152_146.out; have hnc56 := NB146_152.out; have hnb57 := NB152_147.out; have hnc57 := NB147_152.out; obtain ⟨hcz58_0, hcz58_1, hcz58_2, hfz58_0, hfz58_1, hfz58_2⟩ := z3 BK152) | (refine gL (some 24) rfl Try.func31 #[.slice A151_2 ((rd_T70 t148 x17_1).f2).length c151_2, .int .i64 a1] ?_; (with_reducible refine (chain_At.calls k1 _ _ ((rd_T70 t148 x17_1).f2) a1 t153 t154 t155 t156 t157 _ ?side1 ?side2 A15.out).mono ?_); (case side1 => repeat (first | exact ((Kd.V_reads' (by exact uV <| (Kd.V_mono (Kd.V_far (p := ⟨gb152, 2, none⟩) (Kd.V_far (p := ⟨gb152, 1, none⟩) (Kd.V_far (p := ⟨gb152, 0, none⟩) (Kd.V_mono HL151_2.out (fun k_ hk => (⟨hk, hk.2⟩ : _ ∧ k_ ≠ gb152))) (fun _ hk => hk.2) (.int .i64 ((rd_T70 t148 x17_1).f0))) (fun _ hk => hk.2) (.string ((rd_T70 t148 x17_1).f1))) (fun _ hk => hk.2) (.slice A151_2 ((rd_T70 t148 x17_1).f2).length c151_2)) (fun _ h_ => h_.1)))).2.2) | (with_reducible refine Kd.C_alloc ?_ _) | (with_reducible refine Kd.C_drewN ?_ _) | (with_reducible refine Kd.C_drew ?_))); (case side2 => exact HC151_2.out); rintro e w59 ⟨rfl, hb⟩; refine ⟨_, rfl, ?_⟩; replace HO_15 := Aside0.mk (Kd.N_below (by (with_reducible repeat (first | apply Kd.N_alloc | apply Kd.N_drewN | apply Kd.N_drew)); exact (Kd.N_mono (Kd.N_far (p := ⟨gb152, 2, none⟩) (Kd.N_far (p := ⟨gb152, 1, none⟩) (Kd.N_far (p := ⟨gb152, 0, none⟩) (Kd.N_mono HO_15.out (fun k_ hk => (⟨hk, hk.2⟩ : _ ∧ k_ ≠ gb152))) (fun _ hk => hk.2) (.int .i64 ((rd_T70 t148 x17_1).f0))) (fun _ hk => hk.2) (.string ((rd_T70 t148 x17_1).f1))) (fun _ hk => hk.2) (.slice A151_2 ((rd_T70 t148 x17_1).f2).length c151_2)) (fun _ h_ => h_.1))) hb); replace HO_148002 := Aside0.mk (Kd.R_below (by exact uR <| (Kd.R_mono (Kd.R_far (p := ⟨gb152, 2, none⟩) (Kd.R_far (p := ⟨gb152, 1, none⟩) (Kd.R_far (p := ⟨gb152, 0, none⟩) (Kd.R_types HO_148002.out BK152.out (by decide)) (fun _ hk => hk.2) (.int .i64 ((rd_T70 t148 x17_1).f0))) (fun _ hk => hk.2) (.string ((rd_T70 t148 x17_1).f1))) (fun _ hk => hk.2) (.slice A151_2 ((rd_T70 t148 x17_1).f2).length c151_2)) (fun _ h_ => h_.1))) hb); replace BK146 := Aside0.mk (blk_below (g := gb146) (o := .cells #[.int .i64 0, .int .i64 0, .slice none 0 0] 38 (0, 0)) (by (with_reducible repeat (first | refine blk_drewN ?_ _ | refine blk_drew ?_ | refine blk_alloc ?_ _)); refine blk_far ?_ NB146_152.out _; (with_reducible repeat (first | refine blk_drewN ?_ _ | refine blk_drew ?_ | refine blk_alloc ?_ _)); refine blk_far ?_ NB146_152.out _; (with_reducible repeat (first | refine blk_drewN ?_ _ | refine blk_drew ?_ | refine blk_alloc ?_ _)); refine blk_far ?_ NB146_152.out _; exact uB <| BK146.out) hb); replace BK147 := Aside0.mk (blk_below (g := gb147) (o := .cells #[.int .i64 a0, .int .i64 a1, u148002] 38 (0, 0)) (by (with_reducible repeat (first | refine blk_drewN ?_ _ | refine blk_drew ?_ | refine blk_alloc ?_ _)); refine blk_far ?_ NB147_152.out _; (with_reducible repeat (first | refine blk_drewN ?_ _ | refine blk_drew ?_ | refine blk_alloc ?_ _)); refine blk_far ?_ NB147_152.out _; (with_reducible repeat (first | refine blk_drewN ?_ _ | refine blk_drew ?_ | refine blk_alloc ?_ _)); refine blk_far ?_ NB147_152.out _; exact uB <| BK147.out) hb); replace HR151_2 := Aside0.mk (Kd.C_below ((Kd.V_reads' (by exact uV <| (Kd.V_mono (Kd.V_far (p := ⟨gb152, 2, none⟩) (Kd.V_far (p := ⟨gb152, 1, none⟩) (Kd.V_far (p := ⟨gb152, 0, none⟩) (Kd.V_mono HL151_2.out (fun k_ hk => (⟨hk, hk.2⟩ : _ ∧ k_ ≠ gb152))) (fun _ hk => hk.2) (.int .i64 ((rd_T70 t148 x17_1).f0))) (fun _ hk => hk.2) (.string ((rd_T70 t148 x17_1).f1))) (fun _ hk => hk.2) (.slice A151_2 ((rd_T70 t148 x17_1).f2).length c151_2)) (fun _ h_ => h_.1)))).2.2) hb); replace HL151_2 := Aside0.mk (Kd.V_below (by exact uV <| (Kd.V_mono (Kd.V_far (p := ⟨gb152, 2, none⟩) (Kd.V_far (p := ⟨gb152, 1, none⟩) (Kd.V_far (p := ⟨gb152, 0, none⟩) (Kd.V_mono HL151_2.out (fun k_ hk => (⟨hk, hk.2⟩ : _ ∧ k_ ≠ gb152))) (fun _ hk => hk.2) (.int .i64 ((rd_T70 t148 x17_1).f0))) (fun _ hk => hk.2) (.string ((rd_T70 t148 x17_1).f1))) (fun _ hk => hk.2) (.slice A151_2 ((rd_T70 t148 x17_1).f2).length c151_2)) (fun _ h_ => h_.1))) hb); replace BK152 := Aside0.mk (blk_below (g := gb152) (o := .cells #[.int .i64 ((rd_T70 t148 x17_1).f0), .string ((rd_T70 t148 x17_1).f1), .slice A151_2 ((rd_T70 t148 x17_1).f2).length c151_2] 70 (0, 0)) (by (with_reducible repeat (first | refine blk_drewN ?_ _ | refine blk_drew ?_ | refine blk_alloc ?_ _)); refine blk_put (cs := #[.int .i64 ((rd_T70 t148 x17_1).f0), .string ((rd_T70 t148 x17_1).f1), .slice none 0 0]) ?_ 2 _ rfl; (with_reducible repeat (first | refine blk_drewN ?_ _ | refine blk_drew ?_ | refine blk_alloc ?_ _)); refine blk_put (cs := #[.int .i64 ((rd_T70 t148 x17_1).f0), .string (⟨#[]⟩ : ByteArray), .slice none 0 0]) ?_ 1 _ rfl; (with_reducible repeat (first | refine blk_drewN ?_ _ | refine blk_drew ?_ | refine blk_alloc ?_ _)); refine blk_put (cs := #[.int .i64 0, .string (⟨#[]⟩ : ByteArray), .slice none 0 0]) ?_ 0 _ rfl; exact uB <| BK152.out) hb); replace HB := Aside0.mk (below_step bl hb); (try clear hb)) | ((with_reducible refine gate_dst (N := 10) rfl ?_); refine bx (N := 10) #[.int .i64 0, .int .i64 0, .bool false, .int .i64 0, .int .i64 0] 54 ?_; intro gb158 hg w60 hbox hb; replace HO_15 := Aside0.mk (Kd.N_below (Kd.N_elderB (by (with_reducible repeat (first | apply Kd.N_alloc | apply Kd.N_drewN | apply Kd.N_drew)); exact HO_15.out) gb158 (Nat.le_of_eq hg.symm)) hb); replace HO_148002 := cR HO_148002 hb; replace HL151_2 := Aside0.mk (Kd.V_below (Kd.V_elderB (uV HL151_2.out) gb158 (Nat.le_of_eq hg.symm)) hb); replace HR151_2 := cC HR151_2 hb; have BK158 := Aside0.mk (hbox); have GW158 := gw hg bl; have GE158 := GW158; replace HB := Aside0.mk (below_step bl hb); have NB146_158 := Aside0.mk ((by rw [hg]; exact Nat.ne_of_lt (blk_lt (g := gb146) (o := .cells #[.int .i64 0, .int .i64 0, .slice none 0 0] 38 (0, 0)) (uB BK146.out)) : gb146 ≠ gb158)); have NB158_146 := Aside0.mk ((by rw [hg]; exact Nat.ne_of_gt (blk_lt (g := gb146) (o := .cells #[.int .i64 0, .int .i64 0, .slice none 0 0] 38 (0, 0)) (uB BK146.out)) : gb158 ≠ gb146)); replace BK146 := cB BK146 hb; have NB147_158 := Aside0.mk ((by rw [hg]; exact Nat.ne_of_lt (blk_lt (g := gb147) (o := .cells #[.int .i64 a0, .int .i64 a1, u148002] 38 (0, 0)) (uB BK147.out)) : gb147 ≠ gb158)); have NB158_147 := Aside0.mk ((by rw [hg]; exact Nat.ne_of_gt (blk_lt (g := gb147) (o := .cells #[.int .i64 a0, .int .i64 a1, u148002] 38 (0, 0)) (uB BK147.out)) : gb158 ≠ gb147)); replace BK147 := cB BK147 hb; have NB152_158 := Aside0.mk ((by rw [hg]; exact Nat.ne_of_lt (blk_lt (g := gb152) (o := .cells #[.int .i64 ((rd_T70 t148 x17_1).f0), .string ((rd_T70 t148 x17_1).f1), .slice A151_2 ((rd_T70 t148 x17_1).f2).length c151_2] 70 (0, 0)) (uB BK152.out)) : gb152 ≠ gb158)); have NB158_152 := Aside0.mk ((by rw [hg]; exact Nat.ne_of_gt (blk_lt (g := gb152) (o := .cells #[.int .i64 ((rd_T70 t148 x17_1).f0), .string ((rd_T70 t148 x17_1).f1), .slice A151_2 ((rd_T70 t148 x17_1).f2).length c151_2] 70 (0, 0)) (uB BK152.out)) : gb158 ≠ gb152)); replace BK152 := cB BK152 hb; clear hb hbox hg; have hnb61 := NB158_146.out; have hnc61 := NB146_158.out; have hnb62 := NB158_147.out; have hnc62 := NB147_158.out; have hnb63 := NB158_152.out; have hnc63 := NB152_158.out; obtain ⟨hcz64_0, hcz64_1, hcz64_2, hcz64_3, hcz64_4, hfz64_0, hfz64_1, hfz64_2, hfz64_3, hfz64_4⟩ := z5 BK158) | ((with_reducible refine gate_store (t := 54) (p := 10) rfl ?_); refine store_event (t := 54) (p := 10) (v := ?vo_w65) (w1 := (((((w60.setCell ⟨gb158, 0, none⟩ (.int .i64 t153)).setCell ⟨gb158, 1, none⟩ (.int .i64 t154)).setCell ⟨gb158, 2, none⟩ (.bool t155)).setCell ⟨gb158, 3, none⟩ (.int .i64 t156)).setCell ⟨gb158, 4, none⟩ (.int .i64 t157))) ?hg ?ho ?hn ?hr ?_; (case ho => rfl); (case hg => rfl); (case hn => rfl); (case hr => first | (go_simp; done) | (go_simp; rfl)); intro w65 hw; have n0_ : Aside0 (Kd.N k70 70 w65 w.heap.size (fun k_ => some k_ ≠ (u148002 : Value).ownBlock ∧ k_ ≠ gb146 ∧ k_ ≠ gb147 ∧ k_ ≠ gb152 ∧ k_ ≠ gb158) (.slice (some ad151) t148.length co11) t148) := ⟨(by rw [hw]; exact (by (with_reducible repeat (first | apply Kd.N_alloc | apply Kd.N_drewN | apply Kd.N_drew)); exact Kd.N_mono (Kd.N_far (p := ⟨gb158, 4, none⟩) (Kd.N_far (p := ⟨gb158, 3, none⟩) (Kd.N_far (p := ⟨gb158, 2, none⟩) (Kd.N_far (p := ⟨gb158, 1, none⟩) (Kd.N_far (p := ⟨gb158, 0, none⟩) (Kd.N_mono HO_15.out (fun k_ hk => (⟨hk, hk.2⟩ : _ ∧ k_ ≠ gb158))) (fun _ hk => hk.2) (.int .i64 t153)) (fun _ hk => hk.2) (.int .i64 t154)) (fun _ hk => hk.2) (.bool t155)) (fun _ hk => hk.2) (.int .i64 t156)) (fun _ hk => hk.2) (.int .i64 t157)) (fun _ hk => ⟨hk.1.1.1.1, ⟨hk.1.1.1.2.1, ⟨hk.1.1.1.2.2, ⟨hk.1.1.2, hk.1.2⟩⟩⟩⟩)))⟩; have n1_ : Aside0 (Kd.R k56 56 w65 w.heap.size (fun _ => True) u148002 x148002_1) := ⟨(by rw [hw]; exact (by exact uR <| Kd.R_mono (Kd.R_far (p := ⟨gb158, 4, none⟩) (Kd.R_far (p := ⟨gb158, 3, none⟩) (Kd.R_far (p := ⟨gb158, 2, none⟩) (Kd.R_far (p := ⟨gb158, 1, none⟩) (Kd.R_far (p := ⟨gb158, 0, none⟩) (Kd.R_types HO_148002.out BK158.out (by decide)) (fun _ hk => hk.2) (.int .i64 t153)) (fun _ hk => hk.2) (.int .i64 t154)) (fun _ hk => hk.2) (.bool t155)) (fun _ hk => hk.2) (.int .i64 t156)) (fun _ hk => hk.2) (.int .i64 t157)) (fun _ hk => trivial)))⟩; have n2_ : Aside0 (Kd.V k96 96 w65 w.heap.size (fun k_ => some k_ ≠ (.slice (some ad151) t148.length co11 : Value).ownBlock ∧ some k_ ≠ (u148002 : Value).ownBlock ∧ k_ ≠ gb146 ∧ k_ ≠ gb147 ∧ k_ ≠ gb152 ∧ k_ ≠ gb158) (.slice A151_2 ((rd_T70 t148 x17_1).f2).length c151_2) ((rd_T70 t148 x17_1).f2)) := ⟨(by rw [hw]; exact (by exact uV <| Kd.V_mono (Kd.V_far (p := ⟨gb158, 4, none⟩) (Kd.V_far (p := ⟨gb158, 3, none⟩) (Kd.V_far (p := ⟨gb158, 2, none⟩) (Kd.V_far (p := ⟨gb158, 1, none⟩) (Kd.V_far (p := ⟨gb158, 0, none⟩) (Kd.V_mono HL151_2.out (fun k_ hk => (⟨hk, hk.2⟩ : _ ∧ k_ ≠ gb158))) (fun _ hk => hk.2) (.int .i64 t153)) (fun _ hk => hk.2) (.int .i64 t154)) (fun _ hk => hk.2) (.bool t155)) (fun _ hk => hk.2) (.int .i64 t156)) (fun _ hk => hk.2) (.int .i64 t157)) (fun _ hk => ⟨hk.1.1.1.2, ⟨hk.1.1.1.1.1, ⟨hk.1.1.1.1.2.1, ⟨hk.1.1.1.1.2.2, ⟨hk.1.1.2, hk.1.2⟩⟩⟩⟩⟩)))⟩; have n3_ : Aside0 (w65.heap[gb146]? = some (.cells #[.int .i64 0, .int .i64 0, .slice none 0 0] 38 (0, 0))) := ⟨(by rw [hw]; exact (by (with_reducible repeat (first | refine blk_drewN ?_ _ | refine blk_drew ?_ | refine blk_alloc ?_ _)); refine blk_far ?_ NB146_158.out _; (with_reducible repeat (first | refine blk_drewN ?_ _ | refine blk_drew ?_ | refine blk_alloc ?_ _)); refine blk_far ?_ NB146_158.out _; (with_reducible repeat (first | refine blk_drewN ?_ _ | refine blk_drew ?_ | refine blk_alloc ?_ _)); refine blk_far ?_ NB146_158.out _; (with_reducible repeat (first | refine blk_drewN ?_ _ | refine blk_drew ?_ | refine blk_alloc ?_ _)); refine blk_far ?_ NB146_158.out _; (with_reducible repeat (first | refine blk_drewN ?_ _ | refine blk_drew ?_ | refine blk_alloc ?_ _)); refine blk_far ?_ NB146_158.out _; exact uB <| BK146.out))⟩; have n4_ : Aside0 (w65.heap[gb147]? = some (.cells #[.int .i64 a0, .int .i64 a1, u148002] 38 (0, 0))) := ⟨(by rw [hw]; exact (by (with_reducible repeat (first | refine blk_drewN ?_ _ | refine blk_drew ?_ | refine blk_alloc ?_ _)); refine blk_far ?_ NB147_158.out _; (with_reducible repeat (first | refine blk_drewN ?_ _ | refine blk_drew ?_ | refine blk_alloc ?_ _)); refine blk_far ?_ NB147_158.out _; (with_reducible repeat (first | refine blk_drewN ?_ _ | refine blk_drew ?_ | refine blk_alloc ?_ _)); refine blk_far ?_ NB147_158.out _; (with_reducible repeat (first | refine blk_drewN ?_ _ | refine blk_drew ?_ | refine blk_alloc ?_ _)); refine blk_far ?_ NB147_158.out _; (with_reducible repeat (first | refine blk_drewN ?_ _ | refine blk_drew ?_ | refine blk_alloc ?_ _)); refine blk_far ?_ NB147_158.out _; exact uB <| BK147.out))⟩; have n5_ : Aside0 (w65.heap[gb152]? = some (.cells #[.int .i64 ((rd_T70 t148 x17_1).f0), .string ((rd_T70 t148 x17_1).f1), .slice A151_2 ((rd_T70 t148 x17_1).f2).length c151_2] 70 (0, 0))) := ⟨(by rw [hw]; exact (by (with_reducible repeat (first | refine blk_drewN ?_ _ | refine blk_drew ?_ | refine blk_alloc ?_ _)); refine blk_far ?_ NB152_158.out _; (with_reducible repeat (first | refine blk_drewN ?_ _ | refine blk_drew ?_ | refine blk_alloc ?_ _)); refine blk_far ?_ NB152_158.out _; (with_reducible repeat (first | refine blk_drewN ?_ _ | refine blk_drew ?_ | refine blk_alloc ?_ _)); refine blk_far ?_ NB152_158.out _; (with_reducible repeat (first | refine blk_drewN ?_ _ | refine blk_drew ?_ | refine blk_alloc ?_ _)); refine blk_far ?_ NB152_158.out _; (with_reducible repeat (first | refine blk_drewN ?_ _ | refine blk_drew ?_ | refine blk_alloc ?_ _)); refine blk_far ?_ NB152_158.out _; exact uB <| BK152.out))⟩; have n6_ : Aside0 (w65.heap[gb158]? = some (.cells #[.int .i64 t153, .int .i64 t154, .bool t155, .int .i64 t156, .int .i64 t157] 54 (0, 0))) := ⟨(by rw [hw]; exact (by (with_reducible repeat (first | refine blk_drewN ?_ _ | refine blk_drew ?_ | refine blk_alloc ?_ _)); refine blk_put (cs := #[.int .i64 t153, .int .i64 t154, .bool t155, .int .i64 t156, .int .i64 0]) ?_ 4 _ rfl; (with_reducible repeat (first | refine blk_drewN ?_ _ | refine blk_drew ?_ | refine blk_alloc ?_ _)); refine blk_put (cs := #[.int .i64 t153, .int .i64 t154, .bool t155, .int .i64 0, .int .i64 0]) ?_ 3 _ rfl; (with_reducible repeat (first | refine blk_drewN ?_ _ | refine blk_drew ?_ | refine blk_alloc ?_ _)); refine blk_put (cs := #[.int .i64 t153, .int .i64 t154, .bool false, .int .i64 0, .int .i64 0]) ?_ 2 _ rfl; (with_reducible repeat (first | refine blk_drewN ?_ _ | refine blk_drew ?_ | refine blk_alloc ?_ _)); refine blk_put (cs := #[.int .i64 t153, .int .i64 0, .bool false, .int .i64 0, .int .i64 0]) ?_ 1 _ rfl; (with_reducible repeat (first | refine blk_drewN ?_ _ | refine blk_drew ?_ | refine blk_alloc ?_ _)); refine blk_put (cs := #[.int .i64 0, .int .i64 0, .bool false, .int .i64 0, .int .i64 0]) ?_ 0 _ rfl; exact uB <| BK158.out))⟩; have n7_ : Aside0 (Below w.heap.size w w65) := ⟨(by rw [hw]; exact bl)⟩; clear hw; clear HO_15; clear HO_148002; clear HL151_2; clear BK146; clear BK147; clear BK152; clear BK158; clear HB; have HO_15 := n0_; have HO_148002 := n1_; have HL151_2 := n2_; have BK146 := n3_; have BK147 := n4_; have BK152 := n5_; have BK158 := n6_; have HB := n7_; clear n0_ n1_ n2_ n3_ n4_ n5_ n6_ n7_; obtain ⟨hcz66_0, hcz66_1, hcz66_2, hfz66_0, hfz66_1, hfz66_2⟩ := z3 BK152))
     go_roundg k1
     case measure => have := HK1.out; omega
     case rel => exact ⟨(wrap64 (x17_1 + 1)), (x148002_1), (u148002), rs_, H', ⟨by have := HK1.out; omega⟩, ⟨by (with_reducible repeat (first | apply Kd.N_alloc | apply Kd.N_drewN | apply Kd.N_drew)); exact Kd.N_mono HO_15.out (fun _ hk => ⟨hk.1, ⟨hk.2.1, hk.2.2.1⟩⟩)⟩, ⟨uR HO_148002.out⟩, ⟨uB BK146.out⟩, ⟨uB BK147.out⟩, ⟨bl⟩⟩
   ·
    rw [if_neg c12] at H
    have c12b0 : decide (x17_1 < (t148.length : Int)) = false := decide_eq_false c12
    clear c12
    obtain ⟨_, A67, H⟩ := bs H
    try dsimp only at H
    simp only [Option.some.injEq, Prod.mk.injEq] at H
    obtain ⟨rfl, rfl, rfl⟩ := H
    have hnb68 := NB147_146.out
    have hnc68 := NB146_147.out
    obtain ⟨hcz69_0, hcz69_1, hcz69_2, hfz69_0, hfz69_1, hfz69_2⟩ := z3 BK147
    obtain ⟨Ao70, co70, eo70⟩ := Kd.R_slice HO_148002.out
    subst eo70
    go_wp2_with (first | (refine gL (some 47) rfl Try.func33 #[.slice Ao70 x148002_1.length co70, (.func (.func 34) #[] #[])] ?_; (with_reducible refine (api_Item_with_34_33.calls k1 _ _ x148002_1  _ ?side1 ?side2 A67.out).mono ?_); (case side1 => exact uC <| (Kd.R_reads' HO_148002.out).2.2); (case side2 => exact (Kd.R_reads' HO_148002.out).2.1); rintro e w71 ⟨rfl, hb⟩; refine ⟨_, rfl, ?_⟩; replace HO_15 := Aside0.mk (Kd.N_below (by (with_reducible repeat (first | apply Kd.N_alloc | apply Kd.N_drewN | apply Kd.N_drew)); exact HO_15.out) hb); replace HO_148002 := cR HO_148002 hb; replace BK146 := cB BK146 hb; replace BK147 := cB BK147 hb; replace HB := Aside0.mk (below_step bl hb); (try clear hb); obtain ⟨hcz72_0, hcz72_1, hcz72_2, hfz72_0, hfz72_1, hfz72_2⟩ := z3 BK147; obtain ⟨hcz73_0, hcz73_1, hcz73_2, hfz73_0, hfz73_1, hfz73_2⟩ := z3 BK146))
    refine bodyPost_ret (results_cell_row rfl _ _ gb146 38 #[.int .i64 a0, .int .i64 a1, .slice Ao70 x148002_1.length co70] (0, 0) _ rfl (by (with_reducible repeat (first | refine blk_drewN ?_ _ | refine blk_drew ?_ | refine blk_alloc ?_ _)); refine blk_put (cs := #[.int .i64 a0, .int .i64 a1, .slice none 0 0]) ?_ 2 _ rfl; (with_reducible repeat (first | refine blk_drewN ?_ _ | refine blk_drew ?_ | refine blk_alloc ?_ _)); refine blk_put (cs := #[.int .i64 a0, .int .i64 0, .slice none 0 0]) ?_ 1 _ rfl; (with_reducible repeat (first | refine blk_drewN ?_ _ | refine blk_drew ?_ | refine blk_alloc ?_ _)); refine blk_put (cs := #[.int .i64 0, .int .i64 0, .slice none 0 0]) ?_ 0 _ rfl; exact uB <| BK146.out) Try.underlying38 rfl (by kernel_rfl)) rfl ?_
    exact ⟨_, re_, by exact uR <| Kd.R_mono (Kd.R_far (p := ⟨gb146, 2, none⟩) (Kd.R_far (p := ⟨gb146, 1, none⟩) (Kd.R_far (p := ⟨gb146, 0, none⟩) (Kd.R_types HO_148002.out BK146.out (by decide)) (fun _ hk => hk.2) (.int .i64 a0)) (fun _ hk => hk.2) (.int .i64 a1)) (fun _ hk => hk.2) (.slice Ao70 x148002_1.length co70)) (fun _ hk => trivial), bl⟩
theorem eqA52 (d : Nat) (w : World) (x0 y0 : Int) (x1 y1 : Bool) :
 (Op.equalIn (d + 2) 52 (.agg #[.int .i64 x0, .bool x1]) (.agg #[.int .i64 y0, .bool y1])).run Try.prog w = .ok (x0 == y0 && (x1 == y1)) w := by
 refine eqA_of Try.underlying52 (by kernel_rfl) ?_
 refine eqf_cons (by rfl) (by go_simp; rfl) (by go_simp; rfl) (by go_simp) ?_
 exact eqf_last (by rfl) (by go_simp; rfl) (by go_simp; rfl) (by go_simp)
theorem eqA54 (d : Nat) (w : World) (x0 y0 : Int) (x1 y1 : Int) (x2 y2 : Bool) (x3 y3 : Int) (x4 y4 : Int) :
 (Op.equalIn (d + 3) 54 (.agg #[.int .i64 x0, .int .i64 x1, .bool x2, .int .i64 x3, .int .i64 x4]) (.agg #[.int .i64 y0, .int .i64 y1, .bool y2, .int .i64 y3, .int .i64 y4])).run Try.prog w = .ok (x0 == y0 && ((x1 == y1 && (x2 == y2)) && (x3 == y3 && (x4 == y4)))) w := by
 refine eqA_of Try.underlying54 (by kernel_rfl) ?_
 refine eqf_cons (by rfl) (by go_simp; rfl) (by go_simp; rfl) (by go_simp) ?_
 refine eqf_cons (by rfl) (by go_simp) (by go_simp) (eqA52 (d + 0) w _ _ _ _) ?_
 refine eqf_cons (by rfl) (by go_simp; rfl) (by go_simp; rfl) (by go_simp) ?_
 exact eqf_last (by rfl) (by go_simp; rfl) (by go_simp; rfl) (by go_simp)
theorem eqA56 (d : Nat) (w : World) (x0 y0 : Int) (x1 y1 : ByteArray) (x2 y2 : Int) (x3 y3 : Int) (x4 y4 : Bool) (x5 y5 : Int) (x6 y6 : Int) :
 (Op.equalIn (d + 4) 56 (.agg #[.int .i64 x0, .string x1, .int .i64 x2, .int .i64 x3, .bool x4, .int .i64 x5, .int .i64 x6]) (.agg #[.int .i64 y0, .string y1, .int .i64 y2, .int .i64 y3, .bool y4, .int .i64 y5, .int .i64 y6])).run Try.prog w = .ok (x0 == y0 && (x1.toList == y1.toList && ((x2 == y2 && ((x3 == y3 && (x4 == y4)) && (x5 == y5 && (x6 == y6))))))) w := by
 refine eqA_of Try.underlying56 (by kernel_rfl) ?_
 refine eqf_cons (by rfl) (by go_simp; rfl) (by go_simp; rfl) (by go_simp) ?_
 refine eqf_cons (by rfl) (by go_simp; rfl) (by go_simp; rfl) (by go_simp) ?_
 exact eqf_last (by rfl) (by go_simp) (by go_simp) (eqA54 (d + 0) w _ _ _ _ _ _ _ _ _ _)
attribute [local go_sem high] eqA56
def api_Item_37.l0 : Nat → List (S56) → List (S56) → Int → Int → Option (Bool)
 | 0, _, _, _, _ => none
 | k + 1, x0, x1, x12, x13 => if x13 < x12 then (if 0 ≤ x13 then (if x13 < (x0.length : Int) then (if x13 < (x1.length : Int) then (if (!(((rd_T56 x0 x13).f0) == ((rd_T56 x1 x13).f0)) || (!((((rd_T56 x0 x13).f1).toList) == (((rd_T56 x1 x13).f1).toList)) || ((!(((rd_T56 x0 x13).f2.f0) == ((rd_T56 x1 x13).f2.f0)) || ((!(((rd_T56 x0 x13).f2.f1.f0) == ((rd_T56 x1 x13).f2.f1.f0)) || (!(((rd_T56 x0 x13).f2.f1.f1) == ((rd_T56 x1 x13).f2.f1.f1)))) || (!(((rd_T56 x0 x13).f2.f2) == ((rd_T56 x1 x13).f2.f2)) || (!(((rd_T56 x0 x13).f2.f3) == ((rd_T56 x1 x13).f2.f3))))))))) = true then (some false) else (api_Item_37.l0 k x0 x1 x12 (wrap64 (x13 + 1)))) else (none)) else (none)) else (none)) else (some true)
def api_Item_37.f (k : Nat) (l0 : List (S56)) (l1 : List (S56)) : Option (Bool) := if (l0.length : Int) = (l1.length : Int) then (api_Item_37.l0 k l0 l1 (l0.length : Int) 0) else (some false)
theorem api_Item_37.mono_l : ∀ k, (∀ y0 y1 y2 y3, LeC (api_Item_37.l0 k y0 y1 y2 y3) (api_Item_37.l0 (k + 1) y0 y1 y2 y3))
 | 0 => fun _ _ _ _ => ⟨fun r h => by simp [api_Item_37.l0] at h⟩
 | k + 1 => by have ih0 := api_Item_37.mono_l k; exact fun _ _ _ _ => by unfold api_Item_37.l0; exact lm
theorem api_Item_37.mono : ∀ a0 a1 k, LeO (api_Item_37.f k a0 a1) (api_Item_37.f (k + 1) a0 a1) := by
 intro a0 a1 k
 have ih0 := api_Item_37.mono_l k
 unfold api_Item_37.f
 exact lo
instance api_Item_37.mI {a0 a1 k} : LeC (api_Item_37.f k a0 a1) (api_Item_37.f (k + 1) a0 a1) := ⟨api_Item_37.mono _ _ _⟩
theorem api_Item_37.calls (k : Nat) (A0 : Option Addr) (c0 : Nat) (l0 : List (S56)) (A1 : Option Addr) (c1 : Nat) (l1 : List (S56)) (r : Bool) (w : World) (hr0 : Kd.C k56 w A0 l0.length l0) (hc0 : l0.length ≤ c0) (hr1 : Kd.C k56 w A1 l1.length l1) (hc1 : l1.length ≤ c1) (h : api_Item_37.f k l0 l1 = some r) :
 Calls Try.prog 37 #[.slice A0 l0.length c0, .slice A1 l1.length c1] w fun e w' => e = .returned (.bool r) ∧ Drawn0 w w' := by
 have hu56 := Try.underlying56
 have HR0 := Aside0.mk hr0
 have HC0 := Aside0.mk hc0
 clear hr0 hc0
 have HR1 := Aside0.mk hr1
 have HC1 := Aside0.mk hc1
 clear hr1 hc1
 have H : (if (l0.length : Int) = (l1.length : Int) then (api_Item_37.l0 k l0 l1 (l0.length : Int) 0) else (some false)) = some r := h
 clear h
 by_cases c3 : (l0.length : Int) = (l1.length : Int)
 ·
  rw [if_pos c3] at H
  have c3b0 : ((l0.length : Int) == (l1.length : Int)) = true := beq_iff_eq.mpr c3
  have c3b1 : ((l0.length : Int) != (l1.length : Int)) = false := bne_eq_false_iff_eq.mpr c3
  have c3b2 : (l0.length == l1.length) = true := by first | simpa using c3 | (simp at c3 ⊢; omega)
  clear c3
  have H' := Aside0.mk H
  clear H
  go_enter Try.func37, Try.ntmps37
  go_wp2
  repeat (go_quiet (fail); try go_wp2)
  go_loopg [13] k (fun kq v13 w' => ∃ (x13_1 : Int), v13 = .int .i64 x13_1 ∧ Aside0 (api_Item_37.l0 kq l0 l1 (l0.length : Int) x13_1 = some r) ∧ Aside0 (kq ≤ k) ∧ Drawn0 w w')
  case atStart => exact ⟨(0), rs_, H', ⟨Nat.le_refl _⟩, dr_⟩
  case round =>
   clear H'
   try clear c1
   try clear p2
   try clear c3
   try clear c3b0
   try clear c3b1
   try clear c3b2
   obtain ⟨x13_1, rfl, HA, HK1, ⟨m1, rfl⟩⟩ := hrel
   cases gk with
   | zero => exact absurd HA.out (by simp [api_Item_37.l0])
   | succ k1 =>
    have H := HA.out
    clear HA
    simp only [api_Item_37.l0] at H
    by_cases c4 : x13_1 < (l0.length : Int)
    ·
     rw [if_pos c4] at H
     have c4b0 : decide (x13_1 < (l0.length : Int)) = true := decide_eq_true c4
     clear c4
     obtain ⟨c5b0, H⟩ := gdd H
     obtain ⟨c6b0, H⟩ := gdd H
     obtain ⟨c7b0, H⟩ := gdd H
     by_cases c8 : (!(((rd_T56 l0 x13_1).f0) == ((rd_T56 l1 x13_1).f0)) || (!((((rd_T56 l0 x13_1).f1).toList) == (((rd_T56 l1 x13_1).f1).toList)) || ((!(((rd_T56 l0 x13_1).f2.f0) == ((rd_T56 l1 x13_1).f2.f0)) || ((!(((rd_T56 l0 x13_1).f2.f1.f0) == ((rd_T56 l1 x13_1).f2.f1.f0)) || (!(((rd_T56 l0 x13_1).f2.f1.f1) == ((rd_T56 l1 x13_1).f2.f1.f1)))) || (!(((rd_T56 l0 x13_1).f2.f2) == ((rd_T56 l1 x13_1).f2.f2)) || (!(((rd_T56 l0 x13_1).f2.f3) == ((rd_T56 l1 x13_1).f2.f3))))))))) = true
     ·
      rw [if_pos c8] at H
      have c8b0 : (!(((rd_T56 l0 x13_1).f0) == ((rd_T56 l1 x13_1).f0)) || (!((((rd_T56 l0 x13_1).f1).toList) == (((rd_T56 l1 x13_1).f1).toList)) || ((!(((rd_T56 l0 x13_1).f2.f0) == ((rd_T56 l1 x13_1).f2.f0)) || ((!(((rd_T56 l0 x13_1).f2.f1.f0) == ((rd_T56 l1 x13_1).f2.f1.f0)) || (!(((rd_T56 l0 x13_1).f2.f1.f1) == ((rd_T56 l1 x13_1).f2.f1.f1)))) || (!(((rd_T56 l0 x13_1).f2.f2) == ((rd_T56 l1 x13_1).f2.f2)) || (!(((rd_T56 l0 x13_1).f2.f3) == ((rd_T56 l1 x13_1).f2.f3))))))))) = true := c8
      clear c8
      obtain rfl := Option.some.inj H
      have p163 : 0 ≤ (x13_1 : Int) := od
      have q163 : x13_1 < (l0.length : Int) := od
      obtain ⟨ad163, e163, hx163_0, hx163_1, hx163_2, hx163_3, hx163_4, hx163_5, hx163_6⟩ := at_T56 HR0.out x13_1 p163 q163
      cases e163
      replace p163 := eq_true p163
      replace q163 := eq_true q163
      have p164 : 0 ≤ (x13_1 : Int) := od
      have q164 : x13_1 < (l1.length : Int) := od
      obtain ⟨ad164, e164, hx164_0, hx164_1, hx164_2, hx164_3, hx164_4, hx164_5, hx164_6⟩ := at_T56 HR1.out x13_1 p164 q164
      cases e164
      replace p164 := eq_true p164
      replace q164 := eq_true q164
      go_wp2
      repeat (go_quiet (fail); try go_wp2)
      go_ret
      exact ⟨rs_, dr_⟩
     ·
      rw [if_neg c8] at H
      have c8b0 : (!(((rd_T56 l0 x13_1).f0) == ((rd_T56 l1 x13_1).f0)) || (!((((rd_T56 l0 x13_1).f1).toList) == (((rd_T56 l1 x13_1).f1).toList)) || ((!(((rd_T56 l0 x13_1).f2.f0) == ((rd_T56 l1 x13_1).f2.f0)) || ((!(((rd_T56 l0 x13_1).f2.f1.f0) == ((rd_T56 l1 x13_1).f2.f1.f0)) || (!(((rd_T56 l0 x13_1).f2.f1.f1) == ((rd_T56 l1 x13_1).f2.f1.f1)))) || (!(((rd_T56 l0 x13_1).f2.f2) == ((rd_T56 l1 x13_1).f2.f2)) || (!(((rd_T56 l0 x13_1).f2.f3) == ((rd_T56 l1 x13_1).f2.f3))))))))) = false := by simpa using c8
      clear c8
      have H' := Aside0.mk H
      clear H
      have p163 : 0 ≤ (x13_1 : Int) := od
      have q163 : x13_1 < (l0.length : Int) := od
      obtain ⟨ad163, e163, hx163_0, hx163_1, hx163_2, hx163_3, hx163_4, hx163_5, hx163_6⟩ := at_T56 HR0.out x13_1 p163 q163
      cases e163
      replace p163 := eq_true p163
      replace q163 := eq_true q163
      have p164 : 0 ≤ (x13_1 : Int) := od
      have q164 : x13_1 < (l1.length : Int) := od
      obtain ⟨ad164, e164, hx164_0, hx164_1, hx164_2, hx164_3, hx164_4, hx164_5, hx164_6⟩ := at_T56 HR1.out x13_1 p164 q164
      cases e164
      replace p164 := eq_true p164
      replace q164 := eq_true q164
      go_wp2
      repeat (go_quiet (fail); try go_wp2)
      go_roundg k1
      case measure => have := HK1.out; omega
      case rel => exact ⟨(wrap64 (x13_1 + 1)), rs_, H', ⟨by have := HK1.out; omega⟩, dr_⟩
    ·
     rw [if_neg c4] at H
     have c4b0 : decide (x13_1 < (l0.length : Int)) = false := decide_eq_false c4
     clear c4
     obtain rfl := Option.some.inj H
     go_wp2
     repeat (go_quiet (fail); try go_wp2)
     go_ret
     exact ⟨rs_, dr_⟩
 ·
  rw [if_neg c3] at H
  have c3b0 : ((l0.length : Int) == (l1.length : Int)) = false := beq_eq_false_iff_ne.mpr c3
  have c3b1 : ((l0.length : Int) != (l1.length : Int)) = true := bne_iff_ne.mpr c3
  have c3b2 : (l0.length == l1.length) = false := by first | simpa using c3 | (simp at c3 ⊢; omega)
  obtain rfl := Option.some.inj H
  go_enter Try.func37, Try.ntmps37
  go_wp2
  repeat (go_quiet (fail); try go_wp2)
  go_ret
  exact ⟨rs_, dr_⟩
def emit_Same.f (k : Nat) (a0_0 : Int) (a0_1 : Int) (l0_2 : List (S56)) (a1_0 : Int) (a1_1 : Int) (l1_2 : List (S56)) : Option (Bool) := if a0_0 = a1_0 then (if a0_1 = a1_1 then ((api_Item_37.f k l0_2 l1_2).bind fun t167 => (some t167)) else (some false)) else (some false)
theorem emit_Same.mono : ∀ a0 a1 a2 a3 a4 a5 k, LeO (emit_Same.f k a0 a1 a2 a3 a4 a5) (emit_Same.f (k + 1) a0 a1 a2 a3 a4 a5) := by
 intro a0 a1 a2 a3 a4 a5 k
 unfold emit_Same.f
 exact lo
instance emit_Same.mI {a0 a1 a2 a3 a4 a5 k} : LeC (emit_Same.f k a0 a1 a2 a3 a4 a5) (emit_Same.f (k + 1) a0 a1 a2 a3 a4 a5) := ⟨emit_Same.mono _ _ _ _ _ _ _⟩
theorem emit_Same.calls (k : Nat) (a0_0 : Int) (a0_1 : Int) (A0_2 : Option Addr) (c0_2 : Nat) (l0_2 : List (S56)) (a1_0 : Int) (a1_1 : Int) (A1_2 : Option Addr) (c1_2 : Nat) (l1_2 : List (S56)) (r : Bool) (w : World) (hr0_2 : Kd.C k56 w A0_2 l0_2.length l0_2) (hc0_2 : l0_2.length ≤ c0_2) (hr1_2 : Kd.C k56 w A1_2 l1_2.length l1_2) (hc1_2 : l1_2.length ≤ c1_2) (h : emit_Same.f k a0_0 a0_1 l0_2 a1_0 a1_1 l1_2 = some r) :
 Calls Try.prog 15 #[.agg #[.int .i64 a0_0, .int .i64 a0_1, .slice A0_2 l0_2.length c0_2], .agg #[.int .i64 a1_0, .int .i64 a1_1, .slice A1_2 l1_2.length c1_2]] w fun e w' => e = .returned (.bool r) ∧ Below w.heap.size w w' := by
 have hu38 := Try.underlying38
 have HR0_2 := Aside0.mk hr0_2
 have HC0_2 := Aside0.mk hc0_2
 clear hr0_2 hc0_2
 have HR1_2 := Aside0.mk hr1_2
 have HC1_2 := Aside0.mk hc1_2
 clear hr1_2 hc1_2
 have HB := Aside0.mk (Below.refl w.heap.size w)
 have H : (if a0_0 = a1_0 then (if a0_1 = a1_1 then ((api_Item_37.f k l0_2 l1_2).bind fun t167 => (some t167)) else (some false)) else (some false)) = some r := h
 clear h
 by_cases c3 : a0_0 = a1_0
 ·
  rw [if_pos c3] at H
  have c3b0 : (a0_0 == a1_0) = true := beq_iff_eq.mpr c3
  have c3b1 : (a0_0 != a1_0) = false := bne_eq_false_iff_eq.mpr c3
  clear c3
  by_cases c4 : a0_1 = a1_1
  ·
   rw [if_pos c4] at H
   have c4b0 : (a0_1 == a1_1) = true := beq_iff_eq.mpr c4
   have c4b1 : (a0_1 != a1_1) = false := bne_eq_false_iff_eq.mpr c4
   clear c4
   obtain ⟨t167, A5, H⟩ := bs H
   try dsimp only at H
   obtain rfl := Option.some.inj H
   go_enter Try.func15, Try.ntmps15
   go_wp2_with (first | ((with_reducible refine gate_dst (N := 2) rfl ?_); refine bx (N := 2) #[.int .i64 a0_0, .int .i64 a0_1, .slice A0_2 l0_2.length c0_2] 38 ?_; intro gb165 hg w6 hbox hb; have BK165 := Aside0.mk (hbox); have GW165 := gw hg (uW HB.out); have GE165 := GW165; replace HB := cW HB hb; clear hb hbox hg) | ((with_reducible refine gate_dst (N := 3) rfl ?_); refine bx (N := 3) #[.int .i64 a1_0, .int .i64 a1_1, .slice A1_2 l1_2.length c1_2] 38 ?_; intro gb166 hg w7 hbox hb; have BK166 := Aside0.mk (hbox); have GW166 := gw hg bl; have GE166 := GW166; replace HB := Aside0.mk (below_step bl hb); have NB165_166 := Aside0.mk ((by rw [hg]; exact Nat.ne_of_lt (blk_lt (g := gb165) (o := .cells #[.int .i64 a0_0, .int .i64 a0_1, .slice A0_2 l0_2.length c0_2] 38 (0, 0)) (uB BK165.out)) : gb165 ≠ gb166)); have NB166_165 := Aside0.mk ((by rw [hg]; exact Nat.ne_of_gt (blk_lt (g := gb165) (o := .cells #[.int .i64 a0_0, .int .i64 a0_1, .slice A0_2 l0_2.length c0_2] 38 (0, 0)) (uB BK165.out)) : gb166 ≠ gb165)); replace BK165 := cB BK165 hb; clear hb hbox hg; have hnb8 := NB165_166.out; have hnc8 := NB166_165.out; obtain ⟨hcz9_0, hcz9_1, hcz9_2, hfz9_0, hfz9_1, hfz9_2⟩ := z3 BK165; obtain ⟨hcz10_0, hcz10_1, hcz10_2, hfz10_0, hfz10_1, hfz10_2⟩ := z3 BK166) | (go_at_call 37; (with_reducible refine (api_Item_37.calls k _ _ l0_2 _ _ l1_2 t167 _ ?side1 ?side2 ?side3 ?side4 A5.out).mono ?_); (case side1 => exact uC <| (Kd.C_below HR0_2.out HB.out)); (case side2 => exact HC0_2.out); (case side3 => exact uC <| (Kd.C_below HR1_2.out HB.out)); (case side4 => exact HC1_2.out); rintro e w' ⟨rfl, ⟨nd, rfl⟩⟩))
   go_ret
   exact ⟨re_, bl⟩
  ·
   rw [if_neg c4] at H
   have c4b0 : (a0_1 == a1_1) = false := beq_eq_false_iff_ne.mpr c4
   have c4b1 : (a0_1 != a1_1) = true := bne_iff_ne.mpr c4
   obtain rfl := Option.some.inj H
   go_enter Try.func15, Try.ntmps15
   go_wp2_with (first | ((with_reducible refine gate_dst (N := 2) rfl ?_); refine bx (N := 2) #[.int .i64 a0_0, .int .i64 a0_1, .slice A0_2 l0_2.length c0_2] 38 ?_; intro gb165 hg w11 hbox hb; have BK165 := Aside0.mk (hbox); have GW165 := gw hg (uW HB.out); have GE165 := GW165; replace HB := cW HB hb; clear hb hbox hg) | ((with_reducible refine gate_dst (N := 3) rfl ?_); refine bx (N := 3) #[.int .i64 a1_0, .int .i64 a1_1, .slice A1_2 l1_2.length c1_2] 38 ?_; intro gb166 hg w12 hbox hb; have BK166 := Aside0.mk (hbox); have GW166 := gw hg bl; have GE166 := GW166; replace HB := Aside0.mk (below_step bl hb); have NB165_166 := Aside0.mk ((by rw [hg]; exact Nat.ne_of_lt (blk_lt (g := gb165) (o := .cells #[.int .i64 a0_0, .int .i64 a0_1, .slice A0_2 l0_2.length c0_2] 38 (0, 0)) (uB BK165.out)) : gb165 ≠ gb166)); have NB166_165 := Aside0.mk ((by rw [hg]; exact Nat.ne_of_gt (blk_lt (g := gb165) (o := .cells #[.int .i64 a0_0, .int .i64 a0_1, .slice A0_2 l0_2.length c0_2] 38 (0, 0)) (uB BK165.out)) : gb166 ≠ gb165)); replace BK165 := cB BK165 hb; clear hb hbox hg; have hnb13 := NB165_166.out; have hnc13 := NB166_165.out; obtain ⟨hcz14_0, hcz14_1, hcz14_2, hfz14_0, hfz14_1, hfz14_2⟩ := z3 BK165; obtain ⟨hcz15_0, hcz15_1, hcz15_2, hfz15_0, hfz15_1, hfz15_2⟩ := z3 BK166))
   go_ret
   exact ⟨re_, bl⟩
 ·
  rw [if_neg c3] at H
  have c3b0 : (a0_0 == a1_0) = false := beq_eq_false_iff_ne.mpr c3
  have c3b1 : (a0_0 != a1_0) = true := bne_iff_ne.mpr c3
  obtain rfl := Option.some.inj H
  go_enter Try.func15, Try.ntmps15
  go_wp2_with (first | ((with_reducible refine gate_dst (N := 2) rfl ?_); refine bx (N := 2) #[.int .i64 a0_0, .int .i64 a0_1, .slice A0_2 l0_2.length c0_2] 38 ?_; intro gb165 hg w16 hbox hb; have BK165 := Aside0.mk (hbox); have GW165 := gw hg (uW HB.out); have GE165 := GW165; replace HB := cW HB hb; clear hb hbox hg) | ((with_reducible refine gate_dst (N := 3) rfl ?_); refine bx (N := 3) #[.int .i64 a1_0, .int .i64 a1_1, .slice A1_2 l1_2.length c1_2] 38 ?_; intro gb166 hg w17 hbox hb; have BK166 := Aside0.mk (hbox); have GW166 := gw hg bl; have GE166 := GW166; replace HB := Aside0.mk (below_step bl hb); have NB165_166 := Aside0.mk ((by rw [hg]; exact Nat.ne_of_lt (blk_lt (g := gb165) (o := .cells #[.int .i64 a0_0, .int .i64 a0_1, .slice A0_2 l0_2.length c0_2] 38 (0, 0)) (uB BK165.out)) : gb165 ≠ gb166)); have NB166_165 := Aside0.mk ((by rw [hg]; exact Nat.ne_of_gt (blk_lt (g := gb165) (o := .cells #[.int .i64 a0_0, .int .i64 a0_1, .slice A0_2 l0_2.length c0_2] 38 (0, 0)) (uB BK165.out)) : gb166 ≠ gb165)); replace BK165 := cB BK165 hb; clear hb hbox hg; have hnb18 := NB165_166.out; have hnc18 := NB166_165.out; obtain ⟨hcz19_0, hcz19_1, hcz19_2, hfz19_0, hfz19_1, hfz19_2⟩ := z3 BK165; obtain ⟨hcz20_0, hcz20_1, hcz20_2, hfz20_0, hfz20_1, hfz20_2⟩ := z3 BK166))
  go_ret
  exact ⟨re_, bl⟩
def ebbtideref11_less.f (a0_0 : Int) (a0_1 : ByteArray) (l0_2 : List (S96)) (a1 : Int) (a2 : ByteArray) : Option (Bool) := if a0_0 < a1 then (some true) else (if a0_0 = a1 then (some (Op.bytesLess a0_1.toList a2.toList)) else (some false))
theorem ebbtideref11_less.calls (a0_0 : Int) (a0_1 : ByteArray) (A0_2 : Option Addr) (c0_2 : Nat) (l0_2 : List (S96)) (a1 : Int) (a2 : ByteArray) (r : Bool) (w : World) (hr0_2 : Kd.C k96 w A0_2 l0_2.length l0_2) (hc0_2 : l0_2.length ≤ c0_2) (h : ebbtideref11_less.f a0_0 a0_1 l0_2 a1 a2 = some r) :
 Calls Try.prog 41 #[.agg #[.int .i64 a0_0, .string a0_1, .slice A0_2 l0_2.length c0_2], .int .i64 a1, .string a2] w fun e w' => e = .returned (.bool r) ∧ Below w.heap.size w w' := by
 have hu70 := Try.underlying70
 have HR0_2 := Aside0.mk hr0_2
 have HC0_2 := Aside0.mk hc0_2
 clear hr0_2 hc0_2
 have HB := Aside0.mk (Below.refl w.heap.size w)
 have H : (if a0_0 < a1 then (some true) else (if a0_0 = a1 then (some (Op.bytesLess a0_1.toList a2.toList)) else (some false))) = some r := h
 clear h
 by_cases c4 : a0_0 < a1
 ·
  rw [if_pos c4] at H
  have c4b0 : decide (a0_0 < a1) = true := decide_eq_true c4
  clear c4
  obtain rfl := Option.some.inj H
  go_enter Try.func41, Try.ntmps41
  go_wp2_with (first | ((with_reducible refine gate_dst (N := 3) rfl ?_); refine bx (N := 3) #[.int .i64 a0_0, .string a0_1, .slice A0_2 l0_2.length c0_2] 70 ?_; intro gb168 hg w5 hbox hb; have BK168 := Aside0.mk (hbox); have GW168 := gw hg (uW HB.out); have GE168 := GW168; replace HB := cW HB hb; clear hb hbox hg; obtain ⟨hcz6_0, hcz6_1, hcz6_2, hfz6_0, hfz6_1, hfz6_2⟩ := z3 BK168))
  go_ret
  exact ⟨re_, bl⟩
 ·
  rw [if_neg c4] at H
  have c4b0 : decide (a0_0 < a1) = false := decide_eq_false c4
  clear c4
  by_cases c7 : a0_0 = a1
  ·
   rw [if_pos c7] at H
   have c7b0 : (a0_0 == a1) = true := beq_iff_eq.mpr c7
   have c7b1 : (a0_0 != a1) = false := bne_eq_false_iff_eq.mpr c7
   clear c7
   obtain rfl := Option.some.inj H
   go_enter Try.func41, Try.ntmps41
   go_wp2_with (first | ((with_reducible refine gate_dst (N := 3) rfl ?_); refine bx (N := 3) #[.int .i64 a0_0, .string a0_1, .slice A0_2 l0_2.length c0_2] 70 ?_; intro gb168 hg w8 hbox hb; have BK168 := Aside0.mk (hbox); have GW168 := gw hg (uW HB.out); have GE168 := GW168; replace HB := cW HB hb; clear hb hbox hg; obtain ⟨hcz9_0, hcz9_1, hcz9_2, hfz9_0, hfz9_1, hfz9_2⟩ := z3 BK168))
   go_ret
   exact ⟨re_, bl⟩
  ·
   rw [if_neg c7] at H
   have c7b0 : (a0_0 == a1) = false := beq_eq_false_iff_ne.mpr c7
   have c7b1 : (a0_0 != a1) = true := bne_iff_ne.mpr c7
   obtain rfl := Option.some.inj H
   go_enter Try.func41, Try.ntmps41
   go_wp2_with (first | ((with_reducible refine gate_dst (N := 3) rfl ?_); refine bx (N := 3) #[.int .i64 a0_0, .string a0_1, .slice A0_2 l0_2.length c0_2] 70 ?_; intro gb168 hg w10 hbox hb; have BK168 := Aside0.mk (hbox); have GW168 := gw hg (uW HB.out); have GE168 := GW168; replace HB := cW HB hb; clear hb hbox hg; obtain ⟨hcz11_0, hcz11_1, hcz11_2, hfz11_0, hfz11_1, hfz11_2⟩ := z3 BK168))
   go_ret
   exact ⟨re_, bl⟩
def ebbtideref10_Right.l0 : Nat → List (S96) → Int → Option (Bool)
 | 0, _, _ => none
 | k + 1, x0, x3 => if x3 < (x0.length : Int) then (if 0 ≤ x3 then (if ((rd_T96 x0 x3).f0) < 1 then (none) else (if ((rd_T96 x0 x3).f0) > 1000000000000000 then (none) else (if x3 > 0 then (if 0 ≤ (wrap64 (x3 - 1)) then (if (wrap64 (x3 - 1)) < (x0.length : Int) then (if ((rd_T96 x0 (wrap64 (x3 - 1))).f0) ≥ ((rd_T96 x0 x3).f0) then (none) else (ebbtideref10_Right.l0 k x0 (wrap64 (x3 + 1)))) else (none)) else (none)) else (ebbtideref10_Right.l0 k x0 (wrap64 (x3 + 1)))))) else (none)) else (some true)
def ebbtideref10_Right.f (k : Nat) (l0 : List (S96)) : Option (Bool) := ebbtideref10_Right.l0 k l0 0
theorem ebbtideref10_Right.mono_l : ∀ k, (∀ y0 y1, LeC (ebbtideref10_Right.l0 k y0 y1) (ebbtideref10_Right.l0 (k + 1) y0 y1))
 | 0 => fun _ _ => ⟨fun r h => by simp [ebbtideref10_Right.l0] at h⟩
 | k + 1 => by have ih0 := ebbtideref10_Right.mono_l k; exact fun _ _ => by unfold ebbtideref10_Right.l0; exact lm
theorem ebbtideref10_Right.mono : ∀ a0 k, LeO (ebbtideref10_Right.f k a0) (ebbtideref10_Right.f (k + 1) a0) := by
 intro a0 k
 have ih0 := ebbtideref10_Right.mono_l k
 unfold ebbtideref10_Right.f
 exact lo
instance ebbtideref10_Right.mI {a0 k} : LeC (ebbtideref10_Right.f k a0) (ebbtideref10_Right.f (k + 1) a0) := ⟨ebbtideref10_Right.mono _ _⟩
theorem ebbtideref10_Right.calls (k : Nat) (A0 : Option Addr) (c0 : Nat) (l0 : List (S96)) (r : Bool) (w : World) (hr0 : Kd.C k96 w A0 l0.length l0) (hc0 : l0.length ≤ c0) (h : ebbtideref10_Right.f k l0 = some r) :
 Calls Try.prog 54 #[.slice A0 l0.length c0] w fun e w' => e = .returned (.bool r) ∧ Drawn0 w w' := by
 have HR0 := Aside0.mk hr0
 have HC0 := Aside0.mk hc0
 clear hr0 hc0
 have H : (ebbtideref10_Right.l0 k l0 0) = some r := h
 clear h
 have H' := Aside0.mk H
 clear H
 go_enter Try.func54, Try.ntmps54
 go_wp2
 repeat (go_quiet (fail); try go_wp2)
 go_loopg [3] k (fun kq v3 w' => ∃ (x3_1 : Int), v3 = .int .i64 x3_1 ∧ Aside0 (ebbtideref10_Right.l0 kq l0 x3_1 = some r) ∧ Aside0 (kq ≤ k) ∧ Drawn0 w w')
 case atStart => exact ⟨(0), rs_, H', ⟨Nat.le_refl _⟩, dr_⟩
 case round =>
  clear H'
  obtain ⟨x3_1, rfl, HA, HK1, ⟨m1, rfl⟩⟩ := hrel
  cases gk with
  | zero => exact absurd HA.out (by simp [ebbtideref10_Right.l0])
  | succ k1 =>
   have H := HA.out
   clear HA
   simp only [ebbtideref10_Right.l0] at H
   by_cases c2 : x3_1 < (l0.length : Int)
   ·
    rw [if_pos c2] at H
    have c2b0 : decide (x3_1 < (l0.length : Int)) = true := decide_eq_true c2
    clear c2
    obtain ⟨c3b0, H⟩ := gdd H
    obtain ⟨c4b0, H⟩ := gnn H
    obtain ⟨c5b0, H⟩ := gnn H
    by_cases c6 : x3_1 > 0
    ·
     rw [if_pos c6] at H
     have c6b0 : decide (0 < x3_1) = true := decide_eq_true c6
     clear c6
     obtain ⟨ji7, hji7⟩ : ∃ j_ : Int, (wrap64 (x3_1 - 1)) = j_ := ⟨_, rfl⟩
     (first | rw [hji7] at H | simp only [hji7] at H)
     have hji7w : (IntKind.i64.wrap (x3_1 - 1)) = ji7 := (i64_w _).trans hji7
     obtain ⟨c8b0, H⟩ := gdd H
     obtain ⟨c9b0, H⟩ := gdd H
     obtain ⟨c10b0, H⟩ := gnn H
     have H' := Aside0.mk H
     clear H
     have p169 : 0 ≤ (x3_1 : Int) := od
     have q169 : x3_1 < (l0.length : Int) := od
     obtain ⟨ad169, e169, hx169_0, hx169_1, hx169_2, hx169_3, hx169_4, hx169_5⟩ := at_T96 HR0.out x3_1 p169 q169
     cases e169
     replace p169 := eq_true p169
     replace q169 := eq_true q169
     have p170 : 0 ≤ (x3_1 : Int) := od
     have q170 : x3_1 < (l0.length : Int) := od
     obtain ⟨ad170, e170, hx170_0, hx170_1, hx170_2, hx170_3, hx170_4, hx170_5⟩ := at_T96 HR0.out x3_1 p170 q170
     obtain rfl : ad169 = ad170 := (by injection e170)
     replace p170 := eq_true p170
     replace q170 := eq_true q170
     have p171 : 0 ≤ ((ji7) : Int) := od
     have q171 : (ji7) < (l0.length : Int) := od
     obtain ⟨ad171, e171, hx171_0, hx171_1, hx171_2, hx171_3, hx171_4, hx171_5⟩ := at_T96 HR0.out (ji7) p171 q171
     obtain rfl : ad169 = ad171 := (by injection e171)
     replace p171 := eq_true p171
     replace q171 := eq_true q171
     have p172 : 0 ≤ (x3_1 : Int) := od
     have q172 : x3_1 < (l0.length : Int) := od
     obtain ⟨ad172, e172, hx172_0, hx172_1, hx172_2, hx172_3, hx172_4, hx172_5⟩ := at_T96 HR0.out x3_1 p172 q172
     obtain rfl : ad169 = ad172 := (by injection e172)
     replace p172 := eq_true p172
     replace q172 := eq_true q172
     go_wp2
     repeat (go_quiet (fail); try go_wp2)
     go_roundg k1
     case measure => have := HK1.out; omega
     case rel => exact ⟨(wrap64 (x3_1 + 1)), rs_, H', ⟨by have := HK1.out; omega⟩, dr_⟩
    ·
     rw [if_neg c6] at H
     have c6b0 : decide (0 < x3_1) = false := decide_eq_false c6
     clear c6
     have H' := Aside0.mk H
     clear H
     have p169 : 0 ≤ (x3_1 : Int) := od
     have q169 : x3_1 < (l0.length : Int) := od
     obtain ⟨ad169, e169, hx169_0, hx169_1, hx169_2, hx169_3, hx169_4, hx169_5⟩ := at_T96 HR0.out x3_1 p169 q169
     cases e169
     replace p169 := eq_true p169
     replace q169 := eq_true q169
     have p170 : 0 ≤ (x3_1 : Int) := od
     have q170 : x3_1 < (l0.length : Int) := od
     obtain ⟨ad170, e170, hx170_0, hx170_1, hx170_2, hx170_3, hx170_4, hx170_5⟩ := at_T96 HR0.out x3_1 p170 q170
     obtain rfl : ad169 = ad170 := (by injection e170)
     replace p170 := eq_true p170
     replace q170 := eq_true q170
     go_wp2
     repeat (go_quiet (fail); try go_wp2)
     go_roundg k1
     case measure => have := HK1.out; omega
     case rel => exact ⟨(wrap64 (x3_1 + 1)), rs_, H', ⟨by have := HK1.out; omega⟩, dr_⟩
   ·
    rw [if_neg c2] at H
    have c2b0 : decide (x3_1 < (l0.length : Int)) = false := decide_eq_false c2
    clear c2
    obtain rfl := Option.some.inj H
    go_wp2
    repeat (go_quiet (fail); try go_wp2)
    go_ret
    exact ⟨rs_, dr_⟩
end Go.Proofs.Ytklhjponikgkkaa.X
