/- Printed by a program of this session's own: what functions of the program compute, and that the machine computes it. No condition of its own. -/
import Derived.Test.YteckidchnicjeaaGreatDoorM3
import Derived.Test.YteckidchnicjeaaGreatDoorM6
import Derived.Test.YteckidchnicjeaaGreatDoorM5
namespace Go.Proofs.YteckidchnicjeaaGreatDoor.X
open Go.RowKit Go.Proofs.YteckidchnicjeaaGreatDoorW.PrintWords Go.Proofs.YteckidchnicjeaaGreatDoorW.PrintLast Go.Proofs.YteckidchnicjeaaGreatDoorW.PrintMore
attribute [local go_sem] max2_int min2_int max_two min_two max_three min_three max_four min_four
set_option linter.unusedVariables false
set_option linter.unusedSimpArgs false
set_option maxHeartbeats 8000000
set_option maxRecDepth 100000
attribute [local go_sem high] eqA78
def row_Right_1.f (k : Nat) (a0_0 : Int) (a0_1 : ByteArray) (a0_2 : Int) (a0_3 : Bool) : Option (Bool) := (row_group.f k a0_1).bind fun t298 => (some (t298 != 0))
theorem row_Right_1.mono : ∀ a0 a1 a2 a3 k, LeO (row_Right_1.f k a0 a1 a2 a3) (row_Right_1.f (k + 1) a0 a1 a2 a3) := by
 intro a0 a1 a2 a3 k
 unfold row_Right_1.f
 exact lo
instance row_Right_1.mI {a0 a1 a2 a3 k} : LeC (row_Right_1.f k a0 a1 a2 a3) (row_Right_1.f (k + 1) a0 a1 a2 a3) := ⟨row_Right_1.mono _ _ _ _ _⟩
theorem row_Right_1.calls (k : Nat) (a0_0 : Int) (a0_1 : ByteArray) (a0_2 : Int) (a0_3 : Bool) (r : Bool) (w : World) (h : row_Right_1.f k a0_0 a0_1 a0_2 a0_3 = some r) :
 Calls Tryz.prog 115 #[.agg #[.int .i64 a0_0, .string a0_1, .int .i64 a0_2, .bool a0_3]] w fun e w' => e = .returned (.bool r) ∧ Below w.heap.size w w' := by
 have hu60 := Tryz.underlying60
 have HB := Aside0.mk (Below.refl w.heap.size w)
 have H : ((row_group.f k a0_1).bind fun t298 => (some (t298 != 0))) = some r := h
 clear h
 obtain ⟨t298, A2, H⟩ := bs H
 try dsimp only at H
 obtain rfl := Option.some.inj H
 go_enter Tryz.func115, Tryz.ntmps115
 go_wp2_with (first | ((with_reducible refine gate_dst (N := 1) rfl ?_); refine bx (N := 1) #[.int .i64 a0_0, .string a0_1, .int .i64 a0_2, .bool a0_3] 60 ?_; intro gb297 hg w3 hbox hb; have BK297 := Aside0.mk (hbox); have GW297 := gw hg (uW HB.out); have GE297 := GW297; replace HB := cW HB hb; clear hb hbox hg; obtain ⟨hcz4_0, hcz4_1, hcz4_2, hcz4_3, hfz4_0, hfz4_1, hfz4_2, hfz4_3⟩ := z4 BK297) | (refine gL (some 5) rfl Tryz.func86 #[.string a0_1] ?_; (with_reducible refine (row_group.calls k a0_1 t298 _ A2.out).mono ?_); rintro e w5 ⟨rfl, hb⟩; refine ⟨_, rfl, ?_⟩; replace BK297 := cB BK297 hb; replace HB := Aside0.mk (below_step bl hb); (try clear hb)))
 go_ret
 exact ⟨re_, bl⟩
theorem api_Row_with_115_146.goesV_ {P : Program} {ops : Array Oper} {Q : Exit → Act → World → Prop} {oi : Oper} {N : Option Tmp} {a : Act} {w : World} {K : Act → World → Prop} {f : FuncId} {fn : Func} {cal : Operand} {as_ : Array Operand} {ts : Array TypeId} (hf : P.funcs[f]? = some fn) (hname : (fn.name == "runtime.NumGoroutine") = false) (hb : fn.body.isSome = true) (args : Array Value)
 (hw : Region.wanted oi (yielded ops a.tmps) = true) (hN : oi.dst = N) (hop : oi.op = .call { callee := .value cal, args := as_, argTypes := ts }) (hev : a.eval cal = .func (.func f) #[] #[]) (hargs : as_.map a.eval = args)
 (h : Calls P f args w fun e w' => ∃ v, e = .returned v ∧ K (a.put N v) w') : if Region.wanted oi (yielded ops a.tmps) = true then Oper.wp P oi a w K Q else K (a.put N undef) w := by
 refine call_ f args hw hN ?_ h
 have he := enters_ hf hname hb args w
 unfold execOp
 simp [hop, resolve, Deferred.ofValue, invoke, hev, hargs, he]
theorem api_Row_with_115_146.goesVL_ {P : Program} {ops : Array Oper} {Q : Exit → Act → World → Prop} {rest : List Oper} {oi : Oper} {a : Act} {w : World} (N : Option Tmp) (hd : oi.dst = N) (hg : oi.guard = none) {f : FuncId} {fn : Func} {cal : Operand} {as_ : Array Operand} {ts : Array TypeId} (hf : P.funcs[f]? = some fn) (hname : (fn.name == "runtime.NumGoroutine") = false) (hb : fn.body.isSome = true) (args : Array Value)
 (hop : oi.op = .call { callee := .value cal, args := as_, argTypes := ts }) (hev : a.eval cal = .func (.func f) #[] #[]) (hargs : as_.map a.eval = args)
 (h : Calls P f args w fun e w' => ∃ v, e = .returned v ∧ wpList P ops Q rest (a.put N v) w') : wpList P ops Q (oi :: rest) a w := by
 refine wpList_plain hg fun K hK => ?_
 have he := enters_ hf hname hb args w
 have hrun : (execOp a.eval oi).run P w = .ok (.enter f args) w := by
  unfold execOp
  simp [hop, resolve, Deferred.ofValue, invoke, hev, hargs, he]
 unfold Oper.wp
 rw [hrun, Oper.upon_enter]
 refine h.mono fun e w'' hh => ?_
 obtain ⟨v, rfl, hk⟩ := hh
 subst hd
 exact hK _ _ hk
def api_Row_with_115_146.l0 : Nat → List (S60) → Int → Int → Option (Int)
 | 0, _, _, _ => none
 | k + 1, x0, x7, x8 => if x8 < x7 then (if 0 ≤ x8 then (if x8 < (x0.length : Int) then ((row_Right_1.f k ((rd_T60 x0 x8).f0) ((rd_T60 x0 x8).f1) ((rd_T60 x0 x8).f2.f0) ((rd_T60 x0 x8).f2.f1)).bind fun t300 => (if t300 = true then (some x8) else (api_Row_with_115_146.l0 k x0 x7 (wrap64 (x8 + 1))))) else (none)) else (none)) else (some (-1))
def api_Row_with_115_146.f (k : Nat) (l0 : List (S60)) : Option (Int) := api_Row_with_115_146.l0 k l0 (l0.length : Int) 0
theorem api_Row_with_115_146.mono_l : ∀ k, (∀ y0 y1 y2, LeC (api_Row_with_115_146.l0 k y0 y1 y2) (api_Row_with_115_146.l0 (k + 1) y0 y1 y2))
 | 0 => fun _ _ _ => ⟨fun r h => by simp [api_Row_with_115_146.l0] at h⟩
 | k + 1 => by have ih0 := api_Row_with_115_146.mono_l k; exact fun _ _ _ => by unfold api_Row_with_115_146.l0; exact lm
theorem api_Row_with_115_146.mono : ∀ a0 k, LeO (api_Row_with_115_146.f k a0) (api_Row_with_115_146.f (k + 1) a0) := by
 intro a0 k
 have ih0 := api_Row_with_115_146.mono_l k
 unfold api_Row_with_115_146.f
 exact lo
instance api_Row_with_115_146.mI {a0 k} : LeC (api_Row_with_115_146.f k a0) (api_Row_with_115_146.f (k + 1) a0) := ⟨api_Row_with_115_146.mono _ _⟩
theorem api_Row_with_115_146.calls (k : Nat) (A0 : Option Addr) (c0 : Nat) (l0 : List (S60)) (r : Int) (w : World) (hr0 : Kd.C k60 w A0 l0.length l0) (hc0 : l0.length ≤ c0) (h : api_Row_with_115_146.f k l0 = some r) :
 Calls Tryz.prog 146 #[.slice A0 l0.length c0, .func (.func 115) #[] #[]] w fun e w' => e = .returned (.int .i64 r) ∧ Below w.heap.size w w' := by
 have hu60 := Tryz.underlying60
 have HR0 := Aside0.mk hr0
 have HC0 := Aside0.mk hc0
 clear hr0 hc0
 have HB := Aside0.mk (Below.refl w.heap.size w)
 have H : (api_Row_with_115_146.l0 k l0 (l0.length : Int) 0) = some r := h
 clear h
 have H' := Aside0.mk H
 clear H
 have eg115 : ∀ args w, (callFunc 115 args).run Tryz.prog w = .ok (.enter 115 args) w := enters_of Tryz.func115 (by kernel_rfl) rfl
 go_enter Tryz.func146, Tryz.ntmps146
 go_wp2
 go_loopg [8] k (fun kq v8 w' => ∃ (x8_1 : Int), v8 = .int .i64 x8_1 ∧ Aside0 (api_Row_with_115_146.l0 kq l0 (l0.length : Int) x8_1 = some r) ∧ Aside0 (kq ≤ k) ∧ Aside0 (Below w.heap.size w w'))
 case atStart => exact ⟨(0), rs_, H', ⟨Nat.le_refl _⟩, ⟨uW HB.out⟩⟩
 case round =>
  clear H'
  obtain ⟨x8_1, rfl, HA, HK1, HB⟩ := hrel
  cases gk with
  | zero => exact absurd HA.out (by simp [api_Row_with_115_146.l0])
  | succ k1 =>
   have H := HA.out
   clear HA
   simp only [api_Row_with_115_146.l0] at H
   by_cases c2 : x8_1 < (l0.length : Int)
   ·
    rw [if_pos c2] at H
    have c2b0 : decide (x8_1 < (l0.length : Int)) = true := decide_eq_true c2
    clear c2
    obtain ⟨c3b0, H⟩ := gdd H
    obtain ⟨c4b0, H⟩ := gdd H
    obtain ⟨t300, A5, H⟩ := bs H
    try dsimp only at H
    by_cases c6 : t300 = true
    ·
     subst c6
     rw [if_pos rfl] at H
     obtain rfl := Option.some.inj H
     have p299 : 0 ≤ (x8_1 : Int) := od
     have q299 : x8_1 < (l0.length : Int) := od
     obtain ⟨ad299, e299, hx299_0, hx299_1, hx299_2, hx299_3⟩ := at_T60 HR0.out x8_1 p299 q299
     cases e299
     replace hx299_0 := kc HB hx299_0
     replace hx299_1 := kc HB hx299_1
     replace hx299_2 := kc HB hx299_2
     replace hx299_3 := kc HB hx299_3
     replace p299 := eq_true p299
     replace q299 := eq_true q299
     go_wp2_with (first | (refine api_Row_with_115_146.goesVL_ (some 16) rfl rfl Tryz.func115 (by kernel_rfl) rfl #[.agg #[.int .i64 ((rd_T60 l0 x8_1).f0), .string ((rd_T60 l0 x8_1).f1), .int .i64 ((rd_T60 l0 x8_1).f2.f0), .bool ((rd_T60 l0 x8_1).f2.f1)]] rfl (by rfl) (by (try simp only [List.map_toArray, List.map_cons, List.map_nil]); first | done | rfl | (simp only [List.length_drop, List.length_take]; rfl)) ?_; (with_reducible refine (row_Right_1.calls k1 ((rd_T60 l0 x8_1).f0) ((rd_T60 l0 x8_1).f1) ((rd_T60 l0 x8_1).f2.f0) ((rd_T60 l0 x8_1).f2.f1) true _ A5.out).mono ?_); rintro e w7 ⟨rfl, hb⟩; refine ⟨_, rfl, ?_⟩; replace HB := cW HB hb; (try clear hb)))
     go_ret
     exact ⟨re_, uW HB.out⟩
    ·
     replace c6 := Bool.eq_false_iff.mpr c6
     subst c6
     rw [if_neg (show ¬ (false = true) by decide)] at H
     have H' := Aside0.mk H
     clear H
     have p299 : 0 ≤ (x8_1 : Int) := od
     have q299 : x8_1 < (l0.length : Int) := od
     obtain ⟨ad299, e299, hx299_0, hx299_1, hx299_2, hx299_3⟩ := at_T60 HR0.out x8_1 p299 q299
     cases e299
     replace hx299_0 := kc HB hx299_0
     replace hx299_1 := kc HB hx299_1
     replace hx299_2 := kc HB hx299_2
     replace hx299_3 := kc HB hx299_3
     replace p299 := eq_true p299
     replace q299 := eq_true q299
     go_wp2_with (first | (refine api_Row_with_115_146.goesVL_ (some 16) rfl rfl Tryz.func115 (by kernel_rfl) rfl #[.agg #[.int .i64 ((rd_T60 l0 x8_1).f0), .string ((rd_T60 l0 x8_1).f1), .int .i64 ((rd_T60 l0 x8_1).f2.f0), .bool ((rd_T60 l0 x8_1).f2.f1)]] rfl (by rfl) (by (try simp only [List.map_toArray, List.map_cons, List.map_nil]); first | done | rfl | (simp only [List.length_drop, List.length_take]; rfl)) ?_; (with_reducible refine (row_Right_1.calls k1 ((rd_T60 l0 x8_1).f0) ((rd_T60 l0 x8_1).f1) ((rd_T60 l0 x8_1).f2.f0) ((rd_T60 l0 x8_1).f2.f1) false _ A5.out).mono ?_); rintro e w8 ⟨rfl, hb⟩; refine ⟨_, rfl, ?_⟩; replace HB := cW HB hb; (try clear hb)))
     go_roundg k1
     case measure => have := HK1.out; omega
     case rel => exact ⟨(wrap64 (x8_1 + 1)), rs_, H', ⟨by have := HK1.out; omega⟩, ⟨uW HB.out⟩⟩
   ·
    rw [if_neg c2] at H
    have c2b0 : decide (x8_1 < (l0.length : Int)) = false := decide_eq_false c2
    clear c2
    obtain rfl := Option.some.inj H
    go_wp2
    go_ret
    exact ⟨re_, uW HB.out⟩
def api_Row_with_115_114.f (k : Nat) (l0 : List (S60)) : Option (Bool) := (api_Row_with_115_146.f k l0).bind fun t301 => (some (decide (t301 ≥ 0)))
theorem api_Row_with_115_114.mono : ∀ a0 k, LeO (api_Row_with_115_114.f k a0) (api_Row_with_115_114.f (k + 1) a0) := by
 intro a0 k
 unfold api_Row_with_115_114.f
 exact lo
instance api_Row_with_115_114.mI {a0 k} : LeC (api_Row_with_115_114.f k a0) (api_Row_with_115_114.f (k + 1) a0) := ⟨api_Row_with_115_114.mono _ _⟩
theorem api_Row_with_115_114.calls (k : Nat) (A0 : Option Addr) (c0 : Nat) (l0 : List (S60)) (r : Bool) (w : World) (hr0 : Kd.C k60 w A0 l0.length l0) (hc0 : l0.length ≤ c0) (h : api_Row_with_115_114.f k l0 = some r) :
 Calls Tryz.prog 114 #[.slice A0 l0.length c0, .func (.func 115) #[] #[]] w fun e w' => e = .returned (.bool r) ∧ Below w.heap.size w w' := by
 have HR0 := Aside0.mk hr0
 have HC0 := Aside0.mk hc0
 clear hr0 hc0
 have HB := Aside0.mk (Below.refl w.heap.size w)
 have H : ((api_Row_with_115_146.f k l0).bind fun t301 => (some (decide (t301 ≥ 0)))) = some r := h
 clear h
 obtain ⟨t301, A2, H⟩ := bs H
 try dsimp only at H
 obtain rfl := Option.some.inj H
 go_enter Tryz.func114, Tryz.ntmps114
 go_wp2_with (first | (refine gL (some 7) rfl Tryz.func146 #[.slice A0 l0.length c0, (.func (.func 115) #[] #[])] ?_; (with_reducible refine (api_Row_with_115_146.calls k _ _ l0 t301 _ ?side1 ?side2 A2.out).mono ?_); (case side1 => exact uC <| HR0.out); (case side2 => exact HC0.out); rintro e w3 ⟨rfl, hb⟩; refine ⟨_, rfl, ?_⟩; replace HB := cW HB hb; (try clear hb)))
 go_ret
 exact ⟨re_, uW HB.out⟩
def row_Right.f (k : Nat) (l0 : List (S60)) : Option (Bool) := (row_rise.f k l0).bind fun t302 => (if t302 = true then ((api_Row_with_115_114.f k l0).bind fun t303 => (some (!t303))) else (some false))
theorem row_Right.mono : ∀ a0 k, LeO (row_Right.f k a0) (row_Right.f (k + 1) a0) := by
 intro a0 k
 unfold row_Right.f
 exact lo
instance row_Right.mI {a0 k} : LeC (row_Right.f k a0) (row_Right.f (k + 1) a0) := ⟨row_Right.mono _ _⟩
theorem row_Right.calls (k : Nat) (A0 : Option Addr) (c0 : Nat) (l0 : List (S60)) (r : Bool) (w : World) (hr0 : Kd.C k60 w A0 l0.length l0) (hc0 : l0.length ≤ c0) (h : row_Right.f k l0 = some r) :
 Calls Tryz.prog 93 #[.slice A0 l0.length c0] w fun e w' => e = .returned (.bool r) ∧ Below w.heap.size w w' := by
 have HR0 := Aside0.mk hr0
 have HC0 := Aside0.mk hc0
 clear hr0 hc0
 have HB := Aside0.mk (Below.refl w.heap.size w)
 have H : ((row_rise.f k l0).bind fun t302 => (if t302 = true then ((api_Row_with_115_114.f k l0).bind fun t303 => (some (!t303))) else (some false))) = some r := h
 clear h
 obtain ⟨t302, A2, H⟩ := bs H
 try dsimp only at H
 by_cases c3 : t302 = true
 ·
  subst c3
  rw [if_pos rfl] at H
  obtain ⟨t303, A4, H⟩ := bs H
  try dsimp only at H
  obtain rfl := Option.some.inj H
  go_enter Tryz.func93, Tryz.ntmps93
  go_wp2_with (first | (refine gL (some 4) rfl Tryz.func70 #[.slice A0 l0.length c0] ?_; (with_reducible refine (row_rise.calls k _ _ l0 true _ ?side1 ?side2 A2.out).mono ?_); (case side1 => exact uC <| HR0.out); (case side2 => exact HC0.out); rintro e w5 ⟨rfl, hb⟩; refine ⟨_, rfl, ?_⟩; replace HB := cW HB hb; (try clear hb)) | (go_at_call 114; (with_reducible refine (api_Row_with_115_114.calls k _ _ l0 t303 _ ?side1 ?side2 A4.out).mono ?_); (case side1 => exact uC <| (Kd.C_below HR0.out HB.out)); (case side2 => exact HC0.out); rintro e w6 ⟨rfl, hb⟩; replace HB := cW HB hb; (try clear hb)))
  go_ret
  exact ⟨re_, uW HB.out⟩
 ·
  replace c3 := Bool.eq_false_iff.mpr c3
  subst c3
  rw [if_neg (show ¬ (false = true) by decide)] at H
  obtain rfl := Option.some.inj H
  go_enter Tryz.func93, Tryz.ntmps93
  go_wp2_with (first | (refine gL (some 4) rfl Tryz.func70 #[.slice A0 l0.length c0] ?_; (with_reducible refine (row_rise.calls k _ _ l0 false _ ?side1 ?side2 A2.out).mono ?_); (case side1 => exact uC <| HR0.out); (case side2 => exact HC0.out); rintro e w7 ⟨rfl, hb⟩; refine ⟨_, rfl, ?_⟩; replace HB := cW HB hb; (try clear hb)))
  go_ret
  exact ⟨re_, uW HB.out⟩
def diff_right.l0 : Nat → List (S60) → List (S78) → Int → Int → Option (Bool)
 | 0, _, _, _, _ => none
 | k + 1, x3, x6, x7, x8 => if x8 < x7 then (if 0 ≤ x8 then (if x8 < (x6.length : Int) then (if (rd_T78 x6 x8).f1 = true then ((diff_gone.f ((rd_T78 x6 x8).f0.f0) ((rd_T78 x6 x8).f0.f1) ((rd_T78 x6 x8).f0.f2.f0) ((rd_T78 x6 x8).f0.f2.f1)).bind fun bt306 => (if ((!(((rd_T78 x6 x8).f0.f0) == bt306.1) || (!((((rd_T78 x6 x8).f0.f1).toList) == bt306.2.1.toList) || ((!(((rd_T78 x6 x8).f0.f2.f0) == bt306.2.2.1) || (!(((rd_T78 x6 x8).f0.f2.f1) == bt306.2.2.2.1)))))) || (!(((rd_T78 x6 x8).f1) == bt306.2.2.2.2))) = true then (none) else (if x3.length < 3518437208883 then (diff_right.l0 k (x3 ++ [(⟨(rd_T78 x6 x8).f0.f0, (rd_T78 x6 x8).f0.f1, (⟨(rd_T78 x6 x8).f0.f2.f0, (rd_T78 x6 x8).f0.f2.f1⟩ : S58)⟩ : S60)]) x6 x7 (wrap64 (x8 + 1))) else (none)))) else (if x3.length < 3518437208883 then (diff_right.l0 k (x3 ++ [(⟨(rd_T78 x6 x8).f0.f0, (rd_T78 x6 x8).f0.f1, (⟨(rd_T78 x6 x8).f0.f2.f0, (rd_T78 x6 x8).f0.f2.f1⟩ : S58)⟩ : S60)]) x6 x7 (wrap64 (x8 + 1))) else (none))) else (none)) else (none)) else ((row_Right.f k x3).bind fun t317 => (some t317))
def diff_right.f (k : Nat) (l0 : List (S78)) : Option (Bool) := diff_right.l0 k ([] : List (S60)) l0 (l0.length : Int) 0
theorem diff_right.mono_l : ∀ k, (∀ y0 y1 y2 y3, LeC (diff_right.l0 k y0 y1 y2 y3) (diff_right.l0 (k + 1) y0 y1 y2 y3))
 | 0 => fun _ _ _ _ => ⟨fun r h => by simp [diff_right.l0] at h⟩
 | k + 1 => by have ih0 := diff_right.mono_l k; exact fun _ _ _ _ => by unfold diff_right.l0; exact lm
theorem diff_right.mono : ∀ a0 k, LeO (diff_right.f k a0) (diff_right.f (k + 1) a0) := by
 intro a0 k
 have ih0 := diff_right.mono_l k
 unfold diff_right.f
 exact lo
instance diff_right.mI {a0 k} : LeC (diff_right.f k a0) (diff_right.f (k + 1) a0) := ⟨diff_right.mono _ _⟩
def diff_right.T5 : Bool × List (List Nat × List Nat) := (true, [([], []), ([0], [0]), ([1], [1]), ([2], [2]), ([2], [2]), ([4, 2], [2, 4]), ([5, 2, 2], [2, 5]), ([3, 6, 2], [2, 3, 6]), ([2, 7], [2, 7])])
def diff_right.B5 : List Nat := [0, 1, 3, 7, 7, 23, 55, 127, 255]
theorem diff_right.tab5 : rtab .any (opsOf Tryz.f73 5) = diff_right.T5 := by kernel_rfl
theorem diff_right.bits5 : waitsOk diff_right.T5.2 diff_right.B5 = true := by kernel_rfl
theorem diff_right.calls (k : Nat) (A0 : Option Addr) (c0 : Nat) (l0 : List (S78)) (r : Bool) (w : World) (hr0 : Kd.C k78 w A0 l0.length l0) (hc0 : l0.length ≤ c0) (h : diff_right.f k l0 = some r) :
 Calls Tryz.prog 73 #[.slice A0 l0.length c0] w fun e w' => e = .returned (.bool r) ∧ Below w.heap.size w w' := by
 have hu78 := Tryz.underlying78
 have hu60 := Tryz.underlying60
 have HR0 := Aside0.mk hr0
 have HC0 := Aside0.mk hc0
 clear hr0 hc0
 have HB := Aside0.mk (Below.refl w.heap.size w)
 have H : (diff_right.l0 k ([] : List (S60)) l0 (l0.length : Int) 0) = some r := h
 clear h
 have H' := Aside0.mk H
 clear H
 go_enter Tryz.func73, Tryz.ntmps73
 go_wp2
 go_loopg [3, 8] k (fun kq v3 v8 w' => ∃ (x3_1 : List (S60)) (x8_1 : Int), v8 = .int .i64 x8_1 ∧ Aside0 (diff_right.l0 kq x3_1 l0 (l0.length : Int) x8_1 = some r) ∧ Aside0 (kq ≤ k) ∧ Aside0 (Kd.R k60 60 w' w.heap.size (fun _ => True) v3 x3_1) ∧ Aside0 (Below w.heap.size w w'))
 case atStart => exact ⟨(([] : List (S60))), (0), rs_, H', ⟨Nat.le_refl _⟩, ⟨nl_⟩, ⟨uW HB.out⟩⟩
 case round =>
  clear H'
  obtain ⟨x3_1, x8_1, rfl, HA, HK1, HO_3, HB⟩ := hrel
  cases gk with
  | zero => exact absurd HA.out (by simp [diff_right.l0])
  | succ k1 =>
   have H := HA.out
   clear HA
   simp only [diff_right.l0] at H
   by_cases c2 : x8_1 < (l0.length : Int)
   ·
    rw [if_pos c2] at H
    have c2b0 : decide (x8_1 < (l0.length : Int)) = true := decide_eq_true c2
    clear c2
    obtain ⟨c3b0, H⟩ := gdd H
    obtain ⟨c4b0, H⟩ := gdd H
    obtain ⟨bq5, hbq5⟩ : ∃ b_ : Bool, b_ = ((rd_T78 l0 x8_1).f1) := ⟨_, rfl⟩
    replace H : (if bq5 = true then ((diff_gone.f ((rd_T78 l0 x8_1).f0.f0) ((rd_T78 l0 x8_1).f0.f1) ((rd_T78 l0 x8_1).f0.f2.f0) ((rd_T78 l0 x8_1).f0.f2.f1)).bind fun bt306 => (if ((!(((rd_T78 l0 x8_1).f0.f0) == bt306.1) || (!((((rd_T78 l0 x8_1).f0.f1).toList) == bt306.2.1.toList) || ((!(((rd_T78 l0 x8_1).f0.f2.f0) == bt306.2.2.1) || (!(((rd_T78 l0 x8_1).f0.f2.f1) == bt306.2.2.2.1)))))) || (!((bq5) == bt306.2.2.2.2))) = true then (none) else (if x3_1.length < 3518437208883 then (diff_right.l0 k1 (x3_1 ++ [(⟨(rd_T78 l0 x8_1).f0.f0, (rd_T78 l0 x8_1).f0.f1, (⟨(rd_T78 l0 x8_1).f0.f2.f0, (rd_T78 l0 x8_1).f0.f2.f1⟩ : S58)⟩ : S60)]) l0 (l0.length : Int) (wrap64 (x8_1 + 1))) else (none)))) else (if x3_1.length < 3518437208883 then (diff_right.l0 k1 (x3_1 ++ [(⟨(rd_T78 l0 x8_1).f0.f0, (rd_T78 l0 x8_1).f0.f1, (⟨(rd_T78 l0 x8_1).f0.f2.f0, (rd_T78 l0 x8_1).f0.f2.f1⟩ : S58)⟩ : S60)]) l0 (l0.length : Int) (wrap64 (x8_1 + 1))) else (none))) = some r := by rw [← hbq5] at H; exact H
    have Nbq5 := Aside0.mk hbq5
    clear hbq5
    by_cases c6 : bq5 = true
    ·
     subst c6
     rw [if_pos rfl] at H
     obtain ⟨⟨t306, t307, t308, t309, t310⟩, A7, H⟩ := bs H
     try dsimp only at H
     obtain ⟨c8, H⟩ := gn H
     have c8b0 : ((!(((rd_T78 l0 x8_1).f0.f0) == t306) || (!((((rd_T78 l0 x8_1).f0.f1).toList) == t307.toList) || ((!(((rd_T78 l0 x8_1).f0.f2.f0) == t308) || (!(((rd_T78 l0 x8_1).f0.f2.f1) == t309)))))) || (!((true) == t310))) = false := by simpa using c8
     (try simp only [Bool.true_beq, Bool.false_beq, beq_true, beq_false] at c8b0)
     clear c8
     obtain ⟨c9, H⟩ := gd H
     have LMc9 := Aside0.mk c9
     clear c9
     obtain ⟨y311, hy311⟩ : ∃ y_ : List (S60), y_ = (x3_1 ++ [(⟨(rd_T78 l0 x8_1).f0.f0, (rd_T78 l0 x8_1).f0.f1, (⟨(rd_T78 l0 x8_1).f0.f2.f0, (rd_T78 l0 x8_1).f0.f2.f1⟩ : S58)⟩ : S60)]) := ⟨_, rfl⟩
     replace H : (diff_right.l0 k1 y311 l0 (l0.length : Int) (wrap64 (x8_1 + 1))) = some r := by first | (rw [hy311]; with_reducible exact H) | (have H2_ := (Option.bind_some _ _).symm.trans H; rw [hy311]; with_reducible exact H2_) | (have H2_ := (Option.bind_some _ _).symm.trans H; with_reducible exact H2_) | with_reducible exact H | (rw [hy311]; exact H) | exact H
     have Ny311 := Aside0.mk hy311
     clear hy311
     have H' := Aside0.mk H
     clear H
     have p304 : 0 ≤ (x8_1 : Int) := od
     have q304 : x8_1 < (l0.length : Int) := od
     obtain ⟨ad304, e304, hx304_0, hx304_1, hx304_2, hx304_3, hx304_4⟩ := at_T78 HR0.out x8_1 p304 q304
     (try rw [← Nbq5.out] at hx304_3)
     (try rw [← Nbq5.out] at hx304_4)
     cases e304
     replace hx304_0 := kc HB hx304_0
     replace hx304_1 := kc HB hx304_1
     replace hx304_2 := kc HB hx304_2
     replace hx304_3 := kc HB hx304_3
     replace hx304_4 := kc HB hx304_4
     replace p304 := eq_true p304
     replace q304 := eq_true q304
     try go_wp2_with (first | ((with_reducible refine gate_dst (N := 5) rfl ?_); refine bx (N := 5) #[.int .i64 0, .string (⟨#[]⟩ : ByteArray), .int .i64 0, .bool false, .bool false] 78 ?_; intro gb305 hg w10 hbox hb; replace HO_3 := cR HO_3 hb; have BK305 := Aside0.mk (hbox); have GW305 := gw hg (uW HB.out); have GE305 := GW305; replace HB := cW HB hb; clear hb hbox hg; obtain ⟨hcz11_0, hcz11_1, hcz11_2, hcz11_3, hcz11_4, hfz11_0, hfz11_1, hfz11_2, hfz11_3, hfz11_4⟩ := z5 BK305) | ((with_reducible refine gate_store (t := 78) (p := 5) rfl ?_); refine store_event (t := 78) (p := 5) (v := ?vo_w12) (w1 := (((((w10.setCell ⟨gb305, 0, none⟩ (.int .i64 ((rd_T78 l0 x8_1).f0.f0))).setCell ⟨gb305, 1, none⟩ (.string ((rd_T78 l0 x8_1).f0.f1))).setCell ⟨gb305, 2, none⟩ (.int .i64 ((rd_T78 l0 x8_1).f0.f2.f0))).setCell ⟨gb305, 3, none⟩ (.bool ((rd_T78 l0 x8_1).f0.f2.f1))).setCell ⟨gb305, 4, none⟩ (.bool true))) ?hg ?ho ?hn ?hr ?_; (case ho => rfl); (case hg => rfl); (case hn => rfl); (case hr => first | (go_simp; done) | (go_simp; rfl)); intro w12 hw; have n0_ : Aside0 (Kd.R k60 60 w12 w.heap.size (fun _ => True) u3 x3_1) := ⟨(by rw [hw]; exact (by exact uR <| Kd.R_mono (Kd.R_far (p := ⟨gb305, 4, none⟩) (Kd.R_far (p := ⟨gb305, 3, none⟩) (Kd.R_far (p := ⟨gb305, 2, none⟩) (Kd.R_far (p := ⟨gb305, 1, none⟩) (Kd.R_far (p := ⟨gb305, 0, none⟩) (Kd.R_types HO_3.out BK305.out (by decide)) (fun _ hk => hk.2) (.int .i64 ((rd_T78 l0 x8_1).f0.f0))) (fun _ hk => hk.2) (.string ((rd_T78 l0 x8_1).f0.f1))) (fun _ hk => hk.2) (.int .i64 ((rd_T78 l0 x8_1).f0.f2.f0))) (fun _ hk => hk.2) (.bool ((rd_T78 l0 x8_1).f0.f2.f1))) (fun _ hk => hk.2) (.bool true)) (fun _ hk => trivial)))⟩; have n1_ : Aside0 (w12.heap[gb305]? = some (.cells #[.int .i64 ((rd_T78 l0 x8_1).f0.f0), .string ((rd_T78 l0 x8_1).f0.f1), .int .i64 ((rd_T78 l0 x8_1).f0.f2.f0), .bool ((rd_T78 l0 x8_1).f0.f2.f1), .bool true] 78 (0, 0))) := ⟨(by rw [hw]; exact (by (with_reducible repeat (first | refine blk_drewN ?_ _ | refine blk_drew ?_ | refine blk_alloc ?_ _)); refine blk_put (cs := #[.int .i64 ((rd_T78 l0 x8_1).f0.f0), .string ((rd_T78 l0 x8_1).f0.f1), .int .i64 ((rd_T78 l0 x8_1).f0.f2.f0), .bool ((rd_T78 l0 x8_1).f0.f2.f1), .bool false]) ?_ 4 _ rfl; (with_reducible repeat (first | refine blk_drewN ?_ _ | refine blk_drew ?_ | refine blk_alloc ?_ _)); refine blk_put (cs := #[.int .i64 ((rd_T78 l0 x8_1).f0.f0), .string ((rd_T78 l0 x8_1).f0.f1), .int .i64 ((rd_T78 l0 x8_1).f0.f2.f0), .bool false, .bool false]) ?_ 3 _ rfl; (with_reducible repeat (first | refine blk_drewN ?_ _ | refine blk_drew ?_ | refine blk_alloc ?_ _)); refine blk_put (cs := #[.int .i64 ((rd_T78 l0 x8_1).f0.f0), .string ((rd_T78 l0 x8_1).f0.f1), .int .i64 0, .bool false, .bool false]) ?_ 2 _ rfl; (with_reducible repeat (first | refine blk_drewN ?_ _ | refine blk_drew ?_ | refine blk_alloc ?_ _)); refine blk_put (cs := #[.int .i64 ((rd_T78 l0 x8_1).f0.f0), .string (⟨#[]⟩ : ByteArray), .int .i64 0, .bool false, .bool false]) ?_ 1 _ rfl; (with_reducible repeat (first | refine blk_drewN ?_ _ | refine blk_drew ?_ | refine blk_alloc ?_ _)); refine blk_put (cs := #[.int .i64 0, .string (⟨#[]⟩ : ByteArray), .int .i64 0, .bool false, .bool false]) ?_ 0 _ rfl; exact uB <| BK305.out))⟩; have n2_ : Aside0 (Below w.heap.size w w12) := ⟨(by rw [hw]; exact bl)⟩; clear hw; clear HO_3; clear BK305; clear HB; have HO_3 := n0_; have BK305 := n1_; have HB := n2_; clear n0_ n1_ n2_))
     replace HO_3 := Aside0.mk (Kd.R_drew HO_3.out)
     replace BK305 := Aside0.mk (blk_drew BK305.out)
     replace HB := Aside0.mk (below_drew1 HB.out)
     refine start_ (n := 9) (S := fun w' => w'.cell? ⟨gb305, 0, none⟩ = some (.int .i64 ((rd_T78 l0 x8_1).f0.f0)) ∧ w'.cell? ⟨gb305, 1, none⟩ = some (.string ((rd_T78 l0 x8_1).f0.f1)) ∧ w'.cell? ⟨gb305, 2, none⟩ = some (.int .i64 ((rd_T78 l0 x8_1).f0.f2.f0)) ∧ w'.cell? ⟨gb305, 3, none⟩ = some (.bool ((rd_T78 l0 x8_1).f0.f2.f1)) ∧ w'.cell? ⟨gb305, 4, none⟩ = some (.bool true)) (ds := []) _ (by kernel_rfl) rfl rfl ⟨(blk_cell BK305.out 0).trans rfl, (blk_cell BK305.out 1).trans rfl, (blk_cell BK305.out 2).trans rfl, (blk_cell BK305.out 3).trans rfl, (blk_cell BK305.out 4).trans rfl⟩ (fun hHeld => ?_); refine with_tabW diff_right.tab5 diff_right.bits5 (fun HT_ HW_ => ?_)
     generalize w12.drew = w13 at HO_3 BK305 HB hHeld ⊢
     refine p1 0 (some 12) ?_
     refine t1 1 (some 13) rfl rfl hHeld (Or.inl ⟨by rfl, by rintro w' ⟨s0, s1, s2, s3, s4⟩; go_simp; with_reducible rfl⟩) ?_
     refine p1 2 (some 14) ?_
     refine p1 4 (some 16) ?_
     refine t1 3 (some 15) rfl rfl hHeld (Or.inl ⟨by rfl, by rintro w' ⟨s0, s1, s2, s3, s4⟩; go_simp; with_reducible rfl⟩) ?_
     refine t1 5 (some 17) rfl rfl hHeld (Or.inl ⟨by rfl, by rintro w' ⟨s0, s1, s2, s3, s4⟩; go_simp; with_reducible rfl⟩) ?_
     refine o1 6 (some 18) rfl rfl (fun K hK => ?_)
     refine gS Tryz.func92 #[.agg #[.int .i64 ((rd_T78 l0 x8_1).f0.f0), .string ((rd_T78 l0 x8_1).f0.f1), .int .i64 ((rd_T78 l0 x8_1).f0.f2.f0), .bool ((rd_T78 l0 x8_1).f0.f2.f1)]] ?_
     with_reducible refine (diff_gone.calls ((rd_T78 l0 x8_1).f0.f0) ((rd_T78 l0 x8_1).f0.f1) ((rd_T78 l0 x8_1).f0.f2.f0) ((rd_T78 l0 x8_1).f0.f2.f1) t306 t307 t308 t309 t310 _ A7.out).mono ?_
     rintro e w14 ⟨rfl, hb⟩
     refine ⟨_, rfl, ?_⟩
     replace HO_3 := cR HO_3 hb
     replace BK305 := cB BK305 hb
     replace HB := Aside0.mk (below_step bl hb)
     (try clear hb)
     refine hK.out _ _ ⟨(blk_cell BK305.out 0).trans rfl, (blk_cell BK305.out 1).trans rfl, (blk_cell BK305.out 2).trans rfl, (blk_cell BK305.out 3).trans rfl, (blk_cell BK305.out 4).trans rfl⟩ (fun hHeld => ?_)
     clear hK K
     refine norm_ (a' := ?_) ?_ ?_
     rotate_left
     ·
      show Act.put _ (some 18) _ = _
      simp only [Act.put, List.setIfInBounds_toArray, List.set_cons_zero, List.set_cons_succ, i64_w, i32_w]
      rfl
     refine p1 7 (some 19) ?_
     refine p1 8 (some 20) ?_
     refine done_ (done_of HT_.out (by kernel_rfl)) ?_
     have hcz15_0 : w14.cell? ⟨gb305, 0, none⟩ = some (.int .i64 ((rd_T78 l0 x8_1).f0.f0)) := (blk_cell BK305.out 0).trans rfl
     have hcz15_1 : w14.cell? ⟨gb305, 1, none⟩ = some (.string ((rd_T78 l0 x8_1).f0.f1)) := (blk_cell BK305.out 1).trans rfl
     have hcz15_2 : w14.cell? ⟨gb305, 2, none⟩ = some (.int .i64 ((rd_T78 l0 x8_1).f0.f2.f0)) := (blk_cell BK305.out 2).trans rfl
     have hcz15_3 : w14.cell? ⟨gb305, 3, none⟩ = some (.bool ((rd_T78 l0 x8_1).f0.f2.f1)) := (blk_cell BK305.out 3).trans rfl
     have hcz15_4 : w14.cell? ⟨gb305, 4, none⟩ = some (.bool true) := (blk_cell BK305.out 4).trans (by first | rfl | (rw [← Nbq5.out]; rfl))
     have hfz15_0 := blk_frozen BK305.out 0
     have hfz15_1 := blk_frozen BK305.out 1
     have hfz15_2 := blk_frozen BK305.out 2
     have hfz15_3 := blk_frozen BK305.out 3
     have hfz15_4 := blk_frozen BK305.out 4
     try go_wp2_with (first | ((with_reducible refine gate_builtin (b := .append) (xs := #[.tmp 21, .tmp 24]) rfl ?_); at_builtin; refine Kd.R_append k60 (w0 := w) w.heap.size rfl (.tmp 21) (.tmp 24) 31 60 (.agg #[(.int .i64 0), (.string ⟨#[]⟩), (.int .i64 0), (.bool false)]) 40 rfl Tryz.underlying31 info60 rfl (by decide) (by omega) u3 x3_1 (⟨(rd_T78 l0 x8_1).f0.f0, (rd_T78 l0 x8_1).f0.f1, (⟨(rd_T78 l0 x8_1).f0.f2.f0, (rd_T78 l0 x8_1).f0.f2.f1⟩ : S58)⟩ : S60) [.int .i64 ((rd_T78 l0 x8_1).f0.f0), .string ((rd_T78 l0 x8_1).f0.f1), .int .i64 ((rd_T78 l0 x8_1).f0.f2.f0), .bool ((rd_T78 l0 x8_1).f0.f2.f1)] (fun _ => True) (fun _ => False) rfl rfl ?aP (fun _ hk => hk.elim) ?aF ?aO ?aB ?aS ?aL ?_; (case aP => exact k60_mkM _ _ _ (⟨(rd_T78 l0 x8_1).f0.f0, (rd_T78 l0 x8_1).f0.f1, (⟨(rd_T78 l0 x8_1).f0.f2.f0, (rd_T78 l0 x8_1).f0.f2.f1⟩ : S58)⟩ : S60)); (case aB => exact bl); (case aF => exact (fun _ _ => trivial)); (case aO => exact (uR HO_3.out)); (case aS => exact (below_size bl)); (case aL => have := LMc9.out; omega); intro v312 w16 ho hb hg hat; rw [← Ny311.out] at ho; replace BK305 := Aside0.mk (blk_grown (g := gb305) (o := .cells #[.int .i64 ((rd_T78 l0 x8_1).f0.f0), .string ((rd_T78 l0 x8_1).f0.f1), .int .i64 ((rd_T78 l0 x8_1).f0.f2.f0), .bool ((rd_T78 l0 x8_1).f0.f2.f1), .bool true] 78 (0, 0)) (uB BK305.out) hg (Kd.R_ne HO_3.out BK305.out (by decide))); replace HB := Aside0.mk (hb); have HO313 := Aside0.mk (ho); clear HO_3; clear ho hb hg hat))
     go_roundg k1
     case measure => have := HK1.out; omega
     case rel => exact ⟨(y311), (wrap64 (x8_1 + 1)), rs_, (by first | exact H' | (rw [← Nbq5.out]; exact H')), ⟨by have := HK1.out; omega⟩, ⟨uR HO313.out⟩, ⟨bl⟩⟩
    ·
     replace c6 := Bool.eq_false_iff.mpr c6
     subst c6
     rw [if_neg (show ¬ (false = true) by decide)] at H
     obtain ⟨c17, H⟩ := gd H
     have LMc17 := Aside0.mk c17
     clear c17
     obtain ⟨y314, hy314⟩ : ∃ y_ : List (S60), y_ = (x3_1 ++ [(⟨(rd_T78 l0 x8_1).f0.f0, (rd_T78 l0 x8_1).f0.f1, (⟨(rd_T78 l0 x8_1).f0.f2.f0, (rd_T78 l0 x8_1).f0.f2.f1⟩ : S58)⟩ : S60)]) := ⟨_, rfl⟩
     replace H : (diff_right.l0 k1 y314 l0 (l0.length : Int) (wrap64 (x8_1 + 1))) = some r := by first | (rw [hy314]; with_reducible exact H) | (have H2_ := (Option.bind_some _ _).symm.trans H; rw [hy314]; with_reducible exact H2_) | (have H2_ := (Option.bind_some _ _).symm.trans H; with_reducible exact H2_) | with_reducible exact H | (rw [hy314]; exact H) | exact H
     have Ny314 := Aside0.mk hy314
     clear hy314
     have H' := Aside0.mk H
     clear H
     have p304 : 0 ≤ (x8_1 : Int) := od
     have q304 : x8_1 < (l0.length : Int) := od
     obtain ⟨ad304, e304, hx304_0, hx304_1, hx304_2, hx304_3, hx304_4⟩ := at_T78 HR0.out x8_1 p304 q304
     (try rw [← Nbq5.out] at hx304_3)
     (try rw [← Nbq5.out] at hx304_4)
     cases e304
     replace hx304_0 := kc HB hx304_0
     replace hx304_1 := kc HB hx304_1
     replace hx304_2 := kc HB hx304_2
     replace hx304_3 := kc HB hx304_3
     replace hx304_4 := kc HB hx304_4
     replace p304 := eq_true p304
     replace q304 := eq_true q304
     try go_wp2_with (first | ((with_reducible refine gate_dst (N := 5) rfl ?_); refine bx (N := 5) #[.int .i64 0, .string (⟨#[]⟩ : ByteArray), .int .i64 0, .bool false, .bool false] 78 ?_; intro gb305 hg w18 hbox hb; replace HO_3 := cR HO_3 hb; have BK305 := Aside0.mk (hbox); have GW305 := gw hg (uW HB.out); have GE305 := GW305; replace HB := cW HB hb; clear hb hbox hg; obtain ⟨hcz19_0, hcz19_1, hcz19_2, hcz19_3, hcz19_4, hfz19_0, hfz19_1, hfz19_2, hfz19_3, hfz19_4⟩ := z5 BK305) | ((with_reducible refine gate_store (t := 78) (p := 5) rfl ?_); refine store_event (t := 78) (p := 5) (v := ?vo_w20) (w1 := (((((w18.setCell ⟨gb305, 0, none⟩ (.int .i64 ((rd_T78 l0 x8_1).f0.f0))).setCell ⟨gb305, 1, none⟩ (.string ((rd_T78 l0 x8_1).f0.f1))).setCell ⟨gb305, 2, none⟩ (.int .i64 ((rd_T78 l0 x8_1).f0.f2.f0))).setCell ⟨gb305, 3, none⟩ (.bool ((rd_T78 l0 x8_1).f0.f2.f1))).setCell ⟨gb305, 4, none⟩ (.bool false))) ?hg ?ho ?hn ?hr ?_; (case ho => rfl); (case hg => rfl); (case hn => rfl); (case hr => first | (go_simp; done) | (go_simp; rfl)); intro w20 hw; have n0_ : Aside0 (Kd.R k60 60 w20 w.heap.size (fun _ => True) u3 x3_1) := ⟨(by rw [hw]; exact (by exact uR <| Kd.R_mono (Kd.R_far (p := ⟨gb305, 4, none⟩) (Kd.R_far (p := ⟨gb305, 3, none⟩) (Kd.R_far (p := ⟨gb305, 2, none⟩) (Kd.R_far (p := ⟨gb305, 1, none⟩) (Kd.R_far (p := ⟨gb305, 0, none⟩) (Kd.R_types HO_3.out BK305.out (by decide)) (fun _ hk => hk.2) (.int .i64 ((rd_T78 l0 x8_1).f0.f0))) (fun _ hk => hk.2) (.string ((rd_T78 l0 x8_1).f0.f1))) (fun _ hk => hk.2) (.int .i64 ((rd_T78 l0 x8_1).f0.f2.f0))) (fun _ hk => hk.2) (.bool ((rd_T78 l0 x8_1).f0.f2.f1))) (fun _ hk => hk.2) (.bool false)) (fun _ hk => trivial)))⟩; have n1_ : Aside0 (w20.heap[gb305]? = some (.cells #[.int .i64 ((rd_T78 l0 x8_1).f0.f0), .string ((rd_T78 l0 x8_1).f0.f1), .int .i64 ((rd_T78 l0 x8_1).f0.f2.f0), .bool ((rd_T78 l0 x8_1).f0.f2.f1), .bool false] 78 (0, 0))) := ⟨(by rw [hw]; exact (by (with_reducible repeat (first | refine blk_drewN ?_ _ | refine blk_drew ?_ | refine blk_alloc ?_ _)); refine blk_put (cs := #[.int .i64 ((rd_T78 l0 x8_1).f0.f0), .string ((rd_T78 l0 x8_1).f0.f1), .int .i64 ((rd_T78 l0 x8_1).f0.f2.f0), .bool ((rd_T78 l0 x8_1).f0.f2.f1), .bool false]) ?_ 4 _ rfl; (with_reducible repeat (first | refine blk_drewN ?_ _ | refine blk_drew ?_ | refine blk_alloc ?_ _)); refine blk_put (cs := #[.int .i64 ((rd_T78 l0 x8_1).f0.f0), .string ((rd_T78 l0 x8_1).f0.f1), .int .i64 ((rd_T78 l0 x8_1).f0.f2.f0), .bool false, .bool false]) ?_ 3 _ rfl; (with_reducible repeat (first | refine blk_drewN ?_ _ | refine blk_drew ?_ | refine blk_alloc ?_ _)); refine blk_put (cs := #[.int .i64 ((rd_T78 l0 x8_1).f0.f0), .string ((rd_T78 l0 x8_1).f0.f1), .int .i64 0, .bool false, .bool false]) ?_ 2 _ rfl; (with_reducible repeat (first | refine blk_drewN ?_ _ | refine blk_drew ?_ | refine blk_alloc ?_ _)); refine blk_put (cs := #[.int .i64 ((rd_T78 l0 x8_1).f0.f0), .string (⟨#[]⟩ : ByteArray), .int .i64 0, .bool false, .bool false]) ?_ 1 _ rfl; (with_reducible repeat (first | refine blk_drewN ?_ _ | refine blk_drew ?_ | refine blk_alloc ?_ _)); refine blk_put (cs := #[.int .i64 0, .string (⟨#[]⟩ : ByteArray), .int .i64 0, .bool false, .bool false]) ?_ 0 _ rfl; exact uB <| BK305.out))⟩; have n2_ : Aside0 (Below w.heap.size w w20) := ⟨(by rw [hw]; exact bl)⟩; clear hw; clear HO_3; clear BK305; clear HB; have HO_3 := n0_; have BK305 := n1_; have HB := n2_; clear n0_ n1_ n2_))
     replace HO_3 := Aside0.mk (Kd.R_drew HO_3.out)
     replace BK305 := Aside0.mk (blk_drew BK305.out)
     replace HB := Aside0.mk (below_drew1 HB.out)
     refine start_ (n := 9) (S := fun w' => w'.cell? ⟨gb305, 0, none⟩ = some (.int .i64 ((rd_T78 l0 x8_1).f0.f0)) ∧ w'.cell? ⟨gb305, 1, none⟩ = some (.string ((rd_T78 l0 x8_1).f0.f1)) ∧ w'.cell? ⟨gb305, 2, none⟩ = some (.int .i64 ((rd_T78 l0 x8_1).f0.f2.f0)) ∧ w'.cell? ⟨gb305, 3, none⟩ = some (.bool ((rd_T78 l0 x8_1).f0.f2.f1)) ∧ w'.cell? ⟨gb305, 4, none⟩ = some (.bool false)) (ds := []) _ (by kernel_rfl) rfl rfl ⟨(blk_cell BK305.out 0).trans rfl, (blk_cell BK305.out 1).trans rfl, (blk_cell BK305.out 2).trans rfl, (blk_cell BK305.out 3).trans rfl, (blk_cell BK305.out 4).trans rfl⟩ (fun hHeld => ?_); refine with_tabW diff_right.tab5 diff_right.bits5 (fun HT_ HW_ => ?_)
     generalize w20.drew = w21 at HO_3 BK305 HB hHeld ⊢
     refine p1 0 (some 12) ?_
     refine t1 1 (some 13) rfl rfl hHeld (Or.inl ⟨by rfl, by rintro w' ⟨s0, s1, s2, s3, s4⟩; go_simp; with_reducible rfl⟩) ?_
     refine p1 2 (some 14) ?_
     refine p2 3 (some 15) ?_
     refine p2 4 (some 16) ?_
     refine p2 5 (some 17) ?_
     refine p2 6 (some 18) ?_
     refine p2 7 (some 19) ?_
     refine p1 8 (some 20) ?_
     refine done_ (done_of HT_.out (by kernel_rfl)) ?_
     have hcz22_0 : w21.cell? ⟨gb305, 0, none⟩ = some (.int .i64 ((rd_T78 l0 x8_1).f0.f0)) := (blk_cell BK305.out 0).trans rfl
     have hcz22_1 : w21.cell? ⟨gb305, 1, none⟩ = some (.string ((rd_T78 l0 x8_1).f0.f1)) := (blk_cell BK305.out 1).trans rfl
     have hcz22_2 : w21.cell? ⟨gb305, 2, none⟩ = some (.int .i64 ((rd_T78 l0 x8_1).f0.f2.f0)) := (blk_cell BK305.out 2).trans rfl
     have hcz22_3 : w21.cell? ⟨gb305, 3, none⟩ = some (.bool ((rd_T78 l0 x8_1).f0.f2.f1)) := (blk_cell BK305.out 3).trans rfl
     have hcz22_4 : w21.cell? ⟨gb305, 4, none⟩ = some (.bool false) := (blk_cell BK305.out 4).trans (by first | rfl | (rw [← Nbq5.out]; rfl))
     have hfz22_0 := blk_frozen BK305.out 0
     have hfz22_1 := blk_frozen BK305.out 1
     have hfz22_2 := blk_frozen BK305.out 2
     have hfz22_3 := blk_frozen BK305.out 3
     have hfz22_4 := blk_frozen BK305.out 4
     try go_wp2_with (first | ((with_reducible refine gate_builtin (b := .append) (xs := #[.tmp 21, .tmp 24]) rfl ?_); at_builtin; refine Kd.R_append k60 (w0 := w) w.heap.size rfl (.tmp 21) (.tmp 24) 31 60 (.agg #[(.int .i64 0), (.string ⟨#[]⟩), (.int .i64 0), (.bool false)]) 40 rfl Tryz.underlying31 info60 rfl (by decide) (by omega) u3 x3_1 (⟨(rd_T78 l0 x8_1).f0.f0, (rd_T78 l0 x8_1).f0.f1, (⟨(rd_T78 l0 x8_1).f0.f2.f0, (rd_T78 l0 x8_1).f0.f2.f1⟩ : S58)⟩ : S60) [.int .i64 ((rd_T78 l0 x8_1).f0.f0), .string ((rd_T78 l0 x8_1).f0.f1), .int .i64 ((rd_T78 l0 x8_1).f0.f2.f0), .bool ((rd_T78 l0 x8_1).f0.f2.f1)] (fun _ => True) (fun _ => False) rfl rfl ?aP (fun _ hk => hk.elim) ?aF ?aO ?aB ?aS ?aL ?_; (case aP => exact k60_mkM _ _ _ (⟨(rd_T78 l0 x8_1).f0.f0, (rd_T78 l0 x8_1).f0.f1, (⟨(rd_T78 l0 x8_1).f0.f2.f0, (rd_T78 l0 x8_1).f0.f2.f1⟩ : S58)⟩ : S60)); (case aB => exact bl); (case aF => exact (fun _ _ => trivial)); (case aO => exact (uR HO_3.out)); (case aS => exact (below_size bl)); (case aL => have := LMc17.out; omega); intro v315 w23 ho hb hg hat; rw [← Ny314.out] at ho; replace BK305 := Aside0.mk (blk_grown (g := gb305) (o := .cells #[.int .i64 ((rd_T78 l0 x8_1).f0.f0), .string ((rd_T78 l0 x8_1).f0.f1), .int .i64 ((rd_T78 l0 x8_1).f0.f2.f0), .bool ((rd_T78 l0 x8_1).f0.f2.f1), .bool false] 78 (0, 0)) (uB BK305.out) hg (Kd.R_ne HO_3.out BK305.out (by decide))); replace HB := Aside0.mk (hb); have HO316 := Aside0.mk (ho); clear HO_3; clear ho hb hg hat))
     go_roundg k1
     case measure => have := HK1.out; omega
     case rel => exact ⟨(y314), (wrap64 (x8_1 + 1)), rs_, (by first | exact H' | (rw [← Nbq5.out]; exact H')), ⟨by have := HK1.out; omega⟩, ⟨uR HO316.out⟩, ⟨bl⟩⟩
   ·
    rw [if_neg c2] at H
    have c2b0 : decide (x8_1 < (l0.length : Int)) = false := decide_eq_false c2
    clear c2
    obtain ⟨t317, A24, H⟩ := bs H
    try dsimp only at H
    obtain rfl := Option.some.inj H
    obtain ⟨Ao25, co25, eo25⟩ := Kd.R_slice HO_3.out
    subst eo25
    go_wp2_with (first | (refine gL (some 28) rfl Tryz.func93 #[.slice Ao25 x3_1.length co25] ?_; (with_reducible refine (row_Right.calls k1 _ _ x3_1 t317 _ ?side1 ?side2 A24.out).mono ?_); (case side1 => exact uC <| (Kd.R_reads' HO_3.out).2.2); (case side2 => exact (Kd.R_reads' HO_3.out).2.1); rintro e w26 ⟨rfl, hb⟩; refine ⟨_, rfl, ?_⟩; replace HO_3 := cR HO_3 hb; replace HB := cW HB hb; (try clear hb)))
    go_ret
    exact ⟨re_, uW HB.out⟩
def diff_Parse.l0 : Nat → List (S78) → List ByteArray → Int → Int → Option ((List (S78)) × Int)
 | 0, _, _, _, _ => none
 | k + 1, x2, x11, x12, x13 => if x13 < x12 then (if 0 ≤ x13 then (if x13 < (x11.length : Int) then ((diff_one.f k (rdOf ByteArray.empty x11 x13)).bind fun bt322 => (if bt322.2.2.2.2.2 = 0 then (if x2.length < 2932031007402 then (diff_Parse.l0 k (x2 ++ [(⟨(⟨bt322.1, bt322.2.1, (⟨bt322.2.2.1, bt322.2.2.2.1⟩ : S58)⟩ : S60), bt322.2.2.2.2.1⟩ : S78)]) x11 x12 (wrap64 (x13 + 1))) else (none)) else (none))) else (none)) else (none)) else ((diff_right.f k x2).bind fun t332 => (if t332 = true then (some (x2, 0)) else (none)))
def diff_Parse.f (k : Nat) (a0 : ByteArray) : Option ((List (S78)) × Int) := if a0.toList = ([45] : List UInt8) then (none) else ((word_Split.f k a0 59).bind fun t318 => (diff_Parse.l0 k ([] : List (S78)) t318 (t318.length : Int) 0))
theorem diff_Parse.mono_l : ∀ k, (∀ y0 y1 y2 y3, LeC (diff_Parse.l0 k y0 y1 y2 y3) (diff_Parse.l0 (k + 1) y0 y1 y2 y3))
 | 0 => fun _ _ _ _ => ⟨fun r h => by simp [diff_Parse.l0] at h⟩
 | k + 1 => by have ih0 := diff_Parse.mono_l k; exact fun _ _ _ _ => by unfold diff_Parse.l0; exact lm
theorem diff_Parse.mono : ∀ a0 k, LeO (diff_Parse.f k a0) (diff_Parse.f (k + 1) a0) := by
 intro a0 k
 have ih0 := diff_Parse.mono_l k
 unfold diff_Parse.f
 exact lo
instance diff_Parse.mI {a0 k} : LeC (diff_Parse.f k a0) (diff_Parse.f (k + 1) a0) := ⟨diff_Parse.mono _ _⟩
theorem diff_Parse.calls (k : Nat) (a0 : ByteArray) (r1 : List (S78)) (r2 : Int) (w : World) (hL : LD w) (h : diff_Parse.f k a0 = some (r1, r2)) :
 Calls Tryz.prog 54 #[.string a0] w fun e w' => ∃ v0_ : Value, e = .returned (.tuple #[v0_, .int .i64 r2]) ∧ Kd.R k78 78 w' w.heap.size (fun _ => True) v0_ r1 ∧ Below w.heap.size w w' := by
 have HL0 := Aside0.mk hL
 clear hL
 have hu78 := Tryz.underlying78
 have HB := Aside0.mk (Below.refl w.heap.size w)
 have H : (if a0.toList = ([45] : List UInt8) then (none) else ((word_Split.f k a0 59).bind fun t318 => (diff_Parse.l0 k ([] : List (S78)) t318 (t318.length : Int) 0))) = some (r1, r2) := h
 clear h
 obtain ⟨c2, H⟩ := gn H
 have c2b0 : (a0.toList == ([45] : List UInt8)) = false := beq_eq_false_iff_ne.mpr c2
 have c2b1 : (a0.toList != ([45] : List UInt8)) = true := bne_iff_ne.mpr c2
 obtain ⟨t318, A3, H⟩ := bs H
 try dsimp only at H
 have H' := Aside0.mk H
 clear H
 go_enter Tryz.func54, Tryz.ntmps54
 go_wp2_with (first | (refine gL (some 11) rfl Tryz.func67 #[.string a0, .int .u8 59] ?_; (with_reducible refine (word_Split.calls k a0 59 t318 _ A3.out).mono ?_); rintro e w4 ⟨v319, rfl, ho0, hb⟩; refine ⟨_, rfl, ?_⟩; have HO320 := Aside0.mk (Kd.R_lower ho0 (below_size (uW HB.out))); replace HB := cW HB hb; (try clear hb); (try clear ho0); obtain ⟨Ao5, co5, eo5⟩ := Kd.R_slice HO320.out; subst eo5))
 (try simp only [Act.put, List.setIfInBounds_toArray, List.set_cons_zero, List.set_cons_succ])
 go_loopg [2, 13] k (fun kq v2 v13 w' => ∃ (x2_1 : List (S78)) (x13_1 : Int), v13 = .int .i64 x13_1 ∧ Aside0 (diff_Parse.l0 kq x2_1 t318 (t318.length : Int) x13_1 = some (r1, r2)) ∧ Aside0 (kq ≤ k) ∧ Aside0 (Kd.R k78 78 w' w.heap.size (fun _ => True) v2 x2_1) ∧ Aside0 (Kd.R Kd.string 9 w' w.heap.size (fun _ => True) (.slice Ao5 t318.length co5) t318) ∧ Aside0 (Below w.heap.size w w'))
 case atStart => exact ⟨(([] : List (S78))), (0), rs_, H', ⟨Nat.le_refl _⟩, ⟨nl_⟩, ⟨uR HO320.out⟩, ⟨uW HB.out⟩⟩
 case round =>
  clear H'
  try clear c2
  try clear c2b0
  try clear c2b1
  try clear p2
  try clear c5
  obtain ⟨x2_1, x13_1, rfl, HA, HK1, HO_2, HO_11, HB⟩ := hrel
  cases gk with
  | zero => exact absurd HA.out (by simp [diff_Parse.l0])
  | succ k1 =>
   have H := HA.out
   clear HA
   simp only [diff_Parse.l0] at H
   by_cases c6 : x13_1 < (t318.length : Int)
   ·
    rw [if_pos c6] at H
    have c6b0 : decide (x13_1 < (t318.length : Int)) = true := decide_eq_true c6
    clear c6
    obtain ⟨c7b0, H⟩ := gdd H
    obtain ⟨c8b0, H⟩ := gdd H
    obtain ⟨⟨t322, t323, t324, t325, t326, t327⟩, A9, H⟩ := bs H
    try dsimp only at H
    obtain ⟨c10, H⟩ := gd H
    have c10b0 : (t327 == 0) = true := beq_iff_eq.mpr c10
    have c10b1 : (t327 != 0) = false := bne_eq_false_iff_eq.mpr c10
    clear c10
    obtain ⟨c11, H⟩ := gd H
    have LMc11 := Aside0.mk c11
    clear c11
    obtain ⟨y329, hy329⟩ : ∃ y_ : List (S78), y_ = (x2_1 ++ [(⟨(⟨t322, t323, (⟨t324, t325⟩ : S58)⟩ : S60), t326⟩ : S78)]) := ⟨_, rfl⟩
    replace H : (diff_Parse.l0 k1 y329 t318 (t318.length : Int) (wrap64 (x13_1 + 1))) = some (r1, r2) := by first | (rw [hy329]; with_reducible exact H) | (have H2_ := (Option.bind_some _ _).symm.trans H; rw [hy329]; with_reducible exact H2_) | (have H2_ := (Option.bind_some _ _).symm.trans H; with_reducible exact H2_) | with_reducible exact H | (rw [hy329]; exact H) | exact H
    have Ny329 := Aside0.mk hy329
    clear hy329
    have H' := Aside0.mk H
    clear H
    have p321 : 0 ≤ (x13_1 : Int) := od
    have q321 : x13_1 < (t318.length : Int) := od
    obtain ⟨ad321, e321, hx321_0⟩ := Kd.at_string (Kd.R_reads' HO_11.out).2.2 x13_1 p321 q321
    cases e321
    replace p321 := eq_true p321
    replace q321 := eq_true q321
    go_wp2_with (first | (refine gL (some 19) rfl Tryz.func72 #[.string (rdOf ByteArray.empty t318 x13_1)] ?_; (with_reducible refine (diff_one.calls (hL := ld) k1 (rdOf ByteArray.empty t318 x13_1) t322 t323 t324 t325 t326 t327 _ A9.out).mono ?_); rintro e w12 ⟨rfl, hb⟩; refine ⟨_, rfl, ?_⟩; replace HO_2 := cR HO_2 hb; replace HO_11 := cR HO_11 hb; replace HB := cW HB hb; (try clear hb)) | ((with_reducible refine gate_dst (N := 6) rfl ?_); refine bx (N := 6) #[.int .i64 0, .string (⟨#[]⟩ : ByteArray), .int .i64 0, .bool false, .bool false] 78 ?_; intro gb328 hg w13 hbox hb; replace HO_2 := Aside0.mk (Kd.R_below (Kd.R_elderB (uR HO_2.out) gb328 (Nat.le_of_eq hg.symm)) hb); replace HO_11 := cR HO_11 hb; have BK328 := Aside0.mk (hbox); have GW328 := gw hg (uW HB.out); have GE328 := GW328; replace HB := cW HB hb; clear hb hbox hg; obtain ⟨hcz14_0, hcz14_1, hcz14_2, hcz14_3, hcz14_4, hfz14_0, hfz14_1, hfz14_2, hfz14_3, hfz14_4⟩ := z5 BK328) | ((with_reducible refine gate_store (t := 78) (p := 6) rfl ?_); refine store_event (t := 78) (p := 6) (v := ?vo_w15) (w1 := (((((w13.setCell ⟨gb328, 0, none⟩ (.int .i64 t322)).setCell ⟨gb328, 1, none⟩ (.string t323)).setCell ⟨gb328, 2, none⟩ (.int .i64 t324)).setCell ⟨gb328, 3, none⟩ (.bool t325)).setCell ⟨gb328, 4, none⟩ (.bool t326))) ?hg ?ho ?hn ?hr ?_; (case ho => rfl); (case hg => rfl); (case hn => rfl); (case hr => first | (go_simp; done) | (go_simp; rfl)); intro w15 hw; have n0_ : Aside0 (Kd.R k78 78 w15 w.heap.size (fun k_ => k_ ≠ gb328) u2 x2_1) := ⟨(by rw [hw]; exact (by exact uR <| Kd.R_mono (Kd.R_far (p := ⟨gb328, 4, none⟩) (Kd.R_far (p := ⟨gb328, 3, none⟩) (Kd.R_far (p := ⟨gb328, 2, none⟩) (Kd.R_far (p := ⟨gb328, 1, none⟩) (Kd.R_far (p := ⟨gb328, 0, none⟩) (Kd.R_mono HO_2.out (fun k_ hk => (⟨hk, hk.2⟩ : _ ∧ k_ ≠ gb328))) (fun _ hk => hk.2) (.int .i64 t322)) (fun _ hk => hk.2) (.string t323)) (fun _ hk => hk.2) (.int .i64 t324)) (fun _ hk => hk.2) (.bool t325)) (fun _ hk => hk.2) (.bool t326)) (fun _ hk => hk.1.2)))⟩; have n1_ : Aside0 (Kd.R Kd.string 9 w15 w.heap.size (fun _ => True) (.slice (some ad321) t318.length co5) t318) := ⟨(by rw [hw]; exact (by exact uR <| Kd.R_mono (Kd.R_far (p := ⟨gb328, 4, none⟩) (Kd.R_far (p := ⟨gb328, 3, none⟩) (Kd.R_far (p := ⟨gb328, 2, none⟩) (Kd.R_far (p := ⟨gb328, 1, none⟩) (Kd.R_far (p := ⟨gb328, 0, none⟩) (Kd.R_types HO_11.out BK328.out (by decide)) (fun _ hk => hk.2) (.int .i64 t322)) (fun _ hk => hk.2) (.string t323)) (fun _ hk => hk.2) (.int .i64 t324)) (fun _ hk => hk.2) (.bool t325)) (fun _ hk => hk.2) (.bool t326)) (fun _ hk => trivial)))⟩; have n2_ : Aside0 (w15.heap[gb328]? = some (.cells #[.int .i64 t322, .string t323, .int .i64 t324, .bool t325, .bool t326] 78 (0, 0))) := ⟨(by rw [hw]; exact (by (with_reducible repeat (first | refine blk_drewN ?_ _ | refine blk_drew ?_ | refine blk_alloc ?_ _)); refine blk_put (cs := #[.int .i64 t322, .string t323, .int .i64 t324, .bool t325, .bool false]) ?_ 4 _ rfl; (with_reducible repeat (first | refine blk_drewN ?_ _ | refine blk_drew ?_ | refine blk_alloc ?_ _)); refine blk_put (cs := #[.int .i64 t322, .string t323, .int .i64 t324, .bool false, .bool false]) ?_ 3 _ rfl; (with_reducible repeat (first | refine blk_drewN ?_ _ | refine blk_drew ?_ | refine blk_alloc ?_ _)); refine blk_put (cs := #[.int .i64 t322, .string t323, .int .i64 0, .bool false, .bool false]) ?_ 2 _ rfl; (with_reducible repeat (first | refine blk_drewN ?_ _ | refine blk_drew ?_ | refine blk_alloc ?_ _)); refine blk_put (cs := #[.int .i64 t322, .string (⟨#[]⟩ : ByteArray), .int .i64 0, .bool false, .bool false]) ?_ 1 _ rfl; (with_reducible repeat (first | refine blk_drewN ?_ _ | refine blk_drew ?_ | refine blk_alloc ?_ _)); refine blk_put (cs := #[.int .i64 0, .string (⟨#[]⟩ : ByteArray), .int .i64 0, .bool false, .bool false]) ?_ 0 _ rfl; exact uB <| BK328.out))⟩; have n3_ : Aside0 (Below w.heap.size w w15) := ⟨(by rw [hw]; exact bl)⟩; clear hw; clear HO_2; clear HO_11; clear BK328; clear HB; have HO_2 := n0_; have HO_11 := n1_; have BK328 := n2_; have HB := n3_; clear n0_ n1_ n2_ n3_; obtain ⟨hcz16_0, hcz16_1, hcz16_2, hcz16_3, hcz16_4, hfz16_0, hfz16_1, hfz16_2, hfz16_3, hfz16_4⟩ := z5 BK328) | ((with_reducible refine gate_builtin (b := .append) (xs := #[.tmp 25, .tmp 27]) rfl ?_); at_builtin; refine Kd.R_append k78 (w0 := w) w.heap.size rfl (.tmp 25) (.tmp 27) 34 78 (.agg #[(.int .i64 0), (.string ⟨#[]⟩), (.int .i64 0), (.bool false), (.bool false)]) 48 rfl Tryz.underlying34 info78 rfl (by decide) (by omega) u2 x2_1 (⟨(⟨t322, t323, (⟨t324, t325⟩ : S58)⟩ : S60), t326⟩ : S78) [.int .i64 t322, .string t323, .int .i64 t324, .bool t325, .bool t326] (fun k_ => k_ ≠ gb328) (fun _ => False) rfl rfl ?aP (fun _ hk => hk.elim) ?aF ?aO ?aB ?aS ?aL ?_; (case aP => exact k78_mkM _ _ _ (⟨(⟨t322, t323, (⟨t324, t325⟩ : S58)⟩ : S60), t326⟩ : S78)); (case aB => exact bl); (case aF => exact (fun k_ hk => Kd.freshB (g := gb328) (o := .cells #[.int .i64 t322, .string t323, .int .i64 t324, .bool t325, .bool t326] 78 (0, 0)) (uB BK328.out) k_ hk)); (case aO => exact (uR HO_2.out)); (case aS => exact (below_size bl)); (case aL => have := LMc11.out; omega); intro v330 w17 ho hb hg hat; rw [← Ny329.out] at ho; replace HO_11 := Aside0.mk (Kd.R_over' (uR HO_11.out) (Kd.R_typed (uR HO_2.out)) (by decide) hg); replace BK328 := Aside0.mk (blk_grown (g := gb328) (o := .cells #[.int .i64 t322, .string t323, .int .i64 t324, .bool t325, .bool t326] 78 (0, 0)) (uB BK328.out) hg (Kd.R_away HO_2.out (fun _ hk => hk))); replace HB := Aside0.mk (hb); have HO331 := Aside0.mk (ho); clear HO_2; clear ho hb hg hat))
    go_roundg k1
    case measure => have := HK1.out; omega
    case rel => exact ⟨(y329), (wrap64 (x13_1 + 1)), rs_, H', ⟨by have := HK1.out; omega⟩, ⟨by exact uR <| Kd.R_mono HO331.out (fun _ hk => trivial)⟩, ⟨uR HO_11.out⟩, ⟨bl⟩⟩
   ·
    rw [if_neg c6] at H
    have c6b0 : decide (x13_1 < (t318.length : Int)) = false := decide_eq_false c6
    clear c6
    obtain ⟨t332, A18, H⟩ := bs H
    try dsimp only at H
    by_cases c19 : t332 = true
    ·
     subst c19
     rw [if_pos rfl] at H
     simp only [Option.some.injEq, Prod.mk.injEq] at H
     obtain ⟨rfl, rfl⟩ := H
     obtain ⟨Ao20, co20, eo20⟩ := Kd.R_slice HO_2.out
     subst eo20
     go_wp2_with (first | (refine gL (some 31) rfl Tryz.func73 #[.slice Ao20 x2_1.length co20] ?_; (with_reducible refine (diff_right.calls k1 _ _ x2_1 true _ ?side1 ?side2 A18.out).mono ?_); (case side1 => exact uC <| (Kd.R_reads' HO_2.out).2.2); (case side2 => exact (Kd.R_reads' HO_2.out).2.1); rintro e w21 ⟨rfl, hb⟩; refine ⟨_, rfl, ?_⟩; replace HO_2 := cR HO_2 hb; replace HO_11 := cR HO_11 hb; replace HB := cW HB hb; (try clear hb)))
     go_ret2
     exact ⟨_, re_, uR HO_2.out, uW HB.out⟩
    ·
     replace c19 := Bool.eq_false_iff.mpr c19
     subst c19
     rw [if_neg (show ¬ (false = true) by decide)] at H
     exact absurd H (by simp)
end Go.Proofs.YteckidchnicjeaaGreatDoor.X
