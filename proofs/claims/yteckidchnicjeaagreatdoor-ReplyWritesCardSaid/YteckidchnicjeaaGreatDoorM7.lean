/- Printed by a program of this session's own: what functions of the program compute, and that the machine computes it. No condition of its own. -/
import Derived.Test.YteckidchnicjeaaGreatDoorM3
import Derived.Test.YteckidchnicjeaaGreatDoorM6
import Derived.Test.YteckidchnicjeaaGreatDoorM5
import Derived.Test.YteckidchnicjeaaGreatDoorM4
namespace Go.Proofs.YteckidchnicjeaaGreatDoor.X
open Go.RowKit Go.Proofs.YteckidchnicjeaaGreatDoorW.PrintWords Go.Proofs.YteckidchnicjeaaGreatDoorW.PrintLast Go.Proofs.YteckidchnicjeaaGreatDoorW.PrintMore
attribute [local go_sem] max2_int min2_int max_two min_two max_three min_three max_four min_four
set_option linter.unusedVariables false
set_option linter.unusedSimpArgs false
set_option maxHeartbeats 8000000
set_option maxRecDepth 100000
attribute [local go_sem high] eqA78
def row_Right_1.f (k : Nat) (a0_0 : Int) (a0_1 : ByteArray) (a0_2 : Int) (a0_3 : Bool) : Option (Bool) := (row_group.f k a0_1).bind fun t299 => (some (t299 != 0))
theorem row_Right_1.mono : ∀ a0 a1 a2 a3 k, LeO (row_Right_1.f k a0 a1 a2 a3) (row_Right_1.f (k + 1) a0 a1 a2 a3) := by
 intro a0 a1 a2 a3 k
 unfold row_Right_1.f
 exact lo
instance row_Right_1.mI {a0 a1 a2 a3 k} : LeC (row_Right_1.f k a0 a1 a2 a3) (row_Right_1.f (k + 1) a0 a1 a2 a3) := ⟨row_Right_1.mono _ _ _ _ _⟩
theorem row_Right_1.calls (k : Nat) (a0_0 : Int) (a0_1 : ByteArray) (a0_2 : Int) (a0_3 : Bool) (r : Bool) (w : World) (h : row_Right_1.f k a0_0 a0_1 a0_2 a0_3 = some r) :
 Calls Tryz.prog 115 #[.agg #[.int .i64 a0_0, .string a0_1, .int .i64 a0_2, .bool a0_3]] w fun e w' => e = .returned (.bool r) ∧ Below w.heap.size w w' := by
 have hu60 := Tryz.underlying60
 have HB := Aside0.mk (Below.refl w.heap.size w)
 have H : ((row_group.f k a0_1).bind fun t299 => (some (t299 != 0))) = some r := h
 clear h
 obtain ⟨t299, A2, H⟩ := bs H
 try dsimp only at H
 obtain rfl := Option.some.inj H
 go_enter Tryz.func115, Tryz.ntmps115
 go_wp2_with (first | ((with_reducible refine gate_dst (N := 1) rfl ?_); refine bx (N := 1) #[.int .i64 a0_0, .string a0_1, .int .i64 a0_2, .bool a0_3] 60 ?_; intro gb298 hg w3 hbox hb; have BK298 := Aside0.mk (hbox); have GW298 := gw hg (uW HB.out); have GE298 := GW298; replace HB := cW HB hb; clear hb hbox hg; obtain ⟨hcz4_0, hcz4_1, hcz4_2, hcz4_3, hfz4_0, hfz4_1, hfz4_2, hfz4_3⟩ := z4 BK298) | (refine gL (some 5) rfl Tryz.func86 #[.string a0_1] ?_; (with_reducible refine (row_group.calls k a0_1 t299 _ A2.out).mono ?_); rintro e w5 ⟨rfl, hb⟩; refine ⟨_, rfl, ?_⟩; replace BK298 := cB BK298 hb; replace HB := Aside0.mk (below_step bl hb); (try clear hb)))
 go_ret
 exact ⟨re_, bl⟩
theorem api_Row_with_115_146.goesV_ {P : Program} {ops : Array Oper} {Q : Exit → Act → World → Prop} {oi : Oper} {N : Option Tmp} {a : Act} {w : World} {K : Act → World → Prop} {f : FuncId} {fn : Func} {cal : Operand} {as_ : Array Operand} {ts : Array TypeId} (hf : P.funcs[f]? = some fn) (hname : (fn.name == "runtime.NumGoroutine") = false) (hb : fn.body.isSome = true) (args : Array Value)
 (hw : Region.wanted oi (yielded ops a.tmps) = true) (hN : oi.dst = N) (hop : oi.op = .call { callee := .value cal, args := as_, argTypes := ts }) (hev : a.eval cal = .func (.func f) #[] #[]) (hargs : as_.map a.eval = args)
 (h : Calls P f args w fun e w' => ∃ v, e = .returned v ∧ K (a.put N v) w') : if Region.wanted oi (yielded ops a.tmps) = true then Oper.wp P oi a w K Q else K (a.put N undef) w := by
 refine call_ f args hw hN ?_ h
 have he := enters_ hf hname hb args w
 unfold execOp
 simp [hop, resolve, Deferred.ofValue, invoke, hev, hargs, he]
theorem api_Row_with_115_146.goesVL_ {P : Program} {ops : Array Oper} {Q : Exit → Act → World → Prop} {rest : List Oper} {oi : Oper} {a : Act} {w : World} (N : Option Tmp) (hd : oi.dst = N) (hg : oi.guard = none) {f : FuncId} {fn : Func} {cal : Operand} {as_ : Array Operand} {ts : Array TypeId} (hf : P.funcs[f]? = some fn) (hname : (fn.name == "runtime.NumGoroutine") = false) (hb : fn.body.isSome = true) (args : Array Value)
 (hop : oi.op = .call { callee := .value cal, args := as_, argTypes := ts }) (hev : a.eval cal = .func (.func f) #[] #[]) (hargs : as_.map a.eval = args)
 (h : Calls P f args w fun e w' => ∃ v, e = .returned v ∧ wpList P ops Q rest (a.put N v) w') : wpList P ops Q (oi :: rest) a w := by
 refine wpList_plain hg fun K hK => ?_
 have he := enters_ hf hname hb args w
 have hrun : (execOp a.eval oi).run P w = .ok (.enter f args) w := by
  unfold execOp
  simp [hop, resolve, Deferred.ofValue, invoke, hev, hargs, he]
 unfold Oper.wp
 rw [hrun, Oper.upon_enter]
 refine h.mono fun e w'' hh => ?_
 obtain ⟨v, rfl, hk⟩ := hh
 subst hd
 exact hK _ _ hk
def api_Row_with_115_146.l0 : Nat → List (S60) → Int → Int → Option (Int)
 | 0, _, _, _ => none
 | k + 1, x0, x7, x8 => if x8 < x7 then (if 0 ≤ x8 then (if x8 < (x0.length : Int) then ((row_Right_1.f k ((rd_T60 x0 x8).f0) ((rd_T60 x0 x8).f1) ((rd_T60 x0 x8).f2.f0) ((rd_T60 x0 x8).f2.f1)).bind fun t301 => (if t301 = true then (some x8) else (api_Row_with_115_146.l0 k x0 x7 (wrap64 (x8 + 1))))) else (none)) else (none)) else (some (-1))
def api_Row_with_115_146.f (k : Nat) (l0 : List (S60)) : Option (Int) := api_Row_with_115_146.l0 k l0 (l0.length : Int) 0
theorem api_Row_with_115_146.mono_l : ∀ k, (∀ y0 y1 y2, LeC (api_Row_with_115_146.l0 k y0 y1 y2) (api_Row_with_115_146.l0 (k + 1) y0 y1 y2))
 | 0 => fun _ _ _ => ⟨fun r h => by simp [api_Row_with_115_146.l0] at h⟩
 | k + 1 => by have ih0 := api_Row_with_115_146.mono_l k; exact fun _ _ _ => by unfold api_Row_with_115_146.l0; exact lm
theorem api_Row_with_115_146.mono : ∀ a0 k, LeO (api_Row_with_115_146.f k a0) (api_Row_with_115_146.f (k + 1) a0) := by
 intro a0 k
 have ih0 := api_Row_with_115_146.mono_l k
 unfold api_Row_with_115_146.f
 exact lo
instance api_Row_with_115_146.mI {a0 k} : LeC (api_Row_with_115_146.f k a0) (api_Row_with_115_146.f (k + 1) a0) := ⟨api_Row_with_115_146.mono _ _⟩
theorem api_Row_with_115_146.calls (k : Nat) (A0 : Option Addr) (c0 : Nat) (l0 : List (S60)) (r : Int) (w : World) (hr0 : Kd.C k60 w A0 l0.length l0) (hc0 : l0.length ≤ c0) (h : api_Row_with_115_146.f k l0 = some r) :
 Calls Tryz.prog 146 #[.slice A0 l0.length c0, .func (.func 115) #[] #[]] w fun e w' => e = .returned (.int .i64 r) ∧ Below w.heap.size w w' := by
 have hu60 := Tryz.underlying60
 have HR0 := Aside0.mk hr0
 have HC0 := Aside0.mk hc0
 clear hr0 hc0
 have HB := Aside0.mk (Below.refl w.heap.size w)
 have H : (api_Row_with_115_146.l0 k l0 (l0.length : Int) 0) = some r := h
 clear h
 have H' := Aside0.mk H
 clear H
 have eg115 : ∀ args w, (callFunc 115 args).run Tryz.prog w = .ok (.enter 115 args) w := enters_of Tryz.func115 (by kernel_rfl) rfl
 go_enter Tryz.func146, Tryz.ntmps146
 go_wp2
 go_loopg [8] k (fun kq v8 w' => ∃ (x8_1 : Int), v8 = .int .i64 x8_1 ∧ Aside0 (api_Row_with_115_146.l0 kq l0 (l0.length : Int) x8_1 = some r) ∧ Aside0 (kq ≤ k) ∧ Aside0 (Below w.heap.size w w'))
 case atStart => exact ⟨(0), rs_, H', ⟨Nat.le_refl _⟩, ⟨uW HB.out⟩⟩
 case round =>
  clear H'
  obtain ⟨x8_1, rfl, HA, HK1, HB⟩ := hrel
  cases gk with
  | zero => exact absurd HA.out (by simp [api_Row_with_115_146.l0])
  | succ k1 =>
   have H := HA.out
   clear HA
   simp only [api_Row_with_115_146.l0] at H
   by_cases c2 : x8_1 < (l0.length : Int)
   ·
    rw [if_pos c2] at H
    have c2b0 : decide (x8_1 < (l0.length : Int)) = true := decide_eq_true c2
    clear c2
    obtain ⟨c3b0, H⟩ := gdd H
    obtain ⟨c4b0, H⟩ := gdd H
    obtain ⟨t301, A5, H⟩ := bs H
    try dsimp only at H
    by_cases c6 : t301 = true
    ·
     subst c6
     rw [if_pos rfl] at H
     obtain rfl := Option.some.inj H
     have p300 : 0 ≤ (x8_1 : Int) := od
     have q300 : x8_1 < (l0.length : Int) := od
     obtain ⟨ad300, e300, hx300_0, hx300_1, hx300_2, hx300_3⟩ := at_T60 HR0.out x8_1 p300 q300
     cases e300
     replace hx300_0 := kc HB hx300_0
     replace hx300_1 := kc HB hx300_1
     replace hx300_2 := kc HB hx300_2
     replace hx300_3 := kc HB hx300_3
     replace p300 := eq_true p300
     replace q300 := eq_true q300
     go_wp2_with (first | (refine api_Row_with_115_146.goesVL_ (some 16) rfl rfl Tryz.func115 (by kernel_rfl) rfl #[.agg #[.int .i64 ((rd_T60 l0 x8_1).f0), .string ((rd_T60 l0 x8_1).f1), .int .i64 ((rd_T60 l0 x8_1).f2.f0), .bool ((rd_T60 l0 x8_1).f2.f1)]] rfl (by rfl) (by (try simp only [List.map_toArray, List.map_cons, List.map_nil]); first | done | rfl | (simp only [List.length_drop, List.length_take]; rfl)) ?_; (with_reducible refine (row_Right_1.calls k1 ((rd_T60 l0 x8_1).f0) ((rd_T60 l0 x8_1).f1) ((rd_T60 l0 x8_1).f2.f0) ((rd_T60 l0 x8_1).f2.f1) true _ A5.out).mono ?_); rintro e w7 ⟨rfl, hb⟩; refine ⟨_, rfl, ?_⟩; replace HB := cW HB hb; (try clear hb)))
     go_ret
     exact ⟨re_, uW HB.out⟩
    ·
     replace c6 := Bool.eq_false_iff.mpr c6
     subst c6
     rw [if_neg (show ¬ (false = true) by decide)] at H
     have H' := Aside0.mk H
     clear H
     have p300 : 0 ≤ (x8_1 : Int) := od
     have q300 : x8_1 < (l0.length : Int) := od
     obtain ⟨ad300, e300, hx300_0, hx300_1, hx300_2, hx300_3⟩ := at_T60 HR0.out x8_1 p300 q300
     cases e300
     replace hx300_0 := kc HB hx300_0
     replace hx300_1 := kc HB hx300_1
     replace hx300_2 := kc HB hx300_2
     replace hx300_3 := kc HB hx300_3
     replace p300 := eq_true p300
     replace q300 := eq_true q300
     go_wp2_with (first | (refine api_Row_with_115_146.goesVL_ (some 16) rfl rfl Tryz.func115 (by kernel_rfl) rfl #[.agg #[.int .i64 ((rd_T60 l0 x8_1).f0), .string ((rd_T60 l0 x8_1).f1), .int .i64 ((rd_T60 l0 x8_1).f2.f0), .bool ((rd_T60 l0 x8_1).f2.f1)]] rfl (by rfl) (by (try simp only [List.map_toArray, List.map_cons, List.map_nil]); first | done | rfl | (simp only [List.length_drop, List.length_take]; rfl)) ?_; (with_reducible refine (row_Right_1.calls k1 ((rd_T60 l0 x8_1).f0) ((rd_T60 l0 x8_1).f1) ((rd_T60 l0 x8_1).f2.f0) ((rd_T60 l0 x8_1).f2.f1) false _ A5.out).mono ?_); rintro e w8 ⟨rfl, hb⟩; refine ⟨_, rfl, ?_⟩; replace HB := cW HB hb; (try clear hb)))
     go_roundg k1
     case measure => have := HK1.out; omega
     case rel => exact ⟨(wrap64 (x8_1 + 1)), rs_, H', ⟨by have := HK1.out; omega⟩, ⟨uW HB.out⟩⟩
   ·
    rw [if_neg c2] at H
    have c2b0 : decide (x8_1 < (l0.length : Int)) = false := decide_eq_false c2
    clear c2
    obtain rfl := Option.some.inj H
    go_wp2
    go_ret
    exact ⟨re_, uW HB.out⟩
def api_Row_with_115_114.f (k : Nat) (l0 : List (S60)) : Option (Bool) := (api_Row_with_115_146.f k l0).bind fun t302 => (some (decide (t302 ≥ 0)))
theorem api_Row_with_115_114.mono : ∀ a0 k, LeO (api_Row_with_115_114.f k a0) (api_Row_with_115_114.f (k + 1) a0) := by
 intro a0 k
 unfold api_Row_with_115_114.f
 exact lo
instance api_Row_with_115_114.mI {a0 k} : LeC (api_Row_with_115_114.f k a0) (api_Row_with_115_114.f (k + 1) a0) := ⟨api_Row_with_115_114.mono _ _⟩
theorem api_Row_with_115_114.calls (k : Nat) (A0 : Option Addr) (c0 : Nat) (l0 : List (S60)) (r : Bool) (w : World) (hr0 : Kd.C k60 w A0 l0.length l0) (hc0 : l0.length ≤ c0) (h : api_Row_with_115_114.f k l0 = some r) :
 Calls Tryz.prog 114 #[.slice A0 l0.length c0, .func (.func 115) #[] #[]] w fun e w' => e = .returned (.bool r) ∧ Below w.heap.size w w' := by
 have HR0 := Aside0.mk hr0
 have HC0 := Aside0.mk hc0
 clear hr0 hc0
 have HB := Aside0.mk (Below.refl w.heap.size w)
 have H : ((api_Row_with_115_146.f k l0).bind fun t302 => (some (decide (t302 ≥ 0)))) = some r := h
 clear h
 obtain ⟨t302, A2, H⟩ := bs H
 try dsimp only at H
 obtain rfl := Option.some.inj H
 go_enter Tryz.func114, Tryz.ntmps114
 go_wp2_with (first | (refine gL (some 7) rfl Tryz.func146 #[.slice A0 l0.length c0, (.func (.func 115) #[] #[])] ?_; (with_reducible refine (api_Row_with_115_146.calls k _ _ l0 t302 _ ?side1 ?side2 A2.out).mono ?_); (case side1 => exact uC <| HR0.out); (case side2 => exact HC0.out); rintro e w3 ⟨rfl, hb⟩; refine ⟨_, rfl, ?_⟩; replace HB := cW HB hb; (try clear hb)))
 go_ret
 exact ⟨re_, uW HB.out⟩
def row_Right.f (k : Nat) (l0 : List (S60)) : Option (Bool) := (row_rise.f k l0).bind fun t303 => (if t303 = true then ((api_Row_with_115_114.f k l0).bind fun t304 => (some (!t304))) else (some false))
theorem row_Right.mono : ∀ a0 k, LeO (row_Right.f k a0) (row_Right.f (k + 1) a0) := by
 intro a0 k
 unfold row_Right.f
 exact lo
instance row_Right.mI {a0 k} : LeC (row_Right.f k a0) (row_Right.f (k + 1) a0) := ⟨row_Right.mono _ _⟩
theorem row_Right.calls (k : Nat) (A0 : Option Addr) (c0 : Nat) (l0 : List (S60)) (r : Bool) (w : World) (hr0 : Kd.C k60 w A0 l0.length l0) (hc0 : l0.length ≤ c0) (h : row_Right.f k l0 = some r) :
 Calls Tryz.prog 93 #[.slice A0 l0.length c0] w fun e w' => e = .returned (.bool r) ∧ Below w.heap.size w w' := by
 have HR0 := Aside0.mk hr0
 have HC0 := Aside0.mk hc0
 clear hr0 hc0
 have HB := Aside0.mk (Below.refl w.heap.size w)
 have H : ((row_rise.f k l0).bind fun t303 => (if t303 = true then ((api_Row_with_115_114.f k l0).bind fun t304 => (some (!t304))) else (some false))) = some r := h
 clear h
 obtain ⟨t303, A2, H⟩ := bs H
 try dsimp only at H
 by_cases c3 : t303 = true
 ·
  subst c3
  rw [if_pos rfl] at H
  obtain ⟨t304, A4, H⟩ := bs H
  try dsimp only at H
  obtain rfl := Option.some.inj H
  go_enter Tryz.func93, Tryz.ntmps93
  go_wp2_with (first | (refine gL (some 4) rfl Tryz.func70 #[.slice A0 l0.length c0] ?_; (with_reducible refine (row_rise.calls k _ _ l0 true _ ?side1 ?side2 A2.out).mono ?_); (case side1 => exact uC <| HR0.out); (case side2 => exact HC0.out); rintro e w5 ⟨rfl, hb⟩; refine ⟨_, rfl, ?_⟩; replace HB := cW HB hb; (try clear hb)) | (go_at_call 114; (with_reducible refine (api_Row_with_115_114.calls k _ _ l0 t304 _ ?side1 ?side2 A4.out).mono ?_); (case side1 => exact uC <| (Kd.C_below HR0.out HB.out)); (case side2 => exact HC0.out); rintro e w6 ⟨rfl, hb⟩; replace HB := cW HB hb; (try clear hb)))
  go_ret
  exact ⟨re_, uW HB.out⟩
 ·
  replace c3 := Bool.eq_false_iff.mpr c3
  subst c3
  rw [if_neg (show ¬ (false = true) by decide)] at H
  obtain rfl := Option.some.inj H
  go_enter Tryz.func93, Tryz.ntmps93
  go_wp2_with (first | (refine gL (some 4) rfl Tryz.func70 #[.slice A0 l0.length c0] ?_; (with_reducible refine (row_rise.calls k _ _ l0 false _ ?side1 ?side2 A2.out).mono ?_); (case side1 => exact uC <| HR0.out); (case side2 => exact HC0.out); rintro e w7 ⟨rfl, hb⟩; refine ⟨_, rfl, ?_⟩; replace HB := cW HB hb; (try clear hb)))
  go_ret
  exact ⟨re_, uW HB.out⟩
def diff_right.l0 : Nat → List (S60) → List (S78) → Int → Int → Option (Bool)
 | 0, _, _, _, _ => none
 | k + 1, x3, x6, x7, x8 => if x8 < x7 then (if 0 ≤ x8 then (if x8 < (x6.length : Int) then (if (rd_T78 x6 x8).f1 = true then ((diff_gone.f ((rd_T78 x6 x8).f0.f0) ((rd_T78 x6 x8).f0.f1) ((rd_T78 x6 x8).f0.f2.f0) ((rd_T78 x6 x8).f0.f2.f1)).bind fun bt307 => (if ((!(((rd_T78 x6 x8).f0.f0) == bt307.1) || (!((((rd_T78 x6 x8).f0.f1).toList) == bt307.2.1.toList) || ((!(((rd_T78 x6 x8).f0.f2.f0) == bt307.2.2.1) || (!(((rd_T78 x6 x8).f0.f2.f1) == bt307.2.2.2.1)))))) || (!(((rd_T78 x6 x8).f1) == bt307.2.2.2.2))) = true then (none) else (if x3.length < 3518437208883 then (diff_right.l0 k (x3 ++ [(⟨(rd_T78 x6 x8).f0.f0, (rd_T78 x6 x8).f0.f1, (⟨(rd_T78 x6 x8).f0.f2.f0, (rd_T78 x6 x8).f0.f2.f1⟩ : S58)⟩ : S60)]) x6 x7 (wrap64 (x8 + 1))) else (none)))) else (if x3.length < 3518437208883 then (diff_right.l0 k (x3 ++ [(⟨(rd_T78 x6 x8).f0.f0, (rd_T78 x6 x8).f0.f1, (⟨(rd_T78 x6 x8).f0.f2.f0, (rd_T78 x6 x8).f0.f2.f1⟩ : S58)⟩ : S60)]) x6 x7 (wrap64 (x8 + 1))) else (none))) else (none)) else (none)) else ((row_Right.f k x3).bind fun t318 => (some t318))
def diff_right.f (k : Nat) (l0 : List (S78)) : Option (Bool) := diff_right.l0 k ([] : List (S60)) l0 (l0.length : Int) 0
theorem diff_right.mono_l : ∀ k, (∀ y0 y1 y2 y3, LeC (diff_right.l0 k y0 y1 y2 y3) (diff_right.l0 (k + 1) y0 y1 y2 y3))
 | 0 => fun _ _ _ _ => ⟨fun r h => by simp [diff_right.l0] at h⟩
 | k + 1 => by have ih0 := diff_right.mono_l k; exact fun _ _ _ _ => by unfold diff_right.l0; exact lm
theorem diff_right.mono : ∀ a0 k, LeO (diff_right.f k a0) (diff_right.f (k + 1) a0) := by
 intro a0 k
 have ih0 := diff_right.mono_l k
 unfold diff_right.f
 exact lo
instance diff_right.mI {a0 k} : LeC (diff_right.f k a0) (diff_right.f (k + 1) a0) := ⟨diff_right.mono _ _⟩
def diff_right.T5 : Bool × List (List Nat × List Nat) := (true, [([], []), ([0], [0]), ([1], [1]), ([2], [2]), ([2], [2]), ([4, 2], [2, 4]), ([5, 2, 2], [2, 5]), ([3, 6, 2], [2, 3, 6]), ([2, 7], [2, 7])])
def diff_right.B5 : List Nat := [0, 1, 3, 7, 7, 23, 55, 127, 255]
theorem diff_right.tab5 : rtab .any (opsOf Tryz.f73 5) = diff_right.T5 := by kernel_rfl
theorem diff_right.bits5 : waitsOk diff_right.T5.2 diff_right.B5 = true := by kernel_rfl
theorem diff_right.calls (k : Nat) (A0 : Option Addr) (c0 : Nat) (l0 : List (S78)) (r : Bool) (w : World) (hr0 : Kd.C k78 w A0 l0.length l0) (hc0 : l0.length ≤ c0) (h : diff_right.f k l0 = some r) :
 Calls Tryz.prog 73 #[.slice A0 l0.length c0] w fun e w' => e = .returned (.bool r) ∧ Below w.heap.size w w' := by
 have hu78 := Tryz.underlying78
 have hu60 := Tryz.underlying60
 have HR0 := Aside0.mk hr0
 have HC0 := Aside0.mk hc0
 clear hr0 hc0
 have HB := Aside0.mk (Below.refl w.heap.size w)
 have H : (diff_right.l0 k ([] : List (S60)) l0 (l0.length : Int) 0) = some r := h
 clear h
 have H' := Aside0.mk H
 clear H
 go_enter Tryz.func73, Tryz.ntmps73
 go_wp2
 go_loopg [3, 8] k (fun kq v3 v8 w' => ∃ (x3_1 : List (S60)) (x8_1 : Int), v8 = .int .i64 x8_1 ∧ Aside0 (diff_right.l0 kq x3_1 l0 (l0.length : Int) x8_1 = some r) ∧ Aside0 (kq ≤ k) ∧ Aside0 (Kd.R k60 60 w' w.heap.size (fun _ => True) v3 x3_1) ∧ Aside0 (Below w.heap.size w w'))
 case atStart => exact ⟨(([] : List (S60))), (0), rs_, H', ⟨Nat.le_refl _⟩, ⟨nl_⟩, ⟨uW HB.out⟩⟩
 case round =>
  clear H'
  obtain ⟨x3_1, x8_1, rfl, HA, HK1, HO_3, HB⟩ := hrel
  cases gk with
  | zero => exact absurd HA.out (by simp [diff_right.l0])
  | succ k1 =>
   have H := HA.out
   clear HA
   simp only [diff_right.l0] at H
   by_cases c2 : x8_1 < (l0.length : Int)
   ·
    rw [if_pos c2] at H
    have c2b0 : decide (x8_1 < (l0.length : Int)) = true := decide_eq_true c2
    clear c2
    obtain ⟨c3b0, H⟩ := gdd H
    obtain ⟨c4b0, H⟩ := gdd H
    obtain ⟨bq5, hbq5⟩ : ∃ b_ : Bool, b_ = ((rd_T78 l0 x8_1).f1) := ⟨_, rfl⟩
    replace H : (if bq5 = true then ((diff_gone.f ((rd_T78 l0 x8_1).f0.f0) ((rd_T78 l0 x8_1).f0.f1) ((rd_T78 l0 x8_1).f0.f2.f0) ((rd_T78 l0 x8_1).f0.f2.f1)).bind fun bt307 => (if ((!(((rd_T78 l0 x8_1).f0.f0) == bt307.1) || (!((((rd_T78 l0 x8_1).f0.f1).toList) == bt307.2.1.toList) || ((!(((rd_T78 l0 x8_1).f0.f2.f0) == bt307.2.2.1) || (!(((rd_T78 l0 x8_1).f0.f2.f1) == bt307.2.2.2.1)))))) || (!((bq5) == bt307.2.2.2.2))) = true then (none) else (if x3_1.length < 3518437208883 then (diff_right.l0 k1 (x3_1 ++ [(⟨(rd_T78 l0 x8_1).f0.f0, (rd_T78 l0 x8_1).f0.f1, (⟨(rd_T78 l0 x8_1).f0.f2.f0, (rd_T78 l0 x8_1).f0.f2.f1⟩ : S58)⟩ : S60)]) l0 (l0.length : Int) (wrap64 (x8_1 + 1))) else (none)))) else (if x3_1.length < 3518437208883 then (diff_right.l0 k1 (x3_1 ++ [(⟨(rd_T78 l0 x8_1).f0.f0, (rd_T78 l0 x8_1).f0.f1, (⟨(rd_T78 l0 x8_1).f0.f2.f0, (rd_T78 l0 x8_1).f0.f2.f1⟩ : S58)⟩ : S60)]) l0 (l0.length : Int) (wrap64 (x8_1 + 1))) else (none))) = some r := by rw [← hbq5] at H; exact H
    have Nbq5 := Aside0.mk hbq5
    clear hbq5
    by_cases c6 : bq5 = true
    ·
     subst c6
     rw [if_pos rfl] at H
     obtain ⟨⟨t307, t308, t309, t310, t311⟩, A7, H⟩ := bs H
     try dsimp only at H
     obtain ⟨c8, H⟩ := gn H
     have c8b0 : ((!(((rd_T78 l0 x8_1).f0.f0) == t307) || (!((((rd_T78 l0 x8_1).f0.f1).toList) == t308.toList) || ((!(((rd_T78 l0 x8_1).f0.f2.f0) == t309) || (!(((rd_T78 l0 x8_1).f0.f2.f1) == t310)))))) || (!((true) == t311))) = false := by simpa using c8
     (try simp only [Bool.true_beq, Bool.false_beq, beq_true, beq_false] at c8b0)
     clear c8
     obtain ⟨c9, H⟩ := gd H
     have LMc9 := Aside0.mk c9
     clear c9
     obtain ⟨y312, hy312⟩ : ∃ y_ : List (S60), y_ = (x3_1 ++ [(⟨(rd_T78 l0 x8_1).f0.f0, (rd_T78 l0 x8_1).f0.f1, (⟨(rd_T78 l0 x8_1).f0.f2.f0, (rd_T78 l0 x8_1).f0.f2.f1⟩ : S58)⟩ : S60)]) := ⟨_, rfl⟩
     replace H : (diff_right.l0 k1 y312 l0 (l0.length : Int) (wrap64 (x8_1 + 1))) = some r := by first | (rw [hy312]; with_reducible exact H) | (have H2_ := (Option.bind_some _ _).symm.trans H; rw [hy312]; with_reducible exact H2_) | (have H2_ := (Option.bind_some _ _).symm.trans H; with_reducible exact H2_) | with_reducible exact H | (rw [hy312]; exact H) | exact H
     have Ny312 := Aside0.mk hy312
     clear hy312
     have H' := Aside0.mk H
     clear H
     have p305 : 0 ≤ (x8_1 : Int) := od
     have q305 : x8_1 < (l0.length : Int) := od
     obtain ⟨ad305, e305, hx305_0, hx305_1, hx305_2, hx305_3, hx305_4⟩ := at_T78 HR0.out x8_1 p305 q305
     (try rw [← Nbq5.out] at hx305_3)
     (try rw [← Nbq5.out] at hx305_4)
     cases e305
     replace hx305_0 := kc HB hx305_0
     replace hx305_1 := kc HB hx305_1
     replace hx305_2 := kc HB hx305_2
     replace hx305_3 := kc HB hx305_3
     replace hx305_4 := kc HB hx305_4
     replace p305 := eq_true p305
     replace q305 := eq_true q305
     try go_wp2_with (first | ((with_reducible refine gate_dst (N := 5) rfl ?_); refine bx (N := 5) #[.int .i64 0, .string (⟨#[]⟩ : ByteArray), .int .i64 0, .bool false, .bool false] 78 ?_; intro gb306 hg w10 hbox hb; replace HO_3 := cR HO_3 hb; have BK306 := Aside0.mk (hbox); have GW306 := gw hg (uW HB.out); have GE306 := GW306; replace HB := cW HB hb; clear hb hbox hg; obtain ⟨hcz11_0, hcz11_1, hcz11_2, hcz11_3, hcz11_4, hfz11_0, hfz11_1, hfz11_2, hfz11_3, hfz11_4⟩ := z5 BK306) | ((with_reducible refine gate_store (t := 78) (p := 5) rfl ?_); refine store_event (t := 78) (p := 5) (v := ?vo_w12) (w1 := (((((w10.setCell ⟨gb306, 0, none⟩ (.int .i64 ((rd_T78 l0 x8_1).f0.f0))).setCell ⟨gb306, 1, none⟩ (.string ((rd_T78 l0 x8_1).f0.f1))).setCell ⟨gb306, 2, none⟩ (.int .i64 ((rd_T78 l0 x8_1).f0.f2.f0))).setCell ⟨gb306, 3, none⟩ (.bool ((rd_T78 l0 x8_1).f0.f2.f1))).setCell ⟨gb306, 4, none⟩ (.bool true))) ?hg ?ho ?hn ?hr ?_; (case ho => rfl); (case hg => rfl); (case hn => rfl); (case hr => first | (go_simp; done) | (go_simp; rfl)); intro w12 hw; have n0_ : Aside0 (Kd.R k60 60 w12 w.heap.size (fun _ => True) u3 x3_1) := ⟨(by rw [hw]; exact (by exact uR <| Kd.R_mono (Kd.R_far (p := ⟨gb306, 4, none⟩) (Kd.R_far (p := ⟨gb306, 3, none⟩) (Kd.R_far (p := ⟨gb306, 2, none⟩) (Kd.R_far (p := ⟨gb306, 1, none⟩) (Kd.R_far (p := ⟨gb306, 0, none⟩) (Kd.R_types HO_3.out BK306.out (by decide)) (fun _ hk => hk.2) (.int .i64 ((rd_T78 l0 x8_1).f0.f0))) (fun _ hk => hk.2) (.string ((rd_T78 l0 x8_1).f0.f1))) (fun _ hk => hk.2) (.int .i64 ((rd_T78 l0 x8_1).f0.f2.f0))) (fun _ hk => hk.2) (.bool ((rd_T78 l0 x8_1).f0.f2.f1))) (fun _ hk => hk.2) (.bool true)) (fun _ hk => trivial)))⟩; have n1_ : Aside0 (w12.heap[gb306]? = some (.cells #[.int .i64 ((rd_T78 l0 x8_1).f0.f0), .string ((rd_T78 l0 x8_1).f0.f1), .int .i64 ((rd_T78 l0 x8_1).f0.f2.f0), .bool ((rd_T78 l0 x8_1).f0.f2.f1), .bool true] 78 (0, 0))) := ⟨(by rw [hw]; exact (by (with_reducible repeat (first | refine blk_drewN ?_ _ | refine blk_drew ?_ | refine blk_alloc ?_ _)); refine blk_put (cs := #[.int .i64 ((rd_T78 l0 x8_1).f0.f0), .string ((rd_T78 l0 x8_1).f0.f1), .int .i64 ((rd_T78 l0 x8_1).f0.f2.f0), .bool ((rd_T78 l0 x8_1).f0.f2.f1), .bool false]) ?_ 4 _ rfl; (with_reducible repeat (first | refine blk_drewN ?_ _ | refine blk_drew ?_ | refine blk_alloc ?_ _)); refine blk_put (cs := #[.int .i64 ((rd_T78 l0 x8_1).f0.f0), .string ((rd_T78 l0 x8_1).f0.f1), .int .i64 ((rd_T78 l0 x8_1).f0.f2.f0), .bool false, .bool false]) ?_ 3 _ rfl; (with_reducible repeat (first | refine blk_drewN ?_ _ | refine blk_drew ?_ | refine blk_alloc ?_ _)); refine blk_put (cs := #[.int .i64 ((rd_T78 l0 x8_1).f0.f0), .string ((rd_T78 l0 x8_1).f0.f1), .int .i64 0, .bool false, .bool false]) ?_ 2 _ rfl; (with_reducible repeat (first | refine blk_drewN ?_ _ | refine blk_drew ?_ | refine blk_alloc ?_ _)); refine blk_put (cs := #[.int .i64 ((rd_T78 l0 x8_1).f0.f0), .string (⟨#[]⟩ : ByteArray), .int .i64 0, .bool false, .bool false]) ?_ 1 _ rfl; (with_reducible repeat (first | refine blk_drewN ?_ _ | refine blk_drew ?_ | refine blk_alloc ?_ _)); refine blk_put (cs := #[.int .i64 0, .string (⟨#[]⟩ : ByteArray), .int .i64 0, .bool false, .bool false]) ?_ 0 _ rfl; exact uB <| BK306.out))⟩; have n2_ : Aside0 (Below w.heap.size w w12) := ⟨(by rw [hw]; exact bl)⟩; clear hw; clear HO_3; clear BK306; clear HB; have HO_3 := n0_; have BK306 := n1_; have HB := n2_; clear n0_ n1_ n2_))
     replace HO_3 := Aside0.mk (Kd.R_drew HO_3.out)
     replace BK306 := Aside0.mk (blk_drew BK306.out)
     replace HB := Aside0.mk (below_drew1 HB.out)
     refine start_ (n := 9) (S := fun w' => w'.cell? ⟨gb306, 0, none⟩ = some (.int .i64 ((rd_T78 l0 x8_1).f0.f0)) ∧ w'.cell? ⟨gb306, 1, none⟩ = some (.string ((rd_T78 l0 x8_1).f0.f1)) ∧ w'.cell? ⟨gb306, 2, none⟩ = some (.int .i64 ((rd_T78 l0 x8_1).f0.f2.f0)) ∧ w'.cell? ⟨gb306, 3, none⟩ = some (.bool ((rd_T78 l0 x8_1).f0.f2.f1)) ∧ w'.cell? ⟨gb306, 4, none⟩ = some (.bool true)) (ds := []) _ (by kernel_rfl) rfl rfl ⟨(blk_cell BK306.out 0).trans rfl, (blk_cell BK306.out 1).trans rfl, (blk_cell BK306.out 2).trans rfl, (blk_cell BK306.out 3).trans rfl, (blk_cell BK306.out 4).trans rfl⟩ (fun hHeld => ?_); refine with_tabW diff_right.tab5 diff_right.bits5 (fun HT_ HW_ => ?_)
     generalize w12.drew = w13 at HO_3 BK306 HB hHeld ⊢
     refine p1 0 (some 12) ?_
     refine t1 1 (some 13) rfl rfl hHeld (Or.inl ⟨by rfl, by rintro w' ⟨s0, s1, s2, s3, s4⟩; go_simp; with_reducible rfl⟩) ?_
     refine p1 2 (some 14) ?_
     refine p1 4 (some 16) ?_
     refine t1 3 (some 15) rfl rfl hHeld (Or.inl ⟨by rfl, by rintro w' ⟨s0, s1, s2, s3, s4⟩; go_simp; with_reducible rfl⟩) ?_
     refine t1 5 (some 17) rfl rfl hHeld (Or.inl ⟨by rfl, by rintro w' ⟨s0, s1, s2, s3, s4⟩; go_simp; with_reducible rfl⟩) ?_
     refine o1 6 (some 18) rfl rfl (fun K hK => ?_)
     refine gS Tryz.func92 #[.agg #[.int .i64 ((rd_T78 l0 x8_1).f0.f0), .string ((rd_T78 l0 x8_1).f0.f1), .int .i64 ((rd_T78 l0 x8_1).f0.f2.f0), .bool ((rd_T78 l0 x8_1).f0.f2.f1)]] ?_
     with_reducible refine (diff_gone.calls ((rd_T78 l0 x8_1).f0.f0) ((rd_T78 l0 x8_1).f0.f1) ((rd_T78 l0 x8_1).f0.f2.f0) ((rd_T78 l0 x8_1).f0.f2.f1) t307 t308 t309 t310 t311 _ A7.out).mono ?_
     rintro e w14 ⟨rfl, hb⟩
     refine ⟨_, rfl, ?_⟩
     replace HO_3 := cR HO_3 hb
     replace BK306 := cB BK306 hb
     replace HB := Aside0.mk (below_step bl hb)
     (try clear hb)
     refine hK.out _ _ ⟨(blk_cell BK306.out 0).trans rfl, (blk_cell BK306.out 1).trans rfl, (blk_cell BK306.out 2).trans rfl, (blk_cell BK306.out 3).trans rfl, (blk_cell BK306.out 4).trans rfl⟩ (fun hHeld => ?_)
     clear hK K
     refine norm_ (a' := ?_) ?_ ?_
     rotate_left
     ·
      show Act.put _ (some 18) _ = _
      simp only [Act.put, List.setIfInBounds_toArray, List.set_cons_zero, List.set_cons_succ, i64_w, i32_w]
      rfl
     refine p1 7 (some 19) ?_
     refine p1 8 (some 20) ?_
     refine done_ (done_of HT_.out (by kernel_rfl)) ?_
     have hcz15_0 : w14.cell? ⟨gb306, 0, none⟩ = some (.int .i64 ((rd_T78 l0 x8_1).f0.f0)) := (blk_cell BK306.out 0).trans rfl
     have hcz15_1 : w14.cell? ⟨gb306, 1, none⟩ = some (.string ((rd_T78 l0 x8_1).f0.f1)) := (blk_cell BK306.out 1).trans rfl
     have hcz15_2 : w14.cell? ⟨gb306, 2, none⟩ = some (.int .i64 ((rd_T78 l0 x8_1).f0.f2.f0)) := (blk_cell BK306.out 2).trans rfl
     have hcz15_3 : w14.cell? ⟨gb306, 3, none⟩ = some (.bool ((rd_T78 l0 x8_1).f0.f2.f1)) := (blk_cell BK306.out 3).trans rfl
     have hcz15_4 : w14.cell? ⟨gb306, 4, none⟩ = some (.bool true) := (blk_cell BK306.out 4).trans (by first | rfl | (rw [← Nbq5.out]; rfl))
     have hfz15_0 := blk_frozen BK306.out 0
     have hfz15_1 := blk_frozen BK306.out 1
     have hfz15_2 := blk_frozen BK306.out 2
     have hfz15_3 := blk_frozen BK306.out 3
     have hfz15_4 := blk_frozen BK306.out 4
     try go_wp2_with (first | ((with_reducible refine gate_builtin (b := .append) (xs := #[.tmp 21, .tmp 24]) rfl ?_); at_builtin; refine Kd.R_append k60 (w0 := w) w.heap.size rfl (.tmp 21) (.tmp 24) 31 60 (.agg #[(.int .i64 0), (.string ⟨#[]⟩), (.int .i64 0), (.bool false)]) 40 rfl Tryz.underlying31 info60 rfl (by decide) (by omega) u3 x3_1 (⟨(rd_T78 l0 x8_1).f0.f0, (rd_T78 l0 x8_1).f0.f1, (⟨(rd_T78 l0 x8_1).f0.f2.f0, (rd_T78 l0 x8_1).f0.f2.f1⟩ : S58)⟩ : S60) [.int .i64 ((rd_T78 l0 x8_1).f0.f0), .string ((rd_T78 l0 x8_1).f0.f1), .int .i64 ((rd_T78 l0 x8_1).f0.f2.f0), .bool ((rd_T78 l0 x8_1).f0.f2.f1)] (fun _ => True) (fun _ => False) rfl rfl ?aP (fun _ hk => hk.elim) ?aF ?aO ?aB ?aS ?aL ?_; (case aP => exact k60_mkM _ _ _ (⟨(rd_T78 l0 x8_1).f0.f0, (rd_T78 l0 x8_1).f0.f1, (⟨(rd_T78 l0 x8_1).f0.f2.f0, (rd_T78 l0 x8_1).f0.f2.f1⟩ : S58)⟩ : S60)); (case aB => exact bl); (case aF => exact (fun _ _ => trivial)); (case aO => exact (uR HO_3.out)); (case aS => exact (below_size bl)); (case aL => have := LMc9.out; omega); intro v313 w16 ho hb hg hat; rw [← Ny312.out] at ho; replace BK306 := Aside0.mk (blk_grown (g := gb306) (o := .cells #[.int .i64 ((rd_T78 l0 x8_1).f0.f0), .string ((rd_T78 l0 x8_1).f0.f1), .int .i64 ((rd_T78 l0 x8_1).f0.f2.f0), .bool ((rd_T78 l0 x8_1).f0.f2.f1), .bool true] 78 (0, 0)) (uB BK306.out) hg (Kd.R_ne HO_3.out BK306.out (by decide))); replace HB := Aside0.mk (hb); have HO314 := Aside0.mk (ho); clear HO_3; clear ho hb hg hat))
     go_roundg k1
     case measure => have := HK1.out; omega
     case rel => exact ⟨(y312), (wrap64 (x8_1 + 1)), rs_, (by first | exact H' | (rw [← Nbq5.out]; exact H')), ⟨by have := HK1.out; omega⟩, ⟨uR HO314.out⟩, ⟨bl⟩⟩
    ·
     replace c6 := Bool.eq_false_iff.mpr c6
     subst c6
     rw [if_neg (show ¬ (false = true) by decide)] at H
     obtain ⟨c17, H⟩ := gd H
     have LMc17 := Aside0.mk c17
     clear c17
     obtain ⟨y315, hy315⟩ : ∃ y_ : List (S60), y_ = (x3_1 ++ [(⟨(rd_T78 l0 x8_1).f0.f0, (rd_T78 l0 x8_1).f0.f1, (⟨(rd_T78 l0 x8_1).f0.f2.f0, (rd_T78 l0 x8_1).f0.f2.f1⟩ : S58)⟩ : S60)]) := ⟨_, rfl⟩
     replace H : (diff_right.l0 k1 y315 l0 (l0.length : Int) (wrap64 (x8_1 + 1))) = some r := by first | (rw [hy315]; with_reducible exact H) | (have H2_ := (Option.bind_some _ _).symm.trans H; rw [hy315]; with_reducible exact H2_) | (have H2_ := (Option.bind_some _ _).symm.trans H; with_reducible exact H2_) | with_reducible exact H | (rw [hy315]; exact H) | exact H
     have Ny315 := Aside0.mk hy315
     clear hy315
     have H' := Aside0.mk H
     clear H
     have p305 : 0 ≤ (x8_1 : Int) := od
     have q305 : x8_1 < (l0.length : Int) := od
     obtain ⟨ad305, e305, hx305_0, hx305_1, hx305_2, hx305_3, hx305_4⟩ := at_T78 HR0.out x8_1 p305 q305
     (try rw [← Nbq5.out] at hx305_3)
     (try rw [← Nbq5.out] at hx305_4)
     cases e305
     replace hx305_0 := kc HB hx305_0
     replace hx305_1 := kc HB hx305_1
     replace hx305_2 := kc HB hx305_2
     replace hx305_3 := kc HB hx305_3
     replace hx305_4 := kc HB hx305_4
     replace p305 := eq_true p305
     replace q305 := eq_true q305
     try go_wp2_with (first | ((with_reducible refine gate_dst (N := 5) rfl ?_); refine bx (N := 5) #[.int .i64 0, .string (⟨#[]⟩ : ByteArray), .int .i64 0, .bool false, .bool false] 78 ?_; intro gb306 hg w18 hbox hb; replace HO_3 := cR HO_3 hb; have BK306 := Aside0.mk (hbox); have GW306 := gw hg (uW HB.out); have GE306 := GW306; replace HB := cW HB hb; clear hb hbox hg; obtain ⟨hcz19_0, hcz19_1, hcz19_2, hcz19_3, hcz19_4, hfz19_0, hfz19_1, hfz19_2, hfz19_3, hfz19_4⟩ := z5 BK306) | ((with_reducible refine gate_store (t := 78) (p := 5) rfl ?_); refine store_event (t := 78) (p := 5) (v := ?vo_w20) (w1 := (((((w18.setCell ⟨gb306, 0, none⟩ (.int .i64 ((rd_T78 l0 x8_1).f0.f0))).setCell ⟨gb306, 1, none⟩ (.string ((rd_T78 l0 x8_1).f0.f1))).setCell ⟨gb306, 2, none⟩ (.int .i64 ((rd_T78 l0 x8_1).f0.f2.f0))).setCell ⟨gb306, 3, none⟩ (.bool ((rd_T78 l0 x8_1).f0.f2.f1))).setCell ⟨gb306, 4, none⟩ (.bool false))) ?hg ?ho ?hn ?hr ?_; (case ho => rfl); (case hg => rfl); (case hn => rfl); (case hr => first | (go_simp; done) | (go_simp; rfl)); intro w20 hw; have n0_ : Aside0 (Kd.R k60 60 w20 w.heap.size (fun _ => True) u3 x3_1) := ⟨(by rw [hw]; exact (by exact uR <| Kd.R_mono (Kd.R_far (p := ⟨gb306, 4, none⟩) (Kd.R_far (p := ⟨gb306, 3, none⟩) (Kd.R_far (p := ⟨gb306, 2, none⟩) (Kd.R_far (p := ⟨gb306, 1, none⟩) (Kd.R_far (p := ⟨gb306, 0, none⟩) (Kd.R_types HO_3.out BK306.out (by decide)) (fun _ hk => hk.2) (.int .i64 ((rd_T78 l0 x8_1).f0.f0))) (fun _ hk => hk.2) (.string ((rd_T78 l0 x8_1).f0.f1))) (fun _ hk => hk.2) (.int .i64 ((rd_T78 l0 x8_1).f0.f2.f0))) (fun _ hk => hk.2) (.bool ((rd_T78 l0 x8_1).f0.f2.f1))) (fun _ hk => hk.2) (.bool false)) (fun _ hk => trivial)))⟩; have n1_ : Aside0 (w20.heap[gb306]? = some (.cells #[.int .i64 ((rd_T78 l0 x8_1).f0.f0), .string ((rd_T78 l0 x8_1).f0.f1), .int .i64 ((rd_T78 l0 x8_1).f0.f2.f0), .bool ((rd_T78 l0 x8_1).f0.f2.f1), .bool false] 78 (0, 0))) := ⟨(by rw [hw]; exact (by (with_reducible repeat (first | refine blk_drewN ?_ _ | refine blk_drew ?_ | refine blk_alloc ?_ _)); refine blk_put (cs := #[.int .i64 ((rd_T78 l0 x8_1).f0.f0), .string ((rd_T78 l0 x8_1).f0.f1), .int .i64 ((rd_T78 l0 x8_1).f0.f2.f0), .bool ((rd_T78 l0 x8_1).f0.f2.f1), .bool false]) ?_ 4 _ rfl; (with_reducible repeat (first | refine blk_drewN ?_ _ | refine blk_drew ?_ | refine blk_alloc ?_ _)); refine blk_put (cs := #[.int .i64 ((rd_T78 l0 x8_1).f0.f0), .string ((rd_T78 l0 x8_1).f0.f1), .int .i64 ((rd_T78 l0 x8_1).f0.f2.f0), .bool false, .bool false]) ?_ 3 _ rfl; (with_reducible repeat (first | refine blk_drewN ?_ _ | refine blk_drew ?_ | refine blk_alloc ?_ _)); refine blk_put (cs := #[.int .i64 ((rd_T78 l0 x8_1).f0.f0), .string ((rd_T78 l0 x8_1).f0.f1), .int .i64 0, .bool false, .bool false]) ?_ 2 _ rfl; (with_reducible repeat (first | refine blk_drewN ?_ _ | refine blk_drew ?_ | refine blk_alloc ?_ _)); refine blk_put (cs := #[.int .i64 ((rd_T78 l0 x8_1).f0.f0), .string (⟨#[]⟩ : ByteArray), .int .i64 0, .bool false, .bool false]) ?_ 1 _ rfl; (with_reducible repeat (first | refine blk_drewN ?_ _ | refine blk_drew ?_ | refine blk_alloc ?_ _)); refine blk_put (cs := #[.int .i64 0, .string (⟨#[]⟩ : ByteArray), .int .i64 0, .bool false, .bool false]) ?_ 0 _ rfl; exact uB <| BK306.out))⟩; have n2_ : Aside0 (Below w.heap.size w w20) := ⟨(by rw [hw]; exact bl)⟩; clear hw; clear HO_3; clear BK306; clear HB; have HO_3 := n0_; have BK306 := n1_; have HB := n2_; clear n0_ n1_ n2_))
     replace HO_3 := Aside0.mk (Kd.R_drew HO_3.out)
     replace BK306 := Aside0.mk (blk_drew BK306.out)
     replace HB := Aside0.mk (below_drew1 HB.out)
     refine start_ (n := 9) (S := fun w' => w'.cell? ⟨gb306, 0, none⟩ = some (.int .i64 ((rd_T78 l0 x8_1).f0.f0)) ∧ w'.cell? ⟨gb306, 1, none⟩ = some (.string ((rd_T78 l0 x8_1).f0.f1)) ∧ w'.cell? ⟨gb306, 2, none⟩ = some (.int .i64 ((rd_T78 l0 x8_1).f0.f2.f0)) ∧ w'.cell? ⟨gb306, 3, none⟩ = some (.bool ((rd_T78 l0 x8_1).f0.f2.f1)) ∧ w'.cell? ⟨gb306, 4, none⟩ = some (.bool false)) (ds := []) _ (by kernel_rfl) rfl rfl ⟨(blk_cell BK306.out 0).trans rfl, (blk_cell BK306.out 1).trans rfl, (blk_cell BK306.out 2).trans rfl, (blk_cell BK306.out 3).trans rfl, (blk_cell BK306.out 4).trans rfl⟩ (fun hHeld => ?_); refine with_tabW diff_right.tab5 diff_right.bits5 (fun HT_ HW_ => ?_)
     generalize w20.drew = w21 at HO_3 BK306 HB hHeld ⊢
     refine p1 0 (some 12) ?_
     refine t1 1 (some 13) rfl rfl hHeld (Or.inl ⟨by rfl, by rintro w' ⟨s0, s1, s2, s3, s4⟩; go_simp; with_reducible rfl⟩) ?_
     refine p1 2 (some 14) ?_
     refine p2 3 (some 15) ?_
     refine p2 4 (some 16) ?_
     refine p2 5 (some 17) ?_
     refine p2 6 (some 18) ?_
     refine p2 7 (some 19) ?_
     refine p1 8 (some 20) ?_
     refine done_ (done_of HT_.out (by kernel_rfl)) ?_
     have hcz22_0 : w21.cell? ⟨gb306, 0, none⟩ = some (.int .i64 ((rd_T78 l0 x8_1).f0.f0)) := (blk_cell BK306.out 0).trans rfl
     have hcz22_1 : w21.cell? ⟨gb306, 1, none⟩ = some (.string ((rd_T78 l0 x8_1).f0.f1)) := (blk_cell BK306.out 1).trans rfl
     have hcz22_2 : w21.cell? ⟨gb306, 2, none⟩ = some (.int .i64 ((rd_T78 l0 x8_1).f0.f2.f0)) := (blk_cell BK306.out 2).trans rfl
     have hcz22_3 : w21.cell? ⟨gb306, 3, none⟩ = some (.bool ((rd_T78 l0 x8_1).f0.f2.f1)) := (blk_cell BK306.out 3).trans rfl
     have hcz22_4 : w21.cell? ⟨gb306, 4, none⟩ = some (.bool false) := (blk_cell BK306.out 4).trans (by first | rfl | (rw [← Nbq5.out]; rfl))
     have hfz22_0 := blk_frozen BK306.out 0
     have hfz22_1 := blk_frozen BK306.out 1
     have hfz22_2 := blk_frozen BK306.out 2
     have hfz22_3 := blk_frozen BK306.out 3
     have hfz22_4 := blk_frozen BK306.out 4
     try go_wp2_with (first | ((with_reducible refine gate_builtin (b := .append) (xs := #[.tmp 21, .tmp 24]) rfl ?_); at_builtin; refine Kd.R_append k60 (w0 := w) w.heap.size rfl (.tmp 21) (.tmp 24) 31 60 (.agg #[(.int .i64 0), (.string ⟨#[]⟩), (.int .i64 0), (.bool false)]) 40 rfl Tryz.underlying31 info60 rfl (by decide) (by omega) u3 x3_1 (⟨(rd_T78 l0 x8_1).f0.f0, (rd_T78 l0 x8_1).f0.f1, (⟨(rd_T78 l0 x8_1).f0.f2.f0, (rd_T78 l0 x8_1).f0.f2.f1⟩ : S58)⟩ : S60) [.int .i64 ((rd_T78 l0 x8_1).f0.f0), .string ((rd_T78 l0 x8_1).f0.f1), .int .i64 ((rd_T78 l0 x8_1).f0.f2.f0), .bool ((rd_T78 l0 x8_1).f0.f2.f1)] (fun _ => True) (fun _ => False) rfl rfl ?aP (fun _ hk => hk.elim) ?aF ?aO ?aB ?aS ?aL ?_; (case aP => exact k60_mkM _ _ _ (⟨(rd_T78 l0 x8_1).f0.f0, (rd_T78 l0 x8_1).f0.f1, (⟨(rd_T78 l0 x8_1).f0.f2.f0, (rd_T78 l0 x8_1).f0.f2.f1⟩ : S58)⟩ : S60)); (case aB => exact bl); (case aF => exact (fun _ _ => trivial)); (case aO => exact (uR HO_3.out)); (case aS => exact (below_size bl)); (case aL => have := LMc17.out; omega); intro v316 w23 ho hb hg hat; rw [← Ny315.out] at ho; replace BK306 := Aside0.mk (blk_grown (g := gb306) (o := .cells #[.int .i64 ((rd_T78 l0 x8_1).f0.f0), .string ((rd_T78 l0 x8_1).f0.f1), .int .i64 ((rd_T78 l0 x8_1).f0.f2.f0), .bool ((rd_T78 l0 x8_1).f0.f2.f1), .bool false] 78 (0, 0)) (uB BK306.out) hg (Kd.R_ne HO_3.out BK306.out (by decide))); replace HB := Aside0.mk (hb); have HO317 := Aside0.mk (ho); clear HO_3; clear ho hb hg hat))
     go_roundg k1
     case measure => have := HK1.out; omega
     case rel => exact ⟨(y315), (wrap64 (x8_1 + 1)), rs_, (by first | exact H' | (rw [← Nbq5.out]; exact H')), ⟨by have := HK1.out; omega⟩, ⟨uR HO317.out⟩, ⟨bl⟩⟩
   ·
    rw [if_neg c2] at H
    have c2b0 : decide (x8_1 < (l0.length : Int)) = false := decide_eq_false c2
    clear c2
    obtain ⟨t318, A24, H⟩ := bs H
    try dsimp only at H
    obtain rfl := Option.some.inj H
    obtain ⟨Ao25, co25, eo25⟩ := Kd.R_slice HO_3.out
    subst eo25
    go_wp2_with (first | (refine gL (some 28) rfl Tryz.func93 #[.slice Ao25 x3_1.length co25] ?_; (with_reducible refine (row_Right.calls k1 _ _ x3_1 t318 _ ?side1 ?side2 A24.out).mono ?_); (case side1 => exact uC <| (Kd.R_reads' HO_3.out).2.2); (case side2 => exact (Kd.R_reads' HO_3.out).2.1); rintro e w26 ⟨rfl, hb⟩; refine ⟨_, rfl, ?_⟩; replace HO_3 := cR HO_3 hb; replace HB := cW HB hb; (try clear hb)))
    go_ret
    exact ⟨re_, uW HB.out⟩
def diff_Parse.l0 : Nat → List (S78) → List ByteArray → Int → Int → Option ((List (S78)) × Int)
 | 0, _, _, _, _ => none
 | k + 1, x2, x11, x12, x13 => if x13 < x12 then (if 0 ≤ x13 then (if x13 < (x11.length : Int) then ((diff_one.f k (rdOf ByteArray.empty x11 x13)).bind fun bt323 => (if bt323.2.2.2.2.2 = 0 then (if x2.length < 2932031007402 then (diff_Parse.l0 k (x2 ++ [(⟨(⟨bt323.1, bt323.2.1, (⟨bt323.2.2.1, bt323.2.2.2.1⟩ : S58)⟩ : S60), bt323.2.2.2.2.1⟩ : S78)]) x11 x12 (wrap64 (x13 + 1))) else (none)) else (none))) else (none)) else (none)) else ((diff_right.f k x2).bind fun t333 => (if t333 = true then (some (x2, 0)) else (none)))
def diff_Parse.f (k : Nat) (a0 : ByteArray) : Option ((List (S78)) × Int) := if a0.toList = ([45] : List UInt8) then (none) else ((word_Split.f k a0 59).bind fun t319 => (diff_Parse.l0 k ([] : List (S78)) t319 (t319.length : Int) 0))
theorem diff_Parse.mono_l : ∀ k, (∀ y0 y1 y2 y3, LeC (diff_Parse.l0 k y0 y1 y2 y3) (diff_Parse.l0 (k + 1) y0 y1 y2 y3))
 | 0 => fun _ _ _ _ => ⟨fun r h => by simp [diff_Parse.l0] at h⟩
 | k + 1 => by have ih0 := diff_Parse.mono_l k; exact fun _ _ _ _ => by unfold diff_Parse.l0; exact lm
theorem diff_Parse.mono : ∀ a0 k, LeO (diff_Parse.f k a0) (diff_Parse.f (k + 1) a0) := by
 intro a0 k
 have ih0 := diff_Parse.mono_l k
 unfold diff_Parse.f
 exact lo
instance diff_Parse.mI {a0 k} : LeC (diff_Parse.f k a0) (diff_Parse.f (k + 1) a0) := ⟨diff_Parse.mono _ _⟩
theorem diff_Parse.calls (k : Nat) (a0 : ByteArray) (r1 : List (S78)) (r2 : Int) (w : World) (hL : LD w) (h : diff_Parse.f k a0 = some (r1, r2)) :
 Calls Tryz.prog 54 #[.string a0] w fun e w' => ∃ v0_ : Value, e = .returned (.tuple #[v0_, .int .i64 r2]) ∧ Kd.R k78 78 w' w.heap.size (fun _ => True) v0_ r1 ∧ Below w.heap.size w w' := by
 have HL0 := Aside0.mk hL
 clear hL
 have hu78 := Tryz.underlying78
 have HB := Aside0.mk (Below.refl w.heap.size w)
 have H : (if a0.toList = ([45] : List UInt8) then (none) else ((word_Split.f k a0 59).bind fun t319 => (diff_Parse.l0 k ([] : List (S78)) t319 (t319.length : Int) 0))) = some (r1, r2) := h
 clear h
 obtain ⟨c2, H⟩ := gn H
 have c2b0 : (a0.toList == ([45] : List UInt8)) = false := beq_eq_false_iff_ne.mpr c2
 have c2b1 : (a0.toList != ([45] : List UInt8)) = true := bne_iff_ne.mpr c2
 obtain ⟨t319, A3, H⟩ := bs H
 try dsimp only at H
 have H' := Aside0.mk H
 clear H
 go_enter Tryz.func54, Tryz.ntmps54
 go_wp2_with (first | (refine gL (some 11) rfl Tryz.func67 #[.string a0, .int .u8 59] ?_; (with_reducible refine (word_Split.calls k a0 59 t319 _ A3.out).mono ?_); rintro e w4 ⟨v320, rfl, ho0, hb⟩; refine ⟨_, rfl, ?_⟩; have HO321 := Aside0.mk (Kd.R_lower ho0 (below_size (uW HB.out))); replace HB := cW HB hb; (try clear hb); (try clear ho0); obtain ⟨Ao5, co5, eo5⟩ := Kd.R_slice HO321.out; subst eo5))
 (try simp only [Act.put, List.setIfInBounds_toArray, List.set_cons_zero, List.set_cons_succ])
 go_loopg [2, 13] k (fun kq v2 v13 w' => ∃ (x2_1 : List (S78)) (x13_1 : Int), v13 = .int .i64 x13_1 ∧ Aside0 (diff_Parse.l0 kq x2_1 t319 (t319.length : Int) x13_1 = some (r1, r2)) ∧ Aside0 (kq ≤ k) ∧ Aside0 (Kd.R k78 78 w' w.heap.size (fun _ => True) v2 x2_1) ∧ Aside0 (Kd.R Kd.string 9 w' w.heap.size (fun _ => True) (.slice Ao5 t319.length co5) t319) ∧ Aside0 (Below w.heap.size w w'))
 case atStart => exact ⟨(([] : List (S78))), (0), rs_, H', ⟨Nat.le_refl _⟩, ⟨nl_⟩, ⟨uR HO321.out⟩, ⟨uW HB.out⟩⟩
 case round =>
  clear H'
  try clear c2
  try clear c2b0
  try clear c2b1
  try clear p2
  try clear c5
  obtain ⟨x2_1, x13_1, rfl, HA, HK1, HO_2, HO_11, HB⟩ := hrel
  cases gk with
  | zero => exact absurd HA.out (by simp [diff_Parse.l0])
  | succ k1 =>
   have H := HA.out
   clear HA
   simp only [diff_Parse.l0] at H
   by_cases c6 : x13_1 < (t319.length : Int)
   ·
    rw [if_pos c6] at H
    have c6b0 : decide (x13_1 < (t319.length : Int)) = true := decide_eq_true c6
    clear c6
    obtain ⟨c7b0, H⟩ := gdd H
    obtain ⟨c8b0, H⟩ := gdd H
    obtain ⟨⟨t323, t324, t325, t326, t327, t328⟩, A9, H⟩ := bs H
    try dsimp only at H
    obtain ⟨c10, H⟩ := gd H
    have c10b0 : (t328 == 0) = true := beq_iff_eq.mpr c10
    have c10b1 : (t328 != 0) = false := bne_eq_false_iff_eq.mpr c10
    clear c10
    obtain ⟨c11, H⟩ := gd H
    have LMc11 := Aside0.mk c11
    clear c11
    obtain ⟨y330, hy330⟩ : ∃ y_ : List (S78), y_ = (x2_1 ++ [(⟨(⟨t323, t324, (⟨t325, t326⟩ : S58)⟩ : S60), t327⟩ : S78)]) := ⟨_, rfl⟩
    replace H : (diff_Parse.l0 k1 y330 t319 (t319.length : Int) (wrap64 (x13_1 + 1))) = some (r1, r2) := by first | (rw [hy330]; with_reducible exact H) | (have H2_ := (Option.bind_some _ _).symm.trans H; rw [hy330]; with_reducible exact H2_) | (have H2_ := (Option.bind_some _ _).symm.trans H; with_reducible exact H2_) | with_reducible exact H | (rw [hy330]; exact H) | exact H
    have Ny330 := Aside0.mk hy330
    clear hy330
    have H' := Aside0.mk H
    clear H
    have p322 : 0 ≤ (x13_1 : Int) := od
    have q322 : x13_1 < (t319.length : Int) := od
    obtain ⟨ad322, e322, hx322_0⟩ := Kd.at_string (Kd.R_reads' HO_11.out).2.2 x13_1 p322 q322
    cases e322
    replace p322 := eq_true p322
    replace q322 := eq_true q322
    go_wp2_with (first | (refine gL (some 19) rfl Tryz.func72 #[.string (rdOf ByteArray.empty t319 x13_1)] ?_; (with_reducible refine (diff_one.calls (hL := ld) k1 (rdOf ByteArray.empty t319 x13_1) t323 t324 t325 t326 t327 t328 _ A9.out).mono ?_); rintro e w12 ⟨rfl, hb⟩; refine ⟨_, rfl, ?_⟩; replace HO_2 := cR HO_2 hb; replace HO_11 := cR HO_11 hb; replace HB := cW HB hb; (try clear hb)) | ((with_reducible refine gate_dst (N := 6) rfl ?_); refine bx (N := 6) #[.int .i64 0, .string (⟨#[]⟩ : ByteArray), .int .i64 0, .bool false, .bool false] 78 ?_; intro gb329 hg w13 hbox hb; replace HO_2 := Aside0.mk (Kd.R_below (Kd.R_elderB (uR HO_2.out) gb329 (Nat.le_of_eq hg.symm)) hb); replace HO_11 := cR HO_11 hb; have BK329 := Aside0.mk (hbox); have GW329 := gw hg (uW HB.out); have GE329 := GW329; replace HB := cW HB hb; clear hb hbox hg; obtain ⟨hcz14_0, hcz14_1, hcz14_2, hcz14_3, hcz14_4, hfz14_0, hfz14_1, hfz14_2, hfz14_3, hfz14_4⟩ := z5 BK329) | ((with_reducible refine gate_store (t := 78) (p := 6) rfl ?_); refine store_event (t := 78) (p := 6) (v := ?vo_w15) (w1 := (((((w13.setCell ⟨gb329, 0, none⟩ (.int .i64 t323)).setCell ⟨gb329, 1, none⟩ (.string t324)).setCell ⟨gb329, 2, none⟩ (.int .i64 t325)).setCell ⟨gb329, 3, none⟩ (.bool t326)).setCell ⟨gb329, 4, none⟩ (.bool t327))) ?hg ?ho ?hn ?hr ?_; (case ho => rfl); (case hg => rfl); (case hn => rfl); (case hr => first | (go_simp; done) | (go_simp; rfl)); intro w15 hw; have n0_ : Aside0 (Kd.R k78 78 w15 w.heap.size (fun k_ => k_ ≠ gb329) u2 x2_1) := ⟨(by rw [hw]; exact (by exact uR <| Kd.R_mono (Kd.R_far (p := ⟨gb329, 4, none⟩) (Kd.R_far (p := ⟨gb329, 3, none⟩) (Kd.R_far (p := ⟨gb329, 2, none⟩) (Kd.R_far (p := ⟨gb329, 1, none⟩) (Kd.R_far (p := ⟨gb329, 0, none⟩) (Kd.R_mono HO_2.out (fun k_ hk => (⟨hk, hk.2⟩ : _ ∧ k_ ≠ gb329))) (fun _ hk => hk.2) (.int .i64 t323)) (fun _ hk => hk.2) (.string t324)) (fun _ hk => hk.2) (.int .i64 t325)) (fun _ hk => hk.2) (.bool t326)) (fun _ hk => hk.2) (.bool t327)) (fun _ hk => hk.1.2)))⟩; have n1_ : Aside0 (Kd.R Kd.string 9 w15 w.heap.size (fun _ => True) (.slice (some ad322) t319.length co5) t319) := ⟨(by rw [hw]; exact (by exact uR <| Kd.R_mono (Kd.R_far (p := ⟨gb329, 4, none⟩) (Kd.R_far (p := ⟨gb329, 3, none⟩) (Kd.R_far (p := ⟨gb329, 2, none⟩) (Kd.R_far (p := ⟨gb329, 1, none⟩) (Kd.R_far (p := ⟨gb329, 0, none⟩) (Kd.R_types HO_11.out BK329.out (by decide)) (fun _ hk => hk.2) (.int .i64 t323)) (fun _ hk => hk.2) (.string t324)) (fun _ hk => hk.2) (.int .i64 t325)) (fun _ hk => hk.2) (.bool t326)) (fun _ hk => hk.2) (.bool t327)) (fun _ hk => trivial)))⟩; have n2_ : Aside0 (w15.heap[gb329]? = some (.cells #[.int .i64 t323, .string t324, .int .i64 t325, .bool t326, .bool t327] 78 (0, 0))) := ⟨(by rw [hw]; exact (by (with_reducible repeat (first | refine blk_drewN ?_ _ | refine blk_drew ?_ | refine blk_alloc ?_ _)); refine blk_put (cs := #[.int .i64 t323, .string t324, .int .i64 t325, .bool t326, .bool false]) ?_ 4 _ rfl; (with_reducible repeat (first | refine blk_drewN ?_ _ | refine blk_drew ?_ | refine blk_alloc ?_ _)); refine blk_put (cs := #[.int .i64 t323, .string t324, .int .i64 t325, .bool false, .bool false]) ?_ 3 _ rfl; (with_reducible repeat (first | refine blk_drewN ?_ _ | refine blk_drew ?_ | refine blk_alloc ?_ _)); refine blk_put (cs := #[.int .i64 t323, .string t324, .int .i64 0, .bool false, .bool false]) ?_ 2 _ rfl; (with_reducible repeat (first | refine blk_drewN ?_ _ | refine blk_drew ?_ | refine blk_alloc ?_ _)); refine blk_put (cs := #[.int .i64 t323, .string (⟨#[]⟩ : ByteArray), .int .i64 0, .bool false, .bool false]) ?_ 1 _ rfl; (with_reducible repeat (first | refine blk_drewN ?_ _ | refine blk_drew ?_ | refine blk_alloc ?_ _)); refine blk_put (cs := #[.int .i64 0, .string (⟨#[]⟩ : ByteArray), .int .i64 0, .bool false, .bool false]) ?_ 0 _ rfl; exact uB <| BK329.out))⟩; have n3_ : Aside0 (Below w.heap.size w w15) := ⟨(by rw [hw]; exact bl)⟩; clear hw; clear HO_2; clear HO_11; clear BK329; clear HB; have HO_2 := n0_; have HO_11 := n1_; have BK329 := n2_; have HB := n3_; clear n0_ n1_ n2_ n3_; obtain ⟨hcz16_0, hcz16_1, hcz16_2, hcz16_3, hcz16_4, hfz16_0, hfz16_1, hfz16_2, hfz16_3, hfz16_4⟩ := z5 BK329) | ((with_reducible refine gate_builtin (b := .append) (xs := #[.tmp 25, .tmp 27]) rfl ?_); at_builtin; refine Kd.R_append k78 (w0 := w) w.heap.size rfl (.tmp 25) (.tmp 27) 34 78 (.agg #[(.int .i64 0), (.string ⟨#[]⟩), (.int .i64 0), (.bool false), (.bool false)]) 48 rfl Tryz.underlying34 info78 rfl (by decide) (by omega) u2 x2_1 (⟨(⟨t323, t324, (⟨t325, t326⟩ : S58)⟩ : S60), t327⟩ : S78) [.int .i64 t323, .string t324, .int .i64 t325, .bool t326, .bool t327] (fun k_ => k_ ≠ gb329) (fun _ => False) rfl rfl ?aP (fun _ hk => hk.elim) ?aF ?aO ?aB ?aS ?aL ?_; (case aP => exact k78_mkM _ _ _ (⟨(⟨t323, t324, (⟨t325, t326⟩ : S58)⟩ : S60), t327⟩ : S78)); (case aB => exact bl); (case aF => exact (fun k_ hk => Kd.freshB (g := gb329) (o := .cells #[.int .i64 t323, .string t324, .int .i64 t325, .bool t326, .bool t327] 78 (0, 0)) (uB BK329.out) k_ hk)); (case aO => exact (uR HO_2.out)); (case aS => exact (below_size bl)); (case aL => have := LMc11.out; omega); intro v331 w17 ho hb hg hat; rw [← Ny330.out] at ho; replace HO_11 := Aside0.mk (Kd.R_over' (uR HO_11.out) (Kd.R_typed (uR HO_2.out)) (by decide) hg); replace BK329 := Aside0.mk (blk_grown (g := gb329) (o := .cells #[.int .i64 t323, .string t324, .int .i64 t325, .bool t326, .bool t327] 78 (0, 0)) (uB BK329.out) hg (Kd.R_away HO_2.out (fun _ hk => hk))); replace HB := Aside0.mk (hb); have HO332 := Aside0.mk (ho); clear HO_2; clear ho hb hg hat))
    go_roundg k1
    case measure => have := HK1.out; omega
    case rel => exact ⟨(y330), (wrap64 (x13_1 + 1)), rs_, H', ⟨by have := HK1.out; omega⟩, ⟨by exact uR <| Kd.R_mono HO332.out (fun _ hk => trivial)⟩, ⟨uR HO_11.out⟩, ⟨bl⟩⟩
   ·
    rw [if_neg c6] at H
    have c6b0 : decide (x13_1 < (t319.length : Int)) = false := decide_eq_false c6
    clear c6
    obtain ⟨t333, A18, H⟩ := bs H
    try dsimp only at H
    by_cases c19 : t333 = true
    ·
     subst c19
     rw [if_pos rfl] at H
     simp only [Option.some.injEq, Prod.mk.injEq] at H
     obtain ⟨rfl, rfl⟩ := H
     obtain ⟨Ao20, co20, eo20⟩ := Kd.R_slice HO_2.out
     subst eo20
     go_wp2_with (first | (refine gL (some 31) rfl Tryz.func73 #[.slice Ao20 x2_1.length co20] ?_; (with_reducible refine (diff_right.calls k1 _ _ x2_1 true _ ?side1 ?side2 A18.out).mono ?_); (case side1 => exact uC <| (Kd.R_reads' HO_2.out).2.2); (case side2 => exact (Kd.R_reads' HO_2.out).2.1); rintro e w21 ⟨rfl, hb⟩; refine ⟨_, rfl, ?_⟩; replace HO_2 := cR HO_2 hb; replace HO_11 := cR HO_11 hb; replace HB := cW HB hb; (try clear hb)))
     go_ret2
     exact ⟨_, re_, uR HO_2.out, uW HB.out⟩
    ·
     replace c19 := Bool.eq_false_iff.mpr c19
     subst c19
     rw [if_neg (show ¬ (false = true) by decide)] at H
     exact absurd H (by simp)
theorem reply_ReadMessage.catch (p q : Nat) (er y : Int) (x0 x1 x2 x3 x4 : Value) (w : World) (hp : w.heap[p]? = some (.cells #[x0, x1, x2, x3, x4] 36 (0, 0))) (hq : w.heap[q]? = some (.cells #[.int .i64 y] 22 (0, 0))) :
 CallsD Tryz.prog 53 #[.pointer (some ⟨p, 0, none⟩), .pointer (some ⟨q, 0, none⟩)] (.panicking (wr_ er)) w fun e u' w' =>
  e = .returned (.tuple #[]) ∧ u' = .panicking [{ v := .iface 86 (.agg #[.int .i64 er]), recovered := true }] ∧ ∃ w1, Below w.heap.size w w1 ∧ w' = ((((((w1.setCell ⟨p, 0, none⟩ (.int .i64 0)).setCell ⟨p, 1, none⟩ (.int .i64 0)).setCell ⟨p, 2, none⟩ (.int .i64 0)).setCell ⟨p, 3, none⟩ (.slice none 0 0)).setCell ⟨p, 4, none⟩ (.slice none 0 0)).setCell ⟨q, 0, none⟩ (.int .i64 er)) := by
 have hne : p ≠ q := blk_ne hp hq (by decide)
 have hu33 := Tryz.underlying33
 have hu36 := Tryz.underlying36
 refine callsD_of_wpS Tryz.func53 rfl fun c₀ cs hu => ?_
 apply wpS_seq
 apply wpS_region
 simp [wpOpsS, go_sem, recoverD, hu, Tryz.ntmps53, Exit.thenS]
 apply wpS_seq
 apply wpS_region
 simp [wpOpsS, go_sem, Exit.thenS]
 refine wpS_cond (t := true) (by simp [Act.eval, Array.replicate]) ?_
 simp only [if_true]
 refine wpS_of_wp ?_
 go_wp2_with (first | (go_at_call 44; (with_reducible refine (reply_caught.calls er _).mono ?_); rintro e w5 ⟨rfl, hb⟩; have hp5 := blk_below hp hb; have hq5 := blk_below hq hb; have hc0 := (blk_cell hp5 0).trans rfl; have hz0 := blk_frozen hp5 0; have hc1 := (blk_cell hp5 1).trans rfl; have hz1 := blk_frozen hp5 1; have hc2 := (blk_cell hp5 2).trans rfl; have hz2 := blk_frozen hp5 2; have hc3 := (blk_cell hp5 3).trans rfl; have hz3 := blk_frozen hp5 3; have hc4 := (blk_cell hp5 4).trans rfl; have hz4 := blk_frozen hp5 4; have hcq := (blk_cell (blk_far (blk_far (blk_far (blk_far (blk_far hq5 (p := ⟨p, 0, none⟩) hne.symm (.int .i64 0)) (p := ⟨p, 1, none⟩) hne.symm (.int .i64 0)) (p := ⟨p, 2, none⟩) hne.symm (.int .i64 0)) (p := ⟨p, 3, none⟩) hne.symm (.slice none 0 0)) (p := ⟨p, 4, none⟩) hne.symm (.slice none 0 0)) 0).trans rfl; have hzq := blk_frozen (blk_far (blk_far (blk_far (blk_far (blk_far hq5 (p := ⟨p, 0, none⟩) hne.symm (.int .i64 0)) (p := ⟨p, 1, none⟩) hne.symm (.int .i64 0)) (p := ⟨p, 2, none⟩) hne.symm (.int .i64 0)) (p := ⟨p, 3, none⟩) hne.symm (.slice none 0 0)) (p := ⟨p, 4, none⟩) hne.symm (.slice none 0 0)) 0))
 cases c₀
 simp_all [bodyPostS, results, Tryz.results53, Exit.thenS]
 exact ⟨w5, hb, rfl⟩
theorem reply_ReadMessage.idle (p q : Nat) (w : World) : CallsD Tryz.prog 53 #[.pointer (some ⟨p, 0, none⟩), .pointer (some ⟨q, 0, none⟩)] .returning w fun e u' w' => e = .returned (.tuple #[]) ∧ u' = .returning ∧ w' = w := by
 refine callsD_of_wpS Tryz.func53 rfl fun c₀ cs hu => ?_
 apply wpS_seq
 apply wpS_region
 simp [wpOpsS, go_sem, recoverD, hu, Tryz.ntmps53, Exit.thenS]
 apply wpS_seq
 apply wpS_region
 simp [wpOpsS, go_sem, Exit.thenS]
 refine wpS_cond (t := false) (by simp [Act.eval, Array.replicate]) ?_
 simp only [Bool.false_eq_true, if_false]
 refine wpS_of_wp (wp_skip ?_)
 cases c₀
 simp_all [bodyPostS, results, Tryz.results53, Exit.thenS]
theorem reply_ReadMessage.out {w W : World} {p q : Nat} {er y : Int} {x0 x1 x2 x3 x4 t0 t1 t4 t5 t6 t7 t8 t9 t10 t11 t12 t13 t14 t15 t16 t17 t18 t19 t20 t21 t22 t23 t24 t25 t26 t27 t28 t29 t30 t31 t32 t33 t34 t35 t36 t37 t38 t39 t40 t41 t42 t43 t44 t45 t46 t47 : Value} (hp : W.heap[p]? = some (.cells #[x0, x1, x2, x3, x4] 36 (0, 0))) (hq : W.heap[q]? = some (.cells #[.int .i64 y] 22 (0, 0))) (hb : Below w.heap.size w W) (gp : w.heap.size ≤ p) (gq : w.heap.size ≤ q) :
 bodyPostD Tryz.prog Tryz.f26 (fun e w' => ∃ v0_ v1_ : Value, e = .returned (.tuple #[.agg #[.int .i64 0, .int .i64 0, .int .i64 0, v0_, v1_], .int .i64 er]) ∧ Kd.R k60 60 w' w.heap.size (fun _ => True) v0_ [] ∧ Kd.R k78 78 w' w.heap.size (fun _ => True) v1_ [] ∧ Below w.heap.size w w') (.panic (wr_ er)) { tmps := #[t0, t1, .pointer (some ⟨p, 0, none⟩), .pointer (some ⟨q, 0, none⟩), t4, t5, t6, t7, t8, t9, t10, t11, t12, t13, t14, t15, t16, t17, t18, t19, t20, t21, t22, t23, t24, t25, t26, t27, t28, t29, t30, t31, t32, t33, t34, t35, t36, t37, t38, t39, t40, t41, t42, t43, t44, t45, t46, t47], defers := [{ target := .fn (.func 53) #[.pointer (some ⟨p, 0, none⟩), .pointer (some ⟨q, 0, none⟩)], args := #[] }] } W := by
 have hne : p ≠ q := blk_ne hp hq (by decide)
 refine leaves_cons (f := 53) (args := #[.pointer (some ⟨p, 0, none⟩), .pointer (some ⟨q, 0, none⟩)]) (by simp) (by simp [go_sem]) ?_
 refine (reply_ReadMessage.catch p q er _ _ _ _ _ _ _ hp hq).mono ?_
 rintro e u' w'' ⟨rfl, rfl, w6, hb6, rfl⟩
 have cp0 := (blk_cell (blk_far (blk_set (blk_set (blk_set (blk_set (blk_set (blk_below hp hb6) 0 (.int .i64 0)) 1 (.int .i64 0)) 2 (.int .i64 0)) 3 (.slice none 0 0)) 4 (.slice none 0 0)) (p := ⟨q, 0, none⟩) hne (.int .i64 er)) 0).trans rfl
 have cp1 := (blk_cell (blk_far (blk_set (blk_set (blk_set (blk_set (blk_set (blk_below hp hb6) 0 (.int .i64 0)) 1 (.int .i64 0)) 2 (.int .i64 0)) 3 (.slice none 0 0)) 4 (.slice none 0 0)) (p := ⟨q, 0, none⟩) hne (.int .i64 er)) 1).trans rfl
 have cp2 := (blk_cell (blk_far (blk_set (blk_set (blk_set (blk_set (blk_set (blk_below hp hb6) 0 (.int .i64 0)) 1 (.int .i64 0)) 2 (.int .i64 0)) 3 (.slice none 0 0)) 4 (.slice none 0 0)) (p := ⟨q, 0, none⟩) hne (.int .i64 er)) 2).trans rfl
 have cp3 := (blk_cell (blk_far (blk_set (blk_set (blk_set (blk_set (blk_set (blk_below hp hb6) 0 (.int .i64 0)) 1 (.int .i64 0)) 2 (.int .i64 0)) 3 (.slice none 0 0)) 4 (.slice none 0 0)) (p := ⟨q, 0, none⟩) hne (.int .i64 er)) 3).trans rfl
 have cp4 := (blk_cell (blk_far (blk_set (blk_set (blk_set (blk_set (blk_set (blk_below hp hb6) 0 (.int .i64 0)) 1 (.int .i64 0)) 2 (.int .i64 0)) 3 (.slice none 0 0)) 4 (.slice none 0 0)) (p := ⟨q, 0, none⟩) hne (.int .i64 er)) 4).trans rfl
 have cq := (blk_cell (blk_set (blk_far (blk_far (blk_far (blk_far (blk_far (blk_below hq hb6) (p := ⟨p, 0, none⟩) hne.symm (.int .i64 0)) (p := ⟨p, 1, none⟩) hne.symm (.int .i64 0)) (p := ⟨p, 2, none⟩) hne.symm (.int .i64 0)) (p := ⟨p, 3, none⟩) hne.symm (.slice none 0 0)) (p := ⟨p, 4, none⟩) hne.symm (.slice none 0 0)) 0 (.int .i64 er)) 0).trans rfl
 have HB2 := (below_set (j := 0) (v := .int .i64 er) (below_set (j := 4) (v := .slice none 0 0) (below_set (j := 3) (v := .slice none 0 0) (below_set (j := 2) (v := .int .i64 0) (below_set (j := 1) (v := .int .i64 0) (below_set (j := 0) (v := .int .i64 0) (below_step hb hb6) gp) gp) gp) gp) gp) gq)
 simp [Leaves, settle, results, Tryz.results26, go_sem, cp0, cp1, cp2, cp3, cp4, cq, HB2]
 (try exact ⟨_, _, ⟨rfl, rfl⟩, Kd.R_nil _ _ _ _ _, Kd.R_nil _ _ _ _ _⟩)
def reply_ReadMessage.f (k : Nat) (a0 : ByteArray) : Option (Int × Int × Int × (List (S60)) × (List (S78)) × Int) := (word_Split.f k a0 32).bind fun t => ((reply_kinds.f).bind fun ks => (if ks.length ≤ 100 then (if (reply_words.g t 3 ks 0).isSome = true then ((sat_Read.f (rdOf ByteArray.empty t 1)).bind fun b => (if b.2 = 0 then (if b.1 < 0 then (some (0, 0, 0, [], [], 3)) else (if 2147483648 ≤ b.1 then (some (0, 0, 0, [], [], 3)) else ((sat_Read.f (rdOf ByteArray.empty t 2)).bind fun c => (if c.2 = 0 then (if c.1 < 0 then (some (0, 0, 0, [], [], 3)) else (if ((((reply_words.g t 3 ks 0).getD 0 : Nat) : Int) + 1) = 2 then ((diff_Parse.f k (rdOf ByteArray.empty t 3)).bind fun d => (if d.2 = 0 then (some (((((reply_words.g t 3 ks 0).getD 0 : Nat) : Int) + 1), b.1, c.1, [], d.1, 0)) else (some (0, 0, 0, [], [], d.2)))) else ((row_Parse.f k (rdOf ByteArray.empty t 3)).bind fun d => (if d.2 = 0 then (some (((((reply_words.g t 3 ks 0).getD 0 : Nat) : Int) + 1), b.1, c.1, d.1, [], 0)) else (some (0, 0, 0, [], [], d.2)))))) else (some (0, 0, 0, [], [], c.2)))))) else (some (0, 0, 0, [], [], b.2)))) else (some (0, 0, 0, [], [], 2))) else none))
theorem reply_ReadMessage.mono : ∀ a0 k, LeO (reply_ReadMessage.f k a0) (reply_ReadMessage.f (k + 1) a0) := by
 intro a0 k
 unfold reply_ReadMessage.f
 exact lo
instance reply_ReadMessage.mI {a0 k} : LeC (reply_ReadMessage.f k a0) (reply_ReadMessage.f (k + 1) a0) := ⟨reply_ReadMessage.mono _ _⟩
theorem reply_ReadMessage.calls (k : Nat) (a0 : ByteArray) (r1 : Int) (r2 : Int) (r3 : Int) (r4 : List (S60)) (r5 : List (S78)) (r6 : Int) (w : World) (hL : LD w) (h : reply_ReadMessage.f k a0 = some (r1, r2, r3, r4, r5, r6)) :
 Calls Tryz.prog 26 #[.string a0] w fun e w' => ∃ v3_ v4_ : Value, e = .returned (.tuple #[.agg #[.int .i64 r1, .int .i64 r2, .int .i64 r3, v3_, v4_], .int .i64 r6]) ∧ Kd.R k60 60 w' w.heap.size (fun _ => True) v3_ r4 ∧ Kd.R k78 78 w' w.heap.size (fun _ => True) v4_ r5 ∧ Below w.heap.size w w' := by
 unfold reply_ReadMessage.f at h
 obtain ⟨t, hs, h⟩ := Option.bind_eq_some_iff.mp h
 obtain ⟨ks, hks, h⟩ := Option.bind_eq_some_iff.mp h
 by_cases hkl : ks.length ≤ 100
 case neg => rw [if_neg hkl] at h; exact absurd h (by simp)
 rw [if_pos hkl] at h
 have hmf : ∀ (fn : Fn) (first cap : Array Value) (w : World), (Instr.makeFunc fn first cap).run Tryz.prog w = .ok (.func fn first cap) w := fun _ _ _ _ => rfl
 have hu56 := Tryz.underlying56
 have hu33 := Tryz.underlying33
 have hu36 := Tryz.underlying36
 have HB := Aside0.mk (Below.refl w.heap.size w)
 have HH := Aside0.mk h
 clear h
 go_enter_defers Tryz.func26, Tryz.ntmps26
 go_wp2_with (first | ((with_reducible refine gate_dst (N := 2) rfl ?_); refine bx (N := 2) #[.int .i64 0, .int .i64 0, .int .i64 0, .slice none 0 0, .slice none 0 0] 36 ?_; intro p hp w1 hk1 hb1; have BP := Aside0.mk hk1; have GP := Aside0.mk (show w.heap.size ≤ p by rw [hp]; exact HB.out.size); replace HB := Aside0.mk (below_step HB.out hb1); clear hk1 hp hb1) | ((with_reducible refine gate_dst (N := 3) rfl ?_); refine bx (N := 3) #[.int .i64 0] 22 ?_; intro q hq w2 hk1 hb1; have BQ := Aside0.mk hk1; have GQ := Aside0.mk (show w.heap.size ≤ q by rw [hq]; exact HB.out.size); replace BP := Aside0.mk (blk_below BP.out hb1); replace HB := Aside0.mk (below_step HB.out hb1); clear hk1 hq hb1) | ((go_at_call 41); (with_reducible refine (reply_kinds.calls ks _ hks).mono ?_); rintro e w4 ⟨v4_, rfl, ho4, hb4⟩; have HO4 := Aside0.mk ho4; replace BP := Aside0.mk (blk_below BP.out hb4); replace BQ := Aside0.mk (blk_below BQ.out hb4); replace HB := Aside0.mk (below_step HB.out hb4); obtain ⟨A4, c4, e4⟩ := Kd.R_slice ho4; subst e4; clear ho4 hb4))
 cases hg : reply_words.g t 3 ks 0 with
 | none =>
  have h := HH.out
  clear HH
  rw [hg, if_neg (by simp)] at h
  injection h with h
  injection h with h1 h
  injection h with h2 h
  injection h with h3 h
  injection h with h4 h
  injection h with h5 h6
  subst h1 h2 h3 h4 h5 h6
  refine (reply_words.both k a0 3 (by decide) A4 c4 ks t _ (Kd.R_reads' HO4.out).2.2 (Kd.R_reads' HO4.out).2.1 hkl hs).mono ?_
  rintro e w5 ⟨ho, hb'⟩
  rw [hg] at ho
  have ho2 : e = .panicked (wr_ 2) := ho
  subst ho2
  skip
  replace BP := Aside0.mk (blk_below BP.out hb'); replace BQ := Aside0.mk (blk_below BQ.out hb'); replace HB := Aside0.mk (below_step HB.out hb')
  go_wp2_with fail
  exact reply_ReadMessage.out BP.out BQ.out HB.out GP.out GQ.out
 | some i =>
  have h := HH.out
  clear HH
  rw [hg, if_pos (show (some i).isSome = true from rfl)] at h
  have HH := Aside0.mk h
  clear h
  refine (reply_words.both k a0 3 (by decide) A4 c4 ks t _ (Kd.R_reads' HO4.out).2.2 (Kd.R_reads' HO4.out).2.1 hkl hs).mono ?_
  rintro e w5 ⟨ho, hb'⟩
  rw [hg] at ho
  obtain ⟨v1_, rfl, hq⟩ := ho
  skip
  replace BP := Aside0.mk (blk_below BP.out hb'); replace BQ := Aside0.mk (blk_below BQ.out hb'); replace HB := Aside0.mk (below_step HB.out hb')
  have hlt := (reply_words.g_some hg).1
  obtain ⟨y, hy⟩ : ∃ y : List ByteArray, y = t.drop 1 := ⟨_, rfl⟩
  have hyl : (y.length : Int) = 3 := by rw [hy, List.length_drop]; omega
  rw [← hy] at hq
  obtain ⟨A5, c5, e5, _⟩ := Kd.Q_slice hq
  subst e5
  have HQ := Aside0.mk hq
  have HY := Aside0.mk hy
  have q0 : ((0 : Int) < (y.length : Int)) = True := eq_true (by omega)
  have qi0 : (0 < y.length) = True := eq_true (by omega)
  have q1 : ((1 : Int) < (y.length : Int)) = True := eq_true (by omega)
  have qi1 : (1 < y.length) = True := eq_true (by omega)
  have q2 : ((2 : Int) < (y.length : Int)) = True := eq_true (by omega)
  have qi2 : (2 < y.length) = True := eq_true (by omega)
  clear hq hb' hy
  have hne := blk_ne BP.out BQ.out (by decide)
  have hi := (reply_words.g_some hg).2
  have h := HH.out
  clear HH
  simp only [hg, Option.getD_some] at h
  obtain ⟨kd, hkd⟩ : ∃ kd : Int, (i : Int) + 1 = kd := ⟨_, rfl⟩
  rw [hkd] at h
  have hwk : wrap64 kd = kd := by unfold wrap64; omega
  have HH := Aside0.mk h
  clear h
  have hc1_ := (blk_cell BP.out 0).trans rfl; have hz1_ := blk_frozen BP.out 0; have HN_ := Aside0.mk (show (World.setCell _ ⟨p, 0, none⟩ (.int .i64 kd)).heap[p]? = some (.cells #[.int .i64 kd, .int .i64 0, .int .i64 0, .slice none 0 0, .slice none 0 0] 36 (0, 0)) from blk_set BP.out 0 (.int .i64 kd)); replace HQ := Aside0.mk (Kd.Q_set HQ.out BP.out (by decide) 0 (.int .i64 kd)); replace BQ := Aside0.mk (blk_far BQ.out (p := ⟨p, 0, none⟩) (hne.symm) (.int .i64 kd)); replace BP := HN_; clear HN_; replace HB := Aside0.mk (below_set (j := 0) (v := .int .i64 kd) HB.out GP.out)
  obtain ⟨ad10_, ea10_, hx10_⟩ := Kd.at_string (Kd.Q_reads' HQ.out).2.2 0 (by decide) (by omega)
  cases ea10_
  (try rw [show ((0 : Int)).toNat = 0 from rfl] at hx10_)
  (try rw [Addr.add_zero'] at hx10_)
  rw [HY.out, show rdOf ByteArray.empty (t.drop 1) 0 = rdOf ByteArray.empty t 1 from reply_words.rd1 t 0] at hx10_
  go_wp2_with fail
  have h := HH.out
  clear HH
  obtain ⟨⟨n0, er⟩, hA, h⟩ := Option.bind_eq_some_iff.mp h
  dsimp only at h
  by_cases c : er = 0
  case neg =>
   rw [if_neg c] at h
   injection h with h
   injection h with h1 h
   injection h with h2 h
   injection h with h3 h
   injection h with h4 h
   injection h with h5 h6
   subst h1 h2 h3 h4 h5 h6
   refine (reply_number.bad1 (rdOf ByteArray.empty t 1) 2147483648 n0 er _ (LD.below hL HB.out) hA c).mono ?_
   rintro e w20 ⟨rfl, hb'⟩
   replace BP := Aside0.mk (blk_below BP.out hb'); replace BQ := Aside0.mk (blk_below BQ.out hb'); replace HQ := Aside0.mk (Kd.Q_below HQ.out hb'); replace HB := Aside0.mk (below_step HB.out hb')
   go_wp2_with fail
   exact reply_ReadMessage.out BP.out BQ.out HB.out GP.out GQ.out
  rw [if_pos c] at h
  subst c
  by_cases c : n0 < 0
  case pos =>
   rw [if_pos c] at h
   injection h with h
   injection h with h1 h
   injection h with h2 h
   injection h with h3 h
   injection h with h4 h
   injection h with h5 h6
   subst h1 h2 h3 h4 h5 h6
   refine (reply_number.bad2 (rdOf ByteArray.empty t 1) 2147483648 n0 _ (LD.below hL HB.out) hA (Or.inl c)).mono ?_
   rintro e w20 ⟨rfl, hb'⟩
   replace BP := Aside0.mk (blk_below BP.out hb'); replace BQ := Aside0.mk (blk_below BQ.out hb'); replace HQ := Aside0.mk (Kd.Q_below HQ.out hb'); replace HB := Aside0.mk (below_step HB.out hb')
   go_wp2_with fail
   exact reply_ReadMessage.out BP.out BQ.out HB.out GP.out GQ.out
  rw [if_neg c] at h
  have hn6 := c
  clear c
  by_cases c : 2147483648 ≤ n0
  case pos =>
   rw [if_pos c] at h
   injection h with h
   injection h with h1 h
   injection h with h2 h
   injection h with h3 h
   injection h with h4 h
   injection h with h5 h6
   subst h1 h2 h3 h4 h5 h6
   refine (reply_number.bad2 (rdOf ByteArray.empty t 1) 2147483648 n0 _ (LD.below hL HB.out) hA (Or.inr ⟨by decide, c⟩)).mono ?_
   rintro e w20 ⟨rfl, hb'⟩
   replace BP := Aside0.mk (blk_below BP.out hb'); replace BQ := Aside0.mk (blk_below BQ.out hb'); replace HQ := Aside0.mk (Kd.Q_below HQ.out hb'); replace HB := Aside0.mk (below_step HB.out hb')
   go_wp2_with fail
   exact reply_ReadMessage.out BP.out BQ.out HB.out GP.out GQ.out
  rw [if_neg c] at h
  have hn15 := c
  clear c
  have HH := Aside0.mk h
  clear h
  refine (reply_number.good (rdOf ByteArray.empty t 1) 2147483648 n0 _ (LD.below hL HB.out) hA (by omega) (by omega)).mono ?_
  rintro e w20 ⟨rfl, hb'⟩
  replace BP := Aside0.mk (blk_below BP.out hb'); replace BQ := Aside0.mk (blk_below BQ.out hb'); replace HQ := Aside0.mk (Kd.Q_below HQ.out hb'); replace HB := Aside0.mk (below_step HB.out hb')
  clear hb' hA
  have hwn : wrap64 n0 = n0 := by unfold wrap64; omega
  have hc2_ := (blk_cell BP.out 1).trans rfl; have hz2_ := blk_frozen BP.out 1; have HN_ := Aside0.mk (show (World.setCell _ ⟨p, 1, none⟩ (.int .i64 n0)).heap[p]? = some (.cells #[.int .i64 kd, .int .i64 n0, .int .i64 0, .slice none 0 0, .slice none 0 0] 36 (0, 0)) from blk_set BP.out 1 (.int .i64 n0)); replace HQ := Aside0.mk (Kd.Q_set HQ.out BP.out (by decide) 1 (.int .i64 n0)); replace BQ := Aside0.mk (blk_far BQ.out (p := ⟨p, 1, none⟩) (hne.symm) (.int .i64 n0)); replace BP := HN_; clear HN_; replace HB := Aside0.mk (below_set (j := 1) (v := .int .i64 n0) HB.out GP.out)
  obtain ⟨ad11_, ea11_, hx11_⟩ := Kd.at_string (Kd.Q_reads' HQ.out).2.2 1 (by decide) (by omega)
  cases ea11_
  simp only [show (1 : Int).toNat = 1 from rfl, Nat.reduceMul, Nat.reduceEqDiff, Go.Addr.add, ↓reduceIte] at hx11_
  rw [HY.out, show rdOf ByteArray.empty (t.drop 1) 1 = rdOf ByteArray.empty t 2 from reply_words.rd1 t 1] at hx11_
  go_wp2_with fail
  have h := HH.out
  clear HH
  obtain ⟨⟨n1, er⟩, hA, h⟩ := Option.bind_eq_some_iff.mp h
  dsimp only at h
  by_cases c : er = 0
  case neg =>
   rw [if_neg c] at h
   injection h with h
   injection h with h1 h
   injection h with h2 h
   injection h with h3 h
   injection h with h4 h
   injection h with h5 h6
   subst h1 h2 h3 h4 h5 h6
   refine (reply_number.bad1 (rdOf ByteArray.empty t 2) 0 n1 er _ (LD.below hL HB.out) hA c).mono ?_
   rintro e w21 ⟨rfl, hb'⟩
   replace BP := Aside0.mk (blk_below BP.out hb'); replace BQ := Aside0.mk (blk_below BQ.out hb'); replace HQ := Aside0.mk (Kd.Q_below HQ.out hb'); replace HB := Aside0.mk (below_step HB.out hb')
   go_wp2_with fail
   exact reply_ReadMessage.out BP.out BQ.out HB.out GP.out GQ.out
  rw [if_pos c] at h
  subst c
  by_cases c : n1 < 0
  case pos =>
   rw [if_pos c] at h
   injection h with h
   injection h with h1 h
   injection h with h2 h
   injection h with h3 h
   injection h with h4 h
   injection h with h5 h6
   subst h1 h2 h3 h4 h5 h6
   refine (reply_number.bad2 (rdOf ByteArray.empty t 2) 0 n1 _ (LD.below hL HB.out) hA (Or.inl c)).mono ?_
   rintro e w21 ⟨rfl, hb'⟩
   replace BP := Aside0.mk (blk_below BP.out hb'); replace BQ := Aside0.mk (blk_below BQ.out hb'); replace HQ := Aside0.mk (Kd.Q_below HQ.out hb'); replace HB := Aside0.mk (below_step HB.out hb')
   go_wp2_with fail
   exact reply_ReadMessage.out BP.out BQ.out HB.out GP.out GQ.out
  rw [if_neg c] at h
  have hn6 := c
  clear c
  have HH := Aside0.mk h
  clear h
  refine (reply_number.good (rdOf ByteArray.empty t 2) 0 n1 _ (LD.below hL HB.out) hA (by omega) (by omega)).mono ?_
  rintro e w21 ⟨rfl, hb'⟩
  replace BP := Aside0.mk (blk_below BP.out hb'); replace BQ := Aside0.mk (blk_below BQ.out hb'); replace HQ := Aside0.mk (Kd.Q_below HQ.out hb'); replace HB := Aside0.mk (below_step HB.out hb')
  clear hb' hA
  have hc3_ := (blk_cell BP.out 2).trans rfl; have hz3_ := blk_frozen BP.out 2; have HN_ := Aside0.mk (show (World.setCell _ ⟨p, 2, none⟩ (.int .i64 n1)).heap[p]? = some (.cells #[.int .i64 kd, .int .i64 n0, .int .i64 n1, .slice none 0 0, .slice none 0 0] 36 (0, 0)) from blk_set BP.out 2 (.int .i64 n1)); replace HQ := Aside0.mk (Kd.Q_set HQ.out BP.out (by decide) 2 (.int .i64 n1)); replace BQ := Aside0.mk (blk_far BQ.out (p := ⟨p, 2, none⟩) (hne.symm) (.int .i64 n1)); replace BP := HN_; clear HN_; replace HB := Aside0.mk (below_set (j := 2) (v := .int .i64 n1) HB.out GP.out)
  have hlk_ := (blk_cell BP.out 0).trans rfl
  obtain ⟨ad12_, ea12_, hx12_⟩ := Kd.at_string (Kd.Q_reads' HQ.out).2.2 2 (by decide) (by omega)
  cases ea12_
  simp only [show (2 : Int).toNat = 2 from rfl, Nat.reduceMul, Nat.reduceEqDiff, Go.Addr.add, ↓reduceIte] at hx12_
  rw [HY.out, show rdOf ByteArray.empty (t.drop 1) 2 = rdOf ByteArray.empty t 3 from reply_words.rd1 t 2] at hx12_
  by_cases ck : kd = 2
  ·
   have hkb : (kd == 2) = true := beq_iff_eq.2 ck
   have h := HH.out
   clear HH
   rw [if_pos ck] at h
   have HH := Aside0.mk h
   clear h ck
   go_wp2_with fail
   have h := HH.out
   clear HH
   obtain ⟨⟨rs, er⟩, hR, h⟩ := Option.bind_eq_some_iff.mp h
   dsimp only at h
   have HH := Aside0.mk h
   clear h
   refine (diff_Parse.calls k (rdOf ByteArray.empty t 3) rs er _ (LD.below hL HB.out) hR).mono ?_
   rintro e w7 ⟨v7_, rfl, ho7, hb'⟩
   have ho8 := Kd.R_lower ho7 (below_size HB.out)
   replace BP := Aside0.mk (blk_below BP.out hb'); replace BQ := Aside0.mk (blk_below BQ.out hb'); replace HQ := Aside0.mk (Kd.Q_below HQ.out hb'); replace HB := Aside0.mk (below_step HB.out hb')
   have HO := Aside0.mk ho8
   obtain ⟨A7, c7, e7⟩ := Kd.R_slice ho8
   subst e7
   clear ho7 ho8 hb'
   have hc50_ := (blk_cell BP.out 4).trans rfl; have hz50_ := blk_frozen BP.out 4; have HN_ := Aside0.mk (show (World.setCell _ ⟨p, 4, none⟩ (.slice A7 rs.length c7)).heap[p]? = some (.cells #[.int .i64 kd, .int .i64 n0, .int .i64 n1, .slice none 0 0, .slice A7 rs.length c7] 36 (0, 0)) from blk_set BP.out 4 (.slice A7 rs.length c7)); replace HQ := Aside0.mk (Kd.Q_set HQ.out BP.out (by decide) 4 (.slice A7 rs.length c7)); replace HO := Aside0.mk (Kd.R_set HO.out BP.out (by decide) 4 (.slice A7 rs.length c7)); replace BQ := Aside0.mk (blk_far BQ.out (p := ⟨p, 4, none⟩) (hne.symm) (.slice A7 rs.length c7)); replace BP := HN_; clear HN_; replace HB := Aside0.mk (below_set (j := 4) (v := .slice A7 rs.length c7) HB.out GP.out)
   have hc51_ := (blk_cell BQ.out 0).trans rfl; have hz51_ := blk_frozen BQ.out 0; have HN_ := Aside0.mk (show (World.setCell _ ⟨q, 0, none⟩ (.int .i64 er)).heap[q]? = some (.cells #[.int .i64 er] 22 (0, 0)) from blk_set BQ.out 0 (.int .i64 er)); replace HQ := Aside0.mk (Kd.Q_set HQ.out BQ.out (by decide) 0 (.int .i64 er)); replace HO := Aside0.mk (Kd.R_set HO.out BQ.out (by decide) 0 (.int .i64 er)); replace BP := Aside0.mk (blk_far BP.out (p := ⟨q, 0, none⟩) (hne) (.int .i64 er)); replace BQ := HN_; clear HN_; replace HB := Aside0.mk (below_set (j := 0) (v := .int .i64 er) HB.out GQ.out)
   have hl60_ := (blk_cell BQ.out 0).trans rfl
   go_wp2_with fail
   by_cases c : er = 0
   case neg =>
    have h := HH.out
    rw [if_neg c] at h
    injection h with h
    injection h with h1 h
    injection h with h2 h
    injection h with h3 h
    injection h with h4 h
    injection h with h5 h6
    subst h1 h2 h3 h4 h5 h6
    refine (reply_must.bad er c _).mono ?_
    rintro e w8 ⟨rfl, rfl⟩
    go_wp2_with fail
    exact reply_ReadMessage.out BP.out BQ.out HB.out GP.out GQ.out
   subst c
   have h := HH.out
   rw [if_pos rfl] at h
   injection h with h
   injection h with h1 h
   injection h with h2 h
   injection h with h3 h
   injection h with h4 h
   injection h with h5 h6
   subst h1 h2 h3 h4 h5 h6
   refine (reply_must.good _).mono ?_
   rintro e w8 ⟨rfl, rfl⟩
   have hl61_ := (blk_cell BP.out 0).trans rfl
   have hl62_ := (blk_cell BP.out 1).trans rfl
   have hl63_ := (blk_cell BP.out 2).trans rfl
   have hl64_ := (blk_cell BP.out 3).trans rfl
   have hl65_ := (blk_cell BP.out 4).trans rfl
   have hc70_ := (blk_cell BP.out 0).trans rfl; have hz70_ := blk_frozen BP.out 0; have HN_ := Aside0.mk (show (World.setCell _ ⟨p, 0, none⟩ (.int .i64 kd)).heap[p]? = some (.cells #[.int .i64 kd, .int .i64 n0, .int .i64 n1, .slice none 0 0, .slice A7 rs.length c7] 36 (0, 0)) from blk_set BP.out 0 (.int .i64 kd)); replace HQ := Aside0.mk (Kd.Q_set HQ.out BP.out (by decide) 0 (.int .i64 kd)); replace HO := Aside0.mk (Kd.R_set HO.out BP.out (by decide) 0 (.int .i64 kd)); replace BQ := Aside0.mk (blk_far BQ.out (p := ⟨p, 0, none⟩) (hne.symm) (.int .i64 kd)); replace BP := HN_; clear HN_; replace HB := Aside0.mk (below_set (j := 0) (v := .int .i64 kd) HB.out GP.out)
   have hc71_ := (blk_cell BP.out 1).trans rfl; have hz71_ := blk_frozen BP.out 1; have HN_ := Aside0.mk (show (World.setCell _ ⟨p, 1, none⟩ (.int .i64 n0)).heap[p]? = some (.cells #[.int .i64 kd, .int .i64 n0, .int .i64 n1, .slice none 0 0, .slice A7 rs.length c7] 36 (0, 0)) from blk_set BP.out 1 (.int .i64 n0)); replace HQ := Aside0.mk (Kd.Q_set HQ.out BP.out (by decide) 1 (.int .i64 n0)); replace HO := Aside0.mk (Kd.R_set HO.out BP.out (by decide) 1 (.int .i64 n0)); replace BQ := Aside0.mk (blk_far BQ.out (p := ⟨p, 1, none⟩) (hne.symm) (.int .i64 n0)); replace BP := HN_; clear HN_; replace HB := Aside0.mk (below_set (j := 1) (v := .int .i64 n0) HB.out GP.out)
   have hc72_ := (blk_cell BP.out 2).trans rfl; have hz72_ := blk_frozen BP.out 2; have HN_ := Aside0.mk (show (World.setCell _ ⟨p, 2, none⟩ (.int .i64 n1)).heap[p]? = some (.cells #[.int .i64 kd, .int .i64 n0, .int .i64 n1, .slice none 0 0, .slice A7 rs.length c7] 36 (0, 0)) from blk_set BP.out 2 (.int .i64 n1)); replace HQ := Aside0.mk (Kd.Q_set HQ.out BP.out (by decide) 2 (.int .i64 n1)); replace HO := Aside0.mk (Kd.R_set HO.out BP.out (by decide) 2 (.int .i64 n1)); replace BQ := Aside0.mk (blk_far BQ.out (p := ⟨p, 2, none⟩) (hne.symm) (.int .i64 n1)); replace BP := HN_; clear HN_; replace HB := Aside0.mk (below_set (j := 2) (v := .int .i64 n1) HB.out GP.out)
   have hc73_ := (blk_cell BP.out 3).trans rfl; have hz73_ := blk_frozen BP.out 3; have HN_ := Aside0.mk (show (World.setCell _ ⟨p, 3, none⟩ (.slice none 0 0)).heap[p]? = some (.cells #[.int .i64 kd, .int .i64 n0, .int .i64 n1, .slice none 0 0, .slice A7 rs.length c7] 36 (0, 0)) from blk_set BP.out 3 (.slice none 0 0)); replace HQ := Aside0.mk (Kd.Q_set HQ.out BP.out (by decide) 3 (.slice none 0 0)); replace HO := Aside0.mk (Kd.R_set HO.out BP.out (by decide) 3 (.slice none 0 0)); replace BQ := Aside0.mk (blk_far BQ.out (p := ⟨p, 3, none⟩) (hne.symm) (.slice none 0 0)); replace BP := HN_; clear HN_; replace HB := Aside0.mk (below_set (j := 3) (v := .slice none 0 0) HB.out GP.out)
   have hc74_ := (blk_cell BP.out 4).trans rfl; have hz74_ := blk_frozen BP.out 4; have HN_ := Aside0.mk (show (World.setCell _ ⟨p, 4, none⟩ (.slice A7 rs.length c7)).heap[p]? = some (.cells #[.int .i64 kd, .int .i64 n0, .int .i64 n1, .slice none 0 0, .slice A7 rs.length c7] 36 (0, 0)) from blk_set BP.out 4 (.slice A7 rs.length c7)); replace HQ := Aside0.mk (Kd.Q_set HQ.out BP.out (by decide) 4 (.slice A7 rs.length c7)); replace HO := Aside0.mk (Kd.R_set HO.out BP.out (by decide) 4 (.slice A7 rs.length c7)); replace BQ := Aside0.mk (blk_far BQ.out (p := ⟨p, 4, none⟩) (hne.symm) (.slice A7 rs.length c7)); replace BP := HN_; clear HN_; replace HB := Aside0.mk (below_set (j := 4) (v := .slice A7 rs.length c7) HB.out GP.out)
   have hc80_ := (blk_cell BQ.out 0).trans rfl; have hz80_ := blk_frozen BQ.out 0; have HN_ := Aside0.mk (show (World.setCell _ ⟨q, 0, none⟩ (.int .i64 0)).heap[q]? = some (.cells #[.int .i64 0] 22 (0, 0)) from blk_set BQ.out 0 (.int .i64 0)); replace HQ := Aside0.mk (Kd.Q_set HQ.out BQ.out (by decide) 0 (.int .i64 0)); replace HO := Aside0.mk (Kd.R_set HO.out BQ.out (by decide) 0 (.int .i64 0)); replace BP := Aside0.mk (blk_far BP.out (p := ⟨q, 0, none⟩) (hne) (.int .i64 0)); replace BQ := HN_; clear HN_; replace HB := Aside0.mk (below_set (j := 0) (v := .int .i64 0) HB.out GQ.out)
   go_wp2_with fail
   refine leaves_cons (f := 53) (args := #[.pointer (some ⟨p, 0, none⟩), .pointer (some ⟨q, 0, none⟩)]) (by simp) (by simp [go_sem]) ?_
   refine (reply_ReadMessage.idle p q _).mono ?_
   rintro e u' w'' ⟨rfl, rfl, rfl⟩
   have cp0 := (blk_cell BP.out 0).trans rfl
   have cp1 := (blk_cell BP.out 1).trans rfl
   have cp2 := (blk_cell BP.out 2).trans rfl
   have cp3 := (blk_cell BP.out 3).trans rfl
   have cp4 := (blk_cell BP.out 4).trans rfl
   have cq := (blk_cell BQ.out 0).trans rfl
   simp [Leaves, settle, results, Tryz.results26, go_sem, cp0, cp1, cp2, cp3, cp4, cq, HB.out]
   (try exact ⟨_, _, ⟨rfl, rfl⟩, Kd.R_nil _ _ _ _ _, HO.out⟩)
  ·
   have hkb : (kd == 2) = false := beq_eq_false_iff_ne.2 ck
   have h := HH.out
   clear HH
   rw [if_neg ck] at h
   have HH := Aside0.mk h
   clear h ck
   go_wp2_with fail
   have h := HH.out
   clear HH
   obtain ⟨⟨rs, er⟩, hR, h⟩ := Option.bind_eq_some_iff.mp h
   dsimp only at h
   have HH := Aside0.mk h
   clear h
   refine (row_Parse.calls k (rdOf ByteArray.empty t 3) rs er _ (LD.below hL HB.out) hR).mono ?_
   rintro e w7 ⟨v7_, rfl, ho7, hb'⟩
   have ho8 := Kd.R_lower ho7 (below_size HB.out)
   replace BP := Aside0.mk (blk_below BP.out hb'); replace BQ := Aside0.mk (blk_below BQ.out hb'); replace HQ := Aside0.mk (Kd.Q_below HQ.out hb'); replace HB := Aside0.mk (below_step HB.out hb')
   have HO := Aside0.mk ho8
   obtain ⟨A7, c7, e7⟩ := Kd.R_slice ho8
   subst e7
   clear ho7 ho8 hb'
   have hc50_ := (blk_cell BP.out 3).trans rfl; have hz50_ := blk_frozen BP.out 3; have HN_ := Aside0.mk (show (World.setCell _ ⟨p, 3, none⟩ (.slice A7 rs.length c7)).heap[p]? = some (.cells #[.int .i64 kd, .int .i64 n0, .int .i64 n1, .slice A7 rs.length c7, .slice none 0 0] 36 (0, 0)) from blk_set BP.out 3 (.slice A7 rs.length c7)); replace HQ := Aside0.mk (Kd.Q_set HQ.out BP.out (by decide) 3 (.slice A7 rs.length c7)); replace HO := Aside0.mk (Kd.R_set HO.out BP.out (by decide) 3 (.slice A7 rs.length c7)); replace BQ := Aside0.mk (blk_far BQ.out (p := ⟨p, 3, none⟩) (hne.symm) (.slice A7 rs.length c7)); replace BP := HN_; clear HN_; replace HB := Aside0.mk (below_set (j := 3) (v := .slice A7 rs.length c7) HB.out GP.out)
   have hc51_ := (blk_cell BQ.out 0).trans rfl; have hz51_ := blk_frozen BQ.out 0; have HN_ := Aside0.mk (show (World.setCell _ ⟨q, 0, none⟩ (.int .i64 er)).heap[q]? = some (.cells #[.int .i64 er] 22 (0, 0)) from blk_set BQ.out 0 (.int .i64 er)); replace HQ := Aside0.mk (Kd.Q_set HQ.out BQ.out (by decide) 0 (.int .i64 er)); replace HO := Aside0.mk (Kd.R_set HO.out BQ.out (by decide) 0 (.int .i64 er)); replace BP := Aside0.mk (blk_far BP.out (p := ⟨q, 0, none⟩) (hne) (.int .i64 er)); replace BQ := HN_; clear HN_; replace HB := Aside0.mk (below_set (j := 0) (v := .int .i64 er) HB.out GQ.out)
   have hl60_ := (blk_cell BQ.out 0).trans rfl
   go_wp2_with fail
   by_cases c : er = 0
   case neg =>
    have h := HH.out
    rw [if_neg c] at h
    injection h with h
    injection h with h1 h
    injection h with h2 h
    injection h with h3 h
    injection h with h4 h
    injection h with h5 h6
    subst h1 h2 h3 h4 h5 h6
    refine (reply_must.bad er c _).mono ?_
    rintro e w8 ⟨rfl, rfl⟩
    go_wp2_with fail
    exact reply_ReadMessage.out BP.out BQ.out HB.out GP.out GQ.out
   subst c
   have h := HH.out
   rw [if_pos rfl] at h
   injection h with h
   injection h with h1 h
   injection h with h2 h
   injection h with h3 h
   injection h with h4 h
   injection h with h5 h6
   subst h1 h2 h3 h4 h5 h6
   refine (reply_must.good _).mono ?_
   rintro e w8 ⟨rfl, rfl⟩
   have hl61_ := (blk_cell BP.out 0).trans rfl
   have hl62_ := (blk_cell BP.out 1).trans rfl
   have hl63_ := (blk_cell BP.out 2).trans rfl
   have hl64_ := (blk_cell BP.out 3).trans rfl
   have hl65_ := (blk_cell BP.out 4).trans rfl
   have hc70_ := (blk_cell BP.out 0).trans rfl; have hz70_ := blk_frozen BP.out 0; have HN_ := Aside0.mk (show (World.setCell _ ⟨p, 0, none⟩ (.int .i64 kd)).heap[p]? = some (.cells #[.int .i64 kd, .int .i64 n0, .int .i64 n1, .slice A7 rs.length c7, .slice none 0 0] 36 (0, 0)) from blk_set BP.out 0 (.int .i64 kd)); replace HQ := Aside0.mk (Kd.Q_set HQ.out BP.out (by decide) 0 (.int .i64 kd)); replace HO := Aside0.mk (Kd.R_set HO.out BP.out (by decide) 0 (.int .i64 kd)); replace BQ := Aside0.mk (blk_far BQ.out (p := ⟨p, 0, none⟩) (hne.symm) (.int .i64 kd)); replace BP := HN_; clear HN_; replace HB := Aside0.mk (below_set (j := 0) (v := .int .i64 kd) HB.out GP.out)
   have hc71_ := (blk_cell BP.out 1).trans rfl; have hz71_ := blk_frozen BP.out 1; have HN_ := Aside0.mk (show (World.setCell _ ⟨p, 1, none⟩ (.int .i64 n0)).heap[p]? = some (.cells #[.int .i64 kd, .int .i64 n0, .int .i64 n1, .slice A7 rs.length c7, .slice none 0 0] 36 (0, 0)) from blk_set BP.out 1 (.int .i64 n0)); replace HQ := Aside0.mk (Kd.Q_set HQ.out BP.out (by decide) 1 (.int .i64 n0)); replace HO := Aside0.mk (Kd.R_set HO.out BP.out (by decide) 1 (.int .i64 n0)); replace BQ := Aside0.mk (blk_far BQ.out (p := ⟨p, 1, none⟩) (hne.symm) (.int .i64 n0)); replace BP := HN_; clear HN_; replace HB := Aside0.mk (below_set (j := 1) (v := .int .i64 n0) HB.out GP.out)
   have hc72_ := (blk_cell BP.out 2).trans rfl; have hz72_ := blk_frozen BP.out 2; have HN_ := Aside0.mk (show (World.setCell _ ⟨p, 2, none⟩ (.int .i64 n1)).heap[p]? = some (.cells #[.int .i64 kd, .int .i64 n0, .int .i64 n1, .slice A7 rs.length c7, .slice none 0 0] 36 (0, 0)) from blk_set BP.out 2 (.int .i64 n1)); replace HQ := Aside0.mk (Kd.Q_set HQ.out BP.out (by decide) 2 (.int .i64 n1)); replace HO := Aside0.mk (Kd.R_set HO.out BP.out (by decide) 2 (.int .i64 n1)); replace BQ := Aside0.mk (blk_far BQ.out (p := ⟨p, 2, none⟩) (hne.symm) (.int .i64 n1)); replace BP := HN_; clear HN_; replace HB := Aside0.mk (below_set (j := 2) (v := .int .i64 n1) HB.out GP.out)
   have hc73_ := (blk_cell BP.out 3).trans rfl; have hz73_ := blk_frozen BP.out 3; have HN_ := Aside0.mk (show (World.setCell _ ⟨p, 3, none⟩ (.slice A7 rs.length c7)).heap[p]? = some (.cells #[.int .i64 kd, .int .i64 n0, .int .i64 n1, .slice A7 rs.length c7, .slice none 0 0] 36 (0, 0)) from blk_set BP.out 3 (.slice A7 rs.length c7)); replace HQ := Aside0.mk (Kd.Q_set HQ.out BP.out (by decide) 3 (.slice A7 rs.length c7)); replace HO := Aside0.mk (Kd.R_set HO.out BP.out (by decide) 3 (.slice A7 rs.length c7)); replace BQ := Aside0.mk (blk_far BQ.out (p := ⟨p, 3, none⟩) (hne.symm) (.slice A7 rs.length c7)); replace BP := HN_; clear HN_; replace HB := Aside0.mk (below_set (j := 3) (v := .slice A7 rs.length c7) HB.out GP.out)
   have hc74_ := (blk_cell BP.out 4).trans rfl; have hz74_ := blk_frozen BP.out 4; have HN_ := Aside0.mk (show (World.setCell _ ⟨p, 4, none⟩ (.slice none 0 0)).heap[p]? = some (.cells #[.int .i64 kd, .int .i64 n0, .int .i64 n1, .slice A7 rs.length c7, .slice none 0 0] 36 (0, 0)) from blk_set BP.out 4 (.slice none 0 0)); replace HQ := Aside0.mk (Kd.Q_set HQ.out BP.out (by decide) 4 (.slice none 0 0)); replace HO := Aside0.mk (Kd.R_set HO.out BP.out (by decide) 4 (.slice none 0 0)); replace BQ := Aside0.mk (blk_far BQ.out (p := ⟨p, 4, none⟩) (hne.symm) (.slice none 0 0)); replace BP := HN_; clear HN_; replace HB := Aside0.mk (below_set (j := 4) (v := .slice none 0 0) HB.out GP.out)
   have hc80_ := (blk_cell BQ.out 0).trans rfl; have hz80_ := blk_frozen BQ.out 0; have HN_ := Aside0.mk (show (World.setCell _ ⟨q, 0, none⟩ (.int .i64 0)).heap[q]? = some (.cells #[.int .i64 0] 22 (0, 0)) from blk_set BQ.out 0 (.int .i64 0)); replace HQ := Aside0.mk (Kd.Q_set HQ.out BQ.out (by decide) 0 (.int .i64 0)); replace HO := Aside0.mk (Kd.R_set HO.out BQ.out (by decide) 0 (.int .i64 0)); replace BP := Aside0.mk (blk_far BP.out (p := ⟨q, 0, none⟩) (hne) (.int .i64 0)); replace BQ := HN_; clear HN_; replace HB := Aside0.mk (below_set (j := 0) (v := .int .i64 0) HB.out GQ.out)
   go_wp2_with fail
   refine leaves_cons (f := 53) (args := #[.pointer (some ⟨p, 0, none⟩), .pointer (some ⟨q, 0, none⟩)]) (by simp) (by simp [go_sem]) ?_
   refine (reply_ReadMessage.idle p q _).mono ?_
   rintro e u' w'' ⟨rfl, rfl, rfl⟩
   have cp0 := (blk_cell BP.out 0).trans rfl
   have cp1 := (blk_cell BP.out 1).trans rfl
   have cp2 := (blk_cell BP.out 2).trans rfl
   have cp3 := (blk_cell BP.out 3).trans rfl
   have cp4 := (blk_cell BP.out 4).trans rfl
   have cq := (blk_cell BQ.out 0).trans rfl
   simp [Leaves, settle, results, Tryz.results26, go_sem, cp0, cp1, cp2, cp3, cp4, cq, HB.out]
   (try exact ⟨_, _, ⟨rfl, rfl⟩, HO.out, Kd.R_nil _ _ _ _ _⟩)
end Go.Proofs.YteckidchnicjeaaGreatDoor.X
