/- Printed by a program of this session's own: what functions of the program compute, and that the machine computes it. No condition of its own. -/
import Derived.Test.YtofaindjbhmopaaM3
import Derived.Test.YtofaindjbhmopaaM4
import Derived.Test.YtofaindjbhmopaaM8
namespace Go.Proofs.Ytofaindjbhmopaa.X
open Go.RowKit Go.Proofs.YtofaindjbhmopaaW.PrintWords Go.Proofs.YtofaindjbhmopaaW.PrintLast Go.Proofs.YtofaindjbhmopaaW.PrintMore
attribute [local go_sem] max2_int min2_int max_two min_two max_three min_three max_four min_four
set_option linter.unusedVariables false
set_option linter.unusedSimpArgs false
set_option maxHeartbeats 8000000
set_option maxRecDepth 100000
def chain_Same.f (k : Nat) (l0 : List (S82)) (l1 : List (S82)) : Option (Bool) := (api_Version_57.f k l0 l1).bind fun t272 => (some t272)
theorem chain_Same.mono : ∀ a0 a1 k, LeO (chain_Same.f k a0 a1) (chain_Same.f (k + 1) a0 a1) := by
 intro a0 a1 k
 unfold chain_Same.f
 exact lo
instance chain_Same.mI {a0 a1 k} : LeC (chain_Same.f k a0 a1) (chain_Same.f (k + 1) a0 a1) := ⟨chain_Same.mono _ _ _⟩
theorem chain_Same.calls (k : Nat) (A0 : Option Addr) (c0 : Nat) (l0 : List (S82)) (A1 : Option Addr) (c1 : Nat) (l1 : List (S82)) (r : Bool) (w : World) (hr0 : Kd.C k82 w A0 l0.length l0) (hc0 : l0.length ≤ c0) (hr1 : Kd.C k82 w A1 l1.length l1) (hc1 : l1.length ≤ c1) (h : chain_Same.f k l0 l1 = some r) :
 Calls Try.prog 44 #[.slice A0 l0.length c0, .slice A1 l1.length c1] w fun e w' => e = .returned (.bool r) ∧ Drawn0 w w' := by
 have HR0 := Aside0.mk hr0
 have HC0 := Aside0.mk hc0
 clear hr0 hc0
 have HR1 := Aside0.mk hr1
 have HC1 := Aside0.mk hc1
 clear hr1 hc1
 have H : ((api_Version_57.f k l0 l1).bind fun t272 => (some t272)) = some r := h
 clear h
 obtain ⟨t272, A3, H⟩ := bs H
 try dsimp only at H
 obtain rfl := Option.some.inj H
 go_enter Try.func44, Try.ntmps44
 go_wp2_with (first | (refine gL (some 7) rfl Try.func57 #[.slice A0 l0.length c0, .slice A1 l1.length c1] ?_; (with_reducible refine (api_Version_57.calls k _ _ l0 _ _ l1 t272 _ ?side1 ?side2 ?side3 ?side4 A3.out).mono ?_); (case side1 => exact uC <| HR0.out); (case side2 => exact HC0.out); (case side3 => exact uC <| HR1.out); (case side4 => exact HC1.out); rintro e w' ⟨rfl, ⟨nd, rfl⟩⟩; refine ⟨_, rfl, ?_⟩))
 go_ret
 exact ⟨rs_, dr_⟩
def shard_Same_1.f (k : Nat) (a0_0 : Int) (a0_1 : ByteArray) (l0_2 : List (S82)) (a1_0 : Int) (a1_1 : ByteArray) (l1_2 : List (S82)) : Option (Bool) := (shard_order.f k a0_0 a0_1 l0_2 a1_0 a1_1 l1_2).bind fun t275 => (if t275 = 0 then ((chain_Same.f k l0_2 l1_2).bind fun t276 => (some t276)) else (some false))
theorem shard_Same_1.mono : ∀ a0 a1 a2 a3 a4 a5 k, LeO (shard_Same_1.f k a0 a1 a2 a3 a4 a5) (shard_Same_1.f (k + 1) a0 a1 a2 a3 a4 a5) := by
 intro a0 a1 a2 a3 a4 a5 k
 unfold shard_Same_1.f
 exact lo
instance shard_Same_1.mI {a0 a1 a2 a3 a4 a5 k} : LeC (shard_Same_1.f k a0 a1 a2 a3 a4 a5) (shard_Same_1.f (k + 1) a0 a1 a2 a3 a4 a5) := ⟨shard_Same_1.mono _ _ _ _ _ _ _⟩
theorem shard_Same_1.calls (k : Nat) (a0_0 : Int) (a0_1 : ByteArray) (A0_2 : Option Addr) (c0_2 : Nat) (l0_2 : List (S82)) (a1_0 : Int) (a1_1 : ByteArray) (A1_2 : Option Addr) (c1_2 : Nat) (l1_2 : List (S82)) (r : Bool) (w : World) (hr0_2 : Kd.C k82 w A0_2 l0_2.length l0_2) (hc0_2 : l0_2.length ≤ c0_2) (hr1_2 : Kd.C k82 w A1_2 l1_2.length l1_2) (hc1_2 : l1_2.length ≤ c1_2) (h : shard_Same_1.f k a0_0 a0_1 l0_2 a1_0 a1_1 l1_2 = some r) :
 Calls Try.prog 43 #[.agg #[.int .i64 a0_0, .string a0_1, .slice A0_2 l0_2.length c0_2], .agg #[.int .i64 a1_0, .string a1_1, .slice A1_2 l1_2.length c1_2]] w fun e w' => e = .returned (.bool r) ∧ Below w.heap.size w w' := by
 have hu59 := Try.underlying59
 have HR0_2 := Aside0.mk hr0_2
 have HC0_2 := Aside0.mk hc0_2
 clear hr0_2 hc0_2
 have HR1_2 := Aside0.mk hr1_2
 have HC1_2 := Aside0.mk hc1_2
 clear hr1_2 hc1_2
 have HB := Aside0.mk (Below.refl w.heap.size w)
 have H : ((shard_order.f k a0_0 a0_1 l0_2 a1_0 a1_1 l1_2).bind fun t275 => (if t275 = 0 then ((chain_Same.f k l0_2 l1_2).bind fun t276 => (some t276)) else (some false))) = some r := h
 clear h
 obtain ⟨t275, A3, H⟩ := bs H
 try dsimp only at H
 by_cases c4 : t275 = 0
 ·
  rw [if_pos c4] at H
  have c4b0 : (t275 == 0) = true := beq_iff_eq.mpr c4
  have c4b1 : (t275 != 0) = false := bne_eq_false_iff_eq.mpr c4
  clear c4
  obtain ⟨t276, A5, H⟩ := bs H
  try dsimp only at H
  obtain rfl := Option.some.inj H
  go_enter Try.func43, Try.ntmps43
  go_wp2_with (first | ((with_reducible refine gate_dst (N := 2) rfl ?_); refine bx (N := 2) #[.int .i64 a0_0, .string a0_1, .slice A0_2 l0_2.length c0_2] 59 ?_; intro gb273 hg w6 hbox hb; have BK273 := Aside0.mk (hbox); have GW273 := gw hg (uW HB.out); have GE273 := GW273; replace HB := cW HB hb; clear hb hbox hg) | ((with_reducible refine gate_dst (N := 3) rfl ?_); refine bx (N := 3) #[.int .i64 a1_0, .string a1_1, .slice A1_2 l1_2.length c1_2] 59 ?_; intro gb274 hg w7 hbox hb; have BK274 := Aside0.mk (hbox); have GW274 := gw hg bl; have GE274 := GW274; replace HB := Aside0.mk (below_step bl hb); have NB273_274 := Aside0.mk ((by rw [hg]; exact Nat.ne_of_lt (blk_lt (g := gb273) (o := .cells #[.int .i64 a0_0, .string a0_1, .slice A0_2 l0_2.length c0_2] 59 (0, 0)) (uB BK273.out)) : gb273 ≠ gb274)); have NB274_273 := Aside0.mk ((by rw [hg]; exact Nat.ne_of_gt (blk_lt (g := gb273) (o := .cells #[.int .i64 a0_0, .string a0_1, .slice A0_2 l0_2.length c0_2] 59 (0, 0)) (uB BK273.out)) : gb274 ≠ gb273)); replace BK273 := cB BK273 hb; clear hb hbox hg; have hnb8 := NB273_274.out; have hnc8 := NB274_273.out; obtain ⟨hcz9_0, hcz9_1, hcz9_2, hfz9_0, hfz9_1, hfz9_2⟩ := z3 BK273; obtain ⟨hcz10_0, hcz10_1, hcz10_2, hfz10_0, hfz10_1, hfz10_2⟩ := z3 BK274) | (refine gL (some 7) rfl Try.func26 #[.agg #[.int .i64 a0_0, .string a0_1, .slice A0_2 l0_2.length c0_2], .agg #[.int .i64 a1_0, .string a1_1, .slice A1_2 l1_2.length c1_2]] ?_; (with_reducible refine (shard_order.calls k a0_0 a0_1 _ _ l0_2 a1_0 a1_1 _ _ l1_2 t275 _ ?side1 ?side2 ?side3 ?side4 A3.out).mono ?_); (case side1 => exact uC <| (Kd.C_below HR0_2.out HB.out)); (case side2 => exact HC0_2.out); (case side3 => exact uC <| (Kd.C_below HR1_2.out HB.out)); (case side4 => exact HC1_2.out); rintro e w11 ⟨rfl, hb⟩; refine ⟨_, rfl, ?_⟩; replace BK273 := cB BK273 hb; replace BK274 := cB BK274 hb; replace HB := Aside0.mk (below_step bl hb); (try clear hb); obtain ⟨hcz12_0, hcz12_1, hcz12_2, hfz12_0, hfz12_1, hfz12_2⟩ := z3 BK273; obtain ⟨hcz13_0, hcz13_1, hcz13_2, hfz13_0, hfz13_1, hfz13_2⟩ := z3 BK274) | (go_at_call 44; (with_reducible refine (chain_Same.calls k _ _ l0_2 _ _ l1_2 t276 _ ?side1 ?side2 ?side3 ?side4 A5.out).mono ?_); (case side1 => exact uC <| (Kd.C_below HR0_2.out HB.out)); (case side2 => exact HC0_2.out); (case side3 => exact uC <| (Kd.C_below HR1_2.out HB.out)); (case side4 => exact HC1_2.out); rintro e w' ⟨rfl, ⟨nd, rfl⟩⟩))
  go_ret
  exact ⟨re_, bl⟩
 ·
  rw [if_neg c4] at H
  have c4b0 : (t275 == 0) = false := beq_eq_false_iff_ne.mpr c4
  have c4b1 : (t275 != 0) = true := bne_iff_ne.mpr c4
  obtain rfl := Option.some.inj H
  go_enter Try.func43, Try.ntmps43
  go_wp2_with (first | ((with_reducible refine gate_dst (N := 2) rfl ?_); refine bx (N := 2) #[.int .i64 a0_0, .string a0_1, .slice A0_2 l0_2.length c0_2] 59 ?_; intro gb273 hg w14 hbox hb; have BK273 := Aside0.mk (hbox); have GW273 := gw hg (uW HB.out); have GE273 := GW273; replace HB := cW HB hb; clear hb hbox hg) | ((with_reducible refine gate_dst (N := 3) rfl ?_); refine bx (N := 3) #[.int .i64 a1_0, .string a1_1, .slice A1_2 l1_2.length c1_2] 59 ?_; intro gb274 hg w15 hbox hb; have BK274 := Aside0.mk (hbox); have GW274 := gw hg bl; have GE274 := GW274; replace HB := Aside0.mk (below_step bl hb); have NB273_274 := Aside0.mk ((by rw [hg]; exact Nat.ne_of_lt (blk_lt (g := gb273) (o := .cells #[.int .i64 a0_0, .string a0_1, .slice A0_2 l0_2.length c0_2] 59 (0, 0)) (uB BK273.out)) : gb273 ≠ gb274)); have NB274_273 := Aside0.mk ((by rw [hg]; exact Nat.ne_of_gt (blk_lt (g := gb273) (o := .cells #[.int .i64 a0_0, .string a0_1, .slice A0_2 l0_2.length c0_2] 59 (0, 0)) (uB BK273.out)) : gb274 ≠ gb273)); replace BK273 := cB BK273 hb; clear hb hbox hg; have hnb16 := NB273_274.out; have hnc16 := NB274_273.out; obtain ⟨hcz17_0, hcz17_1, hcz17_2, hfz17_0, hfz17_1, hfz17_2⟩ := z3 BK273; obtain ⟨hcz18_0, hcz18_1, hcz18_2, hfz18_0, hfz18_1, hfz18_2⟩ := z3 BK274) | (refine gL (some 7) rfl Try.func26 #[.agg #[.int .i64 a0_0, .string a0_1, .slice A0_2 l0_2.length c0_2], .agg #[.int .i64 a1_0, .string a1_1, .slice A1_2 l1_2.length c1_2]] ?_; (with_reducible refine (shard_order.calls k a0_0 a0_1 _ _ l0_2 a1_0 a1_1 _ _ l1_2 t275 _ ?side1 ?side2 ?side3 ?side4 A3.out).mono ?_); (case side1 => exact uC <| (Kd.C_below HR0_2.out HB.out)); (case side2 => exact HC0_2.out); (case side3 => exact uC <| (Kd.C_below HR1_2.out HB.out)); (case side4 => exact HC1_2.out); rintro e w19 ⟨rfl, hb⟩; refine ⟨_, rfl, ?_⟩; replace BK273 := cB BK273 hb; replace BK274 := cB BK274 hb; replace HB := Aside0.mk (below_step bl hb); (try clear hb)))
  go_ret
  exact ⟨re_, bl⟩
theorem api_Entry_with_43.goesV_ {P : Program} {ops : Array Oper} {Q : Exit → Act → World → Prop} {oi : Oper} {N : Option Tmp} {a : Act} {w : World} {K : Act → World → Prop} {f : FuncId} {fn : Func} {cal : Operand} {as_ : Array Operand} {ts : Array TypeId} (hf : P.funcs[f]? = some fn) (hname : (fn.name == "runtime.NumGoroutine") = false) (hb : fn.body.isSome = true) (args : Array Value)
 (hw : Region.wanted oi (yielded ops a.tmps) = true) (hN : oi.dst = N) (hop : oi.op = .call { callee := .value cal, args := as_, argTypes := ts }) (hev : a.eval cal = .func (.func f) #[] #[]) (hargs : as_.map a.eval = args)
 (h : Calls P f args w fun e w' => ∃ v, e = .returned v ∧ K (a.put N v) w') : if Region.wanted oi (yielded ops a.tmps) = true then Oper.wp P oi a w K Q else K (a.put N undef) w := by
 refine call_ f args hw hN ?_ h
 have he := enters_ hf hname hb args w
 unfold execOp
 simp [hop, resolve, Deferred.ofValue, invoke, hev, hargs, he]
theorem api_Entry_with_43.goesVL_ {P : Program} {ops : Array Oper} {Q : Exit → Act → World → Prop} {rest : List Oper} {oi : Oper} {a : Act} {w : World} (N : Option Tmp) (hd : oi.dst = N) (hg : oi.guard = none) {f : FuncId} {fn : Func} {cal : Operand} {as_ : Array Operand} {ts : Array TypeId} (hf : P.funcs[f]? = some fn) (hname : (fn.name == "runtime.NumGoroutine") = false) (hb : fn.body.isSome = true) (args : Array Value)
 (hop : oi.op = .call { callee := .value cal, args := as_, argTypes := ts }) (hev : a.eval cal = .func (.func f) #[] #[]) (hargs : as_.map a.eval = args)
 (h : Calls P f args w fun e w' => ∃ v, e = .returned v ∧ wpList P ops Q rest (a.put N v) w') : wpList P ops Q (oi :: rest) a w := by
 refine wpList_plain hg fun K hK => ?_
 have he := enters_ hf hname hb args w
 have hrun : (execOp a.eval oi).run P w = .ok (.enter f args) w := by
  unfold execOp
  simp [hop, resolve, Deferred.ofValue, invoke, hev, hargs, he]
 unfold Oper.wp
 rw [hrun, Oper.upon_enter]
 refine h.mono fun e w'' hh => ?_
 obtain ⟨v, rfl, hk⟩ := hh
 subst hd
 exact hK _ _ hk
def api_Entry_with_43.l0 : Nat → List (S59) → List (S59) → Int → Int → Option (Bool)
 | 0, _, _, _, _ => none
 | k + 1, x1, x15, x16, x17 => if x17 < x16 then (if 0 ≤ x17 then (if x17 < (x15.length : Int) then (if x17 < (x1.length : Int) then ((shard_Same_1.f k ((rd_T59 x15 x17).f0) ((rd_T59 x15 x17).f1) ((rd_T59 x15 x17).f2) ((rd_T59 x1 x17).f0) ((rd_T59 x1 x17).f1) ((rd_T59 x1 x17).f2)).bind fun t281 => (if t281 = true then (api_Entry_with_43.l0 k x1 x15 x16 (wrap64 (x17 + 1))) else (some false))) else (none)) else (none)) else (none)) else (some true)
def api_Entry_with_43.f (k : Nat) (l0 : List (S59)) (l1 : List (S59)) : Option (Bool) := if (l0.length : Int) = (l1.length : Int) then (api_Entry_with_43.l0 k l1 l0 (l0.length : Int) 0) else (some false)
theorem api_Entry_with_43.mono_l : ∀ k, (∀ y0 y1 y2 y3, LeC (api_Entry_with_43.l0 k y0 y1 y2 y3) (api_Entry_with_43.l0 (k + 1) y0 y1 y2 y3))
 | 0 => fun _ _ _ _ => ⟨fun r h => by simp [api_Entry_with_43.l0] at h⟩
 | k + 1 => by have ih0 := api_Entry_with_43.mono_l k; exact fun _ _ _ _ => by unfold api_Entry_with_43.l0; exact lm
theorem api_Entry_with_43.mono : ∀ a0 a1 k, LeO (api_Entry_with_43.f k a0 a1) (api_Entry_with_43.f (k + 1) a0 a1) := by
 intro a0 a1 k
 have ih0 := api_Entry_with_43.mono_l k
 unfold api_Entry_with_43.f
 exact lo
instance api_Entry_with_43.mI {a0 a1 k} : LeC (api_Entry_with_43.f k a0 a1) (api_Entry_with_43.f (k + 1) a0 a1) := ⟨api_Entry_with_43.mono _ _ _⟩
theorem api_Entry_with_43.calls (k : Nat) (A0 : Option Addr) (c0 : Nat) (l0 : List (S59)) (A1 : Option Addr) (c1 : Nat) (l1 : List (S59)) (r : Bool) (w : World) (hr0 : Kd.C k59 w A0 l0.length l0) (hc0 : l0.length ≤ c0) (hr1 : Kd.C k59 w A1 l1.length l1) (hc1 : l1.length ≤ c1) (h : api_Entry_with_43.f k l0 l1 = some r) :
 Calls Try.prog 42 #[.slice A0 l0.length c0, .slice A1 l1.length c1, .func (.func 43) #[] #[]] w fun e w' => e = .returned (.bool r) ∧ Below w.heap.size w w' := by
 have hu59 := Try.underlying59
 have HR0 := Aside0.mk hr0
 have HC0 := Aside0.mk hc0
 clear hr0 hc0
 have HR1 := Aside0.mk hr1
 have HC1 := Aside0.mk hc1
 clear hr1 hc1
 have HB := Aside0.mk (Below.refl w.heap.size w)
 have H : (if (l0.length : Int) = (l1.length : Int) then (api_Entry_with_43.l0 k l1 l0 (l0.length : Int) 0) else (some false)) = some r := h
 clear h
 by_cases c3 : (l0.length : Int) = (l1.length : Int)
 ·
  rw [if_pos c3] at H
  have c3b0 : ((l0.length : Int) == (l1.length : Int)) = true := beq_iff_eq.mpr c3
  have c3b1 : ((l0.length : Int) != (l1.length : Int)) = false := bne_eq_false_iff_eq.mpr c3
  have c3b2 : (l0.length == l1.length) = true := by first | simpa using c3 | (simp at c3 ⊢; omega)
  clear c3
  have H' := Aside0.mk H
  clear H
  go_enter Try.func42, Try.ntmps42
  go_wp2
  go_loopg [17] k (fun kq v17 w' => ∃ (x17_1 : Int), v17 = .int .i64 x17_1 ∧ Aside0 (api_Entry_with_43.l0 kq l1 l0 (l0.length : Int) x17_1 = some r) ∧ Aside0 (kq ≤ k) ∧ Aside0 (Below w.heap.size w w'))
  case atStart => exact ⟨(0), rs_, H', ⟨Nat.le_refl _⟩, ⟨uW HB.out⟩⟩
  case round =>
   clear H'
   try clear c1
   try clear p2
   try clear c3
   try clear c3b0
   try clear c3b1
   try clear c3b2
   obtain ⟨x17_1, rfl, HA, HK1, HB⟩ := hrel
   cases gk with
   | zero => exact absurd HA.out (by simp [api_Entry_with_43.l0])
   | succ k1 =>
    have H := HA.out
    clear HA
    simp only [api_Entry_with_43.l0] at H
    by_cases c4 : x17_1 < (l0.length : Int)
    ·
     rw [if_pos c4] at H
     have c4b0 : decide (x17_1 < (l0.length : Int)) = true := decide_eq_true c4
     clear c4
     obtain ⟨c5b0, H⟩ := gdd H
     obtain ⟨c6b0, H⟩ := gdd H
     obtain ⟨c7b0, H⟩ := gdd H
     obtain ⟨t281, A8, H⟩ := bs H
     try dsimp only at H
     by_cases c9 : t281 = true
     ·
      subst c9
      rw [if_pos rfl] at H
      have H' := Aside0.mk H
      clear H
      have p277 : 0 ≤ (x17_1 : Int) := od
      have q277 : x17_1 < (l0.length : Int) := od
      obtain ⟨ad277, A277_2, c277_2, e277, hx277_0, hx277_1, hx277_2, hl277_2, hi277_2⟩ := at_T59 HR0.out x17_1 p277 q277
      cases e277
      replace hx277_0 := kc HB hx277_0
      replace hx277_1 := kc HB hx277_1
      replace hx277_2 := kc HB hx277_2
      have HR277_2 := Aside0.mk hi277_2
      have HC277_2 := Aside0.mk hl277_2
      clear hi277_2 hl277_2
      replace p277 := eq_true p277
      replace q277 := eq_true q277
      go_wp2_with (first | ((with_reducible refine gate_dst (N := 8) rfl ?_); refine bx (N := 8) #[.int .i64 0, .string (⟨#[]⟩ : ByteArray), .slice none 0 0] 59 ?_; intro gb278 hg w10 hbox hb; have BK278 := Aside0.mk (hbox); have GW278 := gw hg (uW HB.out); have GE278 := GW278; replace HB := cW HB hb; clear hb hbox hg; obtain ⟨hcz11_0, hcz11_1, hcz11_2, hfz11_0, hfz11_1, hfz11_2⟩ := z3 BK278; have p279 : 0 ≤ (x17_1 : Int) := od; have q279 : x17_1 < (l1.length : Int) := od; obtain ⟨ad279, A279_2, c279_2, e279, hx279_0, hx279_1, hx279_2, hl279_2, hi279_2⟩ := at_T59 HR1.out x17_1 p279 q279; cases e279; have hn279_0 : ad279.block ≠ gb278 := Nat.ne_of_lt (Nat.lt_of_lt_of_le (by have := World.block_lt_of_cell? _ _ hx279_0; first | rwa [add_block] at this | exact this) GW278.out); have hn279_1 : ad279.block ≠ gb278 := Nat.ne_of_lt (Nat.lt_of_lt_of_le (by have := World.block_lt_of_cell? _ _ hx279_0; first | rwa [add_block] at this | exact this) GW278.out); have hn279_2 : ad279.block ≠ gb278 := Nat.ne_of_lt (Nat.lt_of_lt_of_le (by have := World.block_lt_of_cell? _ _ hx279_0; first | rwa [add_block] at this | exact this) GW278.out); replace hx279_0 := kc HB hx279_0; replace hx279_1 := kc HB hx279_1; replace hx279_2 := kc HB hx279_2; have HR279_2 := Aside0.mk hi279_2; have HC279_2 := Aside0.mk hl279_2; clear hi279_2 hl279_2; replace hx279_0 := (cell_far (p := ⟨gb278, 0, none⟩) (by first | (rw [add_block]; exact hn279_0) | (show (Addr.add _ _).block ≠ _; rw [add_block]; exact hn279_0) | exact hn279_0) (.int .i64 ((rd_T59 l0 x17_1).f0))).trans hx279_0; replace hx279_1 := (cell_far (p := ⟨gb278, 0, none⟩) (by first | (rw [add_block]; exact hn279_0) | (show (Addr.add _ _).block ≠ _; rw [add_block]; exact hn279_0) | exact hn279_0) (.int .i64 ((rd_T59 l0 x17_1).f0))).trans hx279_1; replace hx279_2 := (cell_far (p := ⟨gb278, 0, none⟩) (by first | (rw [add_block]; exact hn279_0) | (show (Addr.add _ _).block ≠ _; rw [add_block]; exact hn279_0) | exact hn279_0) (.int .i64 ((rd_T59 l0 x17_1).f0))).trans hx279_2; replace hx279_0 := (cell_far (p := ⟨gb278, 1, none⟩) (by first | (rw [add_block]; exact hn279_1) | (show (Addr.add _ _).block ≠ _; rw [add_block]; exact hn279_1) | exact hn279_1) (.string ((rd_T59 l0 x17_1).f1))).trans hx279_0; replace hx279_1 := (cell_far (p := ⟨gb278, 1, none⟩) (by first | (rw [add_block]; exact hn279_1) | (show (Addr.add _ _).block ≠ _; rw [add_block]; exact hn279_1) | exact hn279_1) (.string ((rd_T59 l0 x17_1).f1))).trans hx279_1; replace hx279_2 := (cell_far (p := ⟨gb278, 1, none⟩) (by first | (rw [add_block]; exact hn279_1) | (show (Addr.add _ _).block ≠ _; rw [add_block]; exact hn279_1) | exact hn279_1) (.string ((rd_T59 l0 x17_1).f1))).trans hx279_2; replace hx279_0 := (cell_far (p := ⟨gb278, 2, none⟩) (by first | (rw [add_block]; exact hn279_2) | (show (Addr.add _ _).block ≠ _; rw [add_block]; exact hn279_2) | exact hn279_2) (.slice A277_2 ((rd_T59 l0 x17_1).f2).length c277_2)).trans hx279_0; replace hx279_1 := (cell_far (p := ⟨gb278, 2, none⟩) (by first | (rw [add_block]; exact hn279_2) | (show (Addr.add _ _).block ≠ _; rw [add_block]; exact hn279_2) | exact hn279_2) (.slice A277_2 ((rd_T59 l0 x17_1).f2).length c277_2)).trans hx279_1; replace hx279_2 := (cell_far (p := ⟨gb278, 2, none⟩) (by first | (rw [add_block]; exact hn279_2) | (show (Addr.add _ _).block ≠ _; rw [add_block]; exact hn279_2) | exact hn279_2) (.slice A277_2 ((rd_T59 l0 x17_1).f2).length c277_2)).trans hx279_2; clear hn279_0; clear hn279_1; clear hn279_2; replace p279 := eq_true p279; replace q279 := eq_true q279) | ((with_reducible refine gate_dst (N := 9) rfl ?_); refine bx (N := 9) #[.int .i64 0, .string (⟨#[]⟩ : ByteArray), .slice none 0 0] 59 ?_; intro gb280 hg w12 hbox hb; have BK280 := Aside0.mk (hbox); have GW280 := gw hg bl; have GE280 := GW280; replace HB := Aside0.mk (below_step bl hb); have NB278_280 := Aside0.mk ((by rw [hg]; exact Nat.ne_of_lt (blk_lt (g := gb278) (o := .cells #[.int .i64 ((rd_T59 l0 x17_1).f0), .string ((rd_T59 l0 x17_1).f1), .slice A277_2 ((rd_T59 l0 x17_1).f2).length c277_2] 59 (0, 0)) (by (with_reducible repeat (first | refine blk_drewN ?_ _ | refine blk_drew ?_ | refine blk_alloc ?_ _)); refine blk_put (cs := #[.int .i64 ((rd_T59 l0 x17_1).f0), .string ((rd_T59 l0 x17_1).f1), .slice none 0 0]) ?_ 2 _ rfl; (with_reducible repeat (first | refine blk_drewN ?_ _ | refine blk_drew ?_ | refine blk_alloc ?_ _)); refine blk_put (cs := #[.int .i64 ((rd_T59 l0 x17_1).f0), .string (⟨#[]⟩ : ByteArray), .slice none 0 0]) ?_ 1 _ rfl; (with_reducible repeat (first | refine blk_drewN ?_ _ | refine blk_drew ?_ | refine blk_alloc ?_ _)); refine blk_put (cs := #[.int .i64 0, .string (⟨#[]⟩ : ByteArray), .slice none 0 0]) ?_ 0 _ rfl; exact uB <| BK278.out)) : gb278 ≠ gb280)); have NB280_278 := Aside0.mk ((by rw [hg]; exact Nat.ne_of_gt (blk_lt (g := gb278) (o := .cells #[.int .i64 ((rd_T59 l0 x17_1).f0), .string ((rd_T59 l0 x17_1).f1), .slice A277_2 ((rd_T59 l0 x17_1).f2).length c277_2] 59 (0, 0)) (by (with_reducible repeat (first | refine blk_drewN ?_ _ | refine blk_drew ?_ | refine blk_alloc ?_ _)); refine blk_put (cs := #[.int .i64 ((rd_T59 l0 x17_1).f0), .string ((rd_T59 l0 x17_1).f1), .slice none 0 0]) ?_ 2 _ rfl; (with_reducible repeat (first | refine blk_drewN ?_ _ | refine blk_drew ?_ | refine blk_alloc ?_ _)); refine blk_put (cs := #[.int .i64 ((rd_T59 l0 x17_1).f0), .string (⟨#[]⟩ : ByteArray), .slice none 0 0]) ?_ 1 _ rfl; (with_reducible repeat (first | refine blk_drewN ?_ _ | refine blk_drew ?_ | refine blk_alloc ?_ _)); refine blk_put (cs := #[.int .i64 0, .string (⟨#[]⟩ : ByteArray), .slice none 0 0]) ?_ 0 _ rfl; exact uB <| BK278.out)) : gb280 ≠ gb278)); replace BK278 := Aside0.mk (blk_below (g := gb278) (o := .cells #[.int .i64 ((rd_T59 l0 x17_1).f0), .string ((rd_T59 l0 x17_1).f1), .slice A277_2 ((rd_T59 l0 x17_1).f2).length c277_2] 59 (0, 0)) (by (with_reducible repeat (first | refine blk_drewN ?_ _ | refine blk_drew ?_ | refine blk_alloc ?_ _)); refine blk_put (cs := #[.int .i64 ((rd_T59 l0 x17_1).f0), .string ((rd_T59 l0 x17_1).f1), .slice none 0 0]) ?_ 2 _ rfl; (with_reducible repeat (first | refine blk_drewN ?_ _ | refine blk_drew ?_ | refine blk_alloc ?_ _)); refine blk_put (cs := #[.int .i64 ((rd_T59 l0 x17_1).f0), .string (⟨#[]⟩ : ByteArray), .slice none 0 0]) ?_ 1 _ rfl; (with_reducible repeat (first | refine blk_drewN ?_ _ | refine blk_drew ?_ | refine blk_alloc ?_ _)); refine blk_put (cs := #[.int .i64 0, .string (⟨#[]⟩ : ByteArray), .slice none 0 0]) ?_ 0 _ rfl; exact uB <| BK278.out) hb); clear hb hbox hg; have hnb13 := NB280_278.out; have hnc13 := NB278_280.out; obtain ⟨hcz14_0, hcz14_1, hcz14_2, hfz14_0, hfz14_1, hfz14_2⟩ := z3 BK280; obtain ⟨hcz15_0, hcz15_1, hcz15_2, hfz15_0, hfz15_1, hfz15_2⟩ := z3 BK278) | (refine api_Entry_with_43.goesVL_ (some 29) rfl rfl Try.func43 (by kernel_rfl) rfl #[.agg #[.int .i64 ((rd_T59 l0 x17_1).f0), .string ((rd_T59 l0 x17_1).f1), .slice A277_2 ((rd_T59 l0 x17_1).f2).length c277_2], .agg #[.int .i64 ((rd_T59 l1 x17_1).f0), .string ((rd_T59 l1 x17_1).f1), .slice A279_2 ((rd_T59 l1 x17_1).f2).length c279_2]] rfl (by rfl) (by (try simp only [List.map_toArray, List.map_cons, List.map_nil]); first | done | rfl | (simp only [List.length_drop, List.length_take]; rfl)) ?_; (with_reducible refine (shard_Same_1.calls k1 ((rd_T59 l0 x17_1).f0) ((rd_T59 l0 x17_1).f1) _ _ ((rd_T59 l0 x17_1).f2) ((rd_T59 l1 x17_1).f0) ((rd_T59 l1 x17_1).f1) _ _ ((rd_T59 l1 x17_1).f2) true _ ?side1 ?side2 ?side3 ?side4 A8.out).mono ?_); (case side1 => exact Kd.C_below HR277_2.out bl); (case side2 => exact HC277_2.out); (case side3 => exact Kd.C_below HR279_2.out bl); (case side4 => exact HC279_2.out); rintro e w16 ⟨rfl, hb⟩; refine ⟨_, rfl, ?_⟩; replace BK278 := Aside0.mk (blk_below (g := gb278) (o := .cells #[.int .i64 ((rd_T59 l0 x17_1).f0), .string ((rd_T59 l0 x17_1).f1), .slice A277_2 ((rd_T59 l0 x17_1).f2).length c277_2] 59 (0, 0)) (by (with_reducible repeat (first | refine blk_drewN ?_ _ | refine blk_drew ?_ | refine blk_alloc ?_ _)); refine blk_far ?_ NB278_280.out _; (with_reducible repeat (first | refine blk_drewN ?_ _ | refine blk_drew ?_ | refine blk_alloc ?_ _)); refine blk_far ?_ NB278_280.out _; (with_reducible repeat (first | refine blk_drewN ?_ _ | refine blk_drew ?_ | refine blk_alloc ?_ _)); refine blk_far ?_ NB278_280.out _; exact uB <| BK278.out) hb); replace BK280 := Aside0.mk (blk_below (g := gb280) (o := .cells #[.int .i64 ((rd_T59 l1 x17_1).f0), .string ((rd_T59 l1 x17_1).f1), .slice A279_2 ((rd_T59 l1 x17_1).f2).length c279_2] 59 (0, 0)) (by (with_reducible repeat (first | refine blk_drewN ?_ _ | refine blk_drew ?_ | refine blk_alloc ?_ _)); refine blk_put (cs := #[.int .i64 ((rd_T59 l1 x17_1).f0), .string ((rd_T59 l1 x17_1).f1), .slice none 0 0]) ?_ 2 _ rfl; (with_reducible repeat (first | refine blk_drewN ?_ _ | refine blk_drew ?_ | refine blk_alloc ?_ _)); refine blk_put (cs := #[.int .i64 ((rd_T59 l1 x17_1).f0), .string (⟨#[]⟩ : ByteArray), .slice none 0 0]) ?_ 1 _ rfl; (with_reducible repeat (first | refine blk_drewN ?_ _ | refine blk_drew ?_ | refine blk_alloc ?_ _)); refine blk_put (cs := #[.int .i64 0, .string (⟨#[]⟩ : ByteArray), .slice none 0 0]) ?_ 0 _ rfl; exact uB <| BK280.out) hb); replace HB := Aside0.mk (below_step bl hb); (try clear hb)))
      go_roundg k1
      case measure => have := HK1.out; omega
      case rel => exact ⟨(wrap64 (x17_1 + 1)), rs_, H', ⟨by have := HK1.out; omega⟩, ⟨bl⟩⟩
     ·
      replace c9 := Bool.eq_false_iff.mpr c9
      subst c9
      rw [if_neg (show ¬ (false = true) by decide)] at H
      obtain rfl := Option.some.inj H
      have p277 : 0 ≤ (x17_1 : Int) := od
      have q277 : x17_1 < (l0.length : Int) := od
      obtain ⟨ad277, A277_2, c277_2, e277, hx277_0, hx277_1, hx277_2, hl277_2, hi277_2⟩ := at_T59 HR0.out x17_1 p277 q277
      cases e277
      replace hx277_0 := kc HB hx277_0
      replace hx277_1 := kc HB hx277_1
      replace hx277_2 := kc HB hx277_2
      have HR277_2 := Aside0.mk hi277_2
      have HC277_2 := Aside0.mk hl277_2
      clear hi277_2 hl277_2
      replace p277 := eq_true p277
      replace q277 := eq_true q277
      go_wp2_with (first | ((with_reducible refine gate_dst (N := 8) rfl ?_); refine bx (N := 8) #[.int .i64 0, .string (⟨#[]⟩ : ByteArray), .slice none 0 0] 59 ?_; intro gb278 hg w17 hbox hb; have BK278 := Aside0.mk (hbox); have GW278 := gw hg (uW HB.out); have GE278 := GW278; replace HB := cW HB hb; clear hb hbox hg; obtain ⟨hcz18_0, hcz18_1, hcz18_2, hfz18_0, hfz18_1, hfz18_2⟩ := z3 BK278; have p279 : 0 ≤ (x17_1 : Int) := od; have q279 : x17_1 < (l1.length : Int) := od; obtain ⟨ad279, A279_2, c279_2, e279, hx279_0, hx279_1, hx279_2, hl279_2, hi279_2⟩ := at_T59 HR1.out x17_1 p279 q279; cases e279; have hn279_0 : ad279.block ≠ gb278 := Nat.ne_of_lt (Nat.lt_of_lt_of_le (by have := World.block_lt_of_cell? _ _ hx279_0; first | rwa [add_block] at this | exact this) GW278.out); have hn279_1 : ad279.block ≠ gb278 := Nat.ne_of_lt (Nat.lt_of_lt_of_le (by have := World.block_lt_of_cell? _ _ hx279_0; first | rwa [add_block] at this | exact this) GW278.out); have hn279_2 : ad279.block ≠ gb278 := Nat.ne_of_lt (Nat.lt_of_lt_of_le (by have := World.block_lt_of_cell? _ _ hx279_0; first | rwa [add_block] at this | exact this) GW278.out); replace hx279_0 := kc HB hx279_0; replace hx279_1 := kc HB hx279_1; replace hx279_2 := kc HB hx279_2; have HR279_2 := Aside0.mk hi279_2; have HC279_2 := Aside0.mk hl279_2; clear hi279_2 hl279_2; replace hx279_0 := (cell_far (p := ⟨gb278, 0, none⟩) (by first | (rw [add_block]; exact hn279_0) | (show (Addr.add _ _).block ≠ _; rw [add_block]; exact hn279_0) | exact hn279_0) (.int .i64 ((rd_T59 l0 x17_1).f0))).trans hx279_0; replace hx279_1 := (cell_far (p := ⟨gb278, 0, none⟩) (by first | (rw [add_block]; exact hn279_0) | (show (Addr.add _ _).block ≠ _; rw [add_block]; exact hn279_0) | exact hn279_0) (.int .i64 ((rd_T59 l0 x17_1).f0))).trans hx279_1; replace hx279_2 := (cell_far (p := ⟨gb278, 0, none⟩) (by first | (rw [add_block]; exact hn279_0) | (show (Addr.add _ _).block ≠ _; rw [add_block]; exact hn279_0) | exact hn279_0) (.int .i64 ((rd_T59 l0 x17_1).f0))).trans hx279_2; replace hx279_0 := (cell_far (p := ⟨gb278, 1, none⟩) (by first | (rw [add_block]; exact hn279_1) | (show (Addr.add _ _).block ≠ _; rw [add_block]; exact hn279_1) | exact hn279_1) (.string ((rd_T59 l0 x17_1).f1))).trans hx279_0; replace hx279_1 := (cell_far (p := ⟨gb278, 1, none⟩) (by first | (rw [add_block]; exact hn279_1) | (show (Addr.add _ _).block ≠ _; rw [add_block]; exact hn279_1) | exact hn279_1) (.string ((rd_T59 l0 x17_1).f1))).trans hx279_1; replace hx279_2 := (cell_far (p := ⟨gb278, 1, none⟩) (by first | (rw [add_block]; exact hn279_1) | (show (Addr.add _ _).block ≠ _; rw [add_block]; exact hn279_1) | exact hn279_1) (.string ((rd_T59 l0 x17_1).f1))).trans hx279_2; replace hx279_0 := (cell_far (p := ⟨gb278, 2, none⟩) (by first | (rw [add_block]; exact hn279_2) | (show (Addr.add _ _).block ≠ _; rw [add_block]; exact hn279_2) | exact hn279_2) (.slice A277_2 ((rd_T59 l0 x17_1).f2).length c277_2)).trans hx279_0; replace hx279_1 := (cell_far (p := ⟨gb278, 2, none⟩) (by first | (rw [add_block]; exact hn279_2) | (show (Addr.add _ _).block ≠ _; rw [add_block]; exact hn279_2) | exact hn279_2) (.slice A277_2 ((rd_T59 l0 x17_1).f2).length c277_2)).trans hx279_1; replace hx279_2 := (cell_far (p := ⟨gb278, 2, none⟩) (by first | (rw [add_block]; exact hn279_2) | (show (Addr.add _ _).block ≠ _; rw [add_block]; exact hn279_2) | exact hn279_2) (.slice A277_2 ((rd_T59 l0 x17_1).f2).length c277_2)).trans hx279_2; clear hn279_0; clear hn279_1; clear hn279_2; replace p279 := eq_true p279; replace q279 := eq_true q279) | ((with_reducible refine gate_dst (N := 9) rfl ?_); refine bx (N := 9) #[.int .i64 0, .string (⟨#[]⟩ : ByteArray), .slice none 0 0] 59 ?_; intro gb280 hg w19 hbox hb; have BK280 := Aside0.mk (hbox); have GW280 := gw hg bl; have GE280 := GW280; replace HB := Aside0.mk (below_step bl hb); have NB278_280 := Aside0.mk ((by rw [hg]; exact Nat.ne_of_lt (blk_lt (g := gb278) (o := .cells #[.int .i64 ((rd_T59 l0 x17_1).f0), .string ((rd_T59 l0 x17_1).f1), .slice A277_2 ((rd_T59 l0 x17_1).f2).length c277_2] 59 (0, 0)) (by (with_reducible repeat (first | refine blk_drewN ?_ _ | refine blk_drew ?_ | refine blk_alloc ?_ _)); refine blk_put (cs := #[.int .i64 ((rd_T59 l0 x17_1).f0), .string ((rd_T59 l0 x17_1).f1), .slice none 0 0]) ?_ 2 _ rfl; (with_reducible repeat (first | refine blk_drewN ?_ _ | refine blk_drew ?_ | refine blk_alloc ?_ _)); refine blk_put (cs := #[.int .i64 ((rd_T59 l0 x17_1).f0), .string (⟨#[]⟩ : ByteArray), .slice none 0 0]) ?_ 1 _ rfl; (with_reducible repeat (first | refine blk_drewN ?_ _ | refine blk_drew ?_ | refine blk_alloc ?_ _)); refine blk_put (cs := #[.int .i64 0, .string (⟨#[]⟩ : ByteArray), .slice none 0 0]) ?_ 0 _ rfl; exact uB <| BK278.out)) : gb278 ≠ gb280)); have NB280_278 := Aside0.mk ((by rw [hg]; exact Nat.ne_of_gt (blk_lt (g := gb278) (o := .cells #[.int .i64 ((rd_T59 l0 x17_1).f0), .string ((rd_T59 l0 x17_1).f1), .slice A277_2 ((rd_T59 l0 x17_1).f2).length c277_2] 59 (0, 0)) (by (with_reducible repeat (first | refine blk_drewN ?_ _ | refine blk_drew ?_ | refine blk_alloc ?_ _)); refine blk_put (cs := #[.int .i64 ((rd_T59 l0 x17_1).f0), .string ((rd_T59 l0 x17_1).f1), .slice none 0 0]) ?_ 2 _ rfl; (with_reducible repeat (first | refine blk_drewN ?_ _ | refine blk_drew ?_ | refine blk_alloc ?_ _)); refine blk_put (cs := #[.int .i64 ((rd_T59 l0 x17_1).f0), .string (⟨#[]⟩ : ByteArray), .slice none 0 0]) ?_ 1 _ rfl; (with_reducible repeat (first | refine blk_drewN ?_ _ | refine blk_drew ?_ | refine blk_alloc ?_ _)); refine blk_put (cs := #[.int .i64 0, .string (⟨#[]⟩ : ByteArray), .slice none 0 0]) ?_ 0 _ rfl; exact uB <| BK278.out)) : gb280 ≠ gb278)); replace BK278 := Aside0.mk (blk_below (g := gb278) (o := .cells #[.int .i64 ((rd_T59 l0 x17_1).f0), .string ((rd_T59 l0 x17_1).f1), .slice A277_2 ((rd_T59 l0 x17_1).f2).length c277_2] 59 (0, 0)) (by (with_reducible repeat (first | refine blk_drewN ?_ _ | refine blk_drew ?_ | refine blk_alloc ?_ _)); refine blk_put (cs := #[.int .i64 ((rd_T59 l0 x17_1).f0), .string ((rd_T59 l0 x17_1).f1), .slice none 0 0]) ?_ 2 _ rfl; (with_reducible repeat (first | refine blk_drewN ?_ _ | refine blk_drew ?_ | refine blk_alloc ?_ _)); refine blk_put (cs := #[.int .i64 ((rd_T59 l0 x17_1).f0), .string (⟨#[]⟩ : ByteArray), .slice none 0 0]) ?_ 1 _ rfl; (with_reducible repeat (first | refine blk_drewN ?_ _ | refine blk_drew ?_ | refine blk_alloc ?_ _)); refine blk_put (cs := #[.int .i64 0, .string (⟨#[]⟩ : ByteArray), .slice none 0 0]) ?_ 0 _ rfl; exact uB <| BK278.out) hb); clear hb hbox hg; have hnb20 := NB280_278.out; have hnc20 := NB278_280.out; obtain ⟨hcz21_0, hcz21_1, hcz21_2, hfz21_0, hfz21_1, hfz21_2⟩ := z3 BK280; obtain ⟨hcz22_0, hcz22_1, hcz22_2, hfz22_0, hfz22_1, hfz22_2⟩ := z3 BK278) | (refine api_Entry_with_43.goesVL_ (some 29) rfl rfl Try.func43 (by kernel_rfl) rfl #[.agg #[.int .i64 ((rd_T59 l0 x17_1).f0), .string ((rd_T59 l0 x17_1).f1), .slice A277_2 ((rd_T59 l0 x17_1).f2).length c277_2], .agg #[.int .i64 ((rd_T59 l1 x17_1).f0), .string ((rd_T59 l1 x17_1).f1), .slice A279_2 ((rd_T59 l1 x17_1).f2).length c279_2]] rfl (by rfl) (by (try simp only [List.map_toArray, List.map_cons, List.map_nil]); first | done | rfl | (simp only [List.length_drop, List.length_take]; rfl)) ?_; (with_reducible refine (shard_Same_1.calls k1 ((rd_T59 l0 x17_1).f0) ((rd_T59 l0 x17_1).f1) _ _ ((rd_T59 l0 x17_1).f2) ((rd_T59 l1 x17_1).f0) ((rd_T59 l1 x17_1).f1) _ _ ((rd_T59 l1 x17_1).f2) false _ ?side1 ?side2 ?side3 ?side4 A8.out).mono ?_); (case side1 => exact Kd.C_below HR277_2.out bl); (case side2 => exact HC277_2.out); (case side3 => exact Kd.C_below HR279_2.out bl); (case side4 => exact HC279_2.out); rintro e w23 ⟨rfl, hb⟩; refine ⟨_, rfl, ?_⟩; replace BK278 := Aside0.mk (blk_below (g := gb278) (o := .cells #[.int .i64 ((rd_T59 l0 x17_1).f0), .string ((rd_T59 l0 x17_1).f1), .slice A277_2 ((rd_T59 l0 x17_1).f2).length c277_2] 59 (0, 0)) (by (with_reducible repeat (first | refine blk_drewN ?_ _ | refine blk_drew ?_ | refine blk_alloc ?_ _)); refine blk_far ?_ NB278_280.out _; (with_reducible repeat (first | refine blk_drewN ?_ _ | refine blk_drew ?_ | refine blk_alloc ?_ _)); refine blk_far ?_ NB278_280.out _; (with_reducible repeat (first | refine blk_drewN ?_ _ | refine blk_drew ?_ | refine blk_alloc ?_ _)); refine blk_far ?_ NB278_280.out _; exact uB <| BK278.out) hb); replace BK280 := Aside0.mk (blk_below (g := gb280) (o := .cells #[.int .i64 ((rd_T59 l1 x17_1).f0), .string ((rd_T59 l1 x17_1).f1), .slice A279_2 ((rd_T59 l1 x17_1).f2).length c279_2] 59 (0, 0)) (by (with_reducible repeat (first | refine blk_drewN ?_ _ | refine blk_drew ?_ | refine blk_alloc ?_ _)); refine blk_put (cs := #[.int .i64 ((rd_T59 l1 x17_1).f0), .string ((rd_T59 l1 x17_1).f1), .slice none 0 0]) ?_ 2 _ rfl; (with_reducible repeat (first | refine blk_drewN ?_ _ | refine blk_drew ?_ | refine blk_alloc ?_ _)); refine blk_put (cs := #[.int .i64 ((rd_T59 l1 x17_1).f0), .string (⟨#[]⟩ : ByteArray), .slice none 0 0]) ?_ 1 _ rfl; (with_reducible repeat (first | refine blk_drewN ?_ _ | refine blk_drew ?_ | refine blk_alloc ?_ _)); refine blk_put (cs := #[.int .i64 0, .string (⟨#[]⟩ : ByteArray), .slice none 0 0]) ?_ 0 _ rfl; exact uB <| BK280.out) hb); replace HB := Aside0.mk (below_step bl hb); (try clear hb)))
      go_ret
      exact ⟨re_, bl⟩
    ·
     rw [if_neg c4] at H
     have c4b0 : decide (x17_1 < (l0.length : Int)) = false := decide_eq_false c4
     clear c4
     obtain rfl := Option.some.inj H
     go_wp2
     go_ret
     exact ⟨re_, uW HB.out⟩
 ·
  rw [if_neg c3] at H
  have c3b0 : ((l0.length : Int) == (l1.length : Int)) = false := beq_eq_false_iff_ne.mpr c3
  have c3b1 : ((l0.length : Int) != (l1.length : Int)) = true := bne_iff_ne.mpr c3
  have c3b2 : (l0.length == l1.length) = false := by first | simpa using c3 | (simp at c3 ⊢; omega)
  obtain rfl := Option.some.inj H
  go_enter Try.func42, Try.ntmps42
  go_wp2
  go_ret
  exact ⟨re_, uW HB.out⟩
def shard_Same.f (k : Nat) (l0_0 : List (S59)) (l1_0 : List (S59)) : Option (Bool) := (api_Entry_with_43.f k l0_0 l1_0).bind fun t284 => (some t284)
theorem shard_Same.mono : ∀ a0 a1 k, LeO (shard_Same.f k a0 a1) (shard_Same.f (k + 1) a0 a1) := by
 intro a0 a1 k
 unfold shard_Same.f
 exact lo
instance shard_Same.mI {a0 a1 k} : LeC (shard_Same.f k a0 a1) (shard_Same.f (k + 1) a0 a1) := ⟨shard_Same.mono _ _ _⟩
theorem shard_Same.calls (k : Nat) (A0_0 : Option Addr) (c0_0 : Nat) (l0_0 : List (S59)) (A1_0 : Option Addr) (c1_0 : Nat) (l1_0 : List (S59)) (r : Bool) (w : World) (hr0_0 : Kd.C k59 w A0_0 l0_0.length l0_0) (hc0_0 : l0_0.length ≤ c0_0) (hr1_0 : Kd.C k59 w A1_0 l1_0.length l1_0) (hc1_0 : l1_0.length ≤ c1_0) (h : shard_Same.f k l0_0 l1_0 = some r) :
 Calls Try.prog 23 #[.agg #[.slice A0_0 l0_0.length c0_0], .agg #[.slice A1_0 l1_0.length c1_0]] w fun e w' => e = .returned (.bool r) ∧ Below w.heap.size w w' := by
 have hu24 := Try.underlying24
 have HR0_0 := Aside0.mk hr0_0
 have HC0_0 := Aside0.mk hc0_0
 clear hr0_0 hc0_0
 have HR1_0 := Aside0.mk hr1_0
 have HC1_0 := Aside0.mk hc1_0
 clear hr1_0 hc1_0
 have HB := Aside0.mk (Below.refl w.heap.size w)
 have H : ((api_Entry_with_43.f k l0_0 l1_0).bind fun t284 => (some t284)) = some r := h
 clear h
 obtain ⟨t284, A3, H⟩ := bs H
 try dsimp only at H
 obtain rfl := Option.some.inj H
 go_enter Try.func23, Try.ntmps23
 go_wp2_with (first | ((with_reducible refine gate_dst (N := 2) rfl ?_); refine bx (N := 2) #[.slice A0_0 l0_0.length c0_0] 24 ?_; intro gb282 hg w4 hbox hb; have BK282 := Aside0.mk (hbox); have GW282 := gw hg (uW HB.out); have GE282 := GW282; replace HB := cW HB hb; clear hb hbox hg) | ((with_reducible refine gate_dst (N := 3) rfl ?_); refine bx (N := 3) #[.slice A1_0 l1_0.length c1_0] 24 ?_; intro gb283 hg w5 hbox hb; have BK283 := Aside0.mk (hbox); have GW283 := gw hg bl; have GE283 := GW283; replace HB := Aside0.mk (below_step bl hb); have NB282_283 := Aside0.mk ((by rw [hg]; exact Nat.ne_of_lt (blk_lt (g := gb282) (o := .cells #[.slice A0_0 l0_0.length c0_0] 24 (0, 0)) (uB BK282.out)) : gb282 ≠ gb283)); have NB283_282 := Aside0.mk ((by rw [hg]; exact Nat.ne_of_gt (blk_lt (g := gb282) (o := .cells #[.slice A0_0 l0_0.length c0_0] 24 (0, 0)) (uB BK282.out)) : gb283 ≠ gb282)); replace BK282 := cB BK282 hb; clear hb hbox hg; have hnb6 := NB282_283.out; have hnc6 := NB283_282.out; obtain ⟨hcz7_0, hfz7_0⟩ := z1 BK282; obtain ⟨hcz8_0, hfz8_0⟩ := z1 BK283) | (refine gL (some 9) rfl Try.func42 #[.slice A0_0 l0_0.length c0_0, .slice A1_0 l1_0.length c1_0, (.func (.func 43) #[] #[])] ?_; (with_reducible refine (api_Entry_with_43.calls k _ _ l0_0 _ _ l1_0 t284 _ ?side1 ?side2 ?side3 ?side4 A3.out).mono ?_); (case side1 => exact uC <| (Kd.C_below HR0_0.out HB.out)); (case side2 => exact HC0_0.out); (case side3 => exact uC <| (Kd.C_below HR1_0.out HB.out)); (case side4 => exact HC1_0.out); rintro e w9 ⟨rfl, hb⟩; refine ⟨_, rfl, ?_⟩; replace BK282 := cB BK282 hb; replace BK283 := cB BK283 hb; replace HB := Aside0.mk (below_step bl hb); (try clear hb)))
 go_ret
 exact ⟨re_, bl⟩
def r11_Great.l0 : Nat → Int → List (S59) → Option (Bool)
 | 0, _, _ => none
 | k + 1, x3, x334000 => if x3 < (x334000.length : Int) then (if 0 ≤ x3 then (if (((rd_T59 x334000 x3).f2).length : Int) > 100 then (some true) else (if (((rd_T59 x334000 x3).f1).size : Int) > 300 then (some true) else (r11_Great.l0 k (wrap64 (x3 + 1)) x334000))) else (none)) else (some false)
def r11_Great.f (k : Nat) (l0_0 : List (S59)) : Option (Bool) := if (l0_0.length : Int) > 100 then (some true) else (r11_Great.l0 k 0 l0_0)
theorem r11_Great.mono_l : ∀ k, (∀ y0 y1, LeC (r11_Great.l0 k y0 y1) (r11_Great.l0 (k + 1) y0 y1))
 | 0 => fun _ _ => ⟨fun r h => by simp [r11_Great.l0] at h⟩
 | k + 1 => by have ih0 := r11_Great.mono_l k; exact fun _ _ => by unfold r11_Great.l0; exact lm
theorem r11_Great.mono : ∀ a0 k, LeO (r11_Great.f k a0) (r11_Great.f (k + 1) a0) := by
 intro a0 k
 have ih0 := r11_Great.mono_l k
 unfold r11_Great.f
 exact lo
instance r11_Great.mI {a0 k} : LeC (r11_Great.f k a0) (r11_Great.f (k + 1) a0) := ⟨r11_Great.mono _ _⟩
theorem r11_Great.calls (k : Nat) (A0_0 : Option Addr) (c0_0 : Nat) (l0_0 : List (S59)) (r : Bool) (w : World) (hr0_0 : Kd.C k59 w A0_0 l0_0.length l0_0) (hc0_0 : l0_0.length ≤ c0_0) (h : r11_Great.f k l0_0 = some r) :
 Calls Try.prog 9 #[.agg #[.slice A0_0 l0_0.length c0_0]] w fun e w' => e = .returned (.bool r) ∧ Below w.heap.size w w' := by
 have hu24 := Try.underlying24
 have HR0_0 := Aside0.mk hr0_0
 have HC0_0 := Aside0.mk hc0_0
 clear hr0_0 hc0_0
 have HB := Aside0.mk (Below.refl w.heap.size w)
 have H : (if (l0_0.length : Int) > 100 then (some true) else (r11_Great.l0 k 0 l0_0)) = some r := h
 clear h
 by_cases c2 : (l0_0.length : Int) > 100
 ·
  rw [if_pos c2] at H
  have c2b0 : decide (100 < (l0_0.length : Int)) = true := decide_eq_true c2
  have c2b1 : decide (100 < l0_0.length) = true := decide_eq_true (by omega)
  clear c2
  obtain rfl := Option.some.inj H
  go_enter Try.func9, Try.ntmps9
  go_wp2_with (first | ((with_reducible refine gate_dst (N := 1) rfl ?_); (try (refine gate_guard (by rfl) ?_; dsimp only)); refine bx (N := 1) #[.slice A0_0 l0_0.length c0_0] 24 ?_; intro gb333 hg w3 hbox hb; have BK333 := Aside0.mk (hbox); have GW333 := gw hg (uW HB.out); have GE333 := GW333; replace HB := cW HB hb; clear hb hbox hg; obtain ⟨hcz4_0, hfz4_0⟩ := z1 BK333))
  go_ret
  exact ⟨re_, bl⟩
 ·
  rw [if_neg c2] at H
  have c2b0 : decide (100 < (l0_0.length : Int)) = false := decide_eq_false c2
  have c2b1 : decide (100 < l0_0.length) = false := decide_eq_false (by omega)
  clear c2
  have H' := Aside0.mk H
  clear H
  go_enter Try.func9, Try.ntmps9
  go_wp2_with (first | ((with_reducible refine gate_dst (N := 1) rfl ?_); (try (refine gate_guard (by rfl) ?_; dsimp only)); refine bx (N := 1) #[.slice A0_0 l0_0.length c0_0] 24 ?_; intro gb333 hg w5 hbox hb; have BK333 := Aside0.mk (hbox); have GW333 := gw hg (uW HB.out); have GE333 := GW333; replace HB := cW HB hb; clear hb hbox hg; obtain ⟨hcz6_0, hfz6_0⟩ := z1 BK333))
  go_loopg [3] k (fun kq v3 w' => ∃ (x3_1 : Int), v3 = .int .i64 x3_1 ∧ Aside0 (r11_Great.l0 kq x3_1 l0_0 = some r) ∧ Aside0 (kq ≤ k) ∧ Aside0 (w'.heap[gb333]? = some (.cells #[(.slice A0_0 l0_0.length c0_0)] 24 (0, 0))) ∧ Aside0 (Below w.heap.size w w'))
  case atStart => exact ⟨(0), rs_, H', ⟨Nat.le_refl _⟩, ⟨uB BK333.out⟩, ⟨bl⟩⟩
  case round =>
   clear H'
   try clear c2
   try clear c2b0
   try clear c2b1
   try clear p2
   try clear hcz4_0
   try clear hcz6_0
   try clear hfz4_0
   try clear hfz6_0
   obtain ⟨x3_1, rfl, HA, HK1, BK333, HB⟩ := hrel
   cases gk with
   | zero => exact absurd HA.out (by simp [r11_Great.l0])
   | succ k1 =>
    have H := HA.out
    clear HA
    simp only [r11_Great.l0] at H
    by_cases c7 : x3_1 < (l0_0.length : Int)
    ·
     rw [if_pos c7] at H
     have c7b0 : decide (x3_1 < (l0_0.length : Int)) = true := decide_eq_true c7
     clear c7
     obtain ⟨c8b0, H⟩ := gdd H
     by_cases c9 : (((rd_T59 l0_0 x3_1).f2).length : Int) > 100
     ·
      rw [if_pos c9] at H
      have c9b0 : decide (100 < (((rd_T59 l0_0 x3_1).f2).length : Int)) = true := decide_eq_true c9
      have c9b1 : decide (100 < ((rd_T59 l0_0 x3_1).f2).length) = true := decide_eq_true (by omega)
      clear c9
      obtain rfl := Option.some.inj H
      obtain ⟨hcz10_0, hfz10_0⟩ := z1 BK333
      have p334 : 0 ≤ (x3_1 : Int) := od
      have q334 : x3_1 < (l0_0.length : Int) := od
      obtain ⟨ad334, A334_2, c334_2, e334, hx334_0, hx334_1, hx334_2, hl334_2, hi334_2⟩ := at_T59 HR0_0.out x3_1 p334 q334
      cases e334
      replace hx334_0 := kc HB hx334_0
      replace hx334_1 := kc HB hx334_1
      replace hx334_2 := kc HB hx334_2
      have HR334_2 := Aside0.mk hi334_2
      have HC334_2 := Aside0.mk hl334_2
      clear hi334_2 hl334_2
      replace p334 := eq_true p334
      replace q334 := eq_true q334
      go_wp2
      go_ret
      exact ⟨re_, bl⟩
     ·
      rw [if_neg c9] at H
      have c9b0 : decide (100 < (((rd_T59 l0_0 x3_1).f2).length : Int)) = false := decide_eq_false c9
      have c9b1 : decide (100 < ((rd_T59 l0_0 x3_1).f2).length) = false := decide_eq_false (by omega)
      clear c9
      by_cases c11 : (((rd_T59 l0_0 x3_1).f1).size : Int) > 300
      ·
       rw [if_pos c11] at H
       have c11b0 : decide (300 < (((rd_T59 l0_0 x3_1).f1).size : Int)) = true := decide_eq_true c11
       have c11b1 : decide (300 < ((rd_T59 l0_0 x3_1).f1).size) = true := decide_eq_true (by omega)
       clear c11
       obtain rfl := Option.some.inj H
       obtain ⟨hcz12_0, hfz12_0⟩ := z1 BK333
       have p334 : 0 ≤ (x3_1 : Int) := od
       have q334 : x3_1 < (l0_0.length : Int) := od
       obtain ⟨ad334, A334_2, c334_2, e334, hx334_0, hx334_1, hx334_2, hl334_2, hi334_2⟩ := at_T59 HR0_0.out x3_1 p334 q334
       cases e334
       replace hx334_0 := kc HB hx334_0
       replace hx334_1 := kc HB hx334_1
       replace hx334_2 := kc HB hx334_2
       have HR334_2 := Aside0.mk hi334_2
       have HC334_2 := Aside0.mk hl334_2
       clear hi334_2 hl334_2
       replace p334 := eq_true p334
       replace q334 := eq_true q334
       have p335 : 0 ≤ (x3_1 : Int) := od
       have q335 : x3_1 < (l0_0.length : Int) := od
       obtain ⟨ad335, A335_2, c335_2, e335, hx335_0, hx335_1, hx335_2, hl335_2, hi335_2⟩ := at_T59 HR0_0.out x3_1 p335 q335
       obtain rfl : ad334 = ad335 := (by injection e335)
       replace hx335_0 := kc HB hx335_0
       replace hx335_1 := kc HB hx335_1
       replace hx335_2 := kc HB hx335_2
       have HR335_2 := Aside0.mk hi335_2
       have HC335_2 := Aside0.mk hl335_2
       clear hi335_2 hl335_2
       replace p335 := eq_true p335
       replace q335 := eq_true q335
       have ea_ := Option.some.inj (hx334_2.symm.trans hx335_2)
       injection ea_ with ea_ en_ ec_
       subst ea_
       subst ec_
       clear en_
       go_wp2
       go_ret
       exact ⟨re_, bl⟩
      ·
       rw [if_neg c11] at H
       have c11b0 : decide (300 < (((rd_T59 l0_0 x3_1).f1).size : Int)) = false := decide_eq_false c11
       have c11b1 : decide (300 < ((rd_T59 l0_0 x3_1).f1).size) = false := decide_eq_false (by omega)
       clear c11
       have H' := Aside0.mk H
       clear H
       obtain ⟨hcz13_0, hfz13_0⟩ := z1 BK333
       have p334 : 0 ≤ (x3_1 : Int) := od
       have q334 : x3_1 < (l0_0.length : Int) := od
       obtain ⟨ad334, A334_2, c334_2, e334, hx334_0, hx334_1, hx334_2, hl334_2, hi334_2⟩ := at_T59 HR0_0.out x3_1 p334 q334
       cases e334
       replace hx334_0 := kc HB hx334_0
       replace hx334_1 := kc HB hx334_1
       replace hx334_2 := kc HB hx334_2
       have HR334_2 := Aside0.mk hi334_2
       have HC334_2 := Aside0.mk hl334_2
       clear hi334_2 hl334_2
       replace p334 := eq_true p334
       replace q334 := eq_true q334
       have p335 : 0 ≤ (x3_1 : Int) := od
       have q335 : x3_1 < (l0_0.length : Int) := od
       obtain ⟨ad335, A335_2, c335_2, e335, hx335_0, hx335_1, hx335_2, hl335_2, hi335_2⟩ := at_T59 HR0_0.out x3_1 p335 q335
       obtain rfl : ad334 = ad335 := (by injection e335)
       replace hx335_0 := kc HB hx335_0
       replace hx335_1 := kc HB hx335_1
       replace hx335_2 := kc HB hx335_2
       have HR335_2 := Aside0.mk hi335_2
       have HC335_2 := Aside0.mk hl335_2
       clear hi335_2 hl335_2
       replace p335 := eq_true p335
       replace q335 := eq_true q335
       have ea_ := Option.some.inj (hx334_2.symm.trans hx335_2)
       injection ea_ with ea_ en_ ec_
       subst ea_
       subst ec_
       clear en_
       go_wp2
       go_roundg k1
       case measure => have := HK1.out; omega
       case rel => exact ⟨(wrap64 (x3_1 + 1)), rs_, H', ⟨by have := HK1.out; omega⟩, ⟨uB BK333.out⟩, ⟨bl⟩⟩
    ·
     rw [if_neg c7] at H
     have c7b0 : decide (x3_1 < (l0_0.length : Int)) = false := decide_eq_false c7
     clear c7
     obtain rfl := Option.some.inj H
     obtain ⟨hcz14_0, hfz14_0⟩ := z1 BK333
     go_wp2
     go_ret
     exact ⟨re_, bl⟩
def r11_less.f (a0_0 : Int) (a0_1 : ByteArray) (l0_2 : List (S82)) (a1 : Int) (a2 : ByteArray) : Option (Bool) := if a0_0 < a1 then (some true) else (if a0_0 = a1 then (some (Op.bytesLess a0_1.toList a2.toList)) else (some false))
theorem r11_less.calls (a0_0 : Int) (a0_1 : ByteArray) (A0_2 : Option Addr) (c0_2 : Nat) (l0_2 : List (S82)) (a1 : Int) (a2 : ByteArray) (r : Bool) (w : World) (hr0_2 : Kd.C k82 w A0_2 l0_2.length l0_2) (hc0_2 : l0_2.length ≤ c0_2) (h : r11_less.f a0_0 a0_1 l0_2 a1 a2 = some r) :
 Calls Try.prog 30 #[.agg #[.int .i64 a0_0, .string a0_1, .slice A0_2 l0_2.length c0_2], .int .i64 a1, .string a2] w fun e w' => e = .returned (.bool r) ∧ Below w.heap.size w w' := by
 have hu59 := Try.underlying59
 have HR0_2 := Aside0.mk hr0_2
 have HC0_2 := Aside0.mk hc0_2
 clear hr0_2 hc0_2
 have HB := Aside0.mk (Below.refl w.heap.size w)
 have H : (if a0_0 < a1 then (some true) else (if a0_0 = a1 then (some (Op.bytesLess a0_1.toList a2.toList)) else (some false))) = some r := h
 clear h
 by_cases c4 : a0_0 < a1
 ·
  rw [if_pos c4] at H
  have c4b0 : decide (a0_0 < a1) = true := decide_eq_true c4
  clear c4
  obtain rfl := Option.some.inj H
  go_enter Try.func30, Try.ntmps30
  go_wp2_with (first | ((with_reducible refine gate_dst (N := 3) rfl ?_); refine bx (N := 3) #[.int .i64 a0_0, .string a0_1, .slice A0_2 l0_2.length c0_2] 59 ?_; intro gb336 hg w5 hbox hb; have BK336 := Aside0.mk (hbox); have GW336 := gw hg (uW HB.out); have GE336 := GW336; replace HB := cW HB hb; clear hb hbox hg; obtain ⟨hcz6_0, hcz6_1, hcz6_2, hfz6_0, hfz6_1, hfz6_2⟩ := z3 BK336))
  go_ret
  exact ⟨re_, bl⟩
 ·
  rw [if_neg c4] at H
  have c4b0 : decide (a0_0 < a1) = false := decide_eq_false c4
  clear c4
  by_cases c7 : a0_0 = a1
  ·
   rw [if_pos c7] at H
   have c7b0 : (a0_0 == a1) = true := beq_iff_eq.mpr c7
   have c7b1 : (a0_0 != a1) = false := bne_eq_false_iff_eq.mpr c7
   clear c7
   obtain rfl := Option.some.inj H
   go_enter Try.func30, Try.ntmps30
   go_wp2_with (first | ((with_reducible refine gate_dst (N := 3) rfl ?_); refine bx (N := 3) #[.int .i64 a0_0, .string a0_1, .slice A0_2 l0_2.length c0_2] 59 ?_; intro gb336 hg w8 hbox hb; have BK336 := Aside0.mk (hbox); have GW336 := gw hg (uW HB.out); have GE336 := GW336; replace HB := cW HB hb; clear hb hbox hg; obtain ⟨hcz9_0, hcz9_1, hcz9_2, hfz9_0, hfz9_1, hfz9_2⟩ := z3 BK336))
   go_ret
   exact ⟨re_, bl⟩
  ·
   rw [if_neg c7] at H
   have c7b0 : (a0_0 == a1) = false := beq_eq_false_iff_ne.mpr c7
   have c7b1 : (a0_0 != a1) = true := bne_iff_ne.mpr c7
   obtain rfl := Option.some.inj H
   go_enter Try.func30, Try.ntmps30
   go_wp2_with (first | ((with_reducible refine gate_dst (N := 3) rfl ?_); refine bx (N := 3) #[.int .i64 a0_0, .string a0_1, .slice A0_2 l0_2.length c0_2] 59 ?_; intro gb336 hg w10 hbox hb; have BK336 := Aside0.mk (hbox); have GW336 := gw hg (uW HB.out); have GE336 := GW336; replace HB := cW HB hb; clear hb hbox hg; obtain ⟨hcz11_0, hcz11_1, hcz11_2, hfz11_0, hfz11_1, hfz11_2⟩ := z3 BK336))
   go_ret
   exact ⟨re_, bl⟩
def r10_Right.l0 : Nat → List (S82) → Int → Option (Bool)
 | 0, _, _ => none
 | k + 1, x0, x3 => if x3 < (x0.length : Int) then (if 0 ≤ x3 then (if ((rd_T82 x0 x3).f0) < 1 then (some false) else (if ((rd_T82 x0 x3).f0) > 1000000000000000 then (some false) else (if x3 > 0 then (if 0 ≤ (wrap64 (x3 - 1)) then (if (wrap64 (x3 - 1)) < (x0.length : Int) then (if ((rd_T82 x0 (wrap64 (x3 - 1))).f0) ≥ ((rd_T82 x0 x3).f0) then (some false) else (r10_Right.l0 k x0 (wrap64 (x3 + 1)))) else (none)) else (none)) else (r10_Right.l0 k x0 (wrap64 (x3 + 1)))))) else (none)) else (some true)
def r10_Right.f (k : Nat) (l0 : List (S82)) : Option (Bool) := r10_Right.l0 k l0 0
theorem r10_Right.mono_l : ∀ k, (∀ y0 y1, LeC (r10_Right.l0 k y0 y1) (r10_Right.l0 (k + 1) y0 y1))
 | 0 => fun _ _ => ⟨fun r h => by simp [r10_Right.l0] at h⟩
 | k + 1 => by have ih0 := r10_Right.mono_l k; exact fun _ _ => by unfold r10_Right.l0; exact lm
theorem r10_Right.mono : ∀ a0 k, LeO (r10_Right.f k a0) (r10_Right.f (k + 1) a0) := by
 intro a0 k
 have ih0 := r10_Right.mono_l k
 unfold r10_Right.f
 exact lo
instance r10_Right.mI {a0 k} : LeC (r10_Right.f k a0) (r10_Right.f (k + 1) a0) := ⟨r10_Right.mono _ _⟩
theorem r10_Right.calls (k : Nat) (A0 : Option Addr) (c0 : Nat) (l0 : List (S82)) (r : Bool) (w : World) (hr0 : Kd.C k82 w A0 l0.length l0) (hc0 : l0.length ≤ c0) (h : r10_Right.f k l0 = some r) :
 Calls Try.prog 34 #[.slice A0 l0.length c0] w fun e w' => e = .returned (.bool r) ∧ Drawn0 w w' := by
 have HR0 := Aside0.mk hr0
 have HC0 := Aside0.mk hc0
 clear hr0 hc0
 have H : (r10_Right.l0 k l0 0) = some r := h
 clear h
 have H' := Aside0.mk H
 clear H
 go_enter Try.func34, Try.ntmps34
 go_wp2
 repeat (go_quiet (fail); try go_wp2)
 go_loopg [3] k (fun kq v3 w' => ∃ (x3_1 : Int), v3 = .int .i64 x3_1 ∧ Aside0 (r10_Right.l0 kq l0 x3_1 = some r) ∧ Aside0 (kq ≤ k) ∧ Drawn0 w w')
 case atStart => exact ⟨(0), rs_, H', ⟨Nat.le_refl _⟩, dr_⟩
 case round =>
  clear H'
  obtain ⟨x3_1, rfl, HA, HK1, ⟨m1, rfl⟩⟩ := hrel
  cases gk with
  | zero => exact absurd HA.out (by simp [r10_Right.l0])
  | succ k1 =>
   have H := HA.out
   clear HA
   simp only [r10_Right.l0] at H
   by_cases c2 : x3_1 < (l0.length : Int)
   ·
    rw [if_pos c2] at H
    have c2b0 : decide (x3_1 < (l0.length : Int)) = true := decide_eq_true c2
    clear c2
    obtain ⟨c3b0, H⟩ := gdd H
    by_cases c4 : ((rd_T82 l0 x3_1).f0) < 1
    ·
     rw [if_pos c4] at H
     have c4b0 : decide (((rd_T82 l0 x3_1).f0) < 1) = true := decide_eq_true c4
     clear c4
     obtain rfl := Option.some.inj H
     have p337 : 0 ≤ (x3_1 : Int) := od
     have q337 : x3_1 < (l0.length : Int) := od
     obtain ⟨ad337, e337, hx337_0, hx337_1, hx337_2, hx337_3, hx337_4, hx337_5⟩ := at_T82 HR0.out x3_1 p337 q337
     cases e337
     replace p337 := eq_true p337
     replace q337 := eq_true q337
     go_wp2
     repeat (go_quiet (fail); try go_wp2)
     go_ret
     exact ⟨rs_, dr_⟩
    ·
     rw [if_neg c4] at H
     have c4b0 : decide (((rd_T82 l0 x3_1).f0) < 1) = false := decide_eq_false c4
     clear c4
     by_cases c5 : ((rd_T82 l0 x3_1).f0) > 1000000000000000
     ·
      rw [if_pos c5] at H
      have c5b0 : decide (1000000000000000 < ((rd_T82 l0 x3_1).f0)) = true := decide_eq_true c5
      clear c5
      obtain rfl := Option.some.inj H
      have p337 : 0 ≤ (x3_1 : Int) := od
      have q337 : x3_1 < (l0.length : Int) := od
      obtain ⟨ad337, e337, hx337_0, hx337_1, hx337_2, hx337_3, hx337_4, hx337_5⟩ := at_T82 HR0.out x3_1 p337 q337
      cases e337
      replace p337 := eq_true p337
      replace q337 := eq_true q337
      have p338 : 0 ≤ (x3_1 : Int) := od
      have q338 : x3_1 < (l0.length : Int) := od
      obtain ⟨ad338, e338, hx338_0, hx338_1, hx338_2, hx338_3, hx338_4, hx338_5⟩ := at_T82 HR0.out x3_1 p338 q338
      obtain rfl : ad337 = ad338 := (by injection e338)
      replace p338 := eq_true p338
      replace q338 := eq_true q338
      go_wp2
      repeat (go_quiet (fail); try go_wp2)
      go_ret
      exact ⟨rs_, dr_⟩
     ·
      rw [if_neg c5] at H
      have c5b0 : decide (1000000000000000 < ((rd_T82 l0 x3_1).f0)) = false := decide_eq_false c5
      clear c5
      by_cases c6 : x3_1 > 0
      ·
       rw [if_pos c6] at H
       have c6b0 : decide (0 < x3_1) = true := decide_eq_true c6
       clear c6
       obtain ⟨ji7, hji7⟩ : ∃ j_ : Int, (wrap64 (x3_1 - 1)) = j_ := ⟨_, rfl⟩
       (first | rw [hji7] at H | simp only [hji7] at H)
       have hji7w : (IntKind.i64.wrap (x3_1 - 1)) = ji7 := (i64_w _).trans hji7
       obtain ⟨c8b0, H⟩ := gdd H
       obtain ⟨c9b0, H⟩ := gdd H
       by_cases c10 : ((rd_T82 l0 (ji7)).f0) ≥ ((rd_T82 l0 x3_1).f0)
       ·
        rw [if_pos c10] at H
        have c10b0 : decide (((rd_T82 l0 x3_1).f0) ≤ ((rd_T82 l0 (ji7)).f0)) = true := decide_eq_true c10
        clear c10
        obtain rfl := Option.some.inj H
        have p337 : 0 ≤ (x3_1 : Int) := od
        have q337 : x3_1 < (l0.length : Int) := od
        obtain ⟨ad337, e337, hx337_0, hx337_1, hx337_2, hx337_3, hx337_4, hx337_5⟩ := at_T82 HR0.out x3_1 p337 q337
        cases e337
        replace p337 := eq_true p337
        replace q337 := eq_true q337
        have p338 : 0 ≤ (x3_1 : Int) := od
        have q338 : x3_1 < (l0.length : Int) := od
        obtain ⟨ad338, e338, hx338_0, hx338_1, hx338_2, hx338_3, hx338_4, hx338_5⟩ := at_T82 HR0.out x3_1 p338 q338
        obtain rfl : ad337 = ad338 := (by injection e338)
        replace p338 := eq_true p338
        replace q338 := eq_true q338
        have p339 : 0 ≤ ((ji7) : Int) := od
        have q339 : (ji7) < (l0.length : Int) := od
        obtain ⟨ad339, e339, hx339_0, hx339_1, hx339_2, hx339_3, hx339_4, hx339_5⟩ := at_T82 HR0.out (ji7) p339 q339
        obtain rfl : ad337 = ad339 := (by injection e339)
        replace p339 := eq_true p339
        replace q339 := eq_true q339
        have p340 : 0 ≤ (x3_1 : Int) := od
        have q340 : x3_1 < (l0.length : Int) := od
        obtain ⟨ad340, e340, hx340_0, hx340_1, hx340_2, hx340_3, hx340_4, hx340_5⟩ := at_T82 HR0.out x3_1 p340 q340
        obtain rfl : ad337 = ad340 := (by injection e340)
        replace p340 := eq_true p340
        replace q340 := eq_true q340
        go_wp2
        repeat (go_quiet (fail); try go_wp2)
        go_ret
        exact ⟨by first | rfl | (simp; done) | (simp only [← hji7] <;> (first | rfl | simp)) | (simp [*]; done), dr_⟩
       ·
        rw [if_neg c10] at H
        have c10b0 : decide (((rd_T82 l0 x3_1).f0) ≤ ((rd_T82 l0 (ji7)).f0)) = false := decide_eq_false c10
        clear c10
        have H' := Aside0.mk H
        clear H
        have p337 : 0 ≤ (x3_1 : Int) := od
        have q337 : x3_1 < (l0.length : Int) := od
        obtain ⟨ad337, e337, hx337_0, hx337_1, hx337_2, hx337_3, hx337_4, hx337_5⟩ := at_T82 HR0.out x3_1 p337 q337
        cases e337
        replace p337 := eq_true p337
        replace q337 := eq_true q337
        have p338 : 0 ≤ (x3_1 : Int) := od
        have q338 : x3_1 < (l0.length : Int) := od
        obtain ⟨ad338, e338, hx338_0, hx338_1, hx338_2, hx338_3, hx338_4, hx338_5⟩ := at_T82 HR0.out x3_1 p338 q338
        obtain rfl : ad337 = ad338 := (by injection e338)
        replace p338 := eq_true p338
        replace q338 := eq_true q338
        have p339 : 0 ≤ ((ji7) : Int) := od
        have q339 : (ji7) < (l0.length : Int) := od
        obtain ⟨ad339, e339, hx339_0, hx339_1, hx339_2, hx339_3, hx339_4, hx339_5⟩ := at_T82 HR0.out (ji7) p339 q339
        obtain rfl : ad337 = ad339 := (by injection e339)
        replace p339 := eq_true p339
        replace q339 := eq_true q339
        have p340 : 0 ≤ (x3_1 : Int) := od
        have q340 : x3_1 < (l0.length : Int) := od
        obtain ⟨ad340, e340, hx340_0, hx340_1, hx340_2, hx340_3, hx340_4, hx340_5⟩ := at_T82 HR0.out x3_1 p340 q340
        obtain rfl : ad337 = ad340 := (by injection e340)
        replace p340 := eq_true p340
        replace q340 := eq_true q340
        go_wp2
        repeat (go_quiet (fail); try go_wp2)
        go_roundg k1
        case measure => have := HK1.out; omega
        case rel => exact ⟨(wrap64 (x3_1 + 1)), rs_, H', ⟨by have := HK1.out; omega⟩, dr_⟩
      ·
       rw [if_neg c6] at H
       have c6b0 : decide (0 < x3_1) = false := decide_eq_false c6
       clear c6
       have H' := Aside0.mk H
       clear H
       have p337 : 0 ≤ (x3_1 : Int) := od
       have q337 : x3_1 < (l0.length : Int) := od
       obtain ⟨ad337, e337, hx337_0, hx337_1, hx337_2, hx337_3, hx337_4, hx337_5⟩ := at_T82 HR0.out x3_1 p337 q337
       cases e337
       replace p337 := eq_true p337
       replace q337 := eq_true q337
       have p338 : 0 ≤ (x3_1 : Int) := od
       have q338 : x3_1 < (l0.length : Int) := od
       obtain ⟨ad338, e338, hx338_0, hx338_1, hx338_2, hx338_3, hx338_4, hx338_5⟩ := at_T82 HR0.out x3_1 p338 q338
       obtain rfl : ad337 = ad338 := (by injection e338)
       replace p338 := eq_true p338
       replace q338 := eq_true q338
       go_wp2
       repeat (go_quiet (fail); try go_wp2)
       go_roundg k1
       case measure => have := HK1.out; omega
       case rel => exact ⟨(wrap64 (x3_1 + 1)), rs_, H', ⟨by have := HK1.out; omega⟩, dr_⟩
   ·
    rw [if_neg c2] at H
    have c2b0 : decide (x3_1 < (l0.length : Int)) = false := decide_eq_false c2
    clear c2
    obtain rfl := Option.some.inj H
    go_wp2
    repeat (go_quiet (fail); try go_wp2)
    go_ret
    exact ⟨rs_, dr_⟩
def r11_Right.l0 : Nat → Int → List (S59) → Option (Bool)
 | 0, _, _ => none
 | k + 1, x3, x342000 => if x3 < (x342000.length : Int) then (if 0 ≤ x3 then (if (((rd_T59 x342000 x3).f2).length : Int) = 0 then (some false) else ((r10_Right.f k ((rd_T59 x342000 x3).f2)).bind fun t344 => (if t344 = true then (if x3 > 0 then (if 0 ≤ (wrap64 (x3 - 1)) then (if (wrap64 (x3 - 1)) < (x342000.length : Int) then ((r11_less.f ((rd_T59 x342000 (wrap64 (x3 - 1))).f0) ((rd_T59 x342000 (wrap64 (x3 - 1))).f1) ((rd_T59 x342000 (wrap64 (x3 - 1))).f2) ((rd_T59 x342000 x3).f0) ((rd_T59 x342000 x3).f1)).bind fun t346 => (if t346 = true then (r11_Right.l0 k (wrap64 (x3 + 1)) x342000) else (some false))) else (none)) else (none)) else (r11_Right.l0 k (wrap64 (x3 + 1)) x342000)) else (some false)))) else (none)) else (some true)
def r11_Right.f (k : Nat) (l0_0 : List (S59)) : Option (Bool) := r11_Right.l0 k 0 l0_0
theorem r11_Right.mono_l : ∀ k, (∀ y0 y1, LeC (r11_Right.l0 k y0 y1) (r11_Right.l0 (k + 1) y0 y1))
 | 0 => fun _ _ => ⟨fun r h => by simp [r11_Right.l0] at h⟩
 | k + 1 => by have ih0 := r11_Right.mono_l k; exact fun _ _ => by unfold r11_Right.l0; exact lm
theorem r11_Right.mono : ∀ a0 k, LeO (r11_Right.f k a0) (r11_Right.f (k + 1) a0) := by
 intro a0 k
 have ih0 := r11_Right.mono_l k
 unfold r11_Right.f
 exact lo
instance r11_Right.mI {a0 k} : LeC (r11_Right.f k a0) (r11_Right.f (k + 1) a0) := ⟨r11_Right.mono _ _⟩
def r11_Right.T5 : Bool × List (List Nat × List Nat) := (true, [([], []), ([0], [0]), ([1], [1]), ([2], [2]), ([3], [3]), ([4], [4]), ([5, 4], [4, 5]), ([6, 4, 4], [4, 6]), ([7, 4], [4, 7]), ([4, 8], [4, 8]), ([9, 7], [9]), ([10], [10]), ([11, 10], [10, 11]), ([12, 10, 10], [10, 12]), ([13], [13]), ([14, 13], [13, 14]), ([13], [13]), ([16, 13], [13, 16]), ([15, 17, 13], [13, 15, 17]), ([18, 13], [13, 18]), ([13], [13]), ([20, 13], [13, 20]), ([13], [13]), ([22, 13], [13, 22]), ([19, 21, 23, 13, 13], [13, 19, 21, 23]), ([24, 13], [13, 24]), ([13, 25, 10], [10, 13, 25]), ([10, 26], [10, 26])])
def r11_Right.B5 : List Nat := [0, 1, 3, 7, 15, 31, 63, 127, 255, 511, 1023, 2047, 4095, 8191, 16383, 32767, 16383, 81919, 262143, 524287, 16383, 1064959, 16383, 4210687, 16777215, 33554431, 67108863, 134217727]
theorem r11_Right.tab5 : rtab .any (opsOf Try.f15 5) = r11_Right.T5 := by kernel_rfl
theorem r11_Right.bits5 : waitsOk r11_Right.T5.2 r11_Right.B5 = true := by kernel_rfl
theorem r11_Right.calls (k : Nat) (A0_0 : Option Addr) (c0_0 : Nat) (l0_0 : List (S59)) (r : Bool) (w : World) (hr0_0 : Kd.C k59 w A0_0 l0_0.length l0_0) (hc0_0 : l0_0.length ≤ c0_0) (h : r11_Right.f k l0_0 = some r) :
 Calls Try.prog 15 #[.agg #[.slice A0_0 l0_0.length c0_0]] w fun e w' => e = .returned (.bool r) ∧ Below w.heap.size w w' := by
 have hu24 := Try.underlying24
 have hu59 := Try.underlying59
 have HR0_0 := Aside0.mk hr0_0
 have HC0_0 := Aside0.mk hc0_0
 clear hr0_0 hc0_0
 have HB := Aside0.mk (Below.refl w.heap.size w)
 have H : (r11_Right.l0 k 0 l0_0) = some r := h
 clear h
 have H' := Aside0.mk H
 clear H
 go_enter Try.func15, Try.ntmps15
 go_wp2_with (first | ((with_reducible refine gate_dst (N := 1) rfl ?_); refine bx (N := 1) #[.slice A0_0 l0_0.length c0_0] 24 ?_; intro gb341 hg w2 hbox hb; have BK341 := Aside0.mk (hbox); have GW341 := gw hg (uW HB.out); have GE341 := GW341; replace HB := cW HB hb; clear hb hbox hg))
 go_loopg [3] k (fun kq v3 w' => ∃ (x3_1 : Int), v3 = .int .i64 x3_1 ∧ Aside0 (r11_Right.l0 kq x3_1 l0_0 = some r) ∧ Aside0 (kq ≤ k) ∧ Aside0 (w'.heap[gb341]? = some (.cells #[(.slice A0_0 l0_0.length c0_0)] 24 (0, 0))) ∧ Aside0 (Below w.heap.size w w'))
 case atStart => exact ⟨(0), rs_, H', ⟨Nat.le_refl _⟩, ⟨uB BK341.out⟩, ⟨bl⟩⟩
 case round =>
  clear H'
  try clear c1
  try clear p2
  obtain ⟨x3_1, rfl, HA, HK1, BK341, HB⟩ := hrel
  cases gk with
  | zero => exact absurd HA.out (by simp [r11_Right.l0])
  | succ k1 =>
   have H := HA.out
   clear HA
   simp only [r11_Right.l0] at H
   by_cases c3 : x3_1 < (l0_0.length : Int)
   ·
    rw [if_pos c3] at H
    have c3b0 : decide (x3_1 < (l0_0.length : Int)) = true := decide_eq_true c3
    clear c3
    obtain ⟨c4b0, H⟩ := gdd H
    by_cases c5 : (((rd_T59 l0_0 x3_1).f2).length : Int) = 0
    ·
     rw [if_pos c5] at H
     have c5b0 : ((((rd_T59 l0_0 x3_1).f2).length : Int) == 0) = true := beq_iff_eq.mpr c5
     have c5b1 : ((((rd_T59 l0_0 x3_1).f2).length : Int) != 0) = false := bne_eq_false_iff_eq.mpr c5
     clear c5
     obtain rfl := Option.some.inj H
     obtain ⟨hcz6_0, hfz6_0⟩ := z1 BK341
     have p342 : 0 ≤ (x3_1 : Int) := od
     have q342 : x3_1 < (l0_0.length : Int) := od
     obtain ⟨ad342, A342_2, c342_2, e342, hx342_0, hx342_1, hx342_2, hl342_2, hi342_2⟩ := at_T59 HR0_0.out x3_1 p342 q342
     cases e342
     replace hx342_0 := kc HB hx342_0
     replace hx342_1 := kc HB hx342_1
     replace hx342_2 := kc HB hx342_2
     have HR342_2 := Aside0.mk hi342_2
     have HC342_2 := Aside0.mk hl342_2
     clear hi342_2 hl342_2
     replace p342 := eq_true p342
     replace q342 := eq_true q342
     try go_wp2_with (first | ((with_reducible refine gate_dst (N := 4) rfl ?_); refine bx (N := 4) #[.int .i64 0, .string (⟨#[]⟩ : ByteArray), .slice none 0 0] 59 ?_; intro gb343 hg w7 hbox hb; have BK343 := Aside0.mk (hbox); have GW343 := gw hg bl; have GE343 := GW343; replace HB := Aside0.mk (below_step bl hb); have NB341_343 := Aside0.mk ((by rw [hg]; exact Nat.ne_of_lt (blk_lt (g := gb341) (o := .cells #[.slice (some ad342) l0_0.length c0_0] 24 (0, 0)) (uB BK341.out)) : gb341 ≠ gb343)); have NB343_341 := Aside0.mk ((by rw [hg]; exact Nat.ne_of_gt (blk_lt (g := gb341) (o := .cells #[.slice (some ad342) l0_0.length c0_0] 24 (0, 0)) (uB BK341.out)) : gb343 ≠ gb341)); replace BK341 := cB BK341 hb; clear hb hbox hg; have hnb8 := NB343_341.out; have hnc8 := NB341_343.out; obtain ⟨hcz9_0, hcz9_1, hcz9_2, hfz9_0, hfz9_1, hfz9_2⟩ := z3 BK343))
     have n0_ : Aside0 ((((w7.setCell ⟨gb343, 0, none⟩ (.int .i64 ((rd_T59 l0_0 x3_1).f0))).setCell ⟨gb343, 1, none⟩ (.string ((rd_T59 l0_0 x3_1).f1))).setCell ⟨gb343, 2, none⟩ (.slice A342_2 ((rd_T59 l0_0 x3_1).f2).length c342_2)).heap[gb341]? = some (.cells #[.slice (some ad342) l0_0.length c0_0] 24 (0, 0))) := ⟨by (with_reducible repeat (first | refine blk_drewN ?_ _ | refine blk_drew ?_ | refine blk_alloc ?_ _)); refine blk_far ?_ NB341_343.out _; (with_reducible repeat (first | refine blk_drewN ?_ _ | refine blk_drew ?_ | refine blk_alloc ?_ _)); refine blk_far ?_ NB341_343.out _; (with_reducible repeat (first | refine blk_drewN ?_ _ | refine blk_drew ?_ | refine blk_alloc ?_ _)); refine blk_far ?_ NB341_343.out _; exact uB <| BK341.out⟩
     have n1_ : Aside0 ((((w7.setCell ⟨gb343, 0, none⟩ (.int .i64 ((rd_T59 l0_0 x3_1).f0))).setCell ⟨gb343, 1, none⟩ (.string ((rd_T59 l0_0 x3_1).f1))).setCell ⟨gb343, 2, none⟩ (.slice A342_2 ((rd_T59 l0_0 x3_1).f2).length c342_2)).heap[gb343]? = some (.cells #[.int .i64 ((rd_T59 l0_0 x3_1).f0), .string ((rd_T59 l0_0 x3_1).f1), .slice A342_2 ((rd_T59 l0_0 x3_1).f2).length c342_2] 59 (0, 0))) := ⟨by (with_reducible repeat (first | refine blk_drewN ?_ _ | refine blk_drew ?_ | refine blk_alloc ?_ _)); refine blk_put (cs := #[.int .i64 ((rd_T59 l0_0 x3_1).f0), .string ((rd_T59 l0_0 x3_1).f1), .slice none 0 0]) ?_ 2 _ rfl; (with_reducible repeat (first | refine blk_drewN ?_ _ | refine blk_drew ?_ | refine blk_alloc ?_ _)); refine blk_put (cs := #[.int .i64 ((rd_T59 l0_0 x3_1).f0), .string (⟨#[]⟩ : ByteArray), .slice none 0 0]) ?_ 1 _ rfl; (with_reducible repeat (first | refine blk_drewN ?_ _ | refine blk_drew ?_ | refine blk_alloc ?_ _)); refine blk_put (cs := #[.int .i64 0, .string (⟨#[]⟩ : ByteArray), .slice none 0 0]) ?_ 0 _ rfl; exact uB <| BK343.out⟩
     have n2_ : Aside0 (Below w.heap.size w (((w7.setCell ⟨gb343, 0, none⟩ (.int .i64 ((rd_T59 l0_0 x3_1).f0))).setCell ⟨gb343, 1, none⟩ (.string ((rd_T59 l0_0 x3_1).f1))).setCell ⟨gb343, 2, none⟩ (.slice A342_2 ((rd_T59 l0_0 x3_1).f2).length c342_2))) := ⟨bl⟩
     (try clear BK341)
     (try clear BK343)
     (try clear HB)
     generalize (((w7.setCell ⟨gb343, 0, none⟩ (.int .i64 ((rd_T59 l0_0 x3_1).f0))).setCell ⟨gb343, 1, none⟩ (.string ((rd_T59 l0_0 x3_1).f1))).setCell ⟨gb343, 2, none⟩ (.slice A342_2 ((rd_T59 l0_0 x3_1).f2).length c342_2)) = w10 at n0_ n1_ n2_ ⊢
     have BK341 := n0_
     have BK343 := n1_
     have HB := n2_
     clear n0_ n1_ n2_
     replace BK341 := Aside0.mk (blk_drew BK341.out)
     replace BK343 := Aside0.mk (blk_drew BK343.out)
     replace HB := Aside0.mk (below_drew1 HB.out)
     refine start_ (n := 28) (S := fun w' => w'.cell? ⟨gb343, 0, none⟩ = some (.int .i64 ((rd_T59 l0_0 x3_1).f0)) ∧ w'.cell? ⟨gb343, 1, none⟩ = some (.string ((rd_T59 l0_0 x3_1).f1)) ∧ w'.cell? ⟨gb343, 2, none⟩ = some (.slice A342_2 ((rd_T59 l0_0 x3_1).f2).length c342_2)) (ds := []) _ (by kernel_rfl) rfl rfl ⟨(blk_cell BK343.out 0).trans rfl, (blk_cell BK343.out 1).trans rfl, (blk_cell BK343.out 2).trans rfl⟩ (fun hHeld => ?_); refine with_tabW r11_Right.tab5 r11_Right.bits5 (fun HT_ HW_ => ?_)
     generalize w10.drew = w11 at BK341 BK343 HB hHeld ⊢
     refine p1 0 (some 17) ?_
     refine t1 1 (some 18) rfl rfl hHeld (Or.inl ⟨by rfl, by rintro w' ⟨s0, s1, s2⟩; go_simp; with_reducible rfl⟩) ?_
     refine p1 2 (some 19) ?_
     refine p1 3 (some 20) ?_
     refine p1 4 (some 21) ?_
     refine p2 5 (some 22) ?_
     refine p2 6 (some 23) ?_
     refine p2 7 (some 24) ?_
     refine p2 8 (some 25) ?_
     refine p1 9 (some 26) ?_
     refine p1 10 (some 27) ?_
     refine p2 11 (some 28) ?_
     refine p2 12 (some 29) ?_
     refine p2 13 (some 30) ?_
     refine p2 14 (some 31) ?_
     refine p2 15 (some 32) ?_
     refine p2 16 (some 33) ?_
     refine p2 17 (some 34) ?_
     refine p2 18 (some 35) ?_
     refine p2 19 (some 36) ?_
     refine p2 20 (some 37) ?_
     refine p2 21 (some 38) ?_
     refine p2 22 (some 39) ?_
     refine p2 23 (some 40) ?_
     refine p2 24 (some 41) ?_
     refine p2 25 (some 42) ?_
     refine p2 26 (some 43) ?_
     refine p1 27 (some 44) ?_
     refine done_ (done_of HT_.out (by kernel_rfl)) ?_
     try go_wp2
     go_ret
     exact ⟨re_, bl⟩
    ·
     rw [if_neg c5] at H
     have c5b0 : ((((rd_T59 l0_0 x3_1).f2).length : Int) == 0) = false := beq_eq_false_iff_ne.mpr c5
     have c5b1 : ((((rd_T59 l0_0 x3_1).f2).length : Int) != 0) = true := bne_iff_ne.mpr c5
     have c5b2 : ¬ (((rd_T59 l0_0 x3_1).f2) = []) := fun h_ => c5 (by rw [h_]; rfl)
     obtain ⟨t344, A12, H⟩ := bs H
     try dsimp only at H
     by_cases c13 : t344 = true
     ·
      subst c13
      rw [if_pos rfl] at H
      by_cases c14 : x3_1 > 0
      ·
       rw [if_pos c14] at H
       have c14b0 : decide (0 < x3_1) = true := decide_eq_true c14
       clear c14
       obtain ⟨ji15, hji15⟩ : ∃ j_ : Int, (wrap64 (x3_1 - 1)) = j_ := ⟨_, rfl⟩
       (first | rw [hji15] at H | simp only [hji15] at H)
       (try rw [hji15] at A12)
       have hji15w : (IntKind.i64.wrap (x3_1 - 1)) = ji15 := (i64_w _).trans hji15
       obtain ⟨c16b0, H⟩ := gdd H
       obtain ⟨c17b0, H⟩ := gdd H
       obtain ⟨t346, A18, H⟩ := bs H
       try dsimp only at H
       by_cases c19 : t346 = true
       ·
        subst c19
        rw [if_pos rfl] at H
        have H' := Aside0.mk H
        clear H
        obtain ⟨hcz20_0, hfz20_0⟩ := z1 BK341
        have p342 : 0 ≤ (x3_1 : Int) := od
        have q342 : x3_1 < (l0_0.length : Int) := od
        obtain ⟨ad342, A342_2, c342_2, e342, hx342_0, hx342_1, hx342_2, hl342_2, hi342_2⟩ := at_T59 HR0_0.out x3_1 p342 q342
        cases e342
        replace hx342_0 := kc HB hx342_0
        replace hx342_1 := kc HB hx342_1
        replace hx342_2 := kc HB hx342_2
        have HR342_2 := Aside0.mk hi342_2
        have HC342_2 := Aside0.mk hl342_2
        clear hi342_2 hl342_2
        replace p342 := eq_true p342
        replace q342 := eq_true q342
        try go_wp2_with (first | ((with_reducible refine gate_dst (N := 4) rfl ?_); refine bx (N := 4) #[.int .i64 0, .string (⟨#[]⟩ : ByteArray), .slice none 0 0] 59 ?_; intro gb343 hg w21 hbox hb; have BK343 := Aside0.mk (hbox); have GW343 := gw hg bl; have GE343 := GW343; replace HB := Aside0.mk (below_step bl hb); have NB341_343 := Aside0.mk ((by rw [hg]; exact Nat.ne_of_lt (blk_lt (g := gb341) (o := .cells #[.slice (some ad342) l0_0.length c0_0] 24 (0, 0)) (uB BK341.out)) : gb341 ≠ gb343)); have NB343_341 := Aside0.mk ((by rw [hg]; exact Nat.ne_of_gt (blk_lt (g := gb341) (o := .cells #[.slice (some ad342) l0_0.length c0_0] 24 (0, 0)) (uB BK341.out)) : gb343 ≠ gb341)); replace BK341 := cB BK341 hb; clear hb hbox hg; have hnb22 := NB343_341.out; have hnc22 := NB341_343.out; obtain ⟨hcz23_0, hcz23_1, hcz23_2, hfz23_0, hfz23_1, hfz23_2⟩ := z3 BK343))
        have n0_ : Aside0 ((((w21.setCell ⟨gb343, 0, none⟩ (.int .i64 ((rd_T59 l0_0 x3_1).f0))).setCell ⟨gb343, 1, none⟩ (.string ((rd_T59 l0_0 x3_1).f1))).setCell ⟨gb343, 2, none⟩ (.slice A342_2 ((rd_T59 l0_0 x3_1).f2).length c342_2)).heap[gb341]? = some (.cells #[.slice (some ad342) l0_0.length c0_0] 24 (0, 0))) := ⟨by (with_reducible repeat (first | refine blk_drewN ?_ _ | refine blk_drew ?_ | refine blk_alloc ?_ _)); refine blk_far ?_ NB341_343.out _; (with_reducible repeat (first | refine blk_drewN ?_ _ | refine blk_drew ?_ | refine blk_alloc ?_ _)); refine blk_far ?_ NB341_343.out _; (with_reducible repeat (first | refine blk_drewN ?_ _ | refine blk_drew ?_ | refine blk_alloc ?_ _)); refine blk_far ?_ NB341_343.out _; exact uB <| BK341.out⟩
        have n1_ : Aside0 ((((w21.setCell ⟨gb343, 0, none⟩ (.int .i64 ((rd_T59 l0_0 x3_1).f0))).setCell ⟨gb343, 1, none⟩ (.string ((rd_T59 l0_0 x3_1).f1))).setCell ⟨gb343, 2, none⟩ (.slice A342_2 ((rd_T59 l0_0 x3_1).f2).length c342_2)).heap[gb343]? = some (.cells #[.int .i64 ((rd_T59 l0_0 x3_1).f0), .string ((rd_T59 l0_0 x3_1).f1), .slice A342_2 ((rd_T59 l0_0 x3_1).f2).length c342_2] 59 (0, 0))) := ⟨by (with_reducible repeat (first | refine blk_drewN ?_ _ | refine blk_drew ?_ | refine blk_alloc ?_ _)); refine blk_put (cs := #[.int .i64 ((rd_T59 l0_0 x3_1).f0), .string ((rd_T59 l0_0 x3_1).f1), .slice none 0 0]) ?_ 2 _ rfl; (with_reducible repeat (first | refine blk_drewN ?_ _ | refine blk_drew ?_ | refine blk_alloc ?_ _)); refine blk_put (cs := #[.int .i64 ((rd_T59 l0_0 x3_1).f0), .string (⟨#[]⟩ : ByteArray), .slice none 0 0]) ?_ 1 _ rfl; (with_reducible repeat (first | refine blk_drewN ?_ _ | refine blk_drew ?_ | refine blk_alloc ?_ _)); refine blk_put (cs := #[.int .i64 0, .string (⟨#[]⟩ : ByteArray), .slice none 0 0]) ?_ 0 _ rfl; exact uB <| BK343.out⟩
        have n2_ : Aside0 (Below w.heap.size w (((w21.setCell ⟨gb343, 0, none⟩ (.int .i64 ((rd_T59 l0_0 x3_1).f0))).setCell ⟨gb343, 1, none⟩ (.string ((rd_T59 l0_0 x3_1).f1))).setCell ⟨gb343, 2, none⟩ (.slice A342_2 ((rd_T59 l0_0 x3_1).f2).length c342_2))) := ⟨bl⟩
        (try clear BK341)
        (try clear BK343)
        (try clear HB)
        generalize (((w21.setCell ⟨gb343, 0, none⟩ (.int .i64 ((rd_T59 l0_0 x3_1).f0))).setCell ⟨gb343, 1, none⟩ (.string ((rd_T59 l0_0 x3_1).f1))).setCell ⟨gb343, 2, none⟩ (.slice A342_2 ((rd_T59 l0_0 x3_1).f2).length c342_2)) = w24 at n0_ n1_ n2_ ⊢
        have BK341 := n0_
        have BK343 := n1_
        have HB := n2_
        clear n0_ n1_ n2_
        replace BK341 := Aside0.mk (blk_drew BK341.out)
        replace BK343 := Aside0.mk (blk_drew BK343.out)
        replace HB := Aside0.mk (below_drew1 HB.out)
        have p345 : 0 ≤ ((ji15) : Int) := od
        have q345 : (ji15) < (l0_0.length : Int) := od
        obtain ⟨ad345, A345_2, c345_2, e345, hx345_0, hx345_1, hx345_2, hl345_2, hi345_2⟩ := at_T59 HR0_0.out (ji15) p345 q345
        have hw345_2 := hx345_2
        have hw345_1 := hx345_1
        have hw345_0 := hx345_0
        obtain rfl : ad342 = ad345 := (by injection e345)
        replace hx345_0 := kc HB hx345_0
        replace hx345_1 := kc HB hx345_1
        replace hx345_2 := kc HB hx345_2
        have HR345_2 := Aside0.mk hi345_2
        have HC345_2 := Aside0.mk hl345_2
        clear hi345_2 hl345_2
        replace p345 := eq_true p345
        replace q345 := eq_true q345
        refine start_ (n := 28) (S := fun w' => w'.cell? ⟨gb343, 0, none⟩ = some (.int .i64 ((rd_T59 l0_0 x3_1).f0)) ∧ w'.cell? ⟨gb343, 1, none⟩ = some (.string ((rd_T59 l0_0 x3_1).f1)) ∧ w'.cell? ⟨gb343, 2, none⟩ = some (.slice A342_2 ((rd_T59 l0_0 x3_1).f2).length c342_2) ∧ w'.cell? ⟨gb341, 0, none⟩ = some (.slice (some ad342) l0_0.length c0_0) ∧ w'.cell? (ad342.add (((ji15)).toNat * 3)) = some (.int .i64 ((rd_T59 l0_0 (ji15)).f0)) ∧ w'.cell? ⟨(ad342.add (((ji15)).toNat * 3)).block, (ad342.add (((ji15)).toNat * 3)).off + 1, none⟩ = some (.string ((rd_T59 l0_0 (ji15)).f1)) ∧ w'.cell? ⟨(ad342.add (((ji15)).toNat * 3)).block, (ad342.add (((ji15)).toNat * 3)).off + 2, none⟩ = some (.slice A345_2 ((rd_T59 l0_0 (ji15)).f2).length c345_2)) (ds := []) _ (by kernel_rfl) rfl rfl ⟨(blk_cell BK343.out 0).trans rfl, (blk_cell BK343.out 1).trans rfl, (blk_cell BK343.out 2).trans rfl, (blk_cell BK341.out 0).trans rfl, (kc HB hw345_0), (kc HB hw345_1), (kc HB hw345_2)⟩ (fun hHeld => ?_); refine with_tabW r11_Right.tab5 r11_Right.bits5 (fun HT_ HW_ => ?_)
        generalize w24.drew = w25 at BK341 BK343 HB HR345_2 hx345_0 hx345_1 hx345_2 hHeld ⊢
        refine p1 0 (some 17) ?_
        refine t1 1 (some 18) rfl rfl hHeld (Or.inl ⟨by rfl, by rintro w' ⟨s0, s1, s2, s3, s4, s5, s6⟩; go_simp; with_reducible rfl⟩) ?_
        refine p1 2 (some 19) ?_
        refine p1 3 (some 20) ?_
        refine p1 4 (some 21) ?_
        refine p1 5 (some 22) ?_
        refine t1 6 (some 23) rfl rfl hHeld (Or.inl ⟨by rfl, by rintro w' ⟨s0, s1, s2, s3, s4, s5, s6⟩; go_simp; with_reducible rfl⟩) ?_
        refine o1 7 (some 24) rfl rfl (fun K hK => ?_)
        refine gS Try.func34 #[.slice A342_2 ((rd_T59 l0_0 x3_1).f2).length c342_2] ?_
        with_reducible refine (r10_Right.calls k1 _ _ ((rd_T59 l0_0 x3_1).f2) true _ ?side1 ?side2 A12.out).mono ?_
        (case side1 => exact uC <| (Kd.C_below HR342_2.out HB.out))
        (case side2 => exact HC342_2.out)
        rintro e w' ⟨rfl, ⟨nd, rfl⟩⟩
        refine ⟨_, rfl, ?_⟩
        refine hK.out _ _ ⟨(blk_cell BK343.out 0).trans rfl, (blk_cell BK343.out 1).trans rfl, (blk_cell BK343.out 2).trans rfl, (blk_cell BK341.out 0).trans rfl, (kc HB hw345_0), (kc HB hw345_1), (kc HB hw345_2)⟩ (fun hHeld => ?_)
        clear hK K
        refine norm_ (a' := ?_) ?_ ?_
        rotate_left
        ·
         show Act.put _ (some 24) _ = _
         simp only [Act.put, List.setIfInBounds_toArray, List.set_cons_zero, List.set_cons_succ, i64_w, i32_w]
         rfl
        refine p1 8 (some 25) ?_
        refine p1 9 (some 26) ?_
        refine p1 10 (some 27) ?_
        refine p1 11 (some 28) ?_
        refine p1 12 (some 29) ?_
        refine p1 13 (some 30) ?_
        refine p1 14 (some 31) ?_
        refine p1 16 (some 33) ?_
        refine p1 17 (some 34) ?_
        refine p1 20 (some 37) ?_
        refine p1 22 (some 39) ?_
        refine t1 15 (some 32) rfl rfl hHeld (Or.inl ⟨by rfl, by rintro w' ⟨s0, s1, s2, s3, s4, s5, s6⟩; go_simp; with_reducible rfl⟩) ?_
        refine p1 18 (some 35) ?_
        refine t1 19 (some 36) rfl rfl hHeld (Or.inl ⟨by rfl, by rintro w' ⟨s0, s1, s2, s3, s4, s5, s6⟩; go_simp; with_reducible rfl⟩) ?_
        refine t1 21 (some 38) rfl rfl hHeld (Or.inl ⟨by rfl, by rintro w' ⟨s0, s1, s2, s3, s4, s5, s6⟩; go_simp; with_reducible rfl⟩) ?_
        refine t1 23 (some 40) rfl rfl hHeld (Or.inl ⟨by rfl, by rintro w' ⟨s0, s1, s2, s3, s4, s5, s6⟩; go_simp; with_reducible rfl⟩) ?_
        refine o1 24 (some 41) rfl rfl (fun K hK => ?_)
        refine goes_ Try.func30 (by kernel_rfl) rfl #[.agg #[.int .i64 ((rd_T59 l0_0 (ji15)).f0), .string ((rd_T59 l0_0 (ji15)).f1), .slice A345_2 ((rd_T59 l0_0 (ji15)).f2).length c345_2], .int .i64 ((rd_T59 l0_0 x3_1).f0), .string ((rd_T59 l0_0 x3_1).f1)] (by rfl) rfl rfl (by (try simp only [List.map_toArray, List.map_cons, List.map_nil]); first | done | (simp only [hji15]; rfl) | rfl | (simp only [List.length_drop, List.length_take]; rfl)) ?_
        with_reducible refine (r11_less.calls ((rd_T59 l0_0 (ji15)).f0) ((rd_T59 l0_0 (ji15)).f1) _ _ ((rd_T59 l0_0 (ji15)).f2) ((rd_T59 l0_0 x3_1).f0) ((rd_T59 l0_0 x3_1).f1) true _ ?side1 ?side2 A18.out).mono ?_
        (case side1 => exact (Kd.C_below HR345_2.out bl))
        (case side2 => exact HC345_2.out)
        rintro e w26 ⟨rfl, hb⟩
        refine ⟨_, rfl, ?_⟩
        replace BK341 := cB BK341 hb
        replace BK343 := cB BK343 hb
        replace HB := Aside0.mk (below_step bl hb)
        (try clear hb)
        refine hK.out _ _ ⟨(blk_cell BK343.out 0).trans rfl, (blk_cell BK343.out 1).trans rfl, (blk_cell BK343.out 2).trans rfl, (blk_cell BK341.out 0).trans rfl, (kc HB hw345_0), (kc HB hw345_1), (kc HB hw345_2)⟩ (fun hHeld => ?_)
        clear hK K
        refine norm_ (a' := ?_) ?_ ?_
        rotate_left
        ·
         show Act.put _ (some 41) _ = _
         simp only [Act.put, List.setIfInBounds_toArray, List.set_cons_zero, List.set_cons_succ, i64_w, i32_w]
         rfl
        refine p1 25 (some 42) ?_
        refine p1 26 (some 43) ?_
        refine p1 27 (some 44) ?_
        refine done_ (done_of HT_.out (by kernel_rfl)) ?_
        try go_wp2
        go_roundg k1
        case measure => have := HK1.out; omega
        case rel => exact ⟨(wrap64 (x3_1 + 1)), rs_, H', ⟨by have := HK1.out; omega⟩, ⟨uB BK341.out⟩, ⟨bl⟩⟩
       ·
        replace c19 := Bool.eq_false_iff.mpr c19
        subst c19
        rw [if_neg (show ¬ (false = true) by decide)] at H
        obtain rfl := Option.some.inj H
        obtain ⟨hcz27_0, hfz27_0⟩ := z1 BK341
        have p342 : 0 ≤ (x3_1 : Int) := od
        have q342 : x3_1 < (l0_0.length : Int) := od
        obtain ⟨ad342, A342_2, c342_2, e342, hx342_0, hx342_1, hx342_2, hl342_2, hi342_2⟩ := at_T59 HR0_0.out x3_1 p342 q342
        cases e342
        replace hx342_0 := kc HB hx342_0
        replace hx342_1 := kc HB hx342_1
        replace hx342_2 := kc HB hx342_2
        have HR342_2 := Aside0.mk hi342_2
        have HC342_2 := Aside0.mk hl342_2
        clear hi342_2 hl342_2
        replace p342 := eq_true p342
        replace q342 := eq_true q342
        try go_wp2_with (first | ((with_reducible refine gate_dst (N := 4) rfl ?_); refine bx (N := 4) #[.int .i64 0, .string (⟨#[]⟩ : ByteArray), .slice none 0 0] 59 ?_; intro gb343 hg w28 hbox hb; have BK343 := Aside0.mk (hbox); have GW343 := gw hg bl; have GE343 := GW343; replace HB := Aside0.mk (below_step bl hb); have NB341_343 := Aside0.mk ((by rw [hg]; exact Nat.ne_of_lt (blk_lt (g := gb341) (o := .cells #[.slice (some ad342) l0_0.length c0_0] 24 (0, 0)) (uB BK341.out)) : gb341 ≠ gb343)); have NB343_341 := Aside0.mk ((by rw [hg]; exact Nat.ne_of_gt (blk_lt (g := gb341) (o := .cells #[.slice (some ad342) l0_0.length c0_0] 24 (0, 0)) (uB BK341.out)) : gb343 ≠ gb341)); replace BK341 := cB BK341 hb; clear hb hbox hg; have hnb29 := NB343_341.out; have hnc29 := NB341_343.out; obtain ⟨hcz30_0, hcz30_1, hcz30_2, hfz30_0, hfz30_1, hfz30_2⟩ := z3 BK343))
        have n0_ : Aside0 ((((w28.setCell ⟨gb343, 0, none⟩ (.int .i64 ((rd_T59 l0_0 x3_1).f0))).setCell ⟨gb343, 1, none⟩ (.string ((rd_T59 l0_0 x3_1).f1))).setCell ⟨gb343, 2, none⟩ (.slice A342_2 ((rd_T59 l0_0 x3_1).f2).length c342_2)).heap[gb341]? = some (.cells #[.slice (some ad342) l0_0.length c0_0] 24 (0, 0))) := ⟨by (with_reducible repeat (first | refine blk_drewN ?_ _ | refine blk_drew ?_ | refine blk_alloc ?_ _)); refine blk_far ?_ NB341_343.out _; (with_reducible repeat (first | refine blk_drewN ?_ _ | refine blk_drew ?_ | refine blk_alloc ?_ _)); refine blk_far ?_ NB341_343.out _; (with_reducible repeat (first | refine blk_drewN ?_ _ | refine blk_drew ?_ | refine blk_alloc ?_ _)); refine blk_far ?_ NB341_343.out _; exact uB <| BK341.out⟩
        have n1_ : Aside0 ((((w28.setCell ⟨gb343, 0, none⟩ (.int .i64 ((rd_T59 l0_0 x3_1).f0))).setCell ⟨gb343, 1, none⟩ (.string ((rd_T59 l0_0 x3_1).f1))).setCell ⟨gb343, 2, none⟩ (.slice A342_2 ((rd_T59 l0_0 x3_1).f2).length c342_2)).heap[gb343]? = some (.cells #[.int .i64 ((rd_T59 l0_0 x3_1).f0), .string ((rd_T59 l0_0 x3_1).f1), .slice A342_2 ((rd_T59 l0_0 x3_1).f2).length c342_2] 59 (0, 0))) := ⟨by (with_reducible repeat (first | refine blk_drewN ?_ _ | refine blk_drew ?_ | refine blk_alloc ?_ _)); refine blk_put (cs := #[.int .i64 ((rd_T59 l0_0 x3_1).f0), .string ((rd_T59 l0_0 x3_1).f1), .slice none 0 0]) ?_ 2 _ rfl; (with_reducible repeat (first | refine blk_drewN ?_ _ | refine blk_drew ?_ | refine blk_alloc ?_ _)); refine blk_put (cs := #[.int .i64 ((rd_T59 l0_0 x3_1).f0), .string (⟨#[]⟩ : ByteArray), .slice none 0 0]) ?_ 1 _ rfl; (with_reducible repeat (first | refine blk_drewN ?_ _ | refine blk_drew ?_ | refine blk_alloc ?_ _)); refine blk_put (cs := #[.int .i64 0, .string (⟨#[]⟩ : ByteArray), .slice none 0 0]) ?_ 0 _ rfl; exact uB <| BK343.out⟩
        have n2_ : Aside0 (Below w.heap.size w (((w28.setCell ⟨gb343, 0, none⟩ (.int .i64 ((rd_T59 l0_0 x3_1).f0))).setCell ⟨gb343, 1, none⟩ (.string ((rd_T59 l0_0 x3_1).f1))).setCell ⟨gb343, 2, none⟩ (.slice A342_2 ((rd_T59 l0_0 x3_1).f2).length c342_2))) := ⟨bl⟩
        (try clear BK341)
        (try clear BK343)
        (try clear HB)
        generalize (((w28.setCell ⟨gb343, 0, none⟩ (.int .i64 ((rd_T59 l0_0 x3_1).f0))).setCell ⟨gb343, 1, none⟩ (.string ((rd_T59 l0_0 x3_1).f1))).setCell ⟨gb343, 2, none⟩ (.slice A342_2 ((rd_T59 l0_0 x3_1).f2).length c342_2)) = w31 at n0_ n1_ n2_ ⊢
        have BK341 := n0_
        have BK343 := n1_
        have HB := n2_
        clear n0_ n1_ n2_
        replace BK341 := Aside0.mk (blk_drew BK341.out)
        replace BK343 := Aside0.mk (blk_drew BK343.out)
        replace HB := Aside0.mk (below_drew1 HB.out)
        have p345 : 0 ≤ ((ji15) : Int) := od
        have q345 : (ji15) < (l0_0.length : Int) := od
        obtain ⟨ad345, A345_2, c345_2, e345, hx345_0, hx345_1, hx345_2, hl345_2, hi345_2⟩ := at_T59 HR0_0.out (ji15) p345 q345
        have hw345_2 := hx345_2
        have hw345_1 := hx345_1
        have hw345_0 := hx345_0
        obtain rfl : ad342 = ad345 := (by injection e345)
        replace hx345_0 := kc HB hx345_0
        replace hx345_1 := kc HB hx345_1
        replace hx345_2 := kc HB hx345_2
        have HR345_2 := Aside0.mk hi345_2
        have HC345_2 := Aside0.mk hl345_2
        clear hi345_2 hl345_2
        replace p345 := eq_true p345
        replace q345 := eq_true q345
        refine start_ (n := 28) (S := fun w' => w'.cell? ⟨gb343, 0, none⟩ = some (.int .i64 ((rd_T59 l0_0 x3_1).f0)) ∧ w'.cell? ⟨gb343, 1, none⟩ = some (.string ((rd_T59 l0_0 x3_1).f1)) ∧ w'.cell? ⟨gb343, 2, none⟩ = some (.slice A342_2 ((rd_T59 l0_0 x3_1).f2).length c342_2) ∧ w'.cell? ⟨gb341, 0, none⟩ = some (.slice (some ad342) l0_0.length c0_0) ∧ w'.cell? (ad342.add (((ji15)).toNat * 3)) = some (.int .i64 ((rd_T59 l0_0 (ji15)).f0)) ∧ w'.cell? ⟨(ad342.add (((ji15)).toNat * 3)).block, (ad342.add (((ji15)).toNat * 3)).off + 1, none⟩ = some (.string ((rd_T59 l0_0 (ji15)).f1)) ∧ w'.cell? ⟨(ad342.add (((ji15)).toNat * 3)).block, (ad342.add (((ji15)).toNat * 3)).off + 2, none⟩ = some (.slice A345_2 ((rd_T59 l0_0 (ji15)).f2).length c345_2)) (ds := []) _ (by kernel_rfl) rfl rfl ⟨(blk_cell BK343.out 0).trans rfl, (blk_cell BK343.out 1).trans rfl, (blk_cell BK343.out 2).trans rfl, (blk_cell BK341.out 0).trans rfl, (kc HB hw345_0), (kc HB hw345_1), (kc HB hw345_2)⟩ (fun hHeld => ?_); refine with_tabW r11_Right.tab5 r11_Right.bits5 (fun HT_ HW_ => ?_)
        generalize w31.drew = w32 at BK341 BK343 HB HR345_2 hx345_0 hx345_1 hx345_2 hHeld ⊢
        refine p1 0 (some 17) ?_
        refine t1 1 (some 18) rfl rfl hHeld (Or.inl ⟨by rfl, by rintro w' ⟨s0, s1, s2, s3, s4, s5, s6⟩; go_simp; with_reducible rfl⟩) ?_
        refine p1 2 (some 19) ?_
        refine p1 3 (some 20) ?_
        refine p1 4 (some 21) ?_
        refine p1 5 (some 22) ?_
        refine t1 6 (some 23) rfl rfl hHeld (Or.inl ⟨by rfl, by rintro w' ⟨s0, s1, s2, s3, s4, s5, s6⟩; go_simp; with_reducible rfl⟩) ?_
        refine o1 7 (some 24) rfl rfl (fun K hK => ?_)
        refine gS Try.func34 #[.slice A342_2 ((rd_T59 l0_0 x3_1).f2).length c342_2] ?_
        with_reducible refine (r10_Right.calls k1 _ _ ((rd_T59 l0_0 x3_1).f2) true _ ?side1 ?side2 A12.out).mono ?_
        (case side1 => exact uC <| (Kd.C_below HR342_2.out HB.out))
        (case side2 => exact HC342_2.out)
        rintro e w' ⟨rfl, ⟨nd, rfl⟩⟩
        refine ⟨_, rfl, ?_⟩
        refine hK.out _ _ ⟨(blk_cell BK343.out 0).trans rfl, (blk_cell BK343.out 1).trans rfl, (blk_cell BK343.out 2).trans rfl, (blk_cell BK341.out 0).trans rfl, (kc HB hw345_0), (kc HB hw345_1), (kc HB hw345_2)⟩ (fun hHeld => ?_)
        clear hK K
        refine norm_ (a' := ?_) ?_ ?_
        rotate_left
        ·
         show Act.put _ (some 24) _ = _
         simp only [Act.put, List.setIfInBounds_toArray, List.set_cons_zero, List.set_cons_succ, i64_w, i32_w]
         rfl
        refine p1 8 (some 25) ?_
        refine p1 9 (some 26) ?_
        refine p1 10 (some 27) ?_
        refine p1 11 (some 28) ?_
        refine p1 12 (some 29) ?_
        refine p1 13 (some 30) ?_
        refine p1 14 (some 31) ?_
        refine p1 16 (some 33) ?_
        refine p1 17 (some 34) ?_
        refine p1 20 (some 37) ?_
        refine p1 22 (some 39) ?_
        refine t1 15 (some 32) rfl rfl hHeld (Or.inl ⟨by rfl, by rintro w' ⟨s0, s1, s2, s3, s4, s5, s6⟩; go_simp; with_reducible rfl⟩) ?_
        refine p1 18 (some 35) ?_
        refine t1 19 (some 36) rfl rfl hHeld (Or.inl ⟨by rfl, by rintro w' ⟨s0, s1, s2, s3, s4, s5, s6⟩; go_simp; with_reducible rfl⟩) ?_
        refine t1 21 (some 38) rfl rfl hHeld (Or.inl ⟨by rfl, by rintro w' ⟨s0, s1, s2, s3, s4, s5, s6⟩; go_simp; with_reducible rfl⟩) ?_
        refine t1 23 (some 40) rfl rfl hHeld (Or.inl ⟨by rfl, by rintro w' ⟨s0, s1, s2, s3, s4, s5, s6⟩; go_simp; with_reducible rfl⟩) ?_
        refine o1 24 (some 41) rfl rfl (fun K hK => ?_)
        refine goes_ Try.func30 (by kernel_rfl) rfl #[.agg #[.int .i64 ((rd_T59 l0_0 (ji15)).f0), .string ((rd_T59 l0_0 (ji15)).f1), .slice A345_2 ((rd_T59 l0_0 (ji15)).f2).length c345_2], .int .i64 ((rd_T59 l0_0 x3_1).f0), .string ((rd_T59 l0_0 x3_1).f1)] (by rfl) rfl rfl (by (try simp only [List.map_toArray, List.map_cons, List.map_nil]); first | done | (simp only [hji15]; rfl) | rfl | (simp only [List.length_drop, List.length_take]; rfl)) ?_
        with_reducible refine (r11_less.calls ((rd_T59 l0_0 (ji15)).f0) ((rd_T59 l0_0 (ji15)).f1) _ _ ((rd_T59 l0_0 (ji15)).f2) ((rd_T59 l0_0 x3_1).f0) ((rd_T59 l0_0 x3_1).f1) false _ ?side1 ?side2 A18.out).mono ?_
        (case side1 => exact (Kd.C_below HR345_2.out bl))
        (case side2 => exact HC345_2.out)
        rintro e w33 ⟨rfl, hb⟩
        refine ⟨_, rfl, ?_⟩
        replace BK341 := cB BK341 hb
        replace BK343 := cB BK343 hb
        replace HB := Aside0.mk (below_step bl hb)
        (try clear hb)
        refine hK.out _ _ ⟨(blk_cell BK343.out 0).trans rfl, (blk_cell BK343.out 1).trans rfl, (blk_cell BK343.out 2).trans rfl, (blk_cell BK341.out 0).trans rfl, (kc HB hw345_0), (kc HB hw345_1), (kc HB hw345_2)⟩ (fun hHeld => ?_)
        clear hK K
        refine norm_ (a' := ?_) ?_ ?_
        rotate_left
        ·
         show Act.put _ (some 41) _ = _
         simp only [Act.put, List.setIfInBounds_toArray, List.set_cons_zero, List.set_cons_succ, i64_w, i32_w]
         rfl
        refine p1 25 (some 42) ?_
        refine p1 26 (some 43) ?_
        refine p1 27 (some 44) ?_
        refine done_ (done_of HT_.out (by kernel_rfl)) ?_
        try go_wp2
        go_ret
        exact ⟨by first | rfl | (simp [errW_none, errW_some] <;> rfl) | (simp only [← hji15]; first | rfl | (simp [errW_none, errW_some] <;> rfl)) | (simp [*, errW_none, errW_some] <;> rfl), bl⟩
      ·
       rw [if_neg c14] at H
       have c14b0 : decide (0 < x3_1) = false := decide_eq_false c14
       clear c14
       have H' := Aside0.mk H
       clear H
       obtain ⟨hcz34_0, hfz34_0⟩ := z1 BK341
       have p342 : 0 ≤ (x3_1 : Int) := od
       have q342 : x3_1 < (l0_0.length : Int) := od
       obtain ⟨ad342, A342_2, c342_2, e342, hx342_0, hx342_1, hx342_2, hl342_2, hi342_2⟩ := at_T59 HR0_0.out x3_1 p342 q342
       cases e342
       replace hx342_0 := kc HB hx342_0
       replace hx342_1 := kc HB hx342_1
       replace hx342_2 := kc HB hx342_2
       have HR342_2 := Aside0.mk hi342_2
       have HC342_2 := Aside0.mk hl342_2
       clear hi342_2 hl342_2
       replace p342 := eq_true p342
       replace q342 := eq_true q342
       try go_wp2_with (first | ((with_reducible refine gate_dst (N := 4) rfl ?_); refine bx (N := 4) #[.int .i64 0, .string (⟨#[]⟩ : ByteArray), .slice none 0 0] 59 ?_; intro gb343 hg w35 hbox hb; have BK343 := Aside0.mk (hbox); have GW343 := gw hg bl; have GE343 := GW343; replace HB := Aside0.mk (below_step bl hb); have NB341_343 := Aside0.mk ((by rw [hg]; exact Nat.ne_of_lt (blk_lt (g := gb341) (o := .cells #[.slice (some ad342) l0_0.length c0_0] 24 (0, 0)) (uB BK341.out)) : gb341 ≠ gb343)); have NB343_341 := Aside0.mk ((by rw [hg]; exact Nat.ne_of_gt (blk_lt (g := gb341) (o := .cells #[.slice (some ad342) l0_0.length c0_0] 24 (0, 0)) (uB BK341.out)) : gb343 ≠ gb341)); replace BK341 := cB BK341 hb; clear hb hbox hg; have hnb36 := NB343_341.out; have hnc36 := NB341_343.out; obtain ⟨hcz37_0, hcz37_1, hcz37_2, hfz37_0, hfz37_1, hfz37_2⟩ := z3 BK343))
       have n0_ : Aside0 ((((w35.setCell ⟨gb343, 0, none⟩ (.int .i64 ((rd_T59 l0_0 x3_1).f0))).setCell ⟨gb343, 1, none⟩ (.string ((rd_T59 l0_0 x3_1).f1))).setCell ⟨gb343, 2, none⟩ (.slice A342_2 ((rd_T59 l0_0 x3_1).f2).length c342_2)).heap[gb341]? = some (.cells #[.slice (some ad342) l0_0.length c0_0] 24 (0, 0))) := ⟨by (with_reducible repeat (first | refine blk_drewN ?_ _ | refine blk_drew ?_ | refine blk_alloc ?_ _)); refine blk_far ?_ NB341_343.out _; (with_reducible repeat (first | refine blk_drewN ?_ _ | refine blk_drew ?_ | refine blk_alloc ?_ _)); refine blk_far ?_ NB341_343.out _; (with_reducible repeat (first | refine blk_drewN ?_ _ | refine blk_drew ?_ | refine blk_alloc ?_ _)); refine blk_far ?_ NB341_343.out _; exact uB <| BK341.out⟩
       have n1_ : Aside0 ((((w35.setCell ⟨gb343, 0, none⟩ (.int .i64 ((rd_T59 l0_0 x3_1).f0))).setCell ⟨gb343, 1, none⟩ (.string ((rd_T59 l0_0 x3_1).f1))).setCell ⟨gb343, 2, none⟩ (.slice A342_2 ((rd_T59 l0_0 x3_1).f2).length c342_2)).heap[gb343]? = some (.cells #[.int .i64 ((rd_T59 l0_0 x3_1).f0), .string ((rd_T59 l0_0 x3_1).f1), .slice A342_2 ((rd_T59 l0_0 x3_1).f2).length c342_2] 59 (0, 0))) := ⟨by (with_reducible repeat (first | refine blk_drewN ?_ _ | refine blk_drew ?_ | refine blk_alloc ?_ _)); refine blk_put (cs := #[.int .i64 ((rd_T59 l0_0 x3_1).f0), .string ((rd_T59 l0_0 x3_1).f1), .slice none 0 0]) ?_ 2 _ rfl; (with_reducible repeat (first | refine blk_drewN ?_ _ | refine blk_drew ?_ | refine blk_alloc ?_ _)); refine blk_put (cs := #[.int .i64 ((rd_T59 l0_0 x3_1).f0), .string (⟨#[]⟩ : ByteArray), .slice none 0 0]) ?_ 1 _ rfl; (with_reducible repeat (first | refine blk_drewN ?_ _ | refine blk_drew ?_ | refine blk_alloc ?_ _)); refine blk_put (cs := #[.int .i64 0, .string (⟨#[]⟩ : ByteArray), .slice none 0 0]) ?_ 0 _ rfl; exact uB <| BK343.out⟩
       have n2_ : Aside0 (Below w.heap.size w (((w35.setCell ⟨gb343, 0, none⟩ (.int .i64 ((rd_T59 l0_0 x3_1).f0))).setCell ⟨gb343, 1, none⟩ (.string ((rd_T59 l0_0 x3_1).f1))).setCell ⟨gb343, 2, none⟩ (.slice A342_2 ((rd_T59 l0_0 x3_1).f2).length c342_2))) := ⟨bl⟩
       (try clear BK341)
       (try clear BK343)
       (try clear HB)
       generalize (((w35.setCell ⟨gb343, 0, none⟩ (.int .i64 ((rd_T59 l0_0 x3_1).f0))).setCell ⟨gb343, 1, none⟩ (.string ((rd_T59 l0_0 x3_1).f1))).setCell ⟨gb343, 2, none⟩ (.slice A342_2 ((rd_T59 l0_0 x3_1).f2).length c342_2)) = w38 at n0_ n1_ n2_ ⊢
       have BK341 := n0_
       have BK343 := n1_
       have HB := n2_
       clear n0_ n1_ n2_
       replace BK341 := Aside0.mk (blk_drew BK341.out)
       replace BK343 := Aside0.mk (blk_drew BK343.out)
       replace HB := Aside0.mk (below_drew1 HB.out)
       refine start_ (n := 28) (S := fun w' => w'.cell? ⟨gb343, 0, none⟩ = some (.int .i64 ((rd_T59 l0_0 x3_1).f0)) ∧ w'.cell? ⟨gb343, 1, none⟩ = some (.string ((rd_T59 l0_0 x3_1).f1)) ∧ w'.cell? ⟨gb343, 2, none⟩ = some (.slice A342_2 ((rd_T59 l0_0 x3_1).f2).length c342_2)) (ds := []) _ (by kernel_rfl) rfl rfl ⟨(blk_cell BK343.out 0).trans rfl, (blk_cell BK343.out 1).trans rfl, (blk_cell BK343.out 2).trans rfl⟩ (fun hHeld => ?_); refine with_tabW r11_Right.tab5 r11_Right.bits5 (fun HT_ HW_ => ?_)
       generalize w38.drew = w39 at BK341 BK343 HB hHeld ⊢
       refine p1 0 (some 17) ?_
       refine t1 1 (some 18) rfl rfl hHeld (Or.inl ⟨by rfl, by rintro w' ⟨s0, s1, s2⟩; go_simp; with_reducible rfl⟩) ?_
       refine p1 2 (some 19) ?_
       refine p1 3 (some 20) ?_
       refine p1 4 (some 21) ?_
       refine p1 5 (some 22) ?_
       refine t1 6 (some 23) rfl rfl hHeld (Or.inl ⟨by rfl, by rintro w' ⟨s0, s1, s2⟩; go_simp; with_reducible rfl⟩) ?_
       refine o1 7 (some 24) rfl rfl (fun K hK => ?_)
       refine gS Try.func34 #[.slice A342_2 ((rd_T59 l0_0 x3_1).f2).length c342_2] ?_
       with_reducible refine (r10_Right.calls k1 _ _ ((rd_T59 l0_0 x3_1).f2) true _ ?side1 ?side2 A12.out).mono ?_
       (case side1 => exact uC <| (Kd.C_below HR342_2.out HB.out))
       (case side2 => exact HC342_2.out)
       rintro e w' ⟨rfl, ⟨nd, rfl⟩⟩
       refine ⟨_, rfl, ?_⟩
       refine hK.out _ _ ⟨(blk_cell BK343.out 0).trans rfl, (blk_cell BK343.out 1).trans rfl, (blk_cell BK343.out 2).trans rfl⟩ (fun hHeld => ?_)
       clear hK K
       refine norm_ (a' := ?_) ?_ ?_
       rotate_left
       ·
        show Act.put _ (some 24) _ = _
        simp only [Act.put, List.setIfInBounds_toArray, List.set_cons_zero, List.set_cons_succ, i64_w, i32_w]
        rfl
       refine p1 8 (some 25) ?_
       refine p1 9 (some 26) ?_
       refine p1 10 (some 27) ?_
       refine p1 11 (some 28) ?_
       refine p1 12 (some 29) ?_
       refine p1 13 (some 30) ?_
       refine p2 14 (some 31) ?_
       refine p2 15 (some 32) ?_
       refine p2 16 (some 33) ?_
       refine p2 17 (some 34) ?_
       refine p2 18 (some 35) ?_
       refine p2 19 (some 36) ?_
       refine p2 20 (some 37) ?_
       refine p2 21 (some 38) ?_
       refine p2 22 (some 39) ?_
       refine p2 23 (some 40) ?_
       refine p2 24 (some 41) ?_
       refine p2 25 (some 42) ?_
       refine p1 26 (some 43) ?_
       refine p1 27 (some 44) ?_
       refine done_ (done_of HT_.out (by kernel_rfl)) ?_
       try go_wp2
       go_roundg k1
       case measure => have := HK1.out; omega
       case rel => exact ⟨(wrap64 (x3_1 + 1)), rs_, H', ⟨by have := HK1.out; omega⟩, ⟨uB BK341.out⟩, ⟨bl⟩⟩
     ·
      replace c13 := Bool.eq_false_iff.mpr c13
      subst c13
      rw [if_neg (show ¬ (false = true) by decide)] at H
      obtain rfl := Option.some.inj H
      obtain ⟨hcz40_0, hfz40_0⟩ := z1 BK341
      have p342 : 0 ≤ (x3_1 : Int) := od
      have q342 : x3_1 < (l0_0.length : Int) := od
      obtain ⟨ad342, A342_2, c342_2, e342, hx342_0, hx342_1, hx342_2, hl342_2, hi342_2⟩ := at_T59 HR0_0.out x3_1 p342 q342
      cases e342
      replace hx342_0 := kc HB hx342_0
      replace hx342_1 := kc HB hx342_1
      replace hx342_2 := kc HB hx342_2
      have HR342_2 := Aside0.mk hi342_2
      have HC342_2 := Aside0.mk hl342_2
      clear hi342_2 hl342_2
      replace p342 := eq_true p342
      replace q342 := eq_true q342
      try go_wp2_with (first | ((with_reducible refine gate_dst (N := 4) rfl ?_); refine bx (N := 4) #[.int .i64 0, .string (⟨#[]⟩ : ByteArray), .slice none 0 0] 59 ?_; intro gb343 hg w41 hbox hb; have BK343 := Aside0.mk (hbox); have GW343 := gw hg bl; have GE343 := GW343; replace HB := Aside0.mk (below_step bl hb); have NB341_343 := Aside0.mk ((by rw [hg]; exact Nat.ne_of_lt (blk_lt (g := gb341) (o := .cells #[.slice (some ad342) l0_0.length c0_0] 24 (0, 0)) (uB BK341.out)) : gb341 ≠ gb343)); have NB343_341 := Aside0.mk ((by rw [hg]; exact Nat.ne_of_gt (blk_lt (g := gb341) (o := .cells #[.slice (some ad342) l0_0.length c0_0] 24 (0, 0)) (uB BK341.out)) : gb343 ≠ gb341)); replace BK341 := cB BK341 hb; clear hb hbox hg; have hnb42 := NB343_341.out; have hnc42 := NB341_343.out; obtain ⟨hcz43_0, hcz43_1, hcz43_2, hfz43_0, hfz43_1, hfz43_2⟩ := z3 BK343))
      have n0_ : Aside0 ((((w41.setCell ⟨gb343, 0, none⟩ (.int .i64 ((rd_T59 l0_0 x3_1).f0))).setCell ⟨gb343, 1, none⟩ (.string ((rd_T59 l0_0 x3_1).f1))).setCell ⟨gb343, 2, none⟩ (.slice A342_2 ((rd_T59 l0_0 x3_1).f2).length c342_2)).heap[gb341]? = some (.cells #[.slice (some ad342) l0_0.length c0_0] 24 (0, 0))) := ⟨by (with_reducible repeat (first | refine blk_drewN ?_ _ | refine blk_drew ?_ | refine blk_alloc ?_ _)); refine blk_far ?_ NB341_343.out _; (with_reducible repeat (first | refine blk_drewN ?_ _ | refine blk_drew ?_ | refine blk_alloc ?_ _)); refine blk_far ?_ NB341_343.out _; (with_reducible repeat (first | refine blk_drewN ?_ _ | refine blk_drew ?_ | refine blk_alloc ?_ _)); refine blk_far ?_ NB341_343.out _; exact uB <| BK341.out⟩
      have n1_ : Aside0 ((((w41.setCell ⟨gb343, 0, none⟩ (.int .i64 ((rd_T59 l0_0 x3_1).f0))).setCell ⟨gb343, 1, none⟩ (.string ((rd_T59 l0_0 x3_1).f1))).setCell ⟨gb343, 2, none⟩ (.slice A342_2 ((rd_T59 l0_0 x3_1).f2).length c342_2)).heap[gb343]? = some (.cells #[.int .i64 ((rd_T59 l0_0 x3_1).f0), .string ((rd_T59 l0_0 x3_1).f1), .slice A342_2 ((rd_T59 l0_0 x3_1).f2).length c342_2] 59 (0, 0))) := ⟨by (with_reducible repeat (first | refine blk_drewN ?_ _ | refine blk_drew ?_ | refine blk_alloc ?_ _)); refine blk_put (cs := #[.int .i64 ((rd_T59 l0_0 x3_1).f0), .string ((rd_T59 l0_0 x3_1).f1), .slice none 0 0]) ?_ 2 _ rfl; (with_reducible repeat (first | refine blk_drewN ?_ _ | refine blk_drew ?_ | refine blk_alloc ?_ _)); refine blk_put (cs := #[.int .i64 ((rd_T59 l0_0 x3_1).f0), .string (⟨#[]⟩ : ByteArray), .slice none 0 0]) ?_ 1 _ rfl; (with_reducible repeat (first | refine blk_drewN ?_ _ | refine blk_drew ?_ | refine blk_alloc ?_ _)); refine blk_put (cs := #[.int .i64 0, .string (⟨#[]⟩ : ByteArray), .slice none 0 0]) ?_ 0 _ rfl; exact uB <| BK343.out⟩
      have n2_ : Aside0 (Below w.heap.size w (((w41.setCell ⟨gb343, 0, none⟩ (.int .i64 ((rd_T59 l0_0 x3_1).f0))).setCell ⟨gb343, 1, none⟩ (.string ((rd_T59 l0_0 x3_1).f1))).setCell ⟨gb343, 2, none⟩ (.slice A342_2 ((rd_T59 l0_0 x3_1).f2).length c342_2))) := ⟨bl⟩
      (try clear BK341)
      (try clear BK343)
      (try clear HB)
      generalize (((w41.setCell ⟨gb343, 0, none⟩ (.int .i64 ((rd_T59 l0_0 x3_1).f0))).setCell ⟨gb343, 1, none⟩ (.string ((rd_T59 l0_0 x3_1).f1))).setCell ⟨gb343, 2, none⟩ (.slice A342_2 ((rd_T59 l0_0 x3_1).f2).length c342_2)) = w44 at n0_ n1_ n2_ ⊢
      have BK341 := n0_
      have BK343 := n1_
      have HB := n2_
      clear n0_ n1_ n2_
      replace BK341 := Aside0.mk (blk_drew BK341.out)
      replace BK343 := Aside0.mk (blk_drew BK343.out)
      replace HB := Aside0.mk (below_drew1 HB.out)
      refine start_ (n := 28) (S := fun w' => w'.cell? ⟨gb343, 0, none⟩ = some (.int .i64 ((rd_T59 l0_0 x3_1).f0)) ∧ w'.cell? ⟨gb343, 1, none⟩ = some (.string ((rd_T59 l0_0 x3_1).f1)) ∧ w'.cell? ⟨gb343, 2, none⟩ = some (.slice A342_2 ((rd_T59 l0_0 x3_1).f2).length c342_2)) (ds := []) _ (by kernel_rfl) rfl rfl ⟨(blk_cell BK343.out 0).trans rfl, (blk_cell BK343.out 1).trans rfl, (blk_cell BK343.out 2).trans rfl⟩ (fun hHeld => ?_); refine with_tabW r11_Right.tab5 r11_Right.bits5 (fun HT_ HW_ => ?_)
      generalize w44.drew = w45 at BK341 BK343 HB hHeld ⊢
      refine p1 0 (some 17) ?_
      refine t1 1 (some 18) rfl rfl hHeld (Or.inl ⟨by rfl, by rintro w' ⟨s0, s1, s2⟩; go_simp; with_reducible rfl⟩) ?_
      refine p1 2 (some 19) ?_
      refine p1 3 (some 20) ?_
      refine p1 4 (some 21) ?_
      refine p1 5 (some 22) ?_
      refine t1 6 (some 23) rfl rfl hHeld (Or.inl ⟨by rfl, by rintro w' ⟨s0, s1, s2⟩; go_simp; with_reducible rfl⟩) ?_
      refine o1 7 (some 24) rfl rfl (fun K hK => ?_)
      refine gS Try.func34 #[.slice A342_2 ((rd_T59 l0_0 x3_1).f2).length c342_2] ?_
      with_reducible refine (r10_Right.calls k1 _ _ ((rd_T59 l0_0 x3_1).f2) false _ ?side1 ?side2 A12.out).mono ?_
      (case side1 => exact uC <| (Kd.C_below HR342_2.out HB.out))
      (case side2 => exact HC342_2.out)
      rintro e w' ⟨rfl, ⟨nd, rfl⟩⟩
      refine ⟨_, rfl, ?_⟩
      refine hK.out _ _ ⟨(blk_cell BK343.out 0).trans rfl, (blk_cell BK343.out 1).trans rfl, (blk_cell BK343.out 2).trans rfl⟩ (fun hHeld => ?_)
      clear hK K
      refine norm_ (a' := ?_) ?_ ?_
      rotate_left
      ·
       show Act.put _ (some 24) _ = _
       simp only [Act.put, List.setIfInBounds_toArray, List.set_cons_zero, List.set_cons_succ, i64_w, i32_w]
       rfl
      refine p1 8 (some 25) ?_
      refine p1 9 (some 26) ?_
      refine p1 10 (some 27) ?_
      refine p2 11 (some 28) ?_
      refine p2 12 (some 29) ?_
      refine p2 13 (some 30) ?_
      refine p2 14 (some 31) ?_
      refine p2 15 (some 32) ?_
      refine p2 16 (some 33) ?_
      refine p2 17 (some 34) ?_
      refine p2 18 (some 35) ?_
      refine p2 19 (some 36) ?_
      refine p2 20 (some 37) ?_
      refine p2 21 (some 38) ?_
      refine p2 22 (some 39) ?_
      refine p2 23 (some 40) ?_
      refine p2 24 (some 41) ?_
      refine p2 25 (some 42) ?_
      refine p2 26 (some 43) ?_
      refine p1 27 (some 44) ?_
      refine done_ (done_of HT_.out (by kernel_rfl)) ?_
      try go_wp2
      go_ret
      exact ⟨re_, bl⟩
   ·
    rw [if_neg c3] at H
    have c3b0 : decide (x3_1 < (l0_0.length : Int)) = false := decide_eq_false c3
    clear c3
    obtain rfl := Option.some.inj H
    obtain ⟨hcz46_0, hfz46_0⟩ := z1 BK341
    go_wp2
    go_ret
    exact ⟨re_, bl⟩
theorem eqA54 (d : Nat) (w : World) (x0 y0 : Int) (x1 y1 : ByteArray) (x2 y2 : Int) (x3 y3 : Int) (x4 y4 : Bool) (x5 y5 : Int) (x6 y6 : Int) :
 (Op.equalIn (d + 4) 54 (.agg #[.int .i64 x0, .string x1, .int .i64 x2, .int .i64 x3, .bool x4, .int .i64 x5, .int .i64 x6]) (.agg #[.int .i64 y0, .string y1, .int .i64 y2, .int .i64 y3, .bool y4, .int .i64 y5, .int .i64 y6])).run Try.prog w = .ok (x0 == y0 && (x1.toList == y1.toList && ((x2 == y2 && ((x3 == y3 && (x4 == y4)) && (x5 == y5 && (x6 == y6))))))) w := by
 refine eqA_of Try.underlying54 (by kernel_rfl) ?_
 refine eqf_cons (by rfl) (by go_simp; rfl) (by go_simp; rfl) (by go_simp) ?_
 refine eqf_cons (by rfl) (by go_simp; rfl) (by go_simp; rfl) (by go_simp) ?_
 exact eqf_last (by rfl) (by go_simp) (by go_simp) (eqA52 (d + 0) w _ _ _ _ _ _ _ _ _ _)
end Go.Proofs.Ytofaindjbhmopaa.X
