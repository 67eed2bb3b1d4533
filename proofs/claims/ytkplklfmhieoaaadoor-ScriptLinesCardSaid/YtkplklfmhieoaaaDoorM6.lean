/- Printed by a program of this session's own: what functions of the program compute, and that the machine computes it. No condition of its own. -/
import Derived.Test.YtkplklfmhieoaaaDoorM3
import Derived.Test.YtkplklfmhieoaaaDoorM4
import Derived.Test.YtkplklfmhieoaaaDoorM5
namespace Go.Proofs.YtkplklfmhieoaaaDoor.X
open Go.RowKit Go.Proofs.YtkplklfmhieoaaaDoorW.PrintWords Go.Proofs.YtkplklfmhieoaaaDoorW.PrintLast Go.Proofs.YtkplklfmhieoaaaDoorW.PrintMore
attribute [local go_sem] max2_int min2_int max_two min_two max_three min_three max_four min_four
set_option linter.unusedVariables false
set_option linter.unusedSimpArgs false
set_option maxHeartbeats 8000000
set_option maxRecDepth 100000
theorem api_Event_with_28.goesV_ {P : Program} {ops : Array Oper} {Q : Exit → Act → World → Prop} {oi : Oper} {N : Option Tmp} {a : Act} {w : World} {K : Act → World → Prop} {f : FuncId} {fn : Func} {cal : Operand} {as_ : Array Operand} {ts : Array TypeId} (hf : P.funcs[f]? = some fn) (hname : (fn.name == "runtime.NumGoroutine") = false) (hb : fn.body.isSome = true) (args : Array Value)
 (hw : Region.wanted oi (yielded ops a.tmps) = true) (hN : oi.dst = N) (hop : oi.op = .call { callee := .value cal, args := as_, argTypes := ts }) (hev : a.eval cal = .func (.func f) #[] #[]) (hargs : as_.map a.eval = args)
 (h : Calls P f args w fun e w' => ∃ v, e = .returned v ∧ K (a.put N v) w') : if Region.wanted oi (yielded ops a.tmps) = true then Oper.wp P oi a w K Q else K (a.put N undef) w := by
 refine call_ f args hw hN ?_ h
 have he := enters_ hf hname hb args w
 unfold execOp
 simp [hop, resolve, Deferred.ofValue, invoke, hev, hargs, he]
theorem api_Event_with_28.goesVL_ {P : Program} {ops : Array Oper} {Q : Exit → Act → World → Prop} {rest : List Oper} {oi : Oper} {a : Act} {w : World} (N : Option Tmp) (hd : oi.dst = N) (hg : oi.guard = none) {f : FuncId} {fn : Func} {cal : Operand} {as_ : Array Operand} {ts : Array TypeId} (hf : P.funcs[f]? = some fn) (hname : (fn.name == "runtime.NumGoroutine") = false) (hb : fn.body.isSome = true) (args : Array Value)
 (hop : oi.op = .call { callee := .value cal, args := as_, argTypes := ts }) (hev : a.eval cal = .func (.func f) #[] #[]) (hargs : as_.map a.eval = args)
 (h : Calls P f args w fun e w' => ∃ v, e = .returned v ∧ wpList P ops Q rest (a.put N v) w') : wpList P ops Q (oi :: rest) a w := by
 refine wpList_plain hg fun K hK => ?_
 have he := enters_ hf hname hb args w
 have hrun : (execOp a.eval oi).run P w = .ok (.enter f args) w := by
  unfold execOp
  simp [hop, resolve, Deferred.ofValue, invoke, hev, hargs, he]
 unfold Oper.wp
 rw [hrun, Oper.upon_enter]
 refine h.mono fun e w'' hh => ?_
 obtain ⟨v, rfl, hk⟩ := hh
 subst hd
 exact hK _ _ hk
def api_Event_with_28.l0 : Nat → List (S36) → List (S36) → Int → Int → Option (Bool)
 | 0, _, _, _, _ => none
 | k + 1, x1, x15, x16, x17 => if x17 < x16 then (if 0 ≤ x17 then (if x17 < (x15.length : Int) then (if x17 < (x1.length : Int) then ((script_Same_1.f ((rd_T36 x15 x17).f0) ((rd_T36 x15 x17).f1) ((rd_T36 x15 x17).f2) ((rd_T36 x1 x17).f0) ((rd_T36 x1 x17).f1) ((rd_T36 x1 x17).f2)).bind fun t200 => (if t200 = true then (api_Event_with_28.l0 k x1 x15 x16 (wrap64 (x17 + 1))) else (some false))) else (none)) else (none)) else (none)) else (some true)
def api_Event_with_28.f (k : Nat) (l0 : List (S36)) (l1 : List (S36)) : Option (Bool) := if (l0.length : Int) = (l1.length : Int) then (api_Event_with_28.l0 k l1 l0 (l0.length : Int) 0) else (some false)
theorem api_Event_with_28.mono_l : ∀ k, (∀ y0 y1 y2 y3, LeC (api_Event_with_28.l0 k y0 y1 y2 y3) (api_Event_with_28.l0 (k + 1) y0 y1 y2 y3))
 | 0 => fun _ _ _ _ => ⟨fun r h => by simp [api_Event_with_28.l0] at h⟩
 | k + 1 => by have ih0 := api_Event_with_28.mono_l k; exact fun _ _ _ _ => by unfold api_Event_with_28.l0; exact lm
theorem api_Event_with_28.mono : ∀ a0 a1 k, LeO (api_Event_with_28.f k a0 a1) (api_Event_with_28.f (k + 1) a0 a1) := by
 intro a0 a1 k
 have ih0 := api_Event_with_28.mono_l k
 unfold api_Event_with_28.f
 exact lo
instance api_Event_with_28.mI {a0 a1 k} : LeC (api_Event_with_28.f k a0 a1) (api_Event_with_28.f (k + 1) a0 a1) := ⟨api_Event_with_28.mono _ _ _⟩
theorem api_Event_with_28.calls (k : Nat) (A0 : Option Addr) (c0 : Nat) (l0 : List (S36)) (A1 : Option Addr) (c1 : Nat) (l1 : List (S36)) (r : Bool) (w : World) (hr0 : Kd.C k36 w A0 l0.length l0) (hc0 : l0.length ≤ c0) (hr1 : Kd.C k36 w A1 l1.length l1) (hc1 : l1.length ≤ c1) (h : api_Event_with_28.f k l0 l1 = some r) :
 Calls Tryd.prog 27 #[.slice A0 l0.length c0, .slice A1 l1.length c1, .func (.func 28) #[] #[]] w fun e w' => e = .returned (.bool r) ∧ Below w.heap.size w w' := by
 have hu36 := Tryd.underlying36
 have HR0 := Aside0.mk hr0
 have HC0 := Aside0.mk hc0
 clear hr0 hc0
 have HR1 := Aside0.mk hr1
 have HC1 := Aside0.mk hc1
 clear hr1 hc1
 have HB := Aside0.mk (Below.refl w.heap.size w)
 have H : (if (l0.length : Int) = (l1.length : Int) then (api_Event_with_28.l0 k l1 l0 (l0.length : Int) 0) else (some false)) = some r := h
 clear h
 by_cases c3 : (l0.length : Int) = (l1.length : Int)
 ·
  rw [if_pos c3] at H
  have c3b0 : ((l0.length : Int) == (l1.length : Int)) = true := beq_iff_eq.mpr c3
  have c3b1 : ((l0.length : Int) != (l1.length : Int)) = false := bne_eq_false_iff_eq.mpr c3
  have c3b2 : (l0.length == l1.length) = true := by first | simpa using c3 | (simp at c3 ⊢; omega)
  clear c3
  have H' := Aside0.mk H
  clear H
  go_enter Tryd.func27, Tryd.ntmps27
  go_wp2
  go_loopg [17] k (fun kq v17 w' => ∃ (x17_1 : Int), v17 = .int .i64 x17_1 ∧ Aside0 (api_Event_with_28.l0 kq l1 l0 (l0.length : Int) x17_1 = some r) ∧ Aside0 (kq ≤ k) ∧ Aside0 (Below w.heap.size w w'))
  case atStart => exact ⟨(0), rs_, H', ⟨Nat.le_refl _⟩, ⟨uW HB.out⟩⟩
  case round =>
   clear H'
   try clear c1
   try clear p2
   try clear c3
   try clear c3b0
   try clear c3b1
   try clear c3b2
   obtain ⟨x17_1, rfl, HA, HK1, HB⟩ := hrel
   cases gk with
   | zero => exact absurd HA.out (by simp [api_Event_with_28.l0])
   | succ k1 =>
    have H := HA.out
    clear HA
    simp only [api_Event_with_28.l0] at H
    by_cases c4 : x17_1 < (l0.length : Int)
    ·
     rw [if_pos c4] at H
     have c4b0 : decide (x17_1 < (l0.length : Int)) = true := decide_eq_true c4
     clear c4
     obtain ⟨c5b0, H⟩ := gdd H
     obtain ⟨c6b0, H⟩ := gdd H
     obtain ⟨c7b0, H⟩ := gdd H
     obtain ⟨t200, A8, H⟩ := bs H
     try dsimp only at H
     by_cases c9 : t200 = true
     ·
      subst c9
      rw [if_pos rfl] at H
      have H' := Aside0.mk H
      clear H
      have p196 : 0 ≤ (x17_1 : Int) := od
      have q196 : x17_1 < (l0.length : Int) := od
      obtain ⟨ad196, A196_2, c196_2, e196, hx196_0, hx196_1, hx196_2, hl196_2, hi196_2⟩ := at_T36 HR0.out x17_1 p196 q196
      cases e196
      replace hx196_0 := kc HB hx196_0
      replace hx196_1 := kc HB hx196_1
      replace hx196_2 := kc HB hx196_2
      have HR196_2 := Aside0.mk hi196_2
      have HC196_2 := Aside0.mk hl196_2
      clear hi196_2 hl196_2
      replace p196 := eq_true p196
      replace q196 := eq_true q196
      go_wp2_with (first | ((with_reducible refine gate_dst (N := 8) rfl ?_); refine bx (N := 8) #[.int .i64 0, .int .i64 0, .slice none 0 0] 36 ?_; intro gb197 hg w10 hbox hb; have BK197 := Aside0.mk (hbox); have GW197 := gw hg (uW HB.out); have GE197 := GW197; replace HB := cW HB hb; clear hb hbox hg; obtain ⟨hcz11_0, hcz11_1, hcz11_2, hfz11_0, hfz11_1, hfz11_2⟩ := z3 BK197; have p198 : 0 ≤ (x17_1 : Int) := od; have q198 : x17_1 < (l1.length : Int) := od; obtain ⟨ad198, A198_2, c198_2, e198, hx198_0, hx198_1, hx198_2, hl198_2, hi198_2⟩ := at_T36 HR1.out x17_1 p198 q198; cases e198; have hn198_0 : ad198.block ≠ gb197 := Nat.ne_of_lt (Nat.lt_of_lt_of_le (by have := World.block_lt_of_cell? _ _ hx198_0; first | rwa [add_block] at this | exact this) GW197.out); have hn198_1 : ad198.block ≠ gb197 := Nat.ne_of_lt (Nat.lt_of_lt_of_le (by have := World.block_lt_of_cell? _ _ hx198_0; first | rwa [add_block] at this | exact this) GW197.out); have hn198_2 : ad198.block ≠ gb197 := Nat.ne_of_lt (Nat.lt_of_lt_of_le (by have := World.block_lt_of_cell? _ _ hx198_0; first | rwa [add_block] at this | exact this) GW197.out); replace hx198_0 := kc HB hx198_0; replace hx198_1 := kc HB hx198_1; replace hx198_2 := kc HB hx198_2; have HR198_2 := Aside0.mk hi198_2; have HC198_2 := Aside0.mk hl198_2; clear hi198_2 hl198_2; replace hx198_0 := (cell_far (p := ⟨gb197, 0, none⟩) (by first | (rw [add_block]; exact hn198_0) | (show (Addr.add _ _).block ≠ _; rw [add_block]; exact hn198_0) | exact hn198_0) (.int .i64 ((rd_T36 l0 x17_1).f0))).trans hx198_0; replace hx198_1 := (cell_far (p := ⟨gb197, 0, none⟩) (by first | (rw [add_block]; exact hn198_0) | (show (Addr.add _ _).block ≠ _; rw [add_block]; exact hn198_0) | exact hn198_0) (.int .i64 ((rd_T36 l0 x17_1).f0))).trans hx198_1; replace hx198_2 := (cell_far (p := ⟨gb197, 0, none⟩) (by first | (rw [add_block]; exact hn198_0) | (show (Addr.add _ _).block ≠ _; rw [add_block]; exact hn198_0) | exact hn198_0) (.int .i64 ((rd_T36 l0 x17_1).f0))).trans hx198_2; replace hx198_0 := (cell_far (p := ⟨gb197, 1, none⟩) (by first | (rw [add_block]; exact hn198_1) | (show (Addr.add _ _).block ≠ _; rw [add_block]; exact hn198_1) | exact hn198_1) (.int .i64 ((rd_T36 l0 x17_1).f1))).trans hx198_0; replace hx198_1 := (cell_far (p := ⟨gb197, 1, none⟩) (by first | (rw [add_block]; exact hn198_1) | (show (Addr.add _ _).block ≠ _; rw [add_block]; exact hn198_1) | exact hn198_1) (.int .i64 ((rd_T36 l0 x17_1).f1))).trans hx198_1; replace hx198_2 := (cell_far (p := ⟨gb197, 1, none⟩) (by first | (rw [add_block]; exact hn198_1) | (show (Addr.add _ _).block ≠ _; rw [add_block]; exact hn198_1) | exact hn198_1) (.int .i64 ((rd_T36 l0 x17_1).f1))).trans hx198_2; replace hx198_0 := (cell_far (p := ⟨gb197, 2, none⟩) (by first | (rw [add_block]; exact hn198_2) | (show (Addr.add _ _).block ≠ _; rw [add_block]; exact hn198_2) | exact hn198_2) (.slice A196_2 ((rd_T36 l0 x17_1).f2).length c196_2)).trans hx198_0; replace hx198_1 := (cell_far (p := ⟨gb197, 2, none⟩) (by first | (rw [add_block]; exact hn198_2) | (show (Addr.add _ _).block ≠ _; rw [add_block]; exact hn198_2) | exact hn198_2) (.slice A196_2 ((rd_T36 l0 x17_1).f2).length c196_2)).trans hx198_1; replace hx198_2 := (cell_far (p := ⟨gb197, 2, none⟩) (by first | (rw [add_block]; exact hn198_2) | (show (Addr.add _ _).block ≠ _; rw [add_block]; exact hn198_2) | exact hn198_2) (.slice A196_2 ((rd_T36 l0 x17_1).f2).length c196_2)).trans hx198_2; clear hn198_0; clear hn198_1; clear hn198_2; replace p198 := eq_true p198; replace q198 := eq_true q198) | ((with_reducible refine gate_dst (N := 9) rfl ?_); refine bx (N := 9) #[.int .i64 0, .int .i64 0, .slice none 0 0] 36 ?_; intro gb199 hg w12 hbox hb; have BK199 := Aside0.mk (hbox); have GW199 := gw hg bl; have GE199 := GW199; replace HB := Aside0.mk (below_step bl hb); have NB197_199 := Aside0.mk ((by rw [hg]; exact Nat.ne_of_lt (blk_lt (g := gb197) (o := .cells #[.int .i64 ((rd_T36 l0 x17_1).f0), .int .i64 ((rd_T36 l0 x17_1).f1), .slice A196_2 ((rd_T36 l0 x17_1).f2).length c196_2] 36 (0, 0)) (by (with_reducible repeat (first | refine blk_drewN ?_ _ | refine blk_drew ?_ | refine blk_alloc ?_ _)); refine blk_put (cs := #[.int .i64 ((rd_T36 l0 x17_1).f0), .int .i64 ((rd_T36 l0 x17_1).f1), .slice none 0 0]) ?_ 2 _ rfl; (with_reducible repeat (first | refine blk_drewN ?_ _ | refine blk_drew ?_ | refine blk_alloc ?_ _)); refine blk_put (cs := #[.int .i64 ((rd_T36 l0 x17_1).f0), .int .i64 0, .slice none 0 0]) ?_ 1 _ rfl; (with_reducible repeat (first | refine blk_drewN ?_ _ | refine blk_drew ?_ | refine blk_alloc ?_ _)); refine blk_put (cs := #[.int .i64 0, .int .i64 0, .slice none 0 0]) ?_ 0 _ rfl; exact uB <| BK197.out)) : gb197 ≠ gb199)); have NB199_197 := Aside0.mk ((by rw [hg]; exact Nat.ne_of_gt (blk_lt (g := gb197) (o := .cells #[.int .i64 ((rd_T36 l0 x17_1).f0), .int .i64 ((rd_T36 l0 x17_1).f1), .slice A196_2 ((rd_T36 l0 x17_1).f2).length c196_2] 36 (0, 0)) (by (with_reducible repeat (first | refine blk_drewN ?_ _ | refine blk_drew ?_ | refine blk_alloc ?_ _)); refine blk_put (cs := #[.int .i64 ((rd_T36 l0 x17_1).f0), .int .i64 ((rd_T36 l0 x17_1).f1), .slice none 0 0]) ?_ 2 _ rfl; (with_reducible repeat (first | refine blk_drewN ?_ _ | refine blk_drew ?_ | refine blk_alloc ?_ _)); refine blk_put (cs := #[.int .i64 ((rd_T36 l0 x17_1).f0), .int .i64 0, .slice none 0 0]) ?_ 1 _ rfl; (with_reducible repeat (first | refine blk_drewN ?_ _ | refine blk_drew ?_ | refine blk_alloc ?_ _)); refine blk_put (cs := #[.int .i64 0, .int .i64 0, .slice none 0 0]) ?_ 0 _ rfl; exact uB <| BK197.out)) : gb199 ≠ gb197)); replace BK197 := Aside0.mk (blk_below (g := gb197) (o := .cells #[.int .i64 ((rd_T36 l0 x17_1).f0), .int .i64 ((rd_T36 l0 x17_1).f1), .slice A196_2 ((rd_T36 l0 x17_1).f2).length c196_2] 36 (0, 0)) (by (with_reducible repeat (first | refine blk_drewN ?_ _ | refine blk_drew ?_ | refine blk_alloc ?_ _)); refine blk_put (cs := #[.int .i64 ((rd_T36 l0 x17_1).f0), .int .i64 ((rd_T36 l0 x17_1).f1), .slice none 0 0]) ?_ 2 _ rfl; (with_reducible repeat (first | refine blk_drewN ?_ _ | refine blk_drew ?_ | refine blk_alloc ?_ _)); refine blk_put (cs := #[.int .i64 ((rd_T36 l0 x17_1).f0), .int .i64 0, .slice none 0 0]) ?_ 1 _ rfl; (with_reducible repeat (first | refine blk_drewN ?_ _ | refine blk_drew ?_ | refine blk_alloc ?_ _)); refine blk_put (cs := #[.int .i64 0, .int .i64 0, .slice none 0 0]) ?_ 0 _ rfl; exact uB <| BK197.out) hb); clear hb hbox hg; have hnb13 := NB199_197.out; have hnc13 := NB197_199.out; obtain ⟨hcz14_0, hcz14_1, hcz14_2, hfz14_0, hfz14_1, hfz14_2⟩ := z3 BK199; obtain ⟨hcz15_0, hcz15_1, hcz15_2, hfz15_0, hfz15_1, hfz15_2⟩ := z3 BK197) | (refine api_Event_with_28.goesVL_ (some 29) rfl rfl Tryd.func28 (by kernel_rfl) rfl #[.agg #[.int .i64 ((rd_T36 l0 x17_1).f0), .int .i64 ((rd_T36 l0 x17_1).f1), .slice A196_2 ((rd_T36 l0 x17_1).f2).length c196_2], .agg #[.int .i64 ((rd_T36 l1 x17_1).f0), .int .i64 ((rd_T36 l1 x17_1).f1), .slice A198_2 ((rd_T36 l1 x17_1).f2).length c198_2]] rfl (by rfl) (by (try simp only [List.map_toArray, List.map_cons, List.map_nil]); first | done | rfl | (simp only [List.length_drop, List.length_take]; rfl)) ?_; (with_reducible refine (script_Same_1.calls ((rd_T36 l0 x17_1).f0) ((rd_T36 l0 x17_1).f1) _ _ ((rd_T36 l0 x17_1).f2) ((rd_T36 l1 x17_1).f0) ((rd_T36 l1 x17_1).f1) _ _ ((rd_T36 l1 x17_1).f2) true _ ?side1 ?side2 ?side3 ?side4 A8.out).mono ?_); (case side1 => exact Kd.C_below HR196_2.out bl); (case side2 => exact HC196_2.out); (case side3 => exact Kd.C_below HR198_2.out bl); (case side4 => exact HC198_2.out); rintro e w16 ⟨rfl, hb⟩; refine ⟨_, rfl, ?_⟩; replace BK197 := Aside0.mk (blk_below (g := gb197) (o := .cells #[.int .i64 ((rd_T36 l0 x17_1).f0), .int .i64 ((rd_T36 l0 x17_1).f1), .slice A196_2 ((rd_T36 l0 x17_1).f2).length c196_2] 36 (0, 0)) (by (with_reducible repeat (first | refine blk_drewN ?_ _ | refine blk_drew ?_ | refine blk_alloc ?_ _)); refine blk_far ?_ NB197_199.out _; (with_reducible repeat (first | refine blk_drewN ?_ _ | refine blk_drew ?_ | refine blk_alloc ?_ _)); refine blk_far ?_ NB197_199.out _; (with_reducible repeat (first | refine blk_drewN ?_ _ | refine blk_drew ?_ | refine blk_alloc ?_ _)); refine blk_far ?_ NB197_199.out _; exact uB <| BK197.out) hb); replace BK199 := Aside0.mk (blk_below (g := gb199) (o := .cells #[.int .i64 ((rd_T36 l1 x17_1).f0), .int .i64 ((rd_T36 l1 x17_1).f1), .slice A198_2 ((rd_T36 l1 x17_1).f2).length c198_2] 36 (0, 0)) (by (with_reducible repeat (first | refine blk_drewN ?_ _ | refine blk_drew ?_ | refine blk_alloc ?_ _)); refine blk_put (cs := #[.int .i64 ((rd_T36 l1 x17_1).f0), .int .i64 ((rd_T36 l1 x17_1).f1), .slice none 0 0]) ?_ 2 _ rfl; (with_reducible repeat (first | refine blk_drewN ?_ _ | refine blk_drew ?_ | refine blk_alloc ?_ _)); refine blk_put (cs := #[.int .i64 ((rd_T36 l1 x17_1).f0), .int .i64 0, .slice none 0 0]) ?_ 1 _ rfl; (with_reducible repeat (first | refine blk_drewN ?_ _ | refine blk_drew ?_ | refine blk_alloc ?_ _)); refine blk_put (cs := #[.int .i64 0, .int .i64 0, .slice none 0 0]) ?_ 0 _ rfl; exact uB <| BK199.out) hb); replace HB := Aside0.mk (below_step bl hb); (try clear hb)))
      go_roundg k1
      case measure => have := HK1.out; omega
      case rel => exact ⟨(wrap64 (x17_1 + 1)), rs_, H', ⟨by have := HK1.out; omega⟩, ⟨bl⟩⟩
     ·
      replace c9 := Bool.eq_false_iff.mpr c9
      subst c9
      rw [if_neg (show ¬ (false = true) by decide)] at H
      obtain rfl := Option.some.inj H
      have p196 : 0 ≤ (x17_1 : Int) := od
      have q196 : x17_1 < (l0.length : Int) := od
      obtain ⟨ad196, A196_2, c196_2, e196, hx196_0, hx196_1, hx196_2, hl196_2, hi196_2⟩ := at_T36 HR0.out x17_1 p196 q196
      cases e196
      replace hx196_0 := kc HB hx196_0
      replace hx196_1 := kc HB hx196_1
      replace hx196_2 := kc HB hx196_2
      have HR196_2 := Aside0.mk hi196_2
      have HC196_2 := Aside0.mk hl196_2
      clear hi196_2 hl196_2
      replace p196 := eq_true p196
      replace q196 := eq_true q196
      go_wp2_with (first | ((with_reducible refine gate_dst (N := 8) rfl ?_); refine bx (N := 8) #[.int .i64 0, .int .i64 0, .slice none 0 0] 36 ?_; intro gb197 hg w17 hbox hb; have BK197 := Aside0.mk (hbox); have GW197 := gw hg (uW HB.out); have GE197 := GW197; replace HB := cW HB hb; clear hb hbox hg; obtain ⟨hcz18_0, hcz18_1, hcz18_2, hfz18_0, hfz18_1, hfz18_2⟩ := z3 BK197; have p198 : 0 ≤ (x17_1 : Int) := od; have q198 : x17_1 < (l1.length : Int) := od; obtain ⟨ad198, A198_2, c198_2, e198, hx198_0, hx198_1, hx198_2, hl198_2, hi198_2⟩ := at_T36 HR1.out x17_1 p198 q198; cases e198; have hn198_0 : ad198.block ≠ gb197 := Nat.ne_of_lt (Nat.lt_of_lt_of_le (by have := World.block_lt_of_cell? _ _ hx198_0; first | rwa [add_block] at this | exact this) GW197.out); have hn198_1 : ad198.block ≠ gb197 := Nat.ne_of_lt (Nat.lt_of_lt_of_le (by have := World.block_lt_of_cell? _ _ hx198_0; first | rwa [add_block] at this | exact this) GW197.out); have hn198_2 : ad198.block ≠ gb197 := Nat.ne_of_lt (Nat.lt_of_lt_of_le (by have := World.block_lt_of_cell? _ _ hx198_0; first | rwa [add_block] at this | exact this) GW197.out); replace hx198_0 := kc HB hx198_0; replace hx198_1 := kc HB hx198_1; replace hx198_2 := kc HB hx198_2; have HR198_2 := Aside0.mk hi198_2; have HC198_2 := Aside0.mk hl198_2; clear hi198_2 hl198_2; replace hx198_0 := (cell_far (p := ⟨gb197, 0, none⟩) (by first | (rw [add_block]; exact hn198_0) | (show (Addr.add _ _).block ≠ _; rw [add_block]; exact hn198_0) | exact hn198_0) (.int .i64 ((rd_T36 l0 x17_1).f0))).trans hx198_0; replace hx198_1 := (cell_far (p := ⟨gb197, 0, none⟩) (by first | (rw [add_block]; exact hn198_0) | (show (Addr.add _ _).block ≠ _; rw [add_block]; exact hn198_0) | exact hn198_0) (.int .i64 ((rd_T36 l0 x17_1).f0))).trans hx198_1; replace hx198_2 := (cell_far (p := ⟨gb197, 0, none⟩) (by first | (rw [add_block]; exact hn198_0) | (show (Addr.add _ _).block ≠ _; rw [add_block]; exact hn198_0) | exact hn198_0) (.int .i64 ((rd_T36 l0 x17_1).f0))).trans hx198_2; replace hx198_0 := (cell_far (p := ⟨gb197, 1, none⟩) (by first | (rw [add_block]; exact hn198_1) | (show (Addr.add _ _).block ≠ _; rw [add_block]; exact hn198_1) | exact hn198_1) (.int .i64 ((rd_T36 l0 x17_1).f1))).trans hx198_0; replace hx198_1 := (cell_far (p := ⟨gb197, 1, none⟩) (by first | (rw [add_block]; exact hn198_1) | (show (Addr.add _ _).block ≠ _; rw [add_block]; exact hn198_1) | exact hn198_1) (.int .i64 ((rd_T36 l0 x17_1).f1))).trans hx198_1; replace hx198_2 := (cell_far (p := ⟨gb197, 1, none⟩) (by first | (rw [add_block]; exact hn198_1) | (show (Addr.add _ _).block ≠ _; rw [add_block]; exact hn198_1) | exact hn198_1) (.int .i64 ((rd_T36 l0 x17_1).f1))).trans hx198_2; replace hx198_0 := (cell_far (p := ⟨gb197, 2, none⟩) (by first | (rw [add_block]; exact hn198_2) | (show (Addr.add _ _).block ≠ _; rw [add_block]; exact hn198_2) | exact hn198_2) (.slice A196_2 ((rd_T36 l0 x17_1).f2).length c196_2)).trans hx198_0; replace hx198_1 := (cell_far (p := ⟨gb197, 2, none⟩) (by first | (rw [add_block]; exact hn198_2) | (show (Addr.add _ _).block ≠ _; rw [add_block]; exact hn198_2) | exact hn198_2) (.slice A196_2 ((rd_T36 l0 x17_1).f2).length c196_2)).trans hx198_1; replace hx198_2 := (cell_far (p := ⟨gb197, 2, none⟩) (by first | (rw [add_block]; exact hn198_2) | (show (Addr.add _ _).block ≠ _; rw [add_block]; exact hn198_2) | exact hn198_2) (.slice A196_2 ((rd_T36 l0 x17_1).f2).length c196_2)).trans hx198_2; clear hn198_0; clear hn198_1; clear hn198_2; replace p198 := eq_true p198; replace q198 := eq_true q198) | ((with_reducible refine gate_dst (N := 9) rfl ?_); refine bx (N := 9) #[.int .i64 0, .int .i64 0, .slice none 0 0] 36 ?_; intro gb199 hg w19 hbox hb; have BK199 := Aside0.mk (hbox); have GW199 := gw hg bl; have GE199 := GW199; replace HB := Aside0.mk (below_step bl hb); have NB197_199 := Aside0.mk ((by rw [hg]; exact Nat.ne_of_lt (blk_lt (g := gb197) (o := .cells #[.int .i64 ((rd_T36 l0 x17_1).f0), .int .i64 ((rd_T36 l0 x17_1).f1), .slice A196_2 ((rd_T36 l0 x17_1).f2).length c196_2] 36 (0, 0)) (by (with_reducible repeat (first | refine blk_drewN ?_ _ | refine blk_drew ?_ | refine blk_alloc ?_ _)); refine blk_put (cs := #[.int .i64 ((rd_T36 l0 x17_1).f0), .int .i64 ((rd_T36 l0 x17_1).f1), .slice none 0 0]) ?_ 2 _ rfl; (with_reducible repeat (first | refine blk_drewN ?_ _ | refine blk_drew ?_ | refine blk_alloc ?_ _)); refine blk_put (cs := #[.int .i64 ((rd_T36 l0 x17_1).f0), .int .i64 0, .slice none 0 0]) ?_ 1 _ rfl; (with_reducible repeat (first | refine blk_drewN ?_ _ | refine blk_drew ?_ | refine blk_alloc ?_ _)); refine blk_put (cs := #[.int .i64 0, .int .i64 0, .slice none 0 0]) ?_ 0 _ rfl; exact uB <| BK197.out)) : gb197 ≠ gb199)); have NB199_197 := Aside0.mk ((by rw [hg]; exact Nat.ne_of_gt (blk_lt (g := gb197) (o := .cells #[.int .i64 ((rd_T36 l0 x17_1).f0), .int .i64 ((rd_T36 l0 x17_1).f1), .slice A196_2 ((rd_T36 l0 x17_1).f2).length c196_2] 36 (0, 0)) (by (with_reducible repeat (first | refine blk_drewN ?_ _ | refine blk_drew ?_ | refine blk_alloc ?_ _)); refine blk_put (cs := #[.int .i64 ((rd_T36 l0 x17_1).f0), .int .i64 ((rd_T36 l0 x17_1).f1), .slice none 0 0]) ?_ 2 _ rfl; (with_reducible repeat (first | refine blk_drewN ?_ _ | refine blk_drew ?_ | refine blk_alloc ?_ _)); refine blk_put (cs := #[.int .i64 ((rd_T36 l0 x17_1).f0), .int .i64 0, .slice none 0 0]) ?_ 1 _ rfl; (with_reducible repeat (first | refine blk_drewN ?_ _ | refine blk_drew ?_ | refine blk_alloc ?_ _)); refine blk_put (cs := #[.int .i64 0, .int .i64 0, .slice none 0 0]) ?_ 0 _ rfl; exact uB <| BK197.out)) : gb199 ≠ gb197)); replace BK197 := Aside0.mk (blk_below (g := gb197) (o := .cells #[.int .i64 ((rd_T36 l0 x17_1).f0), .int .i64 ((rd_T36 l0 x17_1).f1), .slice A196_2 ((rd_T36 l0 x17_1).f2).length c196_2] 36 (0, 0)) (by (with_reducible repeat (first | refine blk_drewN ?_ _ | refine blk_drew ?_ | refine blk_alloc ?_ _)); refine blk_put (cs := #[.int .i64 ((rd_T36 l0 x17_1).f0), .int .i64 ((rd_T36 l0 x17_1).f1), .slice none 0 0]) ?_ 2 _ rfl; (with_reducible repeat (first | refine blk_drewN ?_ _ | refine blk_drew ?_ | refine blk_alloc ?_ _)); refine blk_put (cs := #[.int .i64 ((rd_T36 l0 x17_1).f0), .int .i64 0, .slice none 0 0]) ?_ 1 _ rfl; (with_reducible repeat (first | refine blk_drewN ?_ _ | refine blk_drew ?_ | refine blk_alloc ?_ _)); refine blk_put (cs := #[.int .i64 0, .int .i64 0, .slice none 0 0]) ?_ 0 _ rfl; exact uB <| BK197.out) hb); clear hb hbox hg; have hnb20 := NB199_197.out; have hnc20 := NB197_199.out; obtain ⟨hcz21_0, hcz21_1, hcz21_2, hfz21_0, hfz21_1, hfz21_2⟩ := z3 BK199; obtain ⟨hcz22_0, hcz22_1, hcz22_2, hfz22_0, hfz22_1, hfz22_2⟩ := z3 BK197) | (refine api_Event_with_28.goesVL_ (some 29) rfl rfl Tryd.func28 (by kernel_rfl) rfl #[.agg #[.int .i64 ((rd_T36 l0 x17_1).f0), .int .i64 ((rd_T36 l0 x17_1).f1), .slice A196_2 ((rd_T36 l0 x17_1).f2).length c196_2], .agg #[.int .i64 ((rd_T36 l1 x17_1).f0), .int .i64 ((rd_T36 l1 x17_1).f1), .slice A198_2 ((rd_T36 l1 x17_1).f2).length c198_2]] rfl (by rfl) (by (try simp only [List.map_toArray, List.map_cons, List.map_nil]); first | done | rfl | (simp only [List.length_drop, List.length_take]; rfl)) ?_; (with_reducible refine (script_Same_1.calls ((rd_T36 l0 x17_1).f0) ((rd_T36 l0 x17_1).f1) _ _ ((rd_T36 l0 x17_1).f2) ((rd_T36 l1 x17_1).f0) ((rd_T36 l1 x17_1).f1) _ _ ((rd_T36 l1 x17_1).f2) false _ ?side1 ?side2 ?side3 ?side4 A8.out).mono ?_); (case side1 => exact Kd.C_below HR196_2.out bl); (case side2 => exact HC196_2.out); (case side3 => exact Kd.C_below HR198_2.out bl); (case side4 => exact HC198_2.out); rintro e w23 ⟨rfl, hb⟩; refine ⟨_, rfl, ?_⟩; replace BK197 := Aside0.mk (blk_below (g := gb197) (o := .cells #[.int .i64 ((rd_T36 l0 x17_1).f0), .int .i64 ((rd_T36 l0 x17_1).f1), .slice A196_2 ((rd_T36 l0 x17_1).f2).length c196_2] 36 (0, 0)) (by (with_reducible repeat (first | refine blk_drewN ?_ _ | refine blk_drew ?_ | refine blk_alloc ?_ _)); refine blk_far ?_ NB197_199.out _; (with_reducible repeat (first | refine blk_drewN ?_ _ | refine blk_drew ?_ | refine blk_alloc ?_ _)); refine blk_far ?_ NB197_199.out _; (with_reducible repeat (first | refine blk_drewN ?_ _ | refine blk_drew ?_ | refine blk_alloc ?_ _)); refine blk_far ?_ NB197_199.out _; exact uB <| BK197.out) hb); replace BK199 := Aside0.mk (blk_below (g := gb199) (o := .cells #[.int .i64 ((rd_T36 l1 x17_1).f0), .int .i64 ((rd_T36 l1 x17_1).f1), .slice A198_2 ((rd_T36 l1 x17_1).f2).length c198_2] 36 (0, 0)) (by (with_reducible repeat (first | refine blk_drewN ?_ _ | refine blk_drew ?_ | refine blk_alloc ?_ _)); refine blk_put (cs := #[.int .i64 ((rd_T36 l1 x17_1).f0), .int .i64 ((rd_T36 l1 x17_1).f1), .slice none 0 0]) ?_ 2 _ rfl; (with_reducible repeat (first | refine blk_drewN ?_ _ | refine blk_drew ?_ | refine blk_alloc ?_ _)); refine blk_put (cs := #[.int .i64 ((rd_T36 l1 x17_1).f0), .int .i64 0, .slice none 0 0]) ?_ 1 _ rfl; (with_reducible repeat (first | refine blk_drewN ?_ _ | refine blk_drew ?_ | refine blk_alloc ?_ _)); refine blk_put (cs := #[.int .i64 0, .int .i64 0, .slice none 0 0]) ?_ 0 _ rfl; exact uB <| BK199.out) hb); replace HB := Aside0.mk (below_step bl hb); (try clear hb)))
      go_ret
      exact ⟨re_, bl⟩
    ·
     rw [if_neg c4] at H
     have c4b0 : decide (x17_1 < (l0.length : Int)) = false := decide_eq_false c4
     clear c4
     obtain rfl := Option.some.inj H
     go_wp2
     go_ret
     exact ⟨re_, uW HB.out⟩
 ·
  rw [if_neg c3] at H
  have c3b0 : ((l0.length : Int) == (l1.length : Int)) = false := beq_eq_false_iff_ne.mpr c3
  have c3b1 : ((l0.length : Int) != (l1.length : Int)) = true := bne_iff_ne.mpr c3
  have c3b2 : (l0.length == l1.length) = false := by first | simpa using c3 | (simp at c3 ⊢; omega)
  obtain rfl := Option.some.inj H
  go_enter Tryd.func27, Tryd.ntmps27
  go_wp2
  go_ret
  exact ⟨re_, uW HB.out⟩
def script_Same.f (k : Nat) (l0 : List (S36)) (l1 : List (S36)) : Option (Bool) := (api_Event_with_28.f k l0 l1).bind fun t201 => (some t201)
theorem script_Same.mono : ∀ a0 a1 k, LeO (script_Same.f k a0 a1) (script_Same.f (k + 1) a0 a1) := by
 intro a0 a1 k
 unfold script_Same.f
 exact lo
instance script_Same.mI {a0 a1 k} : LeC (script_Same.f k a0 a1) (script_Same.f (k + 1) a0 a1) := ⟨script_Same.mono _ _ _⟩
theorem script_Same.calls (k : Nat) (A0 : Option Addr) (c0 : Nat) (l0 : List (S36)) (A1 : Option Addr) (c1 : Nat) (l1 : List (S36)) (r : Bool) (w : World) (hr0 : Kd.C k36 w A0 l0.length l0) (hc0 : l0.length ≤ c0) (hr1 : Kd.C k36 w A1 l1.length l1) (hc1 : l1.length ≤ c1) (h : script_Same.f k l0 l1 = some r) :
 Calls Tryd.prog 12 #[.slice A0 l0.length c0, .slice A1 l1.length c1] w fun e w' => e = .returned (.bool r) ∧ Below w.heap.size w w' := by
 have HR0 := Aside0.mk hr0
 have HC0 := Aside0.mk hc0
 clear hr0 hc0
 have HR1 := Aside0.mk hr1
 have HC1 := Aside0.mk hc1
 clear hr1 hc1
 have HB := Aside0.mk (Below.refl w.heap.size w)
 have H : ((api_Event_with_28.f k l0 l1).bind fun t201 => (some t201)) = some r := h
 clear h
 obtain ⟨t201, A3, H⟩ := bs H
 try dsimp only at H
 obtain rfl := Option.some.inj H
 go_enter Tryd.func12, Tryd.ntmps12
 go_wp2_with (first | (refine gL (some 7) rfl Tryd.func27 #[.slice A0 l0.length c0, .slice A1 l1.length c1, (.func (.func 28) #[] #[])] ?_; (with_reducible refine (api_Event_with_28.calls k _ _ l0 _ _ l1 t201 _ ?side1 ?side2 ?side3 ?side4 A3.out).mono ?_); (case side1 => exact uC <| HR0.out); (case side2 => exact HC0.out); (case side3 => exact uC <| HR1.out); (case side4 => exact HC1.out); rintro e w4 ⟨rfl, hb⟩; refine ⟨_, rfl, ?_⟩; replace HB := cW HB hb; (try clear hb)))
 go_ret
 exact ⟨re_, uW HB.out⟩
def w26_alive.f (k : Nat)  : Option (Bool) := (script_Parse.f k (⟨#[99, 104, 117, 110, 107, 32, 48, 32, 55, 51, 55, 52, 54, 49, 55, 52, 48, 97, 10, 116, 105, 99, 107, 32, 53, 10, 112, 105, 99, 107, 32, 51, 10, 99, 104, 117, 110, 107, 32, 49, 32, 45, 10]⟩ : ByteArray)).bind fun bt202 => ((script_Parse.f k (⟨#[116, 105, 99, 107, 32, 53, 10, 112, 105, 99, 107, 32, 120, 10]⟩ : ByteArray)).bind fun bt207 => ((script_Parse.f k (⟨#[116, 105, 99, 107, 32, 53]⟩ : ByteArray)).bind fun bt212 => ((script_Text.f k bt202.1).bind fun bt217 => ((script_Text.f k (([(⟨0, 0, ([] : List Int)⟩ : S36)] : List (S36)))).bind fun bt222 => (if bt202.2.2 = 0 then (if bt207.2.2 = 2 then (if bt212.2.2 = 2 then (if bt217.2 = 0 then (if bt222.2 = 1 then (if bt202.2.1 = 0 then (if bt207.2.1 = 2 then (if bt212.2.1 = 1 then (if (bt202.1.length : Int) = 4 then (if 0 < (bt202.1.length : Int) then (if (strOfNums ((rd_T36 bt202.1 0).f2)).toList = ([115, 116, 97, 116, 10] : List UInt8) then (if 1 < (bt202.1.length : Int) then (if ((rd_T36 bt202.1 1).f0) = 2 then (if 2 < (bt202.1.length : Int) then (if ((rd_T36 bt202.1 2).f1) = 3 then (if bt217.1.toList = ([99, 104, 117, 110, 107, 32, 48, 32, 55, 51, 55, 52, 54, 49, 55, 52, 48, 97, 10, 116, 105, 99, 107, 32, 53, 10, 112, 105, 99, 107, 32, 51, 10, 99, 104, 117, 110, 107, 32, 49, 32, 45, 10] : List UInt8) then ((script_Right.f k bt202.1).bind fun t227 => (if t227 = true then ((script_Same.f k bt202.1 bt202.1).bind fun t228 => (if t228 = true then ((script_Same.f k bt202.1 ([] : List (S36))).bind fun t229 => (some (!t229))) else (none))) else (none))) else (none)) else (none)) else (none)) else (none)) else (none)) else (none)) else (none)) else (none)) else (none)) else (none)) else (none)) else (none)) else (none)) else (none)) else (none)) else (none))))))
theorem w26_alive.mono : ∀ k, LeO (w26_alive.f k ) (w26_alive.f (k + 1) ) := by
 intro k
 unfold w26_alive.f
 exact lo
instance w26_alive.mI {k} : LeC (w26_alive.f k) (w26_alive.f (k + 1)) := ⟨w26_alive.mono _⟩
theorem w26_alive.calls (k : Nat)  (r : Bool) (w : World) (hL : LD w) (h : w26_alive.f k  = some r) :
 Calls Tryd.prog 5 #[] w fun e w' => e = .returned (.bool r) ∧ Below w.heap.size w w' := by
 have HL0 := Aside0.mk hL
 clear hL
 have hu36 := Tryd.underlying36
 have HB := Aside0.mk (Below.refl w.heap.size w)
 have H : ((script_Parse.f k (⟨#[99, 104, 117, 110, 107, 32, 48, 32, 55, 51, 55, 52, 54, 49, 55, 52, 48, 97, 10, 116, 105, 99, 107, 32, 53, 10, 112, 105, 99, 107, 32, 51, 10, 99, 104, 117, 110, 107, 32, 49, 32, 45, 10]⟩ : ByteArray)).bind fun bt202 => ((script_Parse.f k (⟨#[116, 105, 99, 107, 32, 53, 10, 112, 105, 99, 107, 32, 120, 10]⟩ : ByteArray)).bind fun bt207 => ((script_Parse.f k (⟨#[116, 105, 99, 107, 32, 53]⟩ : ByteArray)).bind fun bt212 => ((script_Text.f k bt202.1).bind fun bt217 => ((script_Text.f k (([(⟨0, 0, ([] : List Int)⟩ : S36)] : List (S36)))).bind fun bt222 => (if bt202.2.2 = 0 then (if bt207.2.2 = 2 then (if bt212.2.2 = 2 then (if bt217.2 = 0 then (if bt222.2 = 1 then (if bt202.2.1 = 0 then (if bt207.2.1 = 2 then (if bt212.2.1 = 1 then (if (bt202.1.length : Int) = 4 then (if 0 < (bt202.1.length : Int) then (if (strOfNums ((rd_T36 bt202.1 0).f2)).toList = ([115, 116, 97, 116, 10] : List UInt8) then (if 1 < (bt202.1.length : Int) then (if ((rd_T36 bt202.1 1).f0) = 2 then (if 2 < (bt202.1.length : Int) then (if ((rd_T36 bt202.1 2).f1) = 3 then (if bt217.1.toList = ([99, 104, 117, 110, 107, 32, 48, 32, 55, 51, 55, 52, 54, 49, 55, 52, 48, 97, 10, 116, 105, 99, 107, 32, 53, 10, 112, 105, 99, 107, 32, 51, 10, 99, 104, 117, 110, 107, 32, 49, 32, 45, 10] : List UInt8) then ((script_Right.f k bt202.1).bind fun t227 => (if t227 = true then ((script_Same.f k bt202.1 bt202.1).bind fun t228 => (if t228 = true then ((script_Same.f k bt202.1 ([] : List (S36))).bind fun t229 => (some (!t229))) else (none))) else (none))) else (none)) else (none)) else (none)) else (none)) else (none)) else (none)) else (none)) else (none)) else (none)) else (none)) else (none)) else (none)) else (none)) else (none)) else (none)) else (none))))))) = some r := h
 clear h
 obtain ⟨⟨t202, t203, t204⟩, A1, H⟩ := bs H
 try dsimp only at H
 obtain ⟨⟨t207, t208, t209⟩, A2, H⟩ := bs H
 try dsimp only at H
 obtain ⟨⟨t212, t213, t214⟩, A3, H⟩ := bs H
 try dsimp only at H
 obtain ⟨⟨t217, t218⟩, A4, H⟩ := bs H
 try dsimp only at H
 obtain ⟨y219, hy219⟩ : ∃ y_ : List (S36), y_ = (([(⟨0, 0, ([] : List Int)⟩ : S36)] : List (S36))) := ⟨_, rfl⟩
 replace H : ((script_Text.f k y219).bind fun bt222 => (if t204 = 0 then (if t209 = 2 then (if t214 = 2 then (if t218 = 0 then (if bt222.2 = 1 then (if t203 = 0 then (if t208 = 2 then (if t213 = 1 then (if (t202.length : Int) = 4 then (if 0 < (t202.length : Int) then (if (strOfNums ((rd_T36 t202 0).f2)).toList = ([115, 116, 97, 116, 10] : List UInt8) then (if 1 < (t202.length : Int) then (if ((rd_T36 t202 1).f0) = 2 then (if 2 < (t202.length : Int) then (if ((rd_T36 t202 2).f1) = 3 then (if t217.toList = ([99, 104, 117, 110, 107, 32, 48, 32, 55, 51, 55, 52, 54, 49, 55, 52, 48, 97, 10, 116, 105, 99, 107, 32, 53, 10, 112, 105, 99, 107, 32, 51, 10, 99, 104, 117, 110, 107, 32, 49, 32, 45, 10] : List UInt8) then ((script_Right.f k t202).bind fun t227 => (if t227 = true then ((script_Same.f k t202 t202).bind fun t228 => (if t228 = true then ((script_Same.f k t202 ([] : List (S36))).bind fun t229 => (some (!t229))) else (none))) else (none))) else (none)) else (none)) else (none)) else (none)) else (none)) else (none)) else (none)) else (none)) else (none)) else (none)) else (none)) else (none)) else (none)) else (none)) else (none)) else (none))) = some r := by first | (rw [hy219]; with_reducible exact H) | (have H2_ := (Option.bind_some _ _).symm.trans H; rw [hy219]; with_reducible exact H2_) | (have H2_ := (Option.bind_some _ _).symm.trans H; with_reducible exact H2_) | with_reducible exact H | (rw [hy219]; exact H) | exact H
 have Ny219 := Aside0.mk hy219
 clear hy219
 obtain ⟨⟨t222, t223⟩, A5, H⟩ := bs H
 try dsimp only at H
 by_cases c6 : t204 = 0
 ·
  rw [if_pos c6] at H
  have c6b0 : (t204 == 0) = true := beq_iff_eq.mpr c6
  have c6b1 : (t204 != 0) = false := bne_eq_false_iff_eq.mpr c6
  clear c6
  obtain ⟨c7, H⟩ := gd H
  have c7b0 : (t209 == 2) = true := beq_iff_eq.mpr c7
  have c7b1 : (t209 != 2) = false := bne_eq_false_iff_eq.mpr c7
  clear c7
  obtain ⟨c8, H⟩ := gd H
  have c8b0 : (t214 == 2) = true := beq_iff_eq.mpr c8
  have c8b1 : (t214 != 2) = false := bne_eq_false_iff_eq.mpr c8
  clear c8
  obtain ⟨c9, H⟩ := gd H
  have c9b0 : (t218 == 0) = true := beq_iff_eq.mpr c9
  have c9b1 : (t218 != 0) = false := bne_eq_false_iff_eq.mpr c9
  clear c9
  obtain ⟨c10, H⟩ := gd H
  have c10b0 : (t223 == 1) = true := beq_iff_eq.mpr c10
  have c10b1 : (t223 != 1) = false := bne_eq_false_iff_eq.mpr c10
  clear c10
  obtain ⟨c11, H⟩ := gd H
  have c11b0 : (t203 == 0) = true := beq_iff_eq.mpr c11
  have c11b1 : (t203 != 0) = false := bne_eq_false_iff_eq.mpr c11
  clear c11
  obtain ⟨c12, H⟩ := gd H
  have c12b0 : (t208 == 2) = true := beq_iff_eq.mpr c12
  have c12b1 : (t208 != 2) = false := bne_eq_false_iff_eq.mpr c12
  clear c12
  obtain ⟨c13, H⟩ := gd H
  have c13b0 : (t213 == 1) = true := beq_iff_eq.mpr c13
  have c13b1 : (t213 != 1) = false := bne_eq_false_iff_eq.mpr c13
  clear c13
  obtain ⟨c14, H⟩ := gd H
  have c14b0 : ((t202.length : Int) == 4) = true := beq_iff_eq.mpr c14
  have c14b1 : ((t202.length : Int) != 4) = false := bne_eq_false_iff_eq.mpr c14
  clear c14
  obtain ⟨c15, H⟩ := gd H
  have c15b0 : decide (0 < (t202.length : Int)) = true := decide_eq_true c15
  have c15b1 : decide (0 < t202.length) = true := decide_eq_true (by omega)
  clear c15
  obtain ⟨c16, H⟩ := gd H
  have c16b0 : ((strOfNums ((rd_T36 t202 0).f2)).toList == ([115, 116, 97, 116, 10] : List UInt8)) = true := beq_iff_eq.mpr c16
  have c16b1 : ((strOfNums ((rd_T36 t202 0).f2)).toList != ([115, 116, 97, 116, 10] : List UInt8)) = false := bne_eq_false_iff_eq.mpr c16
  clear c16
  obtain ⟨c17, H⟩ := gd H
  have c17b0 : decide (1 < (t202.length : Int)) = true := decide_eq_true c17
  have c17b1 : decide (1 < t202.length) = true := decide_eq_true (by omega)
  clear c17
  obtain ⟨c18, H⟩ := gd H
  have c18b0 : (((rd_T36 t202 1).f0) == 2) = true := beq_iff_eq.mpr c18
  have c18b1 : (((rd_T36 t202 1).f0) != 2) = false := bne_eq_false_iff_eq.mpr c18
  clear c18
  obtain ⟨c19, H⟩ := gd H
  have c19b0 : decide (2 < (t202.length : Int)) = true := decide_eq_true c19
  have c19b1 : decide (2 < t202.length) = true := decide_eq_true (by omega)
  clear c19
  obtain ⟨c20, H⟩ := gd H
  have c20b0 : (((rd_T36 t202 2).f1) == 3) = true := beq_iff_eq.mpr c20
  have c20b1 : (((rd_T36 t202 2).f1) != 3) = false := bne_eq_false_iff_eq.mpr c20
  clear c20
  obtain ⟨c21, H⟩ := gd H
  have c21b0 : (t217.toList == ([99, 104, 117, 110, 107, 32, 48, 32, 55, 51, 55, 52, 54, 49, 55, 52, 48, 97, 10, 116, 105, 99, 107, 32, 53, 10, 112, 105, 99, 107, 32, 51, 10, 99, 104, 117, 110, 107, 32, 49, 32, 45, 10] : List UInt8)) = true := beq_iff_eq.mpr c21
  have c21b1 : (t217.toList != ([99, 104, 117, 110, 107, 32, 48, 32, 55, 51, 55, 52, 54, 49, 55, 52, 48, 97, 10, 116, 105, 99, 107, 32, 53, 10, 112, 105, 99, 107, 32, 51, 10, 99, 104, 117, 110, 107, 32, 49, 32, 45, 10] : List UInt8)) = false := bne_eq_false_iff_eq.mpr c21
  clear c21
  obtain ⟨t227, A22, H⟩ := bs H
  try dsimp only at H
  by_cases c23 : t227 = true
  ·
   subst c23
   rw [if_pos rfl] at H
   obtain ⟨t228, A24, H⟩ := bs H
   try dsimp only at H
   by_cases c25 : t228 = true
   ·
    subst c25
    rw [if_pos rfl] at H
    obtain ⟨t229, A26, H⟩ := bs H
    try dsimp only at H
    obtain rfl := Option.some.inj H
    go_enter Tryd.func5, Tryd.ntmps5
    go_wp2_with (first | (refine gL (some 15) rfl Tryd.func8 #[.string (⟨#[99, 104, 117, 110, 107, 32, 48, 32, 55, 51, 55, 52, 54, 49, 55, 52, 48, 97, 10, 116, 105, 99, 107, 32, 53, 10, 112, 105, 99, 107, 32, 51, 10, 99, 104, 117, 110, 107, 32, 49, 32, 45, 10]⟩ : ByteArray)] ?_; (with_reducible refine (script_Parse.calls (hL := ld) k (⟨#[99, 104, 117, 110, 107, 32, 48, 32, 55, 51, 55, 52, 54, 49, 55, 52, 48, 97, 10, 116, 105, 99, 107, 32, 53, 10, 112, 105, 99, 107, 32, 51, 10, 99, 104, 117, 110, 107, 32, 49, 32, 45, 10]⟩ : ByteArray) t202 t203 t204 _ A1.out).mono ?_); rintro e w27 ⟨v205, rfl, ho0, hb⟩; refine ⟨_, rfl, ?_⟩; have HO206 := Aside0.mk (Kd.S_lower ho0 (below_size (uW HB.out))); replace HB := cW HB hb; (try clear hb); (try clear ho0)) | (refine gL (some 20) rfl Tryd.func8 #[.string (⟨#[116, 105, 99, 107, 32, 53, 10, 112, 105, 99, 107, 32, 120, 10]⟩ : ByteArray)] ?_; (with_reducible refine (script_Parse.calls (hL := ld) k (⟨#[116, 105, 99, 107, 32, 53, 10, 112, 105, 99, 107, 32, 120, 10]⟩ : ByteArray) t207 t208 t209 _ A2.out).mono ?_); rintro e w28 ⟨v210, rfl, ho0, hb⟩; refine ⟨_, rfl, ?_⟩; have HO211 := Aside0.mk (Kd.S_lower (Kd.S_new' ho0 (Kd.S_lt (uS HO206.out))) (below_size (uW HB.out))); replace HO206 := Aside0.mk (Kd.S_elder' (uS HO206.out) (Kd.S_base ho0) hb); replace HB := cW HB hb; (try clear hb); (try clear ho0)) | (refine gL (some 25) rfl Tryd.func8 #[.string (⟨#[116, 105, 99, 107, 32, 53]⟩ : ByteArray)] ?_; (with_reducible refine (script_Parse.calls (hL := ld) k (⟨#[116, 105, 99, 107, 32, 53]⟩ : ByteArray) t212 t213 t214 _ A3.out).mono ?_); rintro e w29 ⟨v215, rfl, ho0, hb⟩; refine ⟨_, rfl, ?_⟩; have HO216 := Aside0.mk (Kd.S_lower (Kd.S_new' (Kd.S_new' ho0 (Kd.S_lt (uS HO206.out))) (Kd.S_lt (uS HO211.out))) (below_size (uW HB.out))); replace HO206 := Aside0.mk (Kd.S_elder' (uS HO206.out) (Kd.S_base ho0) hb); replace HO211 := Aside0.mk (Kd.S_elder' (uS HO211.out) (Kd.S_base ho0) hb); replace HB := cW HB hb; (try clear hb); (try clear ho0); obtain ⟨Ao30, co30, eo30⟩ := Kd.S_slice HO206.out; subst eo30) | (refine gL (some 31) rfl Tryd.func7 #[.slice Ao30 t202.length co30] ?_; (with_reducible refine (script_Text.calls (hL := ld) k _ _ t202 t217 t218 _ ?side1 ?side2 A4.out).mono ?_); (case side1 => exact uC <| (Kd.S_reads' HO206.out).2.2); (case side2 => exact (Kd.S_reads' HO206.out).2.1); rintro e w31 ⟨rfl, hb⟩; refine ⟨_, rfl, ?_⟩; replace HO206 := cS HO206 hb; replace HO211 := cS HO211 hb; replace HO216 := cS HO216 hb; replace HB := cW HB hb; (try clear hb)) | ((with_reducible refine gate_dst (N := 36) rfl ?_); (try (refine gate_guard (by rfl) ?_; dsimp only)); refine Kd.S_lit k36 _ 36 ?hg (N := 36) ?hd (xs := ([(⟨0, 0, ([] : List Int)⟩ : S36)] : List (S36))) (inner := [.int .i64 0, .int .i64 0, .slice none 0 0]) (ok := fun _ => True) (okp := fun _ => True) ?hr ?hp (fun _ hk => hk) trivial (Below.refl _ _) (Nat.le_refl _) (by simp) ?_; (case hd => rfl); (case hg => rfl); (case hr => first | (go_simp; done) | (go_simp; rfl)); (case hp => exact (Reps.c3 (show Kd.M k36 _ _ _ (⟨0, 0, ([] : List Int)⟩ : S36) [.int .i64 0, .int .i64 0, .slice none 0 0] from (k36_mkM _ _ _ (⟨0, 0, ([] : List Int)⟩ : S36) (Kd.R_nil _ _ _ _ _))) (Reps.none _ _))); intro v220 w32 ho33 hb hg_ hnew_; clear hg_ hnew_; (first | rw [← Ny219.out] at ho33 | (simp only [Int.reduceToNat] at ho33; rw [← Ny219.out] at ho33)); have HO221 := Aside0.mk (Kd.S_lower (Kd.S_new' (Kd.S_new' (Kd.S_new' ho33 (Kd.S_lt (uS HO206.out))) (Kd.S_lt (uS HO211.out))) (Kd.S_lt (uS HO216.out))) (below_size (uW HB.out))); replace HO206 := Aside0.mk (Kd.S_elder' (uS HO206.out) (Kd.S_base ho33) hb); replace HO211 := Aside0.mk (Kd.S_elder' (uS HO211.out) (Kd.S_base ho33) hb); replace HO216 := Aside0.mk (Kd.S_elder' (uS HO216.out) (Kd.S_base ho33) hb); replace HB := cW HB hb; clear hb ho33; obtain ⟨Ao34, co34, eo34⟩ := Kd.S_slice HO221.out; subst eo34) | (refine gL (some 37) rfl Tryd.func7 #[.slice Ao34 y219.length co34] ?_; (with_reducible refine (script_Text.calls (hL := ld) k _ _ y219 t222 t223 _ ?side1 ?side2 A5.out).mono ?_); (case side1 => exact uC <| (Kd.S_reads' HO221.out).2.2); (case side2 => exact (Kd.S_reads' HO221.out).2.1); rintro e w35 ⟨rfl, hb⟩; refine ⟨_, rfl, ?_⟩; replace HO206 := cS HO206 hb; replace HO211 := cS HO211 hb; replace HO216 := cS HO216 hb; replace HO221 := cS HO221 hb; replace HB := cW HB hb; (try clear hb); have p224 : 0 ≤ (0 : Int) := (by omega); have q224 : 0 < (t202.length : Int) := od; obtain ⟨ad224, A224_2, c224_2, e224, hx224_0, hx224_1, hx224_2, hl224_2, hi224_2⟩ := at_T36 (Kd.S_reads' HO206.out).2.2 0 p224 q224; cases e224; obtain ⟨ce224, hce224, hMe224, hcc224⟩ := Kd.S_get HO206.out z36 0 p224 (by first | exact q224 | exact od | (have e_ := (Kd.S_reads' HO206.out).1; omega)); obtain ⟨ve224_2, rfl, ge224_2⟩ := k36_openM hMe224; have hv224_2 := hcc224 2 _ rfl; rw [add_field _ _ 2 (by omega)] at hv224_2; replace hv224_2 := Option.some.inj (hv224_2.symm.trans hx224_2); rw [hv224_2] at ge224_2; have HL224_2 := Aside0.mk (show Kd.R (Kd.int .u8) 5 _ _ _ _ ((rd_T36 t202 0).f2) from ge224_2); clear hv224_2 ge224_2; clear hcc224 hce224; have qi224 : (0 < t202.length) = True := eq_true (by omega); (try rw [show ((0 : Int)).toNat = 0 from rfl] at hx224_0); (try rw [show 0 * 3 = 0 from rfl] at hx224_0); (try rw [Addr.add_zero'] at hx224_0); (try rw [show ((0 : Int)).toNat = 0 from rfl] at hx224_1); (try rw [show 0 * 3 = 0 from rfl] at hx224_1); (try rw [Addr.add_zero'] at hx224_1); (try rw [show ((0 : Int)).toNat = 0 from rfl] at hx224_2); (try rw [show 0 * 3 = 0 from rfl] at hx224_2); (try rw [Addr.add_zero'] at hx224_2); have HR224_2 := Aside0.mk hi224_2; have HC224_2 := Aside0.mk hl224_2; clear hi224_2 hl224_2; replace p224 := eq_true p224; replace q224 := eq_true q224; have hcv36 := Kd.C_string (P := Tryd.prog) (A := A224_2) (c := c224_2) Tryd.underlying34 Tryd.underlying5 Tryd.underlying9 (by repeat (first | (with_reducible exact HR224_2.out) | (with_reducible refine Kd.C_alloc ?_ _) | (with_reducible refine Kd.C_drewN ?_ _) | (with_reducible refine Kd.C_drew ?_) | exact HR224_2.out)); have p225 : 0 ≤ (1 : Int) := (by omega); have q225 : 1 < (t202.length : Int) := od; obtain ⟨ad225, A225_2, c225_2, e225, hx225_0, hx225_1, hx225_2, hl225_2, hi225_2⟩ := at_T36 (Kd.S_reads' HO206.out).2.2 1 p225 q225; obtain rfl : ad224 = ad225 := (by injection e225); obtain ⟨ce225, hce225, hMe225, hcc225⟩ := Kd.S_get HO206.out z36 1 p225 (by first | exact q225 | exact od | (have e_ := (Kd.S_reads' HO206.out).1; omega)); obtain ⟨ve225_2, rfl, ge225_2⟩ := k36_openM hMe225; have hv225_2 := hcc225 2 _ rfl; rw [add_field _ _ 2 (by omega)] at hv225_2; replace hv225_2 := Option.some.inj (hv225_2.symm.trans hx225_2); rw [hv225_2] at ge225_2; have HL225_2 := Aside0.mk (show Kd.R (Kd.int .u8) 5 _ _ _ _ ((rd_T36 t202 1).f2) from ge225_2); clear hv225_2 ge225_2; clear hcc225 hce225; (try simp only [show (1 : Int).toNat = 1 from rfl, Nat.reduceMul, Nat.reduceEqDiff, Go.Addr.add, ↓reduceIte] at hx225_0); (try simp only [show (1 : Int).toNat = 1 from rfl, Nat.reduceMul, Nat.reduceEqDiff, Go.Addr.add, ↓reduceIte] at hx225_1); (try simp only [show (1 : Int).toNat = 1 from rfl, Nat.reduceMul, Nat.reduceEqDiff, Go.Addr.add, ↓reduceIte] at hx225_2); have qi225 : (1 < t202.length) = True := eq_true (by omega); (try rw [show ((1 : Int)).toNat = 1 from rfl] at hx225_0); (try rw [show 1 * 3 = 3 from rfl] at hx225_0); (try rw [show ((1 : Int)).toNat = 1 from rfl] at hx225_1); (try rw [show 1 * 3 = 3 from rfl] at hx225_1); (try rw [show ((1 : Int)).toNat = 1 from rfl] at hx225_2); (try rw [show 1 * 3 = 3 from rfl] at hx225_2); have HR225_2 := Aside0.mk hi225_2; have HC225_2 := Aside0.mk hl225_2; clear hi225_2 hl225_2; replace p225 := eq_true p225; replace q225 := eq_true q225; have p226 : 0 ≤ (2 : Int) := (by omega); have q226 : 2 < (t202.length : Int) := od; obtain ⟨ad226, A226_2, c226_2, e226, hx226_0, hx226_1, hx226_2, hl226_2, hi226_2⟩ := at_T36 (Kd.S_reads' HO206.out).2.2 2 p226 q226; obtain rfl : ad224 = ad226 := (by injection e226); obtain ⟨ce226, hce226, hMe226, hcc226⟩ := Kd.S_get HO206.out z36 2 p226 (by first | exact q226 | exact od | (have e_ := (Kd.S_reads' HO206.out).1; omega)); obtain ⟨ve226_2, rfl, ge226_2⟩ := k36_openM hMe226; have hv226_2 := hcc226 2 _ rfl; rw [add_field _ _ 2 (by omega)] at hv226_2; replace hv226_2 := Option.some.inj (hv226_2.symm.trans hx226_2); rw [hv226_2] at ge226_2; have HL226_2 := Aside0.mk (show Kd.R (Kd.int .u8) 5 _ _ _ _ ((rd_T36 t202 2).f2) from ge226_2); clear hv226_2 ge226_2; clear hcc226 hce226; (try simp only [show (2 : Int).toNat = 2 from rfl, Nat.reduceMul, Nat.reduceEqDiff, Go.Addr.add, ↓reduceIte] at hx226_0); (try simp only [show (2 : Int).toNat = 2 from rfl, Nat.reduceMul, Nat.reduceEqDiff, Go.Addr.add, ↓reduceIte] at hx226_1); (try simp only [show (2 : Int).toNat = 2 from rfl, Nat.reduceMul, Nat.reduceEqDiff, Go.Addr.add, ↓reduceIte] at hx226_2); have qi226 : (2 < t202.length) = True := eq_true (by omega); (try rw [show ((2 : Int)).toNat = 2 from rfl] at hx226_0); (try rw [show 2 * 3 = 6 from rfl] at hx226_0); (try rw [show ((2 : Int)).toNat = 2 from rfl] at hx226_1); (try rw [show 2 * 3 = 6 from rfl] at hx226_1); (try rw [show ((2 : Int)).toNat = 2 from rfl] at hx226_2); (try rw [show 2 * 3 = 6 from rfl] at hx226_2); have HR226_2 := Aside0.mk hi226_2; have HC226_2 := Aside0.mk hl226_2; clear hi226_2 hl226_2; replace p226 := eq_true p226; replace q226 := eq_true q226) | (go_at_call 11; (with_reducible refine (script_Right.calls k _ _ t202 true _ ?side1 ?side2 A22.out).mono ?_); (case side1 => exact uC <| (Kd.S_reads' HO206.out).2.2); (case side2 => exact (Kd.S_reads' HO206.out).2.1); rintro e w37 ⟨rfl, hb⟩; replace HO206 := cS HO206 hb; replace HO211 := cS HO211 hb; replace HO216 := cS HO216 hb; replace HO221 := cS HO221 hb; replace HL224_2 := cR HL224_2 hb; replace HL225_2 := cR HL225_2 hb; replace HL226_2 := cR HL226_2 hb; replace HR224_2 := cC HR224_2 hb; replace HR225_2 := cC HR225_2 hb; replace HR226_2 := cC HR226_2 hb; replace HB := cW HB hb; (try clear hb)) | (go_at_call 12; (with_reducible refine (script_Same.calls k _ _ t202 _ _ t202 true _ ?side1 ?side2 ?side3 ?side4 A24.out).mono ?_); (case side1 => exact uC <| (Kd.S_reads' HO206.out).2.2); (case side2 => exact (Kd.S_reads' HO206.out).2.1); (case side3 => exact uC <| (Kd.S_reads' HO206.out).2.2); (case side4 => exact (Kd.S_reads' HO206.out).2.1); rintro e w38 ⟨rfl, hb⟩; replace HO206 := cS HO206 hb; replace HO211 := cS HO211 hb; replace HO216 := cS HO216 hb; replace HO221 := cS HO221 hb; replace HL224_2 := cR HL224_2 hb; replace HL225_2 := cR HL225_2 hb; replace HL226_2 := cR HL226_2 hb; replace HR224_2 := cC HR224_2 hb; replace HR225_2 := cC HR225_2 hb; replace HR226_2 := cC HR226_2 hb; replace HB := cW HB hb; (try clear hb)) | (go_at_call 12; (refine (script_Same.calls k _ _ t202 _ _ ([] : List (S36)) t229 _ ?side1 ?side2 ?side3 ?side4 A26.out).mono ?_); (case side1 => exact uC <| (Kd.S_reads' HO206.out).2.2); (case side2 => exact (Kd.S_reads' HO206.out).2.1); (case side3 => exact Kd.C_nil _ _); (case side4 => exact Nat.le_refl _); rintro e w39 ⟨rfl, hb⟩; replace HO206 := cS HO206 hb; replace HO211 := cS HO211 hb; replace HO216 := cS HO216 hb; replace HO221 := cS HO221 hb; replace HL224_2 := cR HL224_2 hb; replace HL225_2 := cR HL225_2 hb; replace HL226_2 := cR HL226_2 hb; replace HR224_2 := cC HR224_2 hb; replace HR225_2 := cC HR225_2 hb; replace HR226_2 := cC HR226_2 hb; replace HB := cW HB hb; (try clear hb)))
    go_ret
    exact ⟨re_, uW HB.out⟩
   ·
    replace c25 := Bool.eq_false_iff.mpr c25
    subst c25
    rw [if_neg (show ¬ (false = true) by decide)] at H
    exact absurd H (by simp)
  ·
   replace c23 := Bool.eq_false_iff.mpr c23
   subst c23
   rw [if_neg (show ¬ (false = true) by decide)] at H
   exact absurd H (by simp)
 ·
  rw [if_neg c6] at H
  exact absurd H (by simp)
def r26_Same.l0 : Nat → List (S36) → List (S36) → Int → Option (Bool)
 | 0, _, _, _ => none
 | k + 1, x0, x1, x5 => if x5 < (x0.length : Int) then (if 0 ≤ x5 then (if x5 < (x1.length : Int) then (if ((rd_T36 x0 x5).f0) = ((rd_T36 x1 x5).f0) then (if ((rd_T36 x0 x5).f1) = ((rd_T36 x1 x5).f1) then (if (strOfNums ((rd_T36 x0 x5).f2)).toList = (strOfNums ((rd_T36 x1 x5).f2)).toList then (r26_Same.l0 k x0 x1 (wrap64 (x5 + 1))) else (some false)) else (some false)) else (some false)) else (none)) else (none)) else (some true)
def r26_Same.f (k : Nat) (l0 : List (S36)) (l1 : List (S36)) : Option (Bool) := if (l0.length : Int) = (l1.length : Int) then (r26_Same.l0 k l0 l1 0) else (some false)
theorem r26_Same.mono_l : ∀ k, (∀ y0 y1 y2, LeC (r26_Same.l0 k y0 y1 y2) (r26_Same.l0 (k + 1) y0 y1 y2))
 | 0 => fun _ _ _ => ⟨fun r h => by simp [r26_Same.l0] at h⟩
 | k + 1 => by have ih0 := r26_Same.mono_l k; exact fun _ _ _ => by unfold r26_Same.l0; exact lm
theorem r26_Same.mono : ∀ a0 a1 k, LeO (r26_Same.f k a0 a1) (r26_Same.f (k + 1) a0 a1) := by
 intro a0 a1 k
 have ih0 := r26_Same.mono_l k
 unfold r26_Same.f
 exact lo
instance r26_Same.mI {a0 a1 k} : LeC (r26_Same.f k a0 a1) (r26_Same.f (k + 1) a0 a1) := ⟨r26_Same.mono _ _ _⟩
theorem r26_Same.calls (k : Nat) (A0 : Option Addr) (c0 : Nat) (l0 : List (S36)) (A1 : Option Addr) (c1 : Nat) (l1 : List (S36)) (r : Bool) (w : World) (hr0 : Kd.C k36 w A0 l0.length l0) (hc0 : l0.length ≤ c0) (hr1 : Kd.C k36 w A1 l1.length l1) (hc1 : l1.length ≤ c1) (h : r26_Same.f k l0 l1 = some r) :
 Calls Tryd.prog 9 #[.slice A0 l0.length c0, .slice A1 l1.length c1] w fun e w' => e = .returned (.bool r) ∧ Drawn0 w w' := by
 have HR0 := Aside0.mk hr0
 have HC0 := Aside0.mk hc0
 clear hr0 hc0
 have HR1 := Aside0.mk hr1
 have HC1 := Aside0.mk hc1
 clear hr1 hc1
 have H : (if (l0.length : Int) = (l1.length : Int) then (r26_Same.l0 k l0 l1 0) else (some false)) = some r := h
 clear h
 by_cases c3 : (l0.length : Int) = (l1.length : Int)
 ·
  rw [if_pos c3] at H
  have c3b0 : ((l0.length : Int) == (l1.length : Int)) = true := beq_iff_eq.mpr c3
  have c3b1 : ((l0.length : Int) != (l1.length : Int)) = false := bne_eq_false_iff_eq.mpr c3
  have c3b2 : (l0.length == l1.length) = true := by first | simpa using c3 | (simp at c3 ⊢; omega)
  clear c3
  have H' := Aside0.mk H
  clear H
  go_enter Tryd.func9, Tryd.ntmps9
  go_wp2
  repeat (go_quiet (fail); try go_wp2)
  go_loopg [5] k (fun kq v5 w' => ∃ (x5_1 : Int), v5 = .int .i64 x5_1 ∧ Aside0 (r26_Same.l0 kq l0 l1 x5_1 = some r) ∧ Aside0 (kq ≤ k) ∧ Drawn0 w w')
  case atStart => exact ⟨(0), rs_, H', ⟨Nat.le_refl _⟩, dr_⟩
  case round =>
   clear H'
   try clear c1
   try clear p2
   try clear c3
   try clear c3b0
   try clear c3b1
   try clear c3b2
   obtain ⟨x5_1, rfl, HA, HK1, ⟨m1, rfl⟩⟩ := hrel
   cases gk with
   | zero => exact absurd HA.out (by simp [r26_Same.l0])
   | succ k1 =>
    have H := HA.out
    clear HA
    simp only [r26_Same.l0] at H
    by_cases c4 : x5_1 < (l0.length : Int)
    ·
     rw [if_pos c4] at H
     have c4b0 : decide (x5_1 < (l0.length : Int)) = true := decide_eq_true c4
     clear c4
     obtain ⟨c5b0, H⟩ := gdd H
     obtain ⟨c6b0, H⟩ := gdd H
     by_cases c7 : ((rd_T36 l0 x5_1).f0) = ((rd_T36 l1 x5_1).f0)
     ·
      rw [if_pos c7] at H
      have c7b0 : (((rd_T36 l0 x5_1).f0) == ((rd_T36 l1 x5_1).f0)) = true := beq_iff_eq.mpr c7
      have c7b1 : (((rd_T36 l0 x5_1).f0) != ((rd_T36 l1 x5_1).f0)) = false := bne_eq_false_iff_eq.mpr c7
      clear c7
      by_cases c8 : ((rd_T36 l0 x5_1).f1) = ((rd_T36 l1 x5_1).f1)
      ·
       rw [if_pos c8] at H
       have c8b0 : (((rd_T36 l0 x5_1).f1) == ((rd_T36 l1 x5_1).f1)) = true := beq_iff_eq.mpr c8
       have c8b1 : (((rd_T36 l0 x5_1).f1) != ((rd_T36 l1 x5_1).f1)) = false := bne_eq_false_iff_eq.mpr c8
       clear c8
       by_cases c9 : (strOfNums ((rd_T36 l0 x5_1).f2)).toList = (strOfNums ((rd_T36 l1 x5_1).f2)).toList
       ·
        rw [if_pos c9] at H
        have c9b0 : ((strOfNums ((rd_T36 l0 x5_1).f2)).toList == (strOfNums ((rd_T36 l1 x5_1).f2)).toList) = true := beq_iff_eq.mpr c9
        have c9b1 : ((strOfNums ((rd_T36 l0 x5_1).f2)).toList != (strOfNums ((rd_T36 l1 x5_1).f2)).toList) = false := bne_eq_false_iff_eq.mpr c9
        clear c9
        have H' := Aside0.mk H
        clear H
        have p230 : 0 ≤ (x5_1 : Int) := od
        have q230 : x5_1 < (l0.length : Int) := od
        obtain ⟨ad230, A230_2, c230_2, e230, hx230_0, hx230_1, hx230_2, hl230_2, hi230_2⟩ := at_T36 HR0.out x5_1 p230 q230
        cases e230
        have HR230_2 := Aside0.mk hi230_2
        have HC230_2 := Aside0.mk hl230_2
        clear hi230_2 hl230_2
        replace p230 := eq_true p230
        replace q230 := eq_true q230
        have p231 : 0 ≤ (x5_1 : Int) := od
        have q231 : x5_1 < (l1.length : Int) := od
        obtain ⟨ad231, A231_2, c231_2, e231, hx231_0, hx231_1, hx231_2, hl231_2, hi231_2⟩ := at_T36 HR1.out x5_1 p231 q231
        cases e231
        have HR231_2 := Aside0.mk hi231_2
        have HC231_2 := Aside0.mk hl231_2
        clear hi231_2 hl231_2
        replace p231 := eq_true p231
        replace q231 := eq_true q231
        have p232 : 0 ≤ (x5_1 : Int) := od
        have q232 : x5_1 < (l0.length : Int) := od
        obtain ⟨ad232, A232_2, c232_2, e232, hx232_0, hx232_1, hx232_2, hl232_2, hi232_2⟩ := at_T36 HR0.out x5_1 p232 q232
        obtain rfl : ad230 = ad232 := (by injection e232)
        have HR232_2 := Aside0.mk hi232_2
        have HC232_2 := Aside0.mk hl232_2
        clear hi232_2 hl232_2
        replace p232 := eq_true p232
        replace q232 := eq_true q232
        have ea_ := Option.some.inj (hx230_2.symm.trans hx232_2)
        injection ea_ with ea_ en_ ec_
        subst ea_
        subst ec_
        clear en_
        have p233 : 0 ≤ (x5_1 : Int) := od
        have q233 : x5_1 < (l1.length : Int) := od
        obtain ⟨ad233, A233_2, c233_2, e233, hx233_0, hx233_1, hx233_2, hl233_2, hi233_2⟩ := at_T36 HR1.out x5_1 p233 q233
        obtain rfl : ad231 = ad233 := (by injection e233)
        have HR233_2 := Aside0.mk hi233_2
        have HC233_2 := Aside0.mk hl233_2
        clear hi233_2 hl233_2
        replace p233 := eq_true p233
        replace q233 := eq_true q233
        have ea_ := Option.some.inj (hx231_2.symm.trans hx233_2)
        injection ea_ with ea_ en_ ec_
        subst ea_
        subst ec_
        clear en_
        have p234 : 0 ≤ (x5_1 : Int) := od
        have q234 : x5_1 < (l0.length : Int) := od
        obtain ⟨ad234, A234_2, c234_2, e234, hx234_0, hx234_1, hx234_2, hl234_2, hi234_2⟩ := at_T36 HR0.out x5_1 p234 q234
        obtain rfl : ad230 = ad234 := (by injection e234)
        have HR234_2 := Aside0.mk hi234_2
        have HC234_2 := Aside0.mk hl234_2
        clear hi234_2 hl234_2
        replace p234 := eq_true p234
        replace q234 := eq_true q234
        have ea_ := Option.some.inj (hx230_2.symm.trans hx234_2)
        injection ea_ with ea_ en_ ec_
        subst ea_
        subst ec_
        clear en_
        have hcv10 := Kd.C_string (P := Tryd.prog) (A := A230_2) (c := c230_2) Tryd.underlying34 Tryd.underlying5 Tryd.underlying9 HR234_2.out
        have hcv11 := fun m_ => Kd.C_string (P := Tryd.prog) (A := A230_2) (c := c230_2) Tryd.underlying34 Tryd.underlying5 Tryd.underlying9 (Kd.C_drewN HR234_2.out m_)
        have hcv12 := fun m_ n_ => Kd.C_string (P := Tryd.prog) (A := A230_2) (c := c230_2) Tryd.underlying34 Tryd.underlying5 Tryd.underlying9 (Kd.C_drewN (Kd.C_drewN HR234_2.out m_) n_)
        have p235 : 0 ≤ (x5_1 : Int) := od
        have q235 : x5_1 < (l1.length : Int) := od
        obtain ⟨ad235, A235_2, c235_2, e235, hx235_0, hx235_1, hx235_2, hl235_2, hi235_2⟩ := at_T36 HR1.out x5_1 p235 q235
        obtain rfl : ad231 = ad235 := (by injection e235)
        have HR235_2 := Aside0.mk hi235_2
        have HC235_2 := Aside0.mk hl235_2
        clear hi235_2 hl235_2
        replace p235 := eq_true p235
        replace q235 := eq_true q235
        have ea_ := Option.some.inj (hx231_2.symm.trans hx235_2)
        injection ea_ with ea_ en_ ec_
        subst ea_
        subst ec_
        clear en_
        have hcv13 := Kd.C_string (P := Tryd.prog) (A := A231_2) (c := c231_2) Tryd.underlying34 Tryd.underlying5 Tryd.underlying9 HR235_2.out
        have hcv14 := fun m_ => Kd.C_string (P := Tryd.prog) (A := A231_2) (c := c231_2) Tryd.underlying34 Tryd.underlying5 Tryd.underlying9 (Kd.C_drewN HR235_2.out m_)
        have hcv15 := fun m_ n_ => Kd.C_string (P := Tryd.prog) (A := A231_2) (c := c231_2) Tryd.underlying34 Tryd.underlying5 Tryd.underlying9 (Kd.C_drewN (Kd.C_drewN HR235_2.out m_) n_)
        go_wp2
        repeat (go_quiet (fail); try go_wp2)
        go_roundg k1
        case measure => have := HK1.out; omega
        case rel => exact ⟨(wrap64 (x5_1 + 1)), rs_, H', ⟨by have := HK1.out; omega⟩, dr_⟩
       ·
        rw [if_neg c9] at H
        have c9b0 : ((strOfNums ((rd_T36 l0 x5_1).f2)).toList == (strOfNums ((rd_T36 l1 x5_1).f2)).toList) = false := beq_eq_false_iff_ne.mpr c9
        have c9b1 : ((strOfNums ((rd_T36 l0 x5_1).f2)).toList != (strOfNums ((rd_T36 l1 x5_1).f2)).toList) = true := bne_iff_ne.mpr c9
        obtain rfl := Option.some.inj H
        have p230 : 0 ≤ (x5_1 : Int) := od
        have q230 : x5_1 < (l0.length : Int) := od
        obtain ⟨ad230, A230_2, c230_2, e230, hx230_0, hx230_1, hx230_2, hl230_2, hi230_2⟩ := at_T36 HR0.out x5_1 p230 q230
        cases e230
        have HR230_2 := Aside0.mk hi230_2
        have HC230_2 := Aside0.mk hl230_2
        clear hi230_2 hl230_2
        replace p230 := eq_true p230
        replace q230 := eq_true q230
        have p231 : 0 ≤ (x5_1 : Int) := od
        have q231 : x5_1 < (l1.length : Int) := od
        obtain ⟨ad231, A231_2, c231_2, e231, hx231_0, hx231_1, hx231_2, hl231_2, hi231_2⟩ := at_T36 HR1.out x5_1 p231 q231
        cases e231
        have HR231_2 := Aside0.mk hi231_2
        have HC231_2 := Aside0.mk hl231_2
        clear hi231_2 hl231_2
        replace p231 := eq_true p231
        replace q231 := eq_true q231
        have p232 : 0 ≤ (x5_1 : Int) := od
        have q232 : x5_1 < (l0.length : Int) := od
        obtain ⟨ad232, A232_2, c232_2, e232, hx232_0, hx232_1, hx232_2, hl232_2, hi232_2⟩ := at_T36 HR0.out x5_1 p232 q232
        obtain rfl : ad230 = ad232 := (by injection e232)
        have HR232_2 := Aside0.mk hi232_2
        have HC232_2 := Aside0.mk hl232_2
        clear hi232_2 hl232_2
        replace p232 := eq_true p232
        replace q232 := eq_true q232
        have ea_ := Option.some.inj (hx230_2.symm.trans hx232_2)
        injection ea_ with ea_ en_ ec_
        subst ea_
        subst ec_
        clear en_
        have p233 : 0 ≤ (x5_1 : Int) := od
        have q233 : x5_1 < (l1.length : Int) := od
        obtain ⟨ad233, A233_2, c233_2, e233, hx233_0, hx233_1, hx233_2, hl233_2, hi233_2⟩ := at_T36 HR1.out x5_1 p233 q233
        obtain rfl : ad231 = ad233 := (by injection e233)
        have HR233_2 := Aside0.mk hi233_2
        have HC233_2 := Aside0.mk hl233_2
        clear hi233_2 hl233_2
        replace p233 := eq_true p233
        replace q233 := eq_true q233
        have ea_ := Option.some.inj (hx231_2.symm.trans hx233_2)
        injection ea_ with ea_ en_ ec_
        subst ea_
        subst ec_
        clear en_
        have p234 : 0 ≤ (x5_1 : Int) := od
        have q234 : x5_1 < (l0.length : Int) := od
        obtain ⟨ad234, A234_2, c234_2, e234, hx234_0, hx234_1, hx234_2, hl234_2, hi234_2⟩ := at_T36 HR0.out x5_1 p234 q234
        obtain rfl : ad230 = ad234 := (by injection e234)
        have HR234_2 := Aside0.mk hi234_2
        have HC234_2 := Aside0.mk hl234_2
        clear hi234_2 hl234_2
        replace p234 := eq_true p234
        replace q234 := eq_true q234
        have ea_ := Option.some.inj (hx230_2.symm.trans hx234_2)
        injection ea_ with ea_ en_ ec_
        subst ea_
        subst ec_
        clear en_
        have hcv16 := Kd.C_string (P := Tryd.prog) (A := A230_2) (c := c230_2) Tryd.underlying34 Tryd.underlying5 Tryd.underlying9 HR234_2.out
        have hcv17 := fun m_ => Kd.C_string (P := Tryd.prog) (A := A230_2) (c := c230_2) Tryd.underlying34 Tryd.underlying5 Tryd.underlying9 (Kd.C_drewN HR234_2.out m_)
        have hcv18 := fun m_ n_ => Kd.C_string (P := Tryd.prog) (A := A230_2) (c := c230_2) Tryd.underlying34 Tryd.underlying5 Tryd.underlying9 (Kd.C_drewN (Kd.C_drewN HR234_2.out m_) n_)
        have p235 : 0 ≤ (x5_1 : Int) := od
        have q235 : x5_1 < (l1.length : Int) := od
        obtain ⟨ad235, A235_2, c235_2, e235, hx235_0, hx235_1, hx235_2, hl235_2, hi235_2⟩ := at_T36 HR1.out x5_1 p235 q235
        obtain rfl : ad231 = ad235 := (by injection e235)
        have HR235_2 := Aside0.mk hi235_2
        have HC235_2 := Aside0.mk hl235_2
        clear hi235_2 hl235_2
        replace p235 := eq_true p235
        replace q235 := eq_true q235
        have ea_ := Option.some.inj (hx231_2.symm.trans hx235_2)
        injection ea_ with ea_ en_ ec_
        subst ea_
        subst ec_
        clear en_
        have hcv19 := Kd.C_string (P := Tryd.prog) (A := A231_2) (c := c231_2) Tryd.underlying34 Tryd.underlying5 Tryd.underlying9 HR235_2.out
        have hcv20 := fun m_ => Kd.C_string (P := Tryd.prog) (A := A231_2) (c := c231_2) Tryd.underlying34 Tryd.underlying5 Tryd.underlying9 (Kd.C_drewN HR235_2.out m_)
        have hcv21 := fun m_ n_ => Kd.C_string (P := Tryd.prog) (A := A231_2) (c := c231_2) Tryd.underlying34 Tryd.underlying5 Tryd.underlying9 (Kd.C_drewN (Kd.C_drewN HR235_2.out m_) n_)
        go_wp2
        repeat (go_quiet (fail); try go_wp2)
        go_ret
        exact ⟨rs_, dr_⟩
      ·
       rw [if_neg c8] at H
       have c8b0 : (((rd_T36 l0 x5_1).f1) == ((rd_T36 l1 x5_1).f1)) = false := beq_eq_false_iff_ne.mpr c8
       have c8b1 : (((rd_T36 l0 x5_1).f1) != ((rd_T36 l1 x5_1).f1)) = true := bne_iff_ne.mpr c8
       obtain rfl := Option.some.inj H
       have p230 : 0 ≤ (x5_1 : Int) := od
       have q230 : x5_1 < (l0.length : Int) := od
       obtain ⟨ad230, A230_2, c230_2, e230, hx230_0, hx230_1, hx230_2, hl230_2, hi230_2⟩ := at_T36 HR0.out x5_1 p230 q230
       cases e230
       have HR230_2 := Aside0.mk hi230_2
       have HC230_2 := Aside0.mk hl230_2
       clear hi230_2 hl230_2
       replace p230 := eq_true p230
       replace q230 := eq_true q230
       have p231 : 0 ≤ (x5_1 : Int) := od
       have q231 : x5_1 < (l1.length : Int) := od
       obtain ⟨ad231, A231_2, c231_2, e231, hx231_0, hx231_1, hx231_2, hl231_2, hi231_2⟩ := at_T36 HR1.out x5_1 p231 q231
       cases e231
       have HR231_2 := Aside0.mk hi231_2
       have HC231_2 := Aside0.mk hl231_2
       clear hi231_2 hl231_2
       replace p231 := eq_true p231
       replace q231 := eq_true q231
       have p232 : 0 ≤ (x5_1 : Int) := od
       have q232 : x5_1 < (l0.length : Int) := od
       obtain ⟨ad232, A232_2, c232_2, e232, hx232_0, hx232_1, hx232_2, hl232_2, hi232_2⟩ := at_T36 HR0.out x5_1 p232 q232
       obtain rfl : ad230 = ad232 := (by injection e232)
       have HR232_2 := Aside0.mk hi232_2
       have HC232_2 := Aside0.mk hl232_2
       clear hi232_2 hl232_2
       replace p232 := eq_true p232
       replace q232 := eq_true q232
       have ea_ := Option.some.inj (hx230_2.symm.trans hx232_2)
       injection ea_ with ea_ en_ ec_
       subst ea_
       subst ec_
       clear en_
       have p233 : 0 ≤ (x5_1 : Int) := od
       have q233 : x5_1 < (l1.length : Int) := od
       obtain ⟨ad233, A233_2, c233_2, e233, hx233_0, hx233_1, hx233_2, hl233_2, hi233_2⟩ := at_T36 HR1.out x5_1 p233 q233
       obtain rfl : ad231 = ad233 := (by injection e233)
       have HR233_2 := Aside0.mk hi233_2
       have HC233_2 := Aside0.mk hl233_2
       clear hi233_2 hl233_2
       replace p233 := eq_true p233
       replace q233 := eq_true q233
       have ea_ := Option.some.inj (hx231_2.symm.trans hx233_2)
       injection ea_ with ea_ en_ ec_
       subst ea_
       subst ec_
       clear en_
       go_wp2
       repeat (go_quiet (fail); try go_wp2)
       go_ret
       exact ⟨rs_, dr_⟩
     ·
      rw [if_neg c7] at H
      have c7b0 : (((rd_T36 l0 x5_1).f0) == ((rd_T36 l1 x5_1).f0)) = false := beq_eq_false_iff_ne.mpr c7
      have c7b1 : (((rd_T36 l0 x5_1).f0) != ((rd_T36 l1 x5_1).f0)) = true := bne_iff_ne.mpr c7
      obtain rfl := Option.some.inj H
      have p230 : 0 ≤ (x5_1 : Int) := od
      have q230 : x5_1 < (l0.length : Int) := od
      obtain ⟨ad230, A230_2, c230_2, e230, hx230_0, hx230_1, hx230_2, hl230_2, hi230_2⟩ := at_T36 HR0.out x5_1 p230 q230
      cases e230
      have HR230_2 := Aside0.mk hi230_2
      have HC230_2 := Aside0.mk hl230_2
      clear hi230_2 hl230_2
      replace p230 := eq_true p230
      replace q230 := eq_true q230
      have p231 : 0 ≤ (x5_1 : Int) := od
      have q231 : x5_1 < (l1.length : Int) := od
      obtain ⟨ad231, A231_2, c231_2, e231, hx231_0, hx231_1, hx231_2, hl231_2, hi231_2⟩ := at_T36 HR1.out x5_1 p231 q231
      cases e231
      have HR231_2 := Aside0.mk hi231_2
      have HC231_2 := Aside0.mk hl231_2
      clear hi231_2 hl231_2
      replace p231 := eq_true p231
      replace q231 := eq_true q231
      go_wp2
      repeat (go_quiet (fail); try go_wp2)
      go_ret
      exact ⟨rs_, dr_⟩
    ·
     rw [if_neg c4] at H
     have c4b0 : decide (x5_1 < (l0.length : Int)) = false := decide_eq_false c4
     clear c4
     obtain rfl := Option.some.inj H
     go_wp2
     repeat (go_quiet (fail); try go_wp2)
     go_ret
     exact ⟨rs_, dr_⟩
 ·
  rw [if_neg c3] at H
  have c3b0 : ((l0.length : Int) == (l1.length : Int)) = false := beq_eq_false_iff_ne.mpr c3
  have c3b1 : ((l0.length : Int) != (l1.length : Int)) = true := bne_iff_ne.mpr c3
  have c3b2 : (l0.length == l1.length) = false := by first | simpa using c3 | (simp at c3 ⊢; omega)
  obtain rfl := Option.some.inj H
  go_enter Tryd.func9, Tryd.ntmps9
  go_wp2
  repeat (go_quiet (fail); try go_wp2)
  go_ret
  exact ⟨rs_, dr_⟩
mutual
def w26_ScriptLines.j0 : Nat → ByteArray → ByteArray → Bool → Option (Bool)
 | 0, _, _, _ => none
 | k + 1, x0, x1, x23 => if x23 = true then (some true) else ((script_Parse.f k x0).bind fun bt237 => ((script_Parse.f k x1).bind fun bt242 => (if bt237.2.2 = 0 then (if (bt237.1.length : Int) > 900 then (w26_ScriptLines.j1 k x0 x1 bt237.1 bt242.1 bt242.2.1 bt242.2.2 true) else (w26_ScriptLines.j1 k x0 x1 bt237.1 bt242.1 bt242.2.1 bt242.2.2 (decide ((bt242.1.length : Int) > 900)))) else (w26_ScriptLines.j1 k x0 x1 bt237.1 bt242.1 bt242.2.1 bt242.2.2 true))))
def w26_ScriptLines.j1 : Nat → ByteArray → ByteArray → List (S36) → List (S36) → Int → Int → Bool → Option (Bool)
 | 0, _, _, _, _, _, _, _ => none
 | k + 1, x0, x1, x5, x8, x9, x10, x47 => if x47 = true then (some true) else (if x0.size + x1.size ≤ 9223372036854775807 then ((script_Parse.f k (x0 ++ x1)).bind fun bt247 => (if x10 = 0 then (if bt247.2.2 = 0 then (if (bt247.1.length : Int) = (wrap64 ((x5.length : Int) + (x8.length : Int))) then (if 0 ≤ (x5.length : Int) then (if (x5.length : Int) ≤ (bt247.1.length : Int) then ((r26_Same.f k (bt247.1.take ((x5.length : Int) : Int).toNat) x5).bind fun t256 => (if t256 = true then ((r26_Same.f k (bt247.1.drop ((x5.length : Int) : Int).toNat) x8).bind fun t261 => (some t261)) else (none))) else (none)) else (none)) else (none)) else (none)) else (if bt247.2.2 = x10 then (if bt247.2.1 = (wrap64 (x9 + (x5.length : Int))) then (some ((bt247.1.length : Int) == 0)) else (none)) else (none)))) else (none))
end
def w26_ScriptLines.f (k : Nat) (a0 : ByteArray) (a1 : ByteArray) : Option (Bool) := (w26_alive.f k).bind fun t236 => (if t236 = true then (if (a0.size : Int) > 3000 then (w26_ScriptLines.j0 k a0 a1 true) else (w26_ScriptLines.j0 k a0 a1 (decide ((a1.size : Int) > 3000)))) else (none))
theorem w26_ScriptLines.mono_l : ∀ k, (∀ y0 y1 y2, LeC (w26_ScriptLines.j0 k y0 y1 y2) (w26_ScriptLines.j0 (k + 1) y0 y1 y2)) ∧ (∀ y0 y1 y2 y3 y4 y5 y6, LeC (w26_ScriptLines.j1 k y0 y1 y2 y3 y4 y5 y6) (w26_ScriptLines.j1 (k + 1) y0 y1 y2 y3 y4 y5 y6))
 | 0 => ⟨fun _ _ _ => ⟨fun r h => by simp [w26_ScriptLines.j0] at h⟩, fun _ _ _ _ _ _ _ => ⟨fun r h => by simp [w26_ScriptLines.j1] at h⟩⟩
 | k + 1 => by obtain ⟨ih0, ih1⟩ := w26_ScriptLines.mono_l k; exact ⟨fun _ _ _ => by unfold w26_ScriptLines.j0; exact lm, fun _ _ _ _ _ _ _ => by unfold w26_ScriptLines.j1; exact lm⟩
theorem w26_ScriptLines.mono : ∀ a0 a1 k, LeO (w26_ScriptLines.f k a0 a1) (w26_ScriptLines.f (k + 1) a0 a1) := by
 intro a0 a1 k
 obtain ⟨ih0, ih1⟩ := w26_ScriptLines.mono_l k
 unfold w26_ScriptLines.f
 exact lo
instance w26_ScriptLines.mI {a0 a1 k} : LeC (w26_ScriptLines.f k a0 a1) (w26_ScriptLines.f (k + 1) a0 a1) := ⟨w26_ScriptLines.mono _ _ _⟩
theorem w26_ScriptLines.calls (k : Nat) (a0 : ByteArray) (a1 : ByteArray) (r : Bool) (w : World) (hL : LD w) (h : w26_ScriptLines.f k a0 a1 = some r) :
 Calls Tryd.prog 4 #[.string a0, .string a1] w fun e w' => e = .returned (.bool r) ∧ Below w.heap.size w w' := by
 have HL0 := Aside0.mk hL
 clear hL
 have HB := Aside0.mk (Below.refl w.heap.size w)
 have H : ((w26_alive.f k).bind fun t236 => (if t236 = true then (if (a0.size : Int) > 3000 then (w26_ScriptLines.j0 k a0 a1 true) else (w26_ScriptLines.j0 k a0 a1 (decide ((a1.size : Int) > 3000)))) else (none))) = some r := h
 clear h
 obtain ⟨t236, A3, H⟩ := bs H
 try dsimp only at H
 by_cases c4 : t236 = true
 ·
  subst c4
  rw [if_pos rfl] at H
  have HC5 := Aside0.mk H
  clear H
  go_enter Tryd.func4, Tryd.ntmps4
  go_upto_region 3 with (first | (refine gL (some 14) rfl Tryd.func5 #[] ?_; (with_reducible refine (w26_alive.calls (hL := ld) k  true _ A3.out).mono ?_); rintro e w6 ⟨rfl, hb⟩; refine ⟨_, rfl, ?_⟩; replace HB := cW HB hb; (try clear hb)))
  (try simp only [Act.put, List.setIfInBounds_toArray, List.set_cons_zero, List.set_cons_succ])
  go_cut [23] (fun v23 wc => ∃ (kq : Nat) (x23_4 : Bool), v23 = .bool x23_4 ∧ Aside0 (w26_ScriptLines.j0 kq a0 a1 x23_4 = some r) ∧ Aside0 (kq ≤ k) ∧ Aside0 (Below w.heap.size w wc))
  case first =>
   have H := HC5.out
   clear HC5
   by_cases c7 : (a0.size : Int) > 3000
   ·
    rw [if_pos c7] at H
    have c7b0 : decide (3000 < (a0.size : Int)) = true := decide_eq_true c7
    have c7b1 : decide (3000 < a0.size) = true := decide_eq_true (by omega)
    clear c7
    (first | rw [c7b0] | (simp only [i64_w, i32_w]; rw [c7b0]) | skip)
    have H' := Aside0.mk H
    clear H
    go_wp2
    go_meet
    case rel => exact ⟨_, (true), rs_, H', ⟨by first | omega | exact Nat.le_refl _⟩, ⟨uW HB.out⟩⟩
   ·
    rw [if_neg c7] at H
    have c7b0 : decide (3000 < (a0.size : Int)) = false := decide_eq_false c7
    have c7b1 : decide (3000 < a0.size) = false := decide_eq_false (by omega)
    clear c7
    (first | rw [c7b0] | (simp only [i64_w, i32_w]; rw [c7b0]) | skip)
    have H' := Aside0.mk H
    clear H
    go_wp2
    go_meet
    case rel => exact ⟨_, (decide ((a1.size : Int) > 3000)), rs_, H', ⟨by first | omega | exact Nat.le_refl _⟩, ⟨uW HB.out⟩⟩
  case rest =>
   clear HC5
   try clear p2
   try clear c4
   try clear c5
   try clear c7
   try clear c7b0
   try clear c7b1
   obtain ⟨kq, x23_4, rfl, HA, HJ4, HB⟩ := hcut
   cases kq with
   | zero => exact absurd HA.out (by simp [w26_ScriptLines.j0])
   | succ kj4 =>
    have H := HA.out
    clear HA
    simp only [w26_ScriptLines.j0] at H
    by_cases c8 : x23_4 = true
    ·
     subst c8
     rw [if_pos rfl] at H
     obtain rfl := Option.some.inj H
     go_wp2
     go_ret
     exact ⟨re_, uW HB.out⟩
    ·
     replace c8 := Bool.eq_false_iff.mpr c8
     subst c8
     rw [if_neg (show ¬ (false = true) by decide)] at H
     obtain ⟨⟨t237, t238, t239⟩, A9, H⟩ := bs H
     try dsimp only at H
     obtain ⟨⟨t242, t243, t244⟩, A10, H⟩ := bs H
     try dsimp only at H
     have HC11 := Aside0.mk H
     clear H
     go_upto_region 7 with (first | (refine gL (some 26) rfl Tryd.func8 #[.string a0] ?_; (with_reducible refine (script_Parse.calls (hL := ld) kj4 a0 t237 t238 t239 _ A9.out).mono ?_); rintro e w12 ⟨v240, rfl, ho0, hb⟩; refine ⟨_, rfl, ?_⟩; have HO241 := Aside0.mk (Kd.S_lower ho0 (below_size (uW HB.out))); replace HB := cW HB hb; (try clear hb); (try clear ho0)) | (refine gL (some 32) rfl Tryd.func8 #[.string a1] ?_; (with_reducible refine (script_Parse.calls (hL := ld) kj4 a1 t242 t243 t244 _ A10.out).mono ?_); rintro e w13 ⟨v245, rfl, ho0, hb⟩; refine ⟨_, rfl, ?_⟩; have HO246 := Aside0.mk (Kd.S_lower (Kd.S_new' ho0 (Kd.S_lt (uS HO241.out))) (below_size (uW HB.out))); replace HO241 := Aside0.mk (Kd.S_elder' (uS HO241.out) (Kd.S_base ho0) hb); replace HB := cW HB hb; (try clear hb); (try clear ho0)))
     (try simp only [Act.put, List.setIfInBounds_toArray, List.set_cons_zero, List.set_cons_succ])
     go_cut [47] (fun v47 wc => ∃ (kq : Nat) (x47_10 : Bool), v47 = .bool x47_10 ∧ Aside0 (w26_ScriptLines.j1 kq a0 a1 t237 t242 t243 t244 x47_10 = some r) ∧ Aside0 (kq ≤ kj4) ∧ Aside0 (Kd.S k36 36 wc w.heap.size (fun k_ => some k_ ≠ (v245 : Value).ownBlock) v240 t237) ∧ Aside0 (Kd.S k36 36 wc w.heap.size (fun k_ => some k_ ≠ (v240 : Value).ownBlock) v245 t242) ∧ Aside0 (Below w.heap.size w wc))
     case first =>
      have H := HC11.out
      clear HC11
      by_cases c14 : t239 = 0
      ·
       rw [if_pos c14] at H
       have c14b0 : (t239 == 0) = true := beq_iff_eq.mpr c14
       have c14b1 : (t239 != 0) = false := bne_eq_false_iff_eq.mpr c14
       clear c14
       (first | rw [c14b0] | (simp only [i64_w, i32_w]; rw [c14b0]) | skip)
       by_cases c15 : (t237.length : Int) > 900
       ·
        rw [if_pos c15] at H
        have c15b0 : decide (900 < (t237.length : Int)) = true := decide_eq_true c15
        have c15b1 : decide (900 < t237.length) = true := decide_eq_true (by omega)
        clear c15
        have H' := Aside0.mk H
        clear H
        obtain ⟨Ao16, co16, eo16⟩ := Kd.S_slice HO241.out
        subst eo16
        go_wp2
        go_meet
        case rel => exact ⟨_, (true), rs_, H', ⟨by have := HJ4.out; first | omega | exact Nat.le_refl _⟩, ⟨by exact uS <| Kd.S_mono HO241.out (fun _ hk => hk.2)⟩, ⟨by exact uS <| Kd.S_mono HO246.out (fun _ hk => hk.2)⟩, ⟨uW HB.out⟩⟩
       ·
        rw [if_neg c15] at H
        have c15b0 : decide (900 < (t237.length : Int)) = false := decide_eq_false c15
        have c15b1 : decide (900 < t237.length) = false := decide_eq_false (by omega)
        clear c15
        have H' := Aside0.mk H
        clear H
        obtain ⟨Ao17, co17, eo17⟩ := Kd.S_slice HO241.out
        subst eo17
        obtain ⟨Ao18, co18, eo18⟩ := Kd.S_slice HO246.out
        subst eo18
        go_wp2
        go_meet
        case rel => exact ⟨_, (decide ((t242.length : Int) > 900)), rs_, H', ⟨by have := HJ4.out; first | omega | exact Nat.le_refl _⟩, ⟨by exact uS <| Kd.S_mono HO241.out (fun _ hk => hk.2)⟩, ⟨by exact uS <| Kd.S_mono HO246.out (fun _ hk => hk.2)⟩, ⟨uW HB.out⟩⟩
      ·
       rw [if_neg c14] at H
       have c14b0 : (t239 == 0) = false := beq_eq_false_iff_ne.mpr c14
       have c14b1 : (t239 != 0) = true := bne_iff_ne.mpr c14
       (first | rw [c14b0] | (simp only [i64_w, i32_w]; rw [c14b0]) | skip)
       have H' := Aside0.mk H
       clear H
       go_wp2
       go_meet
       case rel => exact ⟨_, (true), rs_, H', ⟨by have := HJ4.out; first | omega | exact Nat.le_refl _⟩, ⟨by exact uS <| Kd.S_mono HO241.out (fun _ hk => hk.2)⟩, ⟨by exact uS <| Kd.S_mono HO246.out (fun _ hk => hk.2)⟩, ⟨uW HB.out⟩⟩
     case rest =>
      clear HC11
      try clear c1
      try clear p2
      try clear c4
      try clear c5
      try clear c7
      try clear c7b0
      try clear c7b1
      try clear c8
      try clear c14
      try clear c14b0
      try clear c14b1
      try clear c15
      try clear c15b0
      try clear c15b1
      try clear p2
      obtain ⟨kq, x47_10, rfl, HA, HJ10, HO_5, HO_8, HB⟩ := hcut
      cases kq with
      | zero => exact absurd HA.out (by simp [w26_ScriptLines.j1])
      | succ kj10 =>
       have H := HA.out
       clear HA
       simp only [w26_ScriptLines.j1] at H
       by_cases c19 : x47_10 = true
       ·
        subst c19
        rw [if_pos rfl] at H
        obtain rfl := Option.some.inj H
        go_wp2
        go_ret
        exact ⟨re_, uW HB.out⟩
       ·
        replace c19 := Bool.eq_false_iff.mpr c19
        subst c19
        rw [if_neg (show ¬ (false = true) by decide)] at H
        obtain ⟨c20, H⟩ := gd H
        have c20b0 := eq_true c20
        have c20b1 : decide (a0.size + a1.size ≤ 9223372036854775807) = true := decide_eq_true c20
        try have c20b2 : (9223372036854775807 < a0.size + a1.size) = False := eq_false (Nat.not_lt.2 c20)
        obtain ⟨⟨t247, t248, t249⟩, A21, H⟩ := bs H
        try dsimp only at H
        by_cases c22 : t244 = 0
        ·
         rw [if_pos c22] at H
         have c22b0 : (t244 == 0) = true := beq_iff_eq.mpr c22
         have c22b1 : (t244 != 0) = false := bne_eq_false_iff_eq.mpr c22
         clear c22
         obtain ⟨c23, H⟩ := gd H
         have c23b0 : (t249 == 0) = true := beq_iff_eq.mpr c23
         have c23b1 : (t249 != 0) = false := bne_eq_false_iff_eq.mpr c23
         clear c23
         obtain ⟨c24, H⟩ := gd H
         have c24b0 : ((t247.length : Int) == (wrap64 ((t237.length : Int) + (t242.length : Int)))) = true := beq_iff_eq.mpr c24
         have c24b1 : ((t247.length : Int) != (wrap64 ((t237.length : Int) + (t242.length : Int)))) = false := bne_eq_false_iff_eq.mpr c24
         clear c24
         obtain ⟨c25, H⟩ := gd H
         have c25b0 := eq_true c25
         have c25b1 : decide (0 ≤ (t237.length : Int)) = true := decide_eq_true c25
         clear c25
         obtain ⟨c26, H⟩ := gd H
         have c26b0 := eq_true c26
         have c26b1 : decide ((t237.length : Int) ≤ (t247.length : Int)) = true := decide_eq_true c26
         clear c26
         obtain ⟨y252, hy252⟩ : ∃ y_ : List (S36), y_ = (t247.take ((t237.length : Int) : Int).toNat) := ⟨_, rfl⟩
         replace H : ((r26_Same.f kj10 y252 t237).bind fun t256 => (if t256 = true then ((r26_Same.f kj10 (t247.drop ((t237.length : Int) : Int).toNat) t242).bind fun t261 => (some t261)) else (none))) = some r := by first | (rw [hy252]; with_reducible exact H) | (have H2_ := (Option.bind_some _ _).symm.trans H; rw [hy252]; with_reducible exact H2_) | (have H2_ := (Option.bind_some _ _).symm.trans H; with_reducible exact H2_) | with_reducible exact H | (rw [hy252]; exact H) | exact H
         have Ny252 := Aside0.mk hy252
         clear hy252
         obtain ⟨t256, A27, H⟩ := bs H
         try dsimp only at H
         by_cases c28 : t256 = true
         ·
          subst c28
          rw [if_pos rfl] at H
          have c29b0 := eq_true (od : 0 ≤ (t237.length : Int))
          have c30b0 := eq_true (od : (t237.length : Int) ≤ (t247.length : Int))
          obtain ⟨y257, hy257⟩ : ∃ y_ : List (S36), y_ = (t247.drop ((t237.length : Int) : Int).toNat) := ⟨_, rfl⟩
          replace H : ((r26_Same.f kj10 y257 t242).bind fun t261 => (some t261)) = some r := by first | (rw [hy257]; with_reducible exact H) | (have H2_ := (Option.bind_some _ _).symm.trans H; rw [hy257]; with_reducible exact H2_) | (have H2_ := (Option.bind_some _ _).symm.trans H; with_reducible exact H2_) | with_reducible exact H | (rw [hy257]; exact H) | exact H
          have Ny257 := Aside0.mk hy257
          clear hy257
          obtain ⟨t261, A31, H⟩ := bs H
          try dsimp only at H
          obtain rfl := Option.some.inj H
          go_wp2_with (first | (refine gL (some 52) rfl Tryd.func8 #[.string (a0 ++ a1)] ?_; (with_reducible refine (script_Parse.calls (hL := ld) kj10 (a0 ++ a1) t247 t248 t249 _ A21.out).mono ?_); rintro e w32 ⟨v250, rfl, ho0, hb⟩; refine ⟨_, rfl, ?_⟩; have HO251 := Aside0.mk (Kd.S_lower (Kd.S_new' (Kd.S_new' ho0 (Kd.S_lt (uS HO_5.out))) (Kd.S_lt (uS HO_8.out))) (below_size (uW HB.out))); replace HO_5 := Aside0.mk (Kd.S_elder' (uS HO_5.out) (Kd.S_base ho0) hb); replace HO_8 := Aside0.mk (Kd.S_elder' (uS HO_8.out) (Kd.S_base ho0) hb); replace HB := cW HB hb; (try clear hb); (try clear ho0); obtain ⟨Ao33, co33, eo33⟩ := Kd.S_slice HO251.out; subst eo33; obtain ⟨Ao34, co34, eo34⟩ := Kd.S_slice HO_5.out; subst eo34; obtain ⟨Ao35, co35, eo35⟩ := Kd.S_slice HO_8.out; subst eo35; have q36 : ((t237.length : Int) : Int) ≤ ((t247.length : Int) : Int) := od; obtain ⟨i036, hi036, _, hsz36, _⟩ := info_parts info36; have hroom36 : t247.length ≤ co33 := (Kd.S_reads' HO251.out).2.1; have hC36 : Kd.C k36 _ Ao33 t247.length t247 := (Kd.S_reads' HO251.out).2.2; have hcut36 := cut_to (P := Tryd.prog) 22 36 .i64 Tryd.underlying22 hi036 Ao33 t247.length co33 (t237.length : Int) (od) q36 hroom36; have hr36 := Kd.C_take (m := ((t237.length : Int) : Int).toNat) hC36 (by omega); have hy36 : y252.length = ((t237.length : Int) : Int).toNat := (by rw [Ny252.out, List.length_take]; omega); rw [← Ny252.out] at hr36; rw [← hy36] at hcut36; have HR255 := Aside0.mk hr36; have HC255 := Aside0.mk (show y252.length ≤ co33 from by omega); clear hr36 hC36 hroom36 hi036 hsz36; have KY36 := Aside0.mk hy36; clear hy36; have KL36 := Aside0.mk (show ((t237.length : Int) : Int).toNat ≤ t247.length from by omega); replace q36 := eq_true q36) | (go_at_call 9; (with_reducible refine (r26_Same.calls kj10 _ _ y252 _ _ t237 true _ ?side1 ?side2 ?side3 ?side4 A27.out).mono ?_); (case side1 => repeat (first | exact (by repeat (first | (with_reducible exact HR255.out) | (with_reducible refine Kd.C_alloc ?_ _) | (with_reducible refine Kd.C_drewN ?_ _) | (with_reducible refine Kd.C_drew ?_) | exact HR255.out)) | (with_reducible refine Kd.C_alloc ?_ _) | (with_reducible refine Kd.C_drewN ?_ _) | (with_reducible refine Kd.C_drew ?_))); (case side2 => exact HC255.out); (case side3 => exact uC <| (Kd.S_reads' HO_5.out).2.2); (case side4 => exact (Kd.S_reads' HO_5.out).2.1); rintro e w' ⟨rfl, ⟨nd, rfl⟩⟩; have q37 : ((t237.length : Int) : Int) ≤ ((t247.length : Int) : Int) := od; obtain ⟨i037, hi037, _, hsz37, _⟩ := info_parts info36; have hroom37 : t247.length ≤ co33 := (Kd.S_reads' HO251.out).2.1; have hC37 : Kd.C k36 _ Ao33 t247.length t247 := (Kd.S_reads' HO251.out).2.2; have q037 : (0 : Int) ≤ ((t237.length : Int) : Int) := od; have hcut37 := cut_from (P := Tryd.prog) 22 36 .i64 Tryd.underlying22 hi037 3 hsz37 Ao33 t247.length co33 (t237.length : Int) q037 q37; have hr37 := Kd.C_drop (m := ((t237.length : Int) : Int).toNat) (c := co33) hC37 (by omega) hroom37; obtain ⟨A37, hA37⟩ : ∃ A1, A1 = (if co33 = ((t237.length : Int) : Int).toNat then Ao33 else (Ao33 : Option Addr).map (·.add (((t237.length : Int) : Int).toNat * 3))) := ⟨_, rfl⟩; obtain ⟨c37, hc37⟩ : ∃ c1, c1 = co33 - ((t237.length : Int) : Int).toNat := ⟨_, rfl⟩; have hy37 : y257.length = t247.length - ((t237.length : Int) : Int).toNat := (by rw [Ny257.out, List.length_drop] <;> omega); rw [show (t247).drop ((t237.length : Int) : Int).toNat = y257 from Ny257.out.symm] at hr37; replace hr37 : Kd.C k36 _ A37 y257.length y257 := (by rw [hA37]; exact hr37); rw [← hy37, ← hA37, ← hc37] at hcut37; have HR260 := Aside0.mk hr37; have HC260 := Aside0.mk (show y257.length ≤ c37 from by rw [hy37, hc37]; exact Nat.sub_le_sub_right hroom37 _); clear hr37 hC37 hroom37 hi037 hsz37 hc37; have KY37 := Aside0.mk hy37; have KA37 := Aside0.mk hA37; clear hy37 hA37; have KL37 := Aside0.mk (show ((t237.length : Int) : Int).toNat ≤ t247.length from by omega); replace q37 := eq_true q37) | (go_at_call 9; (with_reducible refine (r26_Same.calls kj10 _ _ y257 _ _ t242 t261 _ ?side1 ?side2 ?side3 ?side4 A31.out).mono ?_); (case side1 => repeat (first | exact (by repeat (first | (with_reducible exact HR260.out) | (with_reducible refine Kd.C_alloc ?_ _) | (with_reducible refine Kd.C_drewN ?_ _) | (with_reducible refine Kd.C_drew ?_) | exact HR260.out)) | (with_reducible refine Kd.C_alloc ?_ _) | (with_reducible refine Kd.C_drewN ?_ _) | (with_reducible refine Kd.C_drew ?_))); (case side2 => exact HC260.out); (case side3 => exact uC <| (Kd.S_reads' HO_8.out).2.2); (case side4 => exact (Kd.S_reads' HO_8.out).2.1); rintro e w' ⟨rfl, ⟨nd, rfl⟩⟩))
          go_ret
          exact ⟨re_, uW HB.out⟩
         ·
          replace c28 := Bool.eq_false_iff.mpr c28
          subst c28
          rw [if_neg (show ¬ (false = true) by decide)] at H
          exact absurd H (by simp)
        ·
         rw [if_neg c22] at H
         have c22b0 : (t244 == 0) = false := beq_eq_false_iff_ne.mpr c22
         have c22b1 : (t244 != 0) = true := bne_iff_ne.mpr c22
         obtain ⟨c38, H⟩ := gd H
         have c38b0 : (t249 == t244) = true := beq_iff_eq.mpr c38
         have c38b1 : (t249 != t244) = false := bne_eq_false_iff_eq.mpr c38
         clear c38
         obtain ⟨c39, H⟩ := gd H
         have c39b0 : (t248 == (wrap64 (t243 + (t237.length : Int)))) = true := beq_iff_eq.mpr c39
         have c39b1 : (t248 != (wrap64 (t243 + (t237.length : Int)))) = false := bne_eq_false_iff_eq.mpr c39
         clear c39
         obtain rfl := Option.some.inj H
         go_wp2_with (first | (refine gL (some 52) rfl Tryd.func8 #[.string (a0 ++ a1)] ?_; (with_reducible refine (script_Parse.calls (hL := ld) kj10 (a0 ++ a1) t247 t248 t249 _ A21.out).mono ?_); rintro e w40 ⟨v250, rfl, ho0, hb⟩; refine ⟨_, rfl, ?_⟩; have HO251 := Aside0.mk (Kd.S_lower (Kd.S_new' (Kd.S_new' ho0 (Kd.S_lt (uS HO_5.out))) (Kd.S_lt (uS HO_8.out))) (below_size (uW HB.out))); replace HO_5 := Aside0.mk (Kd.S_elder' (uS HO_5.out) (Kd.S_base ho0) hb); replace HO_8 := Aside0.mk (Kd.S_elder' (uS HO_8.out) (Kd.S_base ho0) hb); replace HB := cW HB hb; (try clear hb); (try clear ho0); obtain ⟨Ao41, co41, eo41⟩ := Kd.S_slice HO_5.out; subst eo41; obtain ⟨Ao42, co42, eo42⟩ := Kd.S_slice HO251.out; subst eo42))
         go_ret
         exact ⟨re_, uW HB.out⟩
 ·
  replace c4 := Bool.eq_false_iff.mpr c4
  subst c4
  rw [if_neg (show ¬ (false = true) by decide)] at H
  exact absurd H (by simp)
def w26_ScriptLines.Pure : Prop := ∀ (a0 : ByteArray) (a1 : ByteArray), (a0.size ≤ 140737488351232) → (a1.size ≤ 140737488351232) → ∃ k, w26_ScriptLines.f k a0 a1 = some true
theorem w26_ScriptLines.walk (P : w26_ScriptLines.Pure) (a0 : ByteArray) (a1 : ByteArray) (w : World) (hL : LD w)  (q0 : a0.size ≤ 140737488351232) (q1 : a1.size ≤ 140737488351232) :
 Calls Tryd.prog 4 #[.string a0, .string a1] w fun e w' => e = .returned (.bool true) ∧ Below w.heap.size w w' := by
 obtain ⟨k, h⟩ := P a0 a1 q0 q1
 refine (w26_ScriptLines.calls (hL := hL) k a0 a1 true w h).mono ?_
 rintro e w' ⟨rfl, hd⟩
 exact ⟨rfl, hd⟩
end Go.Proofs.YtkplklfmhieoaaaDoor.X
