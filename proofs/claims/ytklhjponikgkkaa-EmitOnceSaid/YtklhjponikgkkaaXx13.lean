/- Printed by a program of this session's own: what functions of the program compute, and that the machine computes it. -/
import Derived.Test.YtklhjponikgkkaaXx0
import Derived.Test.YtklhjponikgkkaaXxS
namespace Go.Proofs.Ytklhjponikgkkaa.X
open Go.RowKit Go.Proofs.YtklhjponikgkkaaW.PrintWords Go.Proofs.YtklhjponikgkkaaW.PrintLast Go.Proofs.YtklhjponikgkkaaW.PrintMore
attribute [local go_sem] max2_int min2_int max_two min_two max_three min_three max_four min_four   -- for this text's walks alone
set_option linter.unusedVariables false
set_option linter.unusedSimpArgs false

/-! ### ebbtideref11_Great: function 30 -/
def ebbtideref11_Great.l0 : Nat → Int → List (S70) → Option (Bool)
 | 0, _, _ => none
 | k + 1, x3, x328000 => if x3 < (x328000.length : Int) then (if 0 ≤ x3 then (if (((rd_T70 x328000 x3).f2).length : Int) > 100 then (some true) else (if (((rd_T70 x328000 x3).f1).size : Int) > 300 then (some true) else (ebbtideref11_Great.l0 k (wrap64 (x3 + 1)) x328000))) else (none)) else (some false)
def ebbtideref11_Great.f (k : Nat) (l0_0 : List (S70)) : Option (Bool) := if (l0_0.length : Int) > 100 then (some true) else (ebbtideref11_Great.l0 k 0 l0_0)
theorem ebbtideref11_Great.mono_l : ∀ k, (∀ y0 y1, LeO (ebbtideref11_Great.l0 k y0 y1) (ebbtideref11_Great.l0 (k + 1) y0 y1))
 | 0 => fun _ _ r h => by simp [ebbtideref11_Great.l0] at h
 | k + 1 => by
  have ih0 := ebbtideref11_Great.mono_l k
  ·
   intro y0 y1
   unfold ebbtideref11_Great.l0
   repeat' first
   | (with_reducible exact ih0 _ _)
   | (with_reducible exact LeO.refl _)
   | (with_reducible exact LeO.none _)
   | (with_reducible refine LeO.ite ?_ ?_)
   | (with_reducible refine LeO.bind ?_ (fun _ => ?_))
   | exact ih0 _ _
   | exact LeO.none _
   | refine LeO.ite ?_ ?_
   | refine LeO.bind ?_ (fun _ => ?_)
theorem ebbtideref11_Great.mono : ∀ a0 k, LeO (ebbtideref11_Great.f k a0) (ebbtideref11_Great.f (k + 1) a0) := by
 intro a0 k
 have ih0 := ebbtideref11_Great.mono_l k
 unfold ebbtideref11_Great.f
 repeat' first
  | (with_reducible exact ih0 _ _)
  | (with_reducible exact LeO.refl _)
  | (with_reducible exact LeO.none _)
  | (with_reducible refine LeO.ite ?_ ?_)
  | (with_reducible refine LeO.bind ?_ (fun _ => ?_))
  | exact ih0 _ _
  | exact LeO.none _
  | refine LeO.ite ?_ ?_
  | refine LeO.bind ?_ (fun _ => ?_)
set_option maxHeartbeats 8000000 in
set_option maxRecDepth 100000 in
theorem ebbtideref11_Great.calls (k : Nat) (A0_0 : Option Addr) (c0_0 : Nat) (l0_0 : List (S70)) (r : Bool) (w : World) (hr0_0 : Kd.C k70 w A0_0 l0_0.length l0_0) (hc0_0 : l0_0.length ≤ c0_0) (h : ebbtideref11_Great.f k l0_0 = some r) :
 Calls Try.prog 30 #[.agg #[.slice A0_0 l0_0.length c0_0]] w fun e w' => e = .returned (.bool r) ∧ Below w.heap.size w w' := by
 have hu50 := Try.underlying50
 have HR0_0 := Aside0.mk hr0_0
 have HC0_0 := Aside0.mk hc0_0
 clear hr0_0 hc0_0
 have HB := Aside0.mk (Below.refl w.heap.size w)
 have H : (if (l0_0.length : Int) > 100 then (some true) else (ebbtideref11_Great.l0 k 0 l0_0)) = some r := h
 clear h
 by_cases c2 : (l0_0.length : Int) > 100
 ·
  rw [if_pos c2] at H
  have c2b0 : decide (100 < (l0_0.length : Int)) = true := decide_eq_true c2
  have c2b1 : decide (100 < l0_0.length) = true := decide_eq_true (by omega)
  clear c2
  obtain rfl := Option.some.inj H
  go_enter Try.func30, Try.ntmps30
  go_wp2_with (first | ((with_reducible refine gate_dst (N := 1) rfl ?_); (try (refine gate_guard (by rfl) ?_; dsimp only)); refine box_event ?hg (N := 1) ?hd (cs := #[.slice A0_0 l0_0.length c0_0]) (t := 50) ?hr ?_; (case hd => rfl); (case hg => rfl); (case hr => first | (go_simp; done) | (go_simp; rfl)); intro gb327 hg w3 hbox hb; have BK327 := Aside0.mk (hbox); have GW327 := Aside0.mk ((by rw [hg]; exact (below_size (uW HB.out)) : w.heap.size ≤ gb327)); have GE327 := Aside0.mk ((by rw [hg]; exact (below_size (uW HB.out)) : w.heap.size ≤ gb327)); replace HB := cW HB hb; clear hb hbox hg; have hcz4_0 : w3.cell? ⟨gb327, 0, none⟩ = some (.slice A0_0 l0_0.length c0_0) := (blk_cell BK327.out 0).trans rfl; have hfz4_0 := blk_frozen BK327.out 0))
  go_ret
  exact ⟨by first | rfl | (simp [errW_none, errW_some] <;> rfl) | (simp [*, errW_none, errW_some] <;> rfl), by repeat (first | (with_reducible first | exact HB.out | apply below_alloc | apply pw_below_drewN | apply below_drew1 | refine below_set ?_ GE327.out) | exact HB.out)⟩
 ·
  rw [if_neg c2] at H
  have c2b0 : decide (100 < (l0_0.length : Int)) = false := decide_eq_false c2
  have c2b1 : decide (100 < l0_0.length) = false := decide_eq_false (by omega)
  clear c2
  have H' := Aside0.mk H
  clear H
  go_enter Try.func30, Try.ntmps30
  go_wp2_with (first | ((with_reducible refine gate_dst (N := 1) rfl ?_); (try (refine gate_guard (by rfl) ?_; dsimp only)); refine box_event ?hg (N := 1) ?hd (cs := #[.slice A0_0 l0_0.length c0_0]) (t := 50) ?hr ?_; (case hd => rfl); (case hg => rfl); (case hr => first | (go_simp; done) | (go_simp; rfl)); intro gb327 hg w5 hbox hb; have BK327 := Aside0.mk (hbox); have GW327 := Aside0.mk ((by rw [hg]; exact (below_size (uW HB.out)) : w.heap.size ≤ gb327)); have GE327 := Aside0.mk ((by rw [hg]; exact (below_size (uW HB.out)) : w.heap.size ≤ gb327)); replace HB := cW HB hb; clear hb hbox hg; have hcz6_0 : w5.cell? ⟨gb327, 0, none⟩ = some (.slice A0_0 l0_0.length c0_0) := (blk_cell BK327.out 0).trans rfl; have hfz6_0 := blk_frozen BK327.out 0))
  go_loopg [3] k (fun kq v3 w' => ∃ (x3_1 : Int), v3 = .int .i64 x3_1 ∧ Aside0 (ebbtideref11_Great.l0 kq x3_1 l0_0 = some r) ∧ Aside0 (kq ≤ k) ∧ Aside0 (w'.heap[gb327]? = some (.cells #[(.slice A0_0 l0_0.length c0_0)] 50 (0, 0))) ∧ Aside0 (Below w.heap.size w w'))
  case atStart => exact ⟨(0), (by first | rfl | (simp; done) | (simp [*]; done)), H', ⟨Nat.le_refl _⟩, ⟨by exact uB <| BK327.out⟩, ⟨by repeat (first | (with_reducible first | exact HB.out | apply below_alloc | apply pw_below_drewN | apply below_drew1 | refine below_set ?_ GE327.out) | exact HB.out)⟩⟩
  case round =>
   clear H'
   try clear c2
   try clear c2b0
   try clear c2b1
   try clear p2
   try clear c3
   try clear hcz4_0
   try clear hcz6_0
   try clear hfz4_0
   try clear hfz6_0
   obtain ⟨x3_1, rfl, HA, HK1, BK327, HB⟩ := hrel
   cases gk with
   | zero => exact absurd HA.out (by simp [ebbtideref11_Great.l0])
   | succ k1 =>
    have H := HA.out
    clear HA
    simp only [ebbtideref11_Great.l0] at H
    by_cases c7 : x3_1 < (l0_0.length : Int)
    ·
     rw [if_pos c7] at H
     have c7b0 : decide (x3_1 < (l0_0.length : Int)) = true := decide_eq_true c7
     clear c7
     obtain ⟨c8, H⟩ := gd H
     have c8b0 : decide (0 ≤ x3_1) = true := decide_eq_true c8
     clear c8
     by_cases c9 : (((rd_T70 l0_0 x3_1).f2).length : Int) > 100
     ·
      rw [if_pos c9] at H
      have c9b0 : decide (100 < (((rd_T70 l0_0 x3_1).f2).length : Int)) = true := decide_eq_true c9
      have c9b1 : decide (100 < ((rd_T70 l0_0 x3_1).f2).length) = true := decide_eq_true (by omega)
      clear c9
      obtain rfl := Option.some.inj H
      have hcz10_0 : wr.cell? ⟨gb327, 0, none⟩ = some (.slice A0_0 l0_0.length c0_0) := (blk_cell BK327.out 0).trans rfl
      have hfz10_0 := blk_frozen BK327.out 0
      have p328 : 0 ≤ (x3_1 : Int) := od
      have q328 : x3_1 < (l0_0.length : Int) := od
      obtain ⟨ad328, A328_2, c328_2, e328, hx328_0, hx328_1, hx328_2, hl328_2, hi328_2⟩ := at_T70 HR0_0.out x3_1 p328 q328
      cases e328
      replace hx328_0 := kc HB hx328_0
      replace hx328_1 := kc HB hx328_1
      replace hx328_2 := kc HB hx328_2
      have HR328_2 := Aside0.mk hi328_2
      have HC328_2 := Aside0.mk hl328_2
      clear hi328_2 hl328_2
      replace p328 := eq_true p328
      replace q328 := eq_true q328
      go_wp2
      go_ret
      exact ⟨by first | rfl | (simp [errW_none, errW_some] <;> rfl) | (simp [*, errW_none, errW_some] <;> rfl), by repeat (first | (with_reducible first | exact HB.out | apply below_alloc | apply pw_below_drewN | apply below_drew1 | refine below_set ?_ GE327.out) | exact HB.out)⟩
     ·
      rw [if_neg c9] at H
      have c9b0 : decide (100 < (((rd_T70 l0_0 x3_1).f2).length : Int)) = false := decide_eq_false c9
      have c9b1 : decide (100 < ((rd_T70 l0_0 x3_1).f2).length) = false := decide_eq_false (by omega)
      clear c9
      by_cases c11 : (((rd_T70 l0_0 x3_1).f1).size : Int) > 300
      ·
       rw [if_pos c11] at H
       have c11b0 : decide (300 < (((rd_T70 l0_0 x3_1).f1).size : Int)) = true := decide_eq_true c11
       have c11b1 : decide (300 < ((rd_T70 l0_0 x3_1).f1).size) = true := decide_eq_true (by omega)
       clear c11
       obtain rfl := Option.some.inj H
       have hcz12_0 : wr.cell? ⟨gb327, 0, none⟩ = some (.slice A0_0 l0_0.length c0_0) := (blk_cell BK327.out 0).trans rfl
       have hfz12_0 := blk_frozen BK327.out 0
       have p328 : 0 ≤ (x3_1 : Int) := od
       have q328 : x3_1 < (l0_0.length : Int) := od
       obtain ⟨ad328, A328_2, c328_2, e328, hx328_0, hx328_1, hx328_2, hl328_2, hi328_2⟩ := at_T70 HR0_0.out x3_1 p328 q328
       cases e328
       replace hx328_0 := kc HB hx328_0
       replace hx328_1 := kc HB hx328_1
       replace hx328_2 := kc HB hx328_2
       have HR328_2 := Aside0.mk hi328_2
       have HC328_2 := Aside0.mk hl328_2
       clear hi328_2 hl328_2
       replace p328 := eq_true p328
       replace q328 := eq_true q328
       have p329 : 0 ≤ (x3_1 : Int) := od
       have q329 : x3_1 < (l0_0.length : Int) := od
       obtain ⟨ad329, A329_2, c329_2, e329, hx329_0, hx329_1, hx329_2, hl329_2, hi329_2⟩ := at_T70 HR0_0.out x3_1 p329 q329
       obtain rfl : ad328 = ad329 := (by injection e329)
       replace hx329_0 := kc HB hx329_0
       replace hx329_1 := kc HB hx329_1
       replace hx329_2 := kc HB hx329_2
       have HR329_2 := Aside0.mk hi329_2
       have HC329_2 := Aside0.mk hl329_2
       clear hi329_2 hl329_2
       replace p329 := eq_true p329
       replace q329 := eq_true q329
       have ea_ := Option.some.inj (hx328_2.symm.trans hx329_2)
       injection ea_ with ea_ en_ ec_
       subst ea_
       subst ec_
       clear en_
       go_wp2
       go_ret
       exact ⟨by first | rfl | (simp [errW_none, errW_some] <;> rfl) | (simp [*, errW_none, errW_some] <;> rfl), by repeat (first | (with_reducible first | exact HB.out | apply below_alloc | apply pw_below_drewN | apply below_drew1 | refine below_set ?_ GE327.out) | exact HB.out)⟩
      ·
       rw [if_neg c11] at H
       have c11b0 : decide (300 < (((rd_T70 l0_0 x3_1).f1).size : Int)) = false := decide_eq_false c11
       have c11b1 : decide (300 < ((rd_T70 l0_0 x3_1).f1).size) = false := decide_eq_false (by omega)
       clear c11
       have H' := Aside0.mk H
       clear H
       have hcz13_0 : wr.cell? ⟨gb327, 0, none⟩ = some (.slice A0_0 l0_0.length c0_0) := (blk_cell BK327.out 0).trans rfl
       have hfz13_0 := blk_frozen BK327.out 0
       have p328 : 0 ≤ (x3_1 : Int) := od
       have q328 : x3_1 < (l0_0.length : Int) := od
       obtain ⟨ad328, A328_2, c328_2, e328, hx328_0, hx328_1, hx328_2, hl328_2, hi328_2⟩ := at_T70 HR0_0.out x3_1 p328 q328
       cases e328
       replace hx328_0 := kc HB hx328_0
       replace hx328_1 := kc HB hx328_1
       replace hx328_2 := kc HB hx328_2
       have HR328_2 := Aside0.mk hi328_2
       have HC328_2 := Aside0.mk hl328_2
       clear hi328_2 hl328_2
       replace p328 := eq_true p328
       replace q328 := eq_true q328
       have p329 : 0 ≤ (x3_1 : Int) := od
       have q329 : x3_1 < (l0_0.length : Int) := od
       obtain ⟨ad329, A329_2, c329_2, e329, hx329_0, hx329_1, hx329_2, hl329_2, hi329_2⟩ := at_T70 HR0_0.out x3_1 p329 q329
       obtain rfl : ad328 = ad329 := (by injection e329)
       replace hx329_0 := kc HB hx329_0
       replace hx329_1 := kc HB hx329_1
       replace hx329_2 := kc HB hx329_2
       have HR329_2 := Aside0.mk hi329_2
       have HC329_2 := Aside0.mk hl329_2
       clear hi329_2 hl329_2
       replace p329 := eq_true p329
       replace q329 := eq_true q329
       have ea_ := Option.some.inj (hx328_2.symm.trans hx329_2)
       injection ea_ with ea_ en_ ec_
       subst ea_
       subst ec_
       clear en_
       go_wp2
       go_roundg k1
       case measure => have := HK1.out; omega
       case rel => exact ⟨(wrap64 (x3_1 + 1)), (by first | rfl | (simp; done) | (simp [*]; done)), H', ⟨by have := HK1.out; omega⟩, ⟨by exact uB <| BK327.out⟩, ⟨by repeat (first | (with_reducible first | exact HB.out | apply below_alloc | apply pw_below_drewN | apply below_drew1 | refine below_set ?_ GE327.out) | exact HB.out)⟩⟩
    ·
     rw [if_neg c7] at H
     have c7b0 : decide (x3_1 < (l0_0.length : Int)) = false := decide_eq_false c7
     clear c7
     obtain rfl := Option.some.inj H
     have hcz14_0 : wr.cell? ⟨gb327, 0, none⟩ = some (.slice A0_0 l0_0.length c0_0) := (blk_cell BK327.out 0).trans rfl
     have hfz14_0 := blk_frozen BK327.out 0
     go_wp2
     go_ret
     exact ⟨by first | rfl | (simp [errW_none, errW_some] <;> rfl) | (simp [*, errW_none, errW_some] <;> rfl), by repeat (first | (with_reducible first | exact HB.out | apply below_alloc | apply pw_below_drewN | apply below_drew1 | refine below_set ?_ GE327.out) | exact HB.out)⟩

/-! ### ebbtideref16_Great: function 11 -/
def ebbtideref16_Great.l0 : Nat → List (S50) → Int → Option (Bool)
 | 0, _, _ => none
 | k + 1, x0, x3 => if x3 < (x0.length : Int) then (if 0 ≤ x3 then ((ebbtideref11_Great.f k ((rd_T50 x0 x3).f0)).bind fun t331 => (if t331 = true then (some true) else (if (((rd_T50 x0 x3).f0).length : Int) > 30 then (some true) else (ebbtideref16_Great.l0 k x0 (wrap64 (x3 + 1)))))) else (none)) else (some false)
def ebbtideref16_Great.f (k : Nat) (l0 : List (S50)) : Option (Bool) := if (l0.length : Int) > 8 then (some true) else (ebbtideref16_Great.l0 k l0 0)
theorem ebbtideref16_Great.mono_l : ∀ k, (∀ y0 y1, LeO (ebbtideref16_Great.l0 k y0 y1) (ebbtideref16_Great.l0 (k + 1) y0 y1))
 | 0 => fun _ _ r h => by simp [ebbtideref16_Great.l0] at h
 | k + 1 => by
  have ih0 := ebbtideref16_Great.mono_l k
  ·
   intro y0 y1
   unfold ebbtideref16_Great.l0
   repeat' first
   | (with_reducible exact ih0 _ _)
   | (with_reducible exact ebbtideref11_Great.mono _ _)
   | (with_reducible exact LeO.refl _)
   | (with_reducible exact LeO.none _)
   | (with_reducible refine LeO.ite ?_ ?_)
   | (with_reducible refine LeO.bind ?_ (fun _ => ?_))
   | exact ih0 _ _
   | exact ebbtideref11_Great.mono _ _
   | exact LeO.none _
   | refine LeO.ite ?_ ?_
   | refine LeO.bind ?_ (fun _ => ?_)
theorem ebbtideref16_Great.mono : ∀ a0 k, LeO (ebbtideref16_Great.f k a0) (ebbtideref16_Great.f (k + 1) a0) := by
 intro a0 k
 have ih0 := ebbtideref16_Great.mono_l k
 unfold ebbtideref16_Great.f
 repeat' first
  | (with_reducible exact ih0 _ _)
  | (with_reducible exact ebbtideref11_Great.mono _ _)
  | (with_reducible exact LeO.refl _)
  | (with_reducible exact LeO.none _)
  | (with_reducible refine LeO.ite ?_ ?_)
  | (with_reducible refine LeO.bind ?_ (fun _ => ?_))
  | exact ih0 _ _
  | exact ebbtideref11_Great.mono _ _
  | exact LeO.none _
  | refine LeO.ite ?_ ?_
  | refine LeO.bind ?_ (fun _ => ?_)
set_option maxHeartbeats 8000000 in
set_option maxRecDepth 100000 in
theorem ebbtideref16_Great.calls (k : Nat) (A0 : Option Addr) (c0 : Nat) (l0 : List (S50)) (r : Bool) (w : World) (hr0 : Kd.C k50 w A0 l0.length l0) (hc0 : l0.length ≤ c0) (h : ebbtideref16_Great.f k l0 = some r) :
 Calls Try.prog 11 #[.slice A0 l0.length c0] w fun e w' => e = .returned (.bool r) ∧ Below w.heap.size w w' := by
 have hu50 := Try.underlying50
 have HR0 := Aside0.mk hr0
 have HC0 := Aside0.mk hc0
 clear hr0 hc0
 have HB := Aside0.mk (Below.refl w.heap.size w)
 have H : (if (l0.length : Int) > 8 then (some true) else (ebbtideref16_Great.l0 k l0 0)) = some r := h
 clear h
 by_cases c2 : (l0.length : Int) > 8
 ·
  rw [if_pos c2] at H
  have c2b0 : decide (8 < (l0.length : Int)) = true := decide_eq_true c2
  have c2b1 : decide (8 < l0.length) = true := decide_eq_true (by omega)
  clear c2
  obtain rfl := Option.some.inj H
  go_enter Try.func11, Try.ntmps11
  go_wp2
  go_ret
  exact ⟨by first | rfl | (simp [errW_none, errW_some] <;> rfl) | (simp [*, errW_none, errW_some] <;> rfl), uW HB.out⟩
 ·
  rw [if_neg c2] at H
  have c2b0 : decide (8 < (l0.length : Int)) = false := decide_eq_false c2
  have c2b1 : decide (8 < l0.length) = false := decide_eq_false (by omega)
  clear c2
  have H' := Aside0.mk H
  clear H
  go_enter Try.func11, Try.ntmps11
  go_wp2
  go_loopg [3] k (fun kq v3 w' => ∃ (x3_1 : Int), v3 = .int .i64 x3_1 ∧ Aside0 (ebbtideref16_Great.l0 kq l0 x3_1 = some r) ∧ Aside0 (kq ≤ k) ∧ Aside0 (Below w.heap.size w w'))
  case atStart => exact ⟨(0), (by first | rfl | (simp; done) | (simp [*]; done)), H', ⟨Nat.le_refl _⟩, ⟨uW HB.out⟩⟩
  case round =>
   clear H'
   try clear c1
   try clear c2
   try clear c2b0
   try clear c2b1
   try clear p2
   obtain ⟨x3_1, rfl, HA, HK1, HB⟩ := hrel
   cases gk with
   | zero => exact absurd HA.out (by simp [ebbtideref16_Great.l0])
   | succ k1 =>
    have H := HA.out
    clear HA
    simp only [ebbtideref16_Great.l0] at H
    by_cases c3 : x3_1 < (l0.length : Int)
    ·
     rw [if_pos c3] at H
     have c3b0 : decide (x3_1 < (l0.length : Int)) = true := decide_eq_true c3
     clear c3
     obtain ⟨c4, H⟩ := gd H
     have c4b0 : decide (0 ≤ x3_1) = true := decide_eq_true c4
     clear c4
     replace H := Option.bind_eq_some_iff.mp H
     obtain ⟨t331, A50, H⟩ := H
     replace H : (if t331 = true then (some true) else (if (((rd_T50 l0 x3_1).f0).length : Int) > 30 then (some true) else (ebbtideref16_Great.l0 k1 l0 (wrap64 (x3_1 + 1))))) = some r := H
     have A5 := Aside0.mk A50
     clear A50
     by_cases c6 : t331 = true
     ·
      subst c6
      rw [if_pos rfl] at H
      obtain rfl := Option.some.inj H
      have p330 : 0 ≤ (x3_1 : Int) := od
      have q330 : x3_1 < (l0.length : Int) := od
      obtain ⟨ad330, A330_0, c330_0, e330, hx330_0, hl330_0, hi330_0⟩ := at_T50 HR0.out x3_1 p330 q330
      cases e330
      replace hx330_0 := kc HB hx330_0
      have HR330_0 := Aside0.mk hi330_0
      have HC330_0 := Aside0.mk hl330_0
      clear hi330_0 hl330_0
      replace p330 := eq_true p330
      replace q330 := eq_true q330
      go_wp2_with (first | ((with_reducible refine gate_callee (f := 30) rfl ?_); refine goesL_ (some 17) rfl rfl Try.func30 (by kernel_rfl) rfl #[.agg #[.slice A330_0 ((rd_T50 l0 x3_1).f0).length c330_0]] rfl (by (try simp only [List.map_toArray, List.map_cons, List.map_nil]); first | done | rfl | (simp only [List.length_drop, List.length_take]; rfl)) ?_; (with_reducible refine (ebbtideref11_Great.calls k1 _ _ ((rd_T50 l0 x3_1).f0) true _ ?side1 ?side2 A5.out).mono ?_); (case side1 => repeat (first | exact (Kd.C_below HR330_0.out HB.out) | (with_reducible refine Kd.C_alloc ?_ _) | (with_reducible refine Kd.C_drewN ?_ _) | (with_reducible refine Kd.C_drew ?_))); (case side2 => exact HC330_0.out); rintro e w7 ⟨rfl, hb⟩; refine ⟨_, rfl, ?_⟩; replace HB := cW HB hb; (try clear hb)))
      go_ret
      exact ⟨by first | rfl | (simp [errW_none, errW_some] <;> rfl) | (simp [*, errW_none, errW_some] <;> rfl), uW HB.out⟩
     ·
      replace c6 := Bool.eq_false_iff.mpr c6
      subst c6
      rw [if_neg (show ¬ (false = true) by decide)] at H
      by_cases c8 : (((rd_T50 l0 x3_1).f0).length : Int) > 30
      ·
       rw [if_pos c8] at H
       have c8b0 : decide (30 < (((rd_T50 l0 x3_1).f0).length : Int)) = true := decide_eq_true c8
       have c8b1 : decide (30 < ((rd_T50 l0 x3_1).f0).length) = true := decide_eq_true (by omega)
       clear c8
       obtain rfl := Option.some.inj H
       have p330 : 0 ≤ (x3_1 : Int) := od
       have q330 : x3_1 < (l0.length : Int) := od
       obtain ⟨ad330, A330_0, c330_0, e330, hx330_0, hl330_0, hi330_0⟩ := at_T50 HR0.out x3_1 p330 q330
       cases e330
       replace hx330_0 := kc HB hx330_0
       have HR330_0 := Aside0.mk hi330_0
       have HC330_0 := Aside0.mk hl330_0
       clear hi330_0 hl330_0
       replace p330 := eq_true p330
       replace q330 := eq_true q330
       go_wp2_with (first | ((with_reducible refine gate_callee (f := 30) rfl ?_); refine goesL_ (some 17) rfl rfl Try.func30 (by kernel_rfl) rfl #[.agg #[.slice A330_0 ((rd_T50 l0 x3_1).f0).length c330_0]] rfl (by (try simp only [List.map_toArray, List.map_cons, List.map_nil]); first | done | rfl | (simp only [List.length_drop, List.length_take]; rfl)) ?_; (with_reducible refine (ebbtideref11_Great.calls k1 _ _ ((rd_T50 l0 x3_1).f0) false _ ?side1 ?side2 A5.out).mono ?_); (case side1 => repeat (first | exact (Kd.C_below HR330_0.out HB.out) | (with_reducible refine Kd.C_alloc ?_ _) | (with_reducible refine Kd.C_drewN ?_ _) | (with_reducible refine Kd.C_drew ?_))); (case side2 => exact HC330_0.out); rintro e w9 ⟨rfl, hb⟩; refine ⟨_, rfl, ?_⟩; replace HB := cW HB hb; (try clear hb); have p332 : 0 ≤ (x3_1 : Int) := od; have q332 : x3_1 < (l0.length : Int) := od; obtain ⟨ad332, A332_0, c332_0, e332, hx332_0, hl332_0, hi332_0⟩ := at_T50 HR0.out x3_1 p332 q332; obtain rfl : ad330 = ad332 := (by injection e332); replace hx332_0 := kc HB hx332_0; have HR332_0 := Aside0.mk hi332_0; have HC332_0 := Aside0.mk hl332_0; clear hi332_0 hl332_0; replace p332 := eq_true p332; replace q332 := eq_true q332))
       go_ret
       exact ⟨by first | rfl | (simp [errW_none, errW_some] <;> rfl) | (simp [*, errW_none, errW_some] <;> rfl), uW HB.out⟩
      ·
       rw [if_neg c8] at H
       have c8b0 : decide (30 < (((rd_T50 l0 x3_1).f0).length : Int)) = false := decide_eq_false c8
       have c8b1 : decide (30 < ((rd_T50 l0 x3_1).f0).length) = false := decide_eq_false (by omega)
       clear c8
       have H' := Aside0.mk H
       clear H
       have p330 : 0 ≤ (x3_1 : Int) := od
       have q330 : x3_1 < (l0.length : Int) := od
       obtain ⟨ad330, A330_0, c330_0, e330, hx330_0, hl330_0, hi330_0⟩ := at_T50 HR0.out x3_1 p330 q330
       cases e330
       replace hx330_0 := kc HB hx330_0
       have HR330_0 := Aside0.mk hi330_0
       have HC330_0 := Aside0.mk hl330_0
       clear hi330_0 hl330_0
       replace p330 := eq_true p330
       replace q330 := eq_true q330
       go_wp2_with (first | ((with_reducible refine gate_callee (f := 30) rfl ?_); refine goesL_ (some 17) rfl rfl Try.func30 (by kernel_rfl) rfl #[.agg #[.slice A330_0 ((rd_T50 l0 x3_1).f0).length c330_0]] rfl (by (try simp only [List.map_toArray, List.map_cons, List.map_nil]); first | done | rfl | (simp only [List.length_drop, List.length_take]; rfl)) ?_; (with_reducible refine (ebbtideref11_Great.calls k1 _ _ ((rd_T50 l0 x3_1).f0) false _ ?side1 ?side2 A5.out).mono ?_); (case side1 => repeat (first | exact (Kd.C_below HR330_0.out HB.out) | (with_reducible refine Kd.C_alloc ?_ _) | (with_reducible refine Kd.C_drewN ?_ _) | (with_reducible refine Kd.C_drew ?_))); (case side2 => exact HC330_0.out); rintro e w10 ⟨rfl, hb⟩; refine ⟨_, rfl, ?_⟩; replace HB := cW HB hb; (try clear hb); have p332 : 0 ≤ (x3_1 : Int) := od; have q332 : x3_1 < (l0.length : Int) := od; obtain ⟨ad332, A332_0, c332_0, e332, hx332_0, hl332_0, hi332_0⟩ := at_T50 HR0.out x3_1 p332 q332; obtain rfl : ad330 = ad332 := (by injection e332); replace hx332_0 := kc HB hx332_0; have HR332_0 := Aside0.mk hi332_0; have HC332_0 := Aside0.mk hl332_0; clear hi332_0 hl332_0; replace p332 := eq_true p332; replace q332 := eq_true q332))
       go_roundg k1
       case measure => have := HK1.out; omega
       case rel => exact ⟨(wrap64 (x3_1 + 1)), (by first | rfl | (simp; done) | (simp [*]; done)), H', ⟨by have := HK1.out; omega⟩, ⟨uW HB.out⟩⟩
    ·
     rw [if_neg c3] at H
     have c3b0 : decide (x3_1 < (l0.length : Int)) = false := decide_eq_false c3
     clear c3
     obtain rfl := Option.some.inj H
     go_wp2
     go_ret
     exact ⟨by first | rfl | (simp [errW_none, errW_some] <;> rfl) | (simp [*, errW_none, errW_some] <;> rfl), uW HB.out⟩

/-! ### ebbtideref14_Great: function 22 -/
def ebbtideref14_Great.l0 : Nat → List (List (S61)) → Int → Option (Bool)
 | 0, _, _ => none
 | k + 1, x0, x3 => if x3 < (x0.length : Int) then (if 0 ≤ x3 then (if ((rd_L11 x0 x3).length : Int) > 100 then (some true) else (ebbtideref14_Great.l0 k x0 (wrap64 (x3 + 1)))) else (none)) else (some false)
def ebbtideref14_Great.f (k : Nat) (l0 : List (List (S61))) : Option (Bool) := if (l0.length : Int) > 20 then (some true) else (ebbtideref14_Great.l0 k l0 0)
theorem ebbtideref14_Great.mono_l : ∀ k, (∀ y0 y1, LeO (ebbtideref14_Great.l0 k y0 y1) (ebbtideref14_Great.l0 (k + 1) y0 y1))
 | 0 => fun _ _ r h => by simp [ebbtideref14_Great.l0] at h
 | k + 1 => by
  have ih0 := ebbtideref14_Great.mono_l k
  ·
   intro y0 y1
   unfold ebbtideref14_Great.l0
   repeat' first
   | (with_reducible exact ih0 _ _)
   | (with_reducible exact LeO.refl _)
   | (with_reducible exact LeO.none _)
   | (with_reducible refine LeO.ite ?_ ?_)
   | (with_reducible refine LeO.bind ?_ (fun _ => ?_))
   | exact ih0 _ _
   | exact LeO.none _
   | refine LeO.ite ?_ ?_
   | refine LeO.bind ?_ (fun _ => ?_)
theorem ebbtideref14_Great.mono : ∀ a0 k, LeO (ebbtideref14_Great.f k a0) (ebbtideref14_Great.f (k + 1) a0) := by
 intro a0 k
 have ih0 := ebbtideref14_Great.mono_l k
 unfold ebbtideref14_Great.f
 repeat' first
  | (with_reducible exact ih0 _ _)
  | (with_reducible exact LeO.refl _)
  | (with_reducible exact LeO.none _)
  | (with_reducible refine LeO.ite ?_ ?_)
  | (with_reducible refine LeO.bind ?_ (fun _ => ?_))
  | exact ih0 _ _
  | exact LeO.none _
  | refine LeO.ite ?_ ?_
  | refine LeO.bind ?_ (fun _ => ?_)
set_option maxHeartbeats 8000000 in
set_option maxRecDepth 100000 in
theorem ebbtideref14_Great.calls (k : Nat) (A0 : Option Addr) (c0 : Nat) (l0 : List (List (S61))) (r : Bool) (w : World) (hr0 : Kd.C (Kd.slice 61 k61) w A0 l0.length l0) (hc0 : l0.length ≤ c0) (h : ebbtideref14_Great.f k l0 = some r) :
 Calls Try.prog 22 #[.slice A0 l0.length c0] w fun e w' => e = .returned (.bool r) ∧ Drawn0 w w' := by
 have HR0 := Aside0.mk hr0
 have HC0 := Aside0.mk hc0
 clear hr0 hc0
 have H : (if (l0.length : Int) > 20 then (some true) else (ebbtideref14_Great.l0 k l0 0)) = some r := h
 clear h
 by_cases c2 : (l0.length : Int) > 20
 ·
  rw [if_pos c2] at H
  have c2b0 : decide (20 < (l0.length : Int)) = true := decide_eq_true c2
  have c2b1 : decide (20 < l0.length) = true := decide_eq_true (by omega)
  clear c2
  obtain rfl := Option.some.inj H
  go_enter Try.func22, Try.ntmps22
  go_wp2
  go_ret
  exact ⟨by first | rfl | (simp; done) | (simp [*]; done), by repeat (first | exact Drawn0.refl _ | apply Drawn0.step)⟩
 ·
  rw [if_neg c2] at H
  have c2b0 : decide (20 < (l0.length : Int)) = false := decide_eq_false c2
  have c2b1 : decide (20 < l0.length) = false := decide_eq_false (by omega)
  clear c2
  have H' := Aside0.mk H
  clear H
  go_enter Try.func22, Try.ntmps22
  go_wp2
  go_loopg [3] k (fun kq v3 w' => ∃ (x3_1 : Int), v3 = .int .i64 x3_1 ∧ Aside0 (ebbtideref14_Great.l0 kq l0 x3_1 = some r) ∧ Aside0 (kq ≤ k) ∧ Drawn0 w w')
  case atStart => exact ⟨(0), (by first | rfl | (simp; done) | (simp [*]; done)), H', ⟨Nat.le_refl _⟩, by repeat (first | exact Drawn0.refl _ | apply Drawn0.step)⟩
  case round =>
   clear H'
   try clear c2
   try clear c2b0
   try clear c2b1
   try clear p2
   obtain ⟨x3_1, rfl, HA, HK1, ⟨m1, rfl⟩⟩ := hrel
   cases gk with
   | zero => exact absurd HA.out (by simp [ebbtideref14_Great.l0])
   | succ k1 =>
    have H := HA.out
    clear HA
    simp only [ebbtideref14_Great.l0] at H
    by_cases c3 : x3_1 < (l0.length : Int)
    ·
     rw [if_pos c3] at H
     have c3b0 : decide (x3_1 < (l0.length : Int)) = true := decide_eq_true c3
     clear c3
     obtain ⟨c4, H⟩ := gd H
     have c4b0 : decide (0 ≤ x3_1) = true := decide_eq_true c4
     clear c4
     by_cases c5 : ((rd_L11 l0 x3_1).length : Int) > 100
     ·
      rw [if_pos c5] at H
      have c5b0 : decide (100 < ((rd_L11 l0 x3_1).length : Int)) = true := decide_eq_true c5
      have c5b1 : decide (100 < (rd_L11 l0 x3_1).length) = true := decide_eq_true (by omega)
      clear c5
      obtain rfl := Option.some.inj H
      have p333 : 0 ≤ (x3_1 : Int) := od
      have q333 : x3_1 < (l0.length : Int) := od
      obtain ⟨ad333, A333_0, c333_0, e333, hx333_0, hl333_0, hi333_0⟩ := at_L11 HR0.out x3_1 p333 q333
      cases e333
      have HR333_0 := Aside0.mk hi333_0
      have HC333_0 := Aside0.mk hl333_0
      clear hi333_0 hl333_0
      replace p333 := eq_true p333
      replace q333 := eq_true q333
      go_wp2
      go_ret
      exact ⟨by first | rfl | (simp; done) | (simp [*]; done), by repeat (first | exact Drawn0.refl _ | apply Drawn0.step)⟩
     ·
      rw [if_neg c5] at H
      have c5b0 : decide (100 < ((rd_L11 l0 x3_1).length : Int)) = false := decide_eq_false c5
      have c5b1 : decide (100 < (rd_L11 l0 x3_1).length) = false := decide_eq_false (by omega)
      clear c5
      have H' := Aside0.mk H
      clear H
      have p333 : 0 ≤ (x3_1 : Int) := od
      have q333 : x3_1 < (l0.length : Int) := od
      obtain ⟨ad333, A333_0, c333_0, e333, hx333_0, hl333_0, hi333_0⟩ := at_L11 HR0.out x3_1 p333 q333
      cases e333
      have HR333_0 := Aside0.mk hi333_0
      have HC333_0 := Aside0.mk hl333_0
      clear hi333_0 hl333_0
      replace p333 := eq_true p333
      replace q333 := eq_true q333
      go_wp2
      go_roundg k1
      case measure => have := HK1.out; omega
      case rel => exact ⟨(wrap64 (x3_1 + 1)), (by first | rfl | (simp; done) | (simp [*]; done)), H', ⟨by have := HK1.out; omega⟩, by repeat (first | exact Drawn0.refl _ | apply Drawn0.step)⟩
    ·
     rw [if_neg c3] at H
     have c3b0 : decide (x3_1 < (l0.length : Int)) = false := decide_eq_false c3
     clear c3
     obtain rfl := Option.some.inj H
     go_wp2
     go_ret
     exact ⟨by first | rfl | (simp; done) | (simp [*]; done), by repeat (first | exact Drawn0.refl _ | apply Drawn0.step)⟩

/-! ### ebbtidelaw17_great: function 8 -/
def ebbtidelaw17_great.f (k : Nat) (l0_0 : List (S46)) (l0_1 : List (List (S61))) (l0_2 : List (S50)) : Option (Bool) := if (l0_0.length : Int) > 20 then (some true) else ((ebbtideref14_Great.f k l0_1).bind fun t335 => (if t335 = true then (some true) else ((ebbtideref16_Great.f k l0_2).bind fun t336 => (some t336))))
theorem ebbtidelaw17_great.mono : ∀ a0 a1 a2 k, LeO (ebbtidelaw17_great.f k a0 a1 a2) (ebbtidelaw17_great.f (k + 1) a0 a1 a2) := by
 intro a0 a1 a2 k
 unfold ebbtidelaw17_great.f
 repeat' first
  | (with_reducible exact ebbtideref14_Great.mono _ _)
  | (with_reducible exact ebbtideref16_Great.mono _ _)
  | (with_reducible exact LeO.refl _)
  | (with_reducible exact LeO.none _)
  | (with_reducible refine LeO.ite ?_ ?_)
  | (with_reducible refine LeO.bind ?_ (fun _ => ?_))
  | exact ebbtideref14_Great.mono _ _
  | exact ebbtideref16_Great.mono _ _
  | exact LeO.none _
  | refine LeO.ite ?_ ?_
  | refine LeO.bind ?_ (fun _ => ?_)
set_option maxHeartbeats 8000000 in
set_option maxRecDepth 100000 in
theorem ebbtidelaw17_great.calls (k : Nat) (A0_0 : Option Addr) (c0_0 : Nat) (l0_0 : List (S46)) (A0_1 : Option Addr) (c0_1 : Nat) (l0_1 : List (List (S61))) (A0_2 : Option Addr) (c0_2 : Nat) (l0_2 : List (S50)) (r : Bool) (w : World) (hr0_0 : Kd.C k46 w A0_0 l0_0.length l0_0) (hc0_0 : l0_0.length ≤ c0_0) (hr0_1 : Kd.C (Kd.slice 61 k61) w A0_1 l0_1.length l0_1) (hc0_1 : l0_1.length ≤ c0_1) (hr0_2 : Kd.C k50 w A0_2 l0_2.length l0_2) (hc0_2 : l0_2.length ≤ c0_2) (h : ebbtidelaw17_great.f k l0_0 l0_1 l0_2 = some r) :
 Calls Try.prog 8 #[.agg #[.slice A0_0 l0_0.length c0_0, .slice A0_1 l0_1.length c0_1, .slice A0_2 l0_2.length c0_2]] w fun e w' => e = .returned (.bool r) ∧ Below w.heap.size w w' := by
 have hu28 := Try.underlying28
 have HR0_0 := Aside0.mk hr0_0
 have HC0_0 := Aside0.mk hc0_0
 clear hr0_0 hc0_0
 have HR0_1 := Aside0.mk hr0_1
 have HC0_1 := Aside0.mk hc0_1
 clear hr0_1 hc0_1
 have HR0_2 := Aside0.mk hr0_2
 have HC0_2 := Aside0.mk hc0_2
 clear hr0_2 hc0_2
 have HB := Aside0.mk (Below.refl w.heap.size w)
 have H : (if (l0_0.length : Int) > 20 then (some true) else ((ebbtideref14_Great.f k l0_1).bind fun t335 => (if t335 = true then (some true) else ((ebbtideref16_Great.f k l0_2).bind fun t336 => (some t336))))) = some r := h
 clear h
 by_cases c2 : (l0_0.length : Int) > 20
 ·
  rw [if_pos c2] at H
  have c2b0 : decide (20 < (l0_0.length : Int)) = true := decide_eq_true c2
  have c2b1 : decide (20 < l0_0.length) = true := decide_eq_true (by omega)
  clear c2
  obtain rfl := Option.some.inj H
  go_enter Try.func8, Try.ntmps8
  go_wp2_with (first | ((with_reducible refine gate_dst (N := 1) rfl ?_); refine box_event ?hg (N := 1) ?hd (cs := #[.slice A0_0 l0_0.length c0_0, .slice A0_1 l0_1.length c0_1, .slice A0_2 l0_2.length c0_2]) (t := 28) ?hr ?_; (case hd => rfl); (case hg => rfl); (case hr => first | (go_simp; done) | (go_simp; rfl)); intro gb334 hg w3 hbox hb; have BK334 := Aside0.mk (hbox); have GW334 := Aside0.mk ((by rw [hg]; exact (below_size (uW HB.out)) : w.heap.size ≤ gb334)); have GE334 := Aside0.mk ((by rw [hg]; exact (below_size (uW HB.out)) : w.heap.size ≤ gb334)); replace HB := cW HB hb; clear hb hbox hg; have hcz4_0 : w3.cell? ⟨gb334, 0, none⟩ = some (.slice A0_0 l0_0.length c0_0) := (blk_cell BK334.out 0).trans rfl; have hcz4_1 : w3.cell? ⟨gb334, 1, none⟩ = some (.slice A0_1 l0_1.length c0_1) := (blk_cell BK334.out 1).trans rfl; have hcz4_2 : w3.cell? ⟨gb334, 2, none⟩ = some (.slice A0_2 l0_2.length c0_2) := (blk_cell BK334.out 2).trans rfl; have hfz4_0 := blk_frozen BK334.out 0; have hfz4_1 := blk_frozen BK334.out 1; have hfz4_2 := blk_frozen BK334.out 2))
  go_ret
  exact ⟨by first | rfl | (simp [errW_none, errW_some] <;> rfl) | (simp [*, errW_none, errW_some] <;> rfl), by repeat (first | (with_reducible first | exact HB.out | apply below_alloc | apply pw_below_drewN | apply below_drew1 | refine below_set ?_ GE334.out) | exact HB.out)⟩
 ·
  rw [if_neg c2] at H
  have c2b0 : decide (20 < (l0_0.length : Int)) = false := decide_eq_false c2
  have c2b1 : decide (20 < l0_0.length) = false := decide_eq_false (by omega)
  clear c2
  replace H := Option.bind_eq_some_iff.mp H
  obtain ⟨t335, A50, H⟩ := H
  replace H : (if t335 = true then (some true) else ((ebbtideref16_Great.f k l0_2).bind fun t336 => (some t336))) = some r := H
  have A5 := Aside0.mk A50
  clear A50
  by_cases c6 : t335 = true
  ·
   subst c6
   rw [if_pos rfl] at H
   obtain rfl := Option.some.inj H
   go_enter Try.func8, Try.ntmps8
   go_wp2_with (first | ((with_reducible refine gate_dst (N := 1) rfl ?_); refine box_event ?hg (N := 1) ?hd (cs := #[.slice A0_0 l0_0.length c0_0, .slice A0_1 l0_1.length c0_1, .slice A0_2 l0_2.length c0_2]) (t := 28) ?hr ?_; (case hd => rfl); (case hg => rfl); (case hr => first | (go_simp; done) | (go_simp; rfl)); intro gb334 hg w7 hbox hb; have BK334 := Aside0.mk (hbox); have GW334 := Aside0.mk ((by rw [hg]; exact (below_size (uW HB.out)) : w.heap.size ≤ gb334)); have GE334 := Aside0.mk ((by rw [hg]; exact (below_size (uW HB.out)) : w.heap.size ≤ gb334)); replace HB := cW HB hb; clear hb hbox hg; have hcz8_0 : w7.cell? ⟨gb334, 0, none⟩ = some (.slice A0_0 l0_0.length c0_0) := (blk_cell BK334.out 0).trans rfl; have hcz8_1 : w7.cell? ⟨gb334, 1, none⟩ = some (.slice A0_1 l0_1.length c0_1) := (blk_cell BK334.out 1).trans rfl; have hcz8_2 : w7.cell? ⟨gb334, 2, none⟩ = some (.slice A0_2 l0_2.length c0_2) := (blk_cell BK334.out 2).trans rfl; have hfz8_0 := blk_frozen BK334.out 0; have hfz8_1 := blk_frozen BK334.out 1; have hfz8_2 := blk_frozen BK334.out 2) | (go_at_call 22; (with_reducible refine (ebbtideref14_Great.calls k _ _ l0_1 true _ ?side1 ?side2 A5.out).mono ?_); (case side1 => repeat (first | exact (Kd.C_below HR0_1.out HB.out) | (with_reducible refine Kd.C_alloc ?_ _) | (with_reducible refine Kd.C_drewN ?_ _) | (with_reducible refine Kd.C_drew ?_))); (case side2 => exact HC0_1.out); rintro e w' ⟨rfl, ⟨nd, rfl⟩⟩))
   go_ret
   exact ⟨by first | rfl | (simp [errW_none, errW_some] <;> rfl) | (simp [*, errW_none, errW_some] <;> rfl), by repeat (first | (with_reducible first | exact HB.out | apply below_alloc | apply pw_below_drewN | apply below_drew1 | refine below_set ?_ GE334.out) | exact HB.out)⟩
  ·
   replace c6 := Bool.eq_false_iff.mpr c6
   subst c6
   rw [if_neg (show ¬ (false = true) by decide)] at H
   replace H := Option.bind_eq_some_iff.mp H
   obtain ⟨t336, A90, H⟩ := H
   replace H : (some t336) = some r := H
   have A9 := Aside0.mk A90
   clear A90
   obtain rfl := Option.some.inj H
   go_enter Try.func8, Try.ntmps8
   go_wp2_with (first | ((with_reducible refine gate_dst (N := 1) rfl ?_); refine box_event ?hg (N := 1) ?hd (cs := #[.slice A0_0 l0_0.length c0_0, .slice A0_1 l0_1.length c0_1, .slice A0_2 l0_2.length c0_2]) (t := 28) ?hr ?_; (case hd => rfl); (case hg => rfl); (case hr => first | (go_simp; done) | (go_simp; rfl)); intro gb334 hg w10 hbox hb; have BK334 := Aside0.mk (hbox); have GW334 := Aside0.mk ((by rw [hg]; exact (below_size (uW HB.out)) : w.heap.size ≤ gb334)); have GE334 := Aside0.mk ((by rw [hg]; exact (below_size (uW HB.out)) : w.heap.size ≤ gb334)); replace HB := cW HB hb; clear hb hbox hg; have hcz11_0 : w10.cell? ⟨gb334, 0, none⟩ = some (.slice A0_0 l0_0.length c0_0) := (blk_cell BK334.out 0).trans rfl; have hcz11_1 : w10.cell? ⟨gb334, 1, none⟩ = some (.slice A0_1 l0_1.length c0_1) := (blk_cell BK334.out 1).trans rfl; have hcz11_2 : w10.cell? ⟨gb334, 2, none⟩ = some (.slice A0_2 l0_2.length c0_2) := (blk_cell BK334.out 2).trans rfl; have hfz11_0 := blk_frozen BK334.out 0; have hfz11_1 := blk_frozen BK334.out 1; have hfz11_2 := blk_frozen BK334.out 2) | (go_at_call 22; (with_reducible refine (ebbtideref14_Great.calls k _ _ l0_1 false _ ?side1 ?side2 A5.out).mono ?_); (case side1 => repeat (first | exact (Kd.C_below HR0_1.out HB.out) | (with_reducible refine Kd.C_alloc ?_ _) | (with_reducible refine Kd.C_drewN ?_ _) | (with_reducible refine Kd.C_drew ?_))); (case side2 => exact HC0_1.out); rintro e w' ⟨rfl, ⟨nd, rfl⟩⟩) | (go_at_call 11; (with_reducible refine (ebbtideref16_Great.calls k _ _ l0_2 t336 _ ?side1 ?side2 A9.out).mono ?_); (case side1 => repeat (first | exact (Kd.C_below HR0_2.out (by repeat (first | (with_reducible first | exact HB.out | apply below_alloc | apply pw_below_drewN | apply below_drew1 | refine below_set ?_ GE334.out) | exact HB.out))) | (with_reducible refine Kd.C_alloc ?_ _) | (with_reducible refine Kd.C_drewN ?_ _) | (with_reducible refine Kd.C_drew ?_))); (case side2 => exact HC0_2.out); rintro e w12 ⟨rfl, hb⟩; replace BK334 := cB BK334 hb; replace HB := Aside0.mk (below_step (by repeat (first | (with_reducible first | exact HB.out | apply below_alloc | apply pw_below_drewN | apply below_drew1 | refine below_set ?_ GE334.out) | exact HB.out)) hb); (try clear hb)))
   go_ret
   exact ⟨by first | rfl | (simp [errW_none, errW_some] <;> rfl) | (simp [*, errW_none, errW_some] <;> rfl), by repeat (first | (with_reducible first | exact HB.out | apply below_alloc | apply pw_below_drewN | apply below_drew1 | refine below_set ?_ GE334.out) | exact HB.out)⟩

/-! ### ebbtideref13_there: function 38 -/
def ebbtideref13_there.f (a0 : Int) (a1 : Int) : Option (Bool) := if a1 ≥ 1 then (if a1 ≤ 1000 then (if a0 ≥ 0 then (some (decide (a0 ≤ 1000000000000))) else (some false)) else (some false)) else (some false)
set_option maxHeartbeats 8000000 in
set_option maxRecDepth 100000 in
theorem ebbtideref13_there.calls (a0 : Int) (a1 : Int) (r : Bool) (w : World) (h : ebbtideref13_there.f a0 a1 = some r) :
 Calls Try.prog 38 #[.int .i64 a0, .int .i64 a1] w fun e w' => e = .returned (.bool r) ∧ Drawn0 w w' := by
 have H : (if a1 ≥ 1 then (if a1 ≤ 1000 then (if a0 ≥ 0 then (some (decide (a0 ≤ 1000000000000))) else (some false)) else (some false)) else (some false)) = some r := h
 clear h
 by_cases c3 : a1 ≥ 1
 ·
  rw [if_pos c3] at H
  have c3b0 : decide (1 ≤ a1) = true := decide_eq_true c3
  clear c3
  by_cases c4 : a1 ≤ 1000
  ·
   rw [if_pos c4] at H
   have c4b0 : decide (a1 ≤ 1000) = true := decide_eq_true c4
   clear c4
   by_cases c5 : a0 ≥ 0
   ·
    rw [if_pos c5] at H
    have c5b0 : decide (0 ≤ a0) = true := decide_eq_true c5
    clear c5
    obtain rfl := Option.some.inj H
    go_enter Try.func38, Try.ntmps38
    go_wp2
    go_ret
    exact ⟨by first | rfl | (simp; done) | (simp [*]; done), by repeat (first | exact Drawn0.refl _ | apply Drawn0.step)⟩
   ·
    rw [if_neg c5] at H
    have c5b0 : decide (0 ≤ a0) = false := decide_eq_false c5
    clear c5
    obtain rfl := Option.some.inj H
    go_enter Try.func38, Try.ntmps38
    go_wp2
    go_ret
    exact ⟨by first | rfl | (simp; done) | (simp [*]; done), by repeat (first | exact Drawn0.refl _ | apply Drawn0.step)⟩
  ·
   rw [if_neg c4] at H
   have c4b0 : decide (a1 ≤ 1000) = false := decide_eq_false c4
   clear c4
   obtain rfl := Option.some.inj H
   go_enter Try.func38, Try.ntmps38
   go_wp2
   go_ret
   exact ⟨by first | rfl | (simp; done) | (simp [*]; done), by repeat (first | exact Drawn0.refl _ | apply Drawn0.step)⟩
 ·
  rw [if_neg c3] at H
  have c3b0 : decide (1 ≤ a1) = false := decide_eq_false c3
  clear c3
  obtain rfl := Option.some.inj H
  go_enter Try.func38, Try.ntmps38
  go_wp2
  go_ret
  exact ⟨by first | rfl | (simp; done) | (simp [*]; done), by repeat (first | exact Drawn0.refl _ | apply Drawn0.step)⟩

/-! ### ebbtideref13_Closed: function 16 -/
def ebbtideref13_Closed.f (a0 : Int) (a1 : Int) (a2 : Int) (a3 : Int) : Option (Bool) := (ebbtideref13_there.f a0 a1).bind fun t337 => (if t337 = true then (if a2 ≥ 0 then (if a2 ≤ 1000 then (some (decide (a3 ≥ (wrap64 ((wrap64 ((wrap64 (a0 * a1)) + a1)) + a2))))) else (some false)) else (some false)) else (some false))
set_option maxHeartbeats 8000000 in
set_option maxRecDepth 100000 in
theorem ebbtideref13_Closed.calls (a0 : Int) (a1 : Int) (a2 : Int) (a3 : Int) (r : Bool) (w : World) (h : ebbtideref13_Closed.f a0 a1 a2 a3 = some r) :
 Calls Try.prog 16 #[.int .i64 a0, .int .i64 a1, .int .i64 a2, .int .i64 a3] w fun e w' => e = .returned (.bool r) ∧ Drawn0 w w' := by
 have H : ((ebbtideref13_there.f a0 a1).bind fun t337 => (if t337 = true then (if a2 ≥ 0 then (if a2 ≤ 1000 then (some (decide (a3 ≥ (wrap64 ((wrap64 ((wrap64 (a0 * a1)) + a1)) + a2))))) else (some false)) else (some false)) else (some false))) = some r := h
 clear h
 replace H := Option.bind_eq_some_iff.mp H
 obtain ⟨t337, A50, H⟩ := H
 replace H : (if t337 = true then (if a2 ≥ 0 then (if a2 ≤ 1000 then (some (decide (a3 ≥ (wrap64 ((wrap64 ((wrap64 (a0 * a1)) + a1)) + a2))))) else (some false)) else (some false)) else (some false)) = some r := H
 have A5 := Aside0.mk A50
 clear A50
 by_cases c6 : t337 = true
 ·
  subst c6
  rw [if_pos rfl] at H
  by_cases c7 : a2 ≥ 0
  ·
   rw [if_pos c7] at H
   have c7b0 : decide (0 ≤ a2) = true := decide_eq_true c7
   clear c7
   by_cases c8 : a2 ≤ 1000
   ·
    rw [if_pos c8] at H
    have c8b0 : decide (a2 ≤ 1000) = true := decide_eq_true c8
    clear c8
    obtain rfl := Option.some.inj H
    go_enter Try.func16, Try.ntmps16
    go_wp2_with (first | ((with_reducible refine gate_callee (f := 38) rfl ?_); refine goesL_ (some 11) rfl rfl Try.func38 (by kernel_rfl) rfl #[.int .i64 a0, .int .i64 a1] rfl (by (try simp only [List.map_toArray, List.map_cons, List.map_nil]); first | done | rfl | (simp only [List.length_drop, List.length_take]; rfl)) ?_; (with_reducible refine (ebbtideref13_there.calls a0 a1 true _ A5.out).mono ?_); rintro e w' ⟨rfl, ⟨nd, rfl⟩⟩; refine ⟨_, rfl, ?_⟩))
    go_ret
    exact ⟨by first | rfl | (simp; done) | (simp [*]; done), by repeat (first | exact Drawn0.refl _ | apply Drawn0.step)⟩
   ·
    rw [if_neg c8] at H
    have c8b0 : decide (a2 ≤ 1000) = false := decide_eq_false c8
    clear c8
    obtain rfl := Option.some.inj H
    go_enter Try.func16, Try.ntmps16
    go_wp2_with (first | ((with_reducible refine gate_callee (f := 38) rfl ?_); refine goesL_ (some 11) rfl rfl Try.func38 (by kernel_rfl) rfl #[.int .i64 a0, .int .i64 a1] rfl (by (try simp only [List.map_toArray, List.map_cons, List.map_nil]); first | done | rfl | (simp only [List.length_drop, List.length_take]; rfl)) ?_; (with_reducible refine (ebbtideref13_there.calls a0 a1 true _ A5.out).mono ?_); rintro e w' ⟨rfl, ⟨nd, rfl⟩⟩; refine ⟨_, rfl, ?_⟩))
    go_ret
    exact ⟨by first | rfl | (simp; done) | (simp [*]; done), by repeat (first | exact Drawn0.refl _ | apply Drawn0.step)⟩
  ·
   rw [if_neg c7] at H
   have c7b0 : decide (0 ≤ a2) = false := decide_eq_false c7
   clear c7
   obtain rfl := Option.some.inj H
   go_enter Try.func16, Try.ntmps16
   go_wp2_with (first | ((with_reducible refine gate_callee (f := 38) rfl ?_); refine goesL_ (some 11) rfl rfl Try.func38 (by kernel_rfl) rfl #[.int .i64 a0, .int .i64 a1] rfl (by (try simp only [List.map_toArray, List.map_cons, List.map_nil]); first | done | rfl | (simp only [List.length_drop, List.length_take]; rfl)) ?_; (with_reducible refine (ebbtideref13_there.calls a0 a1 true _ A5.out).mono ?_); rintro e w' ⟨rfl, ⟨nd, rfl⟩⟩; refine ⟨_, rfl, ?_⟩))
   go_ret
   exact ⟨by first | rfl | (simp; done) | (simp [*]; done), by repeat (first | exact Drawn0.refl _ | apply Drawn0.step)⟩
 ·
  replace c6 := Bool.eq_false_iff.mpr c6
  subst c6
  rw [if_neg (show ¬ (false = true) by decide)] at H
  obtain rfl := Option.some.inj H
  go_enter Try.func16, Try.ntmps16
  go_wp2_with (first | ((with_reducible refine gate_callee (f := 38) rfl ?_); refine goesL_ (some 11) rfl rfl Try.func38 (by kernel_rfl) rfl #[.int .i64 a0, .int .i64 a1] rfl (by (try simp only [List.map_toArray, List.map_cons, List.map_nil]); first | done | rfl | (simp only [List.length_drop, List.length_take]; rfl)) ?_; (with_reducible refine (ebbtideref13_there.calls a0 a1 false _ A5.out).mono ?_); rintro e w' ⟨rfl, ⟨nd, rfl⟩⟩; refine ⟨_, rfl, ?_⟩))
  go_ret
  exact ⟨by first | rfl | (simp; done) | (simp [*]; done), by repeat (first | exact Drawn0.refl _ | apply Drawn0.step)⟩

end Go.Proofs.Ytklhjponikgkkaa.X
