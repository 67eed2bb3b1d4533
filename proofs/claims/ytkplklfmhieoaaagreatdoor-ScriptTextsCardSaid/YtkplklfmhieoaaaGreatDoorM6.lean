/- Printed by a program of this session's own: what functions of the program compute, and that the machine computes it. No condition of its own. -/
import Derived.Test.YtkplklfmhieoaaaGreatDoorM3
import Derived.Test.YtkplklfmhieoaaaGreatDoorM4
import Derived.Test.YtkplklfmhieoaaaGreatDoorM5
namespace Go.Proofs.YtkplklfmhieoaaaGreatDoor.X
open Go.RowKit Go.Proofs.YtkplklfmhieoaaaGreatDoorW.PrintWords Go.Proofs.YtkplklfmhieoaaaGreatDoorW.PrintLast Go.Proofs.YtkplklfmhieoaaaGreatDoorW.PrintMore
attribute [local go_sem] max2_int min2_int max_two min_two max_three min_three max_four min_four
set_option linter.unusedVariables false
set_option linter.unusedSimpArgs false
set_option maxHeartbeats 8000000
set_option maxRecDepth 100000
def script_event.j0 : Nat → List ByteArray → Int → Bool → Int → Int → ByteArray → Int → Bool → Option (Int × Int × List Int × Int)
 | 0, _, _, _, _, _, _, _, _ => none
 | k + 1, x1, x4, x37, x162000, x162001, x171000, x171001, x171002 => if x37 = true then (none) else (if 1 < (x1.length : Int) then ((sat_Read.f (rdOf ByteArray.empty x1 1)).bind fun bt172 => (if bt172.2 = 0 then (if bt172.1 < 0 then (none) else (if bt172.1 > x171001 then (none) else (if x171002 = true then (if 2 < (x1.length : Int) then ((script_data.f k (rdOf ByteArray.empty x1 2)).bind fun bt175 => (if bt175.2 = true then (some (wrap64 (x4 + 1), bt172.1, bt175.1, 0)) else (none))) else (none)) else (some (wrap64 (x4 + 1), bt172.1, ([] : List Int), 0))))) else (some (x162000, x162001, ([] : List Int), bt172.2)))) else (none))
def script_event.f (k : Nat) (l0 : List ByteArray) : Option (Int × Int × List Int × Int) := (script_kinds.f).bind fun t162 => ((script_find.f t162 l0).bind fun t165 => ((script_of.f (wrap64 (t165 + 1))).bind fun bt166 => (if bt166.2.2.2 = true then (if bt166.2.2.1 = true then (if (l0.length : Int) = 3 then (script_event.j0 k l0 t165 false 0 0 bt166.1 bt166.2.1 bt166.2.2.1) else (script_event.j0 k l0 t165 true 0 0 bt166.1 bt166.2.1 bt166.2.2.1)) else (script_event.j0 k l0 t165 ((l0.length : Int) != 2) 0 0 bt166.1 bt166.2.1 bt166.2.2.1)) else (script_event.j0 k l0 t165 true 0 0 bt166.1 bt166.2.1 bt166.2.2.1))))
theorem script_event.mono_l : ∀ k, (∀ y0 y1 y2 y3 y4 y5 y6 y7, LeC (script_event.j0 k y0 y1 y2 y3 y4 y5 y6 y7) (script_event.j0 (k + 1) y0 y1 y2 y3 y4 y5 y6 y7))
 | 0 => fun _ _ _ _ _ _ _ _ => ⟨fun r h => by simp [script_event.j0] at h⟩
 | k + 1 => by have ih0 := script_event.mono_l k; exact fun _ _ _ _ _ _ _ _ => by unfold script_event.j0; exact lm
theorem script_event.mono : ∀ a0 k, LeO (script_event.f k a0) (script_event.f (k + 1) a0) := by
 intro a0 k
 have ih0 := script_event.mono_l k
 unfold script_event.f
 exact lo
instance script_event.mI {a0 k} : LeC (script_event.f k a0) (script_event.f (k + 1) a0) := ⟨script_event.mono _ _⟩
theorem script_event.calls (k : Nat) (A0 : Option Addr) (c0 : Nat) (l0 : List ByteArray) (r1 : Int) (r2 : Int) (r3 : List Int) (r4 : Int) (w : World) (hr0 : Kd.C Kd.string w A0 l0.length l0) (hc0 : l0.length ≤ c0) (hL : LD w) (h : script_event.f k l0 = some (r1, r2, r3, r4)) :
 Calls Tryz.prog 33 #[.slice A0 l0.length c0] w fun e w' => ∃ v2_ : Value, e = .returned (.tuple #[.agg #[.int .i64 r1, .int .i64 r2, v2_], .int .i64 r4]) ∧ Kd.R (Kd.int .u8) 5 w' w.heap.size (fun _ => True) v2_ r3 ∧ Below w.heap.size w w' := by
 have HL0 := Aside0.mk hL
 clear hL
 have hu37 := Tryz.underlying37
 have hu43 := Tryz.underlying43
 have HR0 := Aside0.mk hr0
 have HC0 := Aside0.mk hc0
 clear hr0 hc0
 have HB := Aside0.mk (Below.refl w.heap.size w)
 have H : ((script_kinds.f).bind fun t162 => ((script_find.f t162 l0).bind fun t165 => ((script_of.f (wrap64 (t165 + 1))).bind fun bt166 => (if bt166.2.2.2 = true then (if bt166.2.2.1 = true then (if (l0.length : Int) = 3 then (script_event.j0 k l0 t165 false 0 0 bt166.1 bt166.2.1 bt166.2.2.1) else (script_event.j0 k l0 t165 true 0 0 bt166.1 bt166.2.1 bt166.2.2.1)) else (script_event.j0 k l0 t165 ((l0.length : Int) != 2) 0 0 bt166.1 bt166.2.1 bt166.2.2.1)) else (script_event.j0 k l0 t165 true 0 0 bt166.1 bt166.2.1 bt166.2.2.1))))) = some (r1, r2, r3, r4) := h
 clear h
 obtain ⟨t162, A2, H⟩ := bs H
 try dsimp only at H
 obtain ⟨t165, A3, H⟩ := bs H
 try dsimp only at H
 obtain ⟨⟨t166, t167, t168, t169⟩, A4, H⟩ := bs H
 try dsimp only at H
 have HC5 := Aside0.mk H
 clear H
 go_enter Tryz.func33, Tryz.ntmps33
 go_upto_region 3 with (first | ((with_reducible refine gate_dst (N := 1) rfl ?_); refine bx (N := 1) #[.slice A0 l0.length c0] 47 ?_; intro bL_ hgL wL hboxL hbL; have HB0 := Aside0.mk (below_step HB.out hbL); have hcL : wL.cell? ⟨bL_, 0, none⟩ = some (.slice A0 l0.length c0) := (blk_cell hboxL 0).trans rfl; clear HB hbL hboxL hgL; rename World => w; replace HR0 := Aside0.mk (Kd.C_below HR0.out HB0.out); replace HL0 := Aside0.mk (LD.below HL0.out HB0.out); have HB := Aside0.mk (Below.refl w.heap.size w)) | ((with_reducible refine gate_dst (N := 2) rfl ?_); (try (refine gate_guard (by rfl) ?_; dsimp only)); refine bx (N := 2) #[.int .i64 0, .int .i64 0, .slice none 0 0] 37 ?_; intro gb161 hg w6 hbox hb; have BK161 := Aside0.mk (hbox); have GW161 := gw hg (uW HB.out); have GE161 := GW161; replace HB := cW HB hb; have hcl1_ := kc HB hcL; have hnL161_ : gb161 ≠ bL_ := fun e_ => Nat.not_lt.2 GE161.out (e_ ▸ (show bL_ < w.heap.size from World.block_lt_of_cell? w _ hcL)); have hnM161_ := Ne.symm hnL161_; clear hb hbox hg) | (refine gL (some 8) rfl Tryz.func36 #[] ?_; (with_reducible refine (script_kinds.calls  t162 _ A2.out).mono ?_); rintro e w7 ⟨v163, rfl, ho0, hb⟩; refine ⟨_, rfl, ?_⟩; have HO164 := Aside0.mk (Kd.R_lower ho0 (below_size bl)); replace BK161 := cB BK161 hb; replace HB := Aside0.mk (below_step bl hb); have hcl2_ := kc HB hcL; (try clear hb); (try clear ho0); obtain ⟨Ao8, co8, eo8⟩ := Kd.R_slice HO164.out; subst eo8) | (refine gL (some 10) rfl Tryz.func44 #[.slice Ao8 t162.length co8, .func (.func 45) #[] #[.pointer (some ⟨bL_, 0, none⟩)]] ?_; (with_reducible refine (script_find.calls (B0_ := bL_) _ _ t162 A0 c0 l0 t165 _ ?side1 ?side2 ?side3 ?side4 ?sideL A3.out).mono ?_); (case sideL => first | exact kc HB hcL | assumption); (case side1 => exact uC <| (Kd.R_reads' HO164.out).2.2); (case side2 => exact (Kd.R_reads' HO164.out).2.1); (case side3 => exact uC <| (Kd.C_below HR0.out HB.out)); (case side4 => exact HC0.out); rintro e w9 ⟨rfl, hb⟩; refine ⟨_, rfl, ?_⟩; replace HO164 := cR HO164 hb; replace BK161 := cB BK161 hb; replace HB := Aside0.mk (below_step bl hb); have hcl3_ := kc HB hcL; (try clear hb)) | (refine gL (some 14) rfl Tryz.func16 #[.int .i64 (wrap64 (t165 + 1))] ?_; (with_reducible refine (script_of.calls (wrap64 (t165 + 1)) t166 t167 t168 t169 _ A4.out).mono ?_); rintro e w10 ⟨rfl, hb⟩; refine ⟨_, rfl, ?_⟩; replace HO164 := cR HO164 hb; replace BK161 := cB BK161 hb; replace HB := Aside0.mk (below_step bl hb); have hcl4_ := kc HB hcL; (try clear hb)) | ((with_reducible refine gate_dst (N := 5) rfl ?_); (try (refine gate_guard (by rfl) ?_; dsimp only)); refine bx (N := 5) #[.string (⟨#[]⟩ : ByteArray), .int .i64 0, .bool false] 43 ?_; intro gb170 hg w11 hbox hb; replace HO164 := Aside0.mk (Kd.R_below (Kd.R_elderB (uR HO164.out) gb170 (Nat.le_of_eq hg.symm)) hb); have BK170 := Aside0.mk (hbox); have GW170 := gw hg bl; have GE170 := GW170; replace HB := Aside0.mk (below_step bl hb); have NB161_170 := Aside0.mk ((by rw [hg]; exact Nat.ne_of_lt (blk_lt (g := gb161) (o := .cells #[.int .i64 0, .int .i64 0, .slice none 0 0] 37 (0, 0)) (uB BK161.out)) : gb161 ≠ gb170)); have NB170_161 := Aside0.mk ((by rw [hg]; exact Nat.ne_of_gt (blk_lt (g := gb161) (o := .cells #[.int .i64 0, .int .i64 0, .slice none 0 0] 37 (0, 0)) (uB BK161.out)) : gb170 ≠ gb161)); replace BK161 := cB BK161 hb; have hcl5_ := kc HB hcL; have hnL170_ : gb170 ≠ bL_ := fun e_ => Nat.not_lt.2 GE170.out (e_ ▸ (show bL_ < w.heap.size from World.block_lt_of_cell? w _ hcL)); have hnM170_ := Ne.symm hnL170_; clear hb hbox hg; have hnb12 := NB170_161.out; have hnc12 := NB161_170.out; obtain ⟨hcz13_0, hcz13_1, hcz13_2, hfz13_0, hfz13_1, hfz13_2⟩ := z3 BK170))
 (try simp only [Act.put, List.setIfInBounds_toArray, List.set_cons_zero, List.set_cons_succ])
 go_cut [37] (fun v37 wc => ∃ (kq : Nat) (x37_4 : Bool), v37 = .bool x37_4 ∧ Aside0 (script_event.j0 kq l0 t165 x37_4 0 0 t166 t167 t168 = some (r1, r2, r3, r4)) ∧ Aside0 (kq ≤ k) ∧ Aside0 (wc.heap[gb161]? = some (.cells #[.int .i64 0, .int .i64 0, (.slice none 0 0)] 37 (0, 0))) ∧ Aside0 (wc.heap[gb170]? = some (.cells #[.string t166, .int .i64 t167, .bool t168] 43 (0, 0))) ∧ Aside0 (Below w.heap.size w wc))
 case first =>
  have H := HC5.out
  clear HC5
  by_cases c14 : t169 = true
  ·
   subst c14
   rw [if_pos rfl] at H
   by_cases c15 : t168 = true
   ·
    subst c15
    rw [if_pos rfl] at H
    by_cases c16 : (l0.length : Int) = 3
    ·
     rw [if_pos c16] at H
     have c16b0 : ((l0.length : Int) == 3) = true := beq_iff_eq.mpr c16
     have c16b1 : ((l0.length : Int) != 3) = false := bne_eq_false_iff_eq.mpr c16
     clear c16
     (first | rw [c16b0] | (simp only [i64_w, i32_w]; rw [c16b0]) | skip)
     have H' := Aside0.mk H
     clear H
     have hnb17 := NB170_161.out
     have hnc17 := NB161_170.out
     obtain ⟨hcz18_0, hcz18_1, hcz18_2, hfz18_0, hfz18_1, hfz18_2⟩ := z3 BK170
     go_wp2
     go_meet
     case rel => exact ⟨_, (false), rs_, H', ⟨by first | omega | exact Nat.le_refl _⟩, ⟨by (with_reducible repeat (first | refine blk_drewN ?_ _ | refine blk_drew ?_ | refine blk_alloc ?_ _)); refine blk_far ?_ NB161_170.out _; (with_reducible repeat (first | refine blk_drewN ?_ _ | refine blk_drew ?_ | refine blk_alloc ?_ _)); refine blk_far ?_ NB161_170.out _; (with_reducible repeat (first | refine blk_drewN ?_ _ | refine blk_drew ?_ | refine blk_alloc ?_ _)); refine blk_far ?_ NB161_170.out _; exact uB <| BK161.out⟩, ⟨by (with_reducible repeat (first | refine blk_drewN ?_ _ | refine blk_drew ?_ | refine blk_alloc ?_ _)); refine blk_put (cs := #[.string t166, .int .i64 t167, .bool false]) ?_ 2 _ rfl; (with_reducible repeat (first | refine blk_drewN ?_ _ | refine blk_drew ?_ | refine blk_alloc ?_ _)); refine blk_put (cs := #[.string t166, .int .i64 0, .bool false]) ?_ 1 _ rfl; (with_reducible repeat (first | refine blk_drewN ?_ _ | refine blk_drew ?_ | refine blk_alloc ?_ _)); refine blk_put (cs := #[.string (⟨#[]⟩ : ByteArray), .int .i64 0, .bool false]) ?_ 0 _ rfl; exact uB <| BK170.out⟩, ⟨bl⟩⟩
    ·
     rw [if_neg c16] at H
     have c16b0 : ((l0.length : Int) == 3) = false := beq_eq_false_iff_ne.mpr c16
     have c16b1 : ((l0.length : Int) != 3) = true := bne_iff_ne.mpr c16
     (first | rw [c16b0] | (simp only [i64_w, i32_w]; rw [c16b0]) | skip)
     have H' := Aside0.mk H
     clear H
     have hnb19 := NB170_161.out
     have hnc19 := NB161_170.out
     obtain ⟨hcz20_0, hcz20_1, hcz20_2, hfz20_0, hfz20_1, hfz20_2⟩ := z3 BK170
     go_wp2
     go_meet
     case rel => exact ⟨_, (true), rs_, H', ⟨by first | omega | exact Nat.le_refl _⟩, ⟨by (with_reducible repeat (first | refine blk_drewN ?_ _ | refine blk_drew ?_ | refine blk_alloc ?_ _)); refine blk_far ?_ NB161_170.out _; (with_reducible repeat (first | refine blk_drewN ?_ _ | refine blk_drew ?_ | refine blk_alloc ?_ _)); refine blk_far ?_ NB161_170.out _; (with_reducible repeat (first | refine blk_drewN ?_ _ | refine blk_drew ?_ | refine blk_alloc ?_ _)); refine blk_far ?_ NB161_170.out _; exact uB <| BK161.out⟩, ⟨by (with_reducible repeat (first | refine blk_drewN ?_ _ | refine blk_drew ?_ | refine blk_alloc ?_ _)); refine blk_put (cs := #[.string t166, .int .i64 t167, .bool false]) ?_ 2 _ rfl; (with_reducible repeat (first | refine blk_drewN ?_ _ | refine blk_drew ?_ | refine blk_alloc ?_ _)); refine blk_put (cs := #[.string t166, .int .i64 0, .bool false]) ?_ 1 _ rfl; (with_reducible repeat (first | refine blk_drewN ?_ _ | refine blk_drew ?_ | refine blk_alloc ?_ _)); refine blk_put (cs := #[.string (⟨#[]⟩ : ByteArray), .int .i64 0, .bool false]) ?_ 0 _ rfl; exact uB <| BK170.out⟩, ⟨bl⟩⟩
   ·
    replace c15 := Bool.eq_false_iff.mpr c15
    subst c15
    rw [if_neg (show ¬ (false = true) by decide)] at H
    have H' := Aside0.mk H
    clear H
    have hnb21 := NB170_161.out
    have hnc21 := NB161_170.out
    obtain ⟨hcz22_0, hcz22_1, hcz22_2, hfz22_0, hfz22_1, hfz22_2⟩ := z3 BK170
    go_wp2
    go_meet
    case rel => exact ⟨_, (((l0.length : Int) != 2)), rs_, H', ⟨by first | omega | exact Nat.le_refl _⟩, ⟨by (with_reducible repeat (first | refine blk_drewN ?_ _ | refine blk_drew ?_ | refine blk_alloc ?_ _)); refine blk_far ?_ NB161_170.out _; (with_reducible repeat (first | refine blk_drewN ?_ _ | refine blk_drew ?_ | refine blk_alloc ?_ _)); refine blk_far ?_ NB161_170.out _; (with_reducible repeat (first | refine blk_drewN ?_ _ | refine blk_drew ?_ | refine blk_alloc ?_ _)); refine blk_far ?_ NB161_170.out _; exact uB <| BK161.out⟩, ⟨by (with_reducible repeat (first | refine blk_drewN ?_ _ | refine blk_drew ?_ | refine blk_alloc ?_ _)); refine blk_put (cs := #[.string t166, .int .i64 t167, .bool false]) ?_ 2 _ rfl; (with_reducible repeat (first | refine blk_drewN ?_ _ | refine blk_drew ?_ | refine blk_alloc ?_ _)); refine blk_put (cs := #[.string t166, .int .i64 0, .bool false]) ?_ 1 _ rfl; (with_reducible repeat (first | refine blk_drewN ?_ _ | refine blk_drew ?_ | refine blk_alloc ?_ _)); refine blk_put (cs := #[.string (⟨#[]⟩ : ByteArray), .int .i64 0, .bool false]) ?_ 0 _ rfl; exact uB <| BK170.out⟩, ⟨bl⟩⟩
  ·
   replace c14 := Bool.eq_false_iff.mpr c14
   subst c14
   rw [if_neg (show ¬ (false = true) by decide)] at H
   have H' := Aside0.mk H
   clear H
   go_wp2
   go_meet
   case rel => exact ⟨_, (true), rs_, H', ⟨by first | omega | exact Nat.le_refl _⟩, ⟨by (with_reducible repeat (first | refine blk_drewN ?_ _ | refine blk_drew ?_ | refine blk_alloc ?_ _)); refine blk_far ?_ NB161_170.out _; (with_reducible repeat (first | refine blk_drewN ?_ _ | refine blk_drew ?_ | refine blk_alloc ?_ _)); refine blk_far ?_ NB161_170.out _; (with_reducible repeat (first | refine blk_drewN ?_ _ | refine blk_drew ?_ | refine blk_alloc ?_ _)); refine blk_far ?_ NB161_170.out _; exact uB <| BK161.out⟩, ⟨by (with_reducible repeat (first | refine blk_drewN ?_ _ | refine blk_drew ?_ | refine blk_alloc ?_ _)); refine blk_put (cs := #[.string t166, .int .i64 t167, .bool false]) ?_ 2 _ rfl; (with_reducible repeat (first | refine blk_drewN ?_ _ | refine blk_drew ?_ | refine blk_alloc ?_ _)); refine blk_put (cs := #[.string t166, .int .i64 0, .bool false]) ?_ 1 _ rfl; (with_reducible repeat (first | refine blk_drewN ?_ _ | refine blk_drew ?_ | refine blk_alloc ?_ _)); refine blk_put (cs := #[.string (⟨#[]⟩ : ByteArray), .int .i64 0, .bool false]) ?_ 0 _ rfl; exact uB <| BK170.out⟩, ⟨bl⟩⟩
 case rest =>
  clear HC5
  try clear c1
  try clear c2
  try clear p2
  try clear c3
  try clear p6
  try clear c9
  try clear c12
  try clear c14
  try clear c15
  try clear c16
  try clear c16b0
  try clear c16b1
  try clear c17
  try clear c19
  try clear c21
  try clear hcz13_0
  try clear hcz13_1
  try clear hcz13_2
  try clear hcz18_0
  try clear hcz18_1
  try clear hcz18_2
  try clear hcz20_0
  try clear hcz20_1
  try clear hcz20_2
  try clear hcz22_0
  try clear hcz22_1
  try clear hcz22_2
  try clear hfz13_0
  try clear hfz13_1
  try clear hfz13_2
  try clear hfz18_0
  try clear hfz18_1
  try clear hfz18_2
  try clear hfz20_0
  try clear hfz20_1
  try clear hfz20_2
  try clear hfz22_0
  try clear hfz22_1
  try clear hfz22_2
  obtain ⟨kq, x37_4, rfl, HA, HJ4, BK161, BK170, HB⟩ := hcut
  have hcl6_ := kc HB hcL
  cases kq with
  | zero => exact absurd HA.out (by simp [script_event.j0])
  | succ kj4 =>
   have H := HA.out
   clear HA
   simp only [script_event.j0] at H
   by_cases c23 : x37_4 = true
   ·
    subst c23
    rw [if_pos rfl] at H
    exact absurd H (by simp)
   ·
    replace c23 := Bool.eq_false_iff.mpr c23
    subst c23
    rw [if_neg (show ¬ (false = true) by decide)] at H
    by_cases c24 : 1 < (l0.length : Int)
    ·
     rw [if_pos c24] at H
     have c24b0 : decide (1 < (l0.length : Int)) = true := decide_eq_true c24
     have c24b1 : decide (1 < l0.length) = true := decide_eq_true (by omega)
     clear c24
     obtain ⟨⟨t172, t173⟩, A25, H⟩ := bs H
     try dsimp only at H
     by_cases c26 : t173 = 0
     ·
      rw [if_pos c26] at H
      have c26b0 : (t173 == 0) = true := beq_iff_eq.mpr c26
      have c26b1 : (t173 != 0) = false := bne_eq_false_iff_eq.mpr c26
      clear c26
      obtain ⟨c27b0, H⟩ := gnn H
      obtain ⟨c28b0, H⟩ := gnn H
      by_cases c29 : t168 = true
      ·
       subst c29
       rw [if_pos rfl] at H
       obtain ⟨c30, H⟩ := gd H
       have c30b0 : decide (2 < (l0.length : Int)) = true := decide_eq_true c30
       have c30b1 : decide (2 < l0.length) = true := decide_eq_true (by omega)
       clear c30
       obtain ⟨⟨t175, t176⟩, A31, H⟩ := bs H
       try dsimp only at H
       by_cases c32 : t176 = true
       ·
        subst c32
        rw [if_pos rfl] at H
        simp only [Option.some.injEq, Prod.mk.injEq] at H
        obtain ⟨rfl, rfl, rfl, rfl⟩ := H
        have p171 : 0 ≤ (1 : Int) := (by omega)
        have q171 : 1 < (l0.length : Int) := od
        obtain ⟨ad171, e171, hx171_0⟩ := Kd.at_string HR0.out 1 p171 q171
        cases e171
        (try simp only [show (1 : Int).toNat = 1 from rfl, Nat.reduceMul, Nat.reduceEqDiff, Go.Addr.add, ↓reduceIte] at hx171_0)
        have qi171 : (1 < l0.length) = True := eq_true (by omega)
        (try rw [show ((1 : Int)).toNat = 1 from rfl] at hx171_0)
        replace hx171_0 := kc HB hx171_0
        replace p171 := eq_true p171
        replace q171 := eq_true q171
        go_wp2_with (first | (refine gL (some 43) rfl Tryz.func46 #[.string (rdOf ByteArray.empty l0 1)] ?_; (with_reducible refine (sat_Read.calls (hL := ld) (rdOf ByteArray.empty l0 1) t172 t173 _ A25.out).mono ?_); rintro e w33 ⟨rfl, hb⟩; refine ⟨_, rfl, ?_⟩; replace BK161 := cB BK161 hb; replace BK170 := cB BK170 hb; replace HB := Aside0.mk (below_step bl hb); have hcl7_ := kc HB hcL; (try clear hb); have hnb34 := NB170_161.out; have hnc34 := NB161_170.out; obtain ⟨hcz35_0, hcz35_1, hcz35_2, hfz35_0, hfz35_1, hfz35_2⟩ := z3 BK170; obtain ⟨hcz36_0, hcz36_1, hcz36_2, hfz36_0, hfz36_1, hfz36_2⟩ := z3 BK161; have p174 : 0 ≤ (2 : Int) := (by omega); have q174 : 2 < (l0.length : Int) := od; obtain ⟨ad174, e174, hx174_0⟩ := Kd.at_string HR0.out 2 p174 q174; obtain rfl : ad171 = ad174 := (by injection e174); (try simp only [show (2 : Int).toNat = 2 from rfl, Nat.reduceMul, Nat.reduceEqDiff, Go.Addr.add, ↓reduceIte] at hx174_0); have qi174 : (2 < l0.length) = True := eq_true (by omega); (try rw [show ((2 : Int)).toNat = 2 from rfl] at hx174_0); have hn174_0 : ad171.block ≠ gb161 := Nat.ne_of_lt (Nat.lt_of_lt_of_le (by have := World.block_lt_of_cell? _ _ hx174_0; first | rwa [add_block] at this | exact this) GW161.out); have hn174_1 : ad171.block ≠ gb161 := Nat.ne_of_lt (Nat.lt_of_lt_of_le (by have := World.block_lt_of_cell? _ _ hx174_0; first | rwa [add_block] at this | exact this) GW161.out); replace hx174_0 := kc HB hx174_0; replace hx174_0 := (cell_far (p := ⟨gb161, 0, none⟩) (by first | (rw [add_block]; exact hn174_0) | (show (Addr.add _ _).block ≠ _; rw [add_block]; exact hn174_0) | exact hn174_0) (.int .i64 (wrap64 (t165 + 1)))).trans hx174_0; replace hx174_0 := (cell_far (p := ⟨gb161, 1, none⟩) (by first | (rw [add_block]; exact hn174_1) | (show (Addr.add _ _).block ≠ _; rw [add_block]; exact hn174_1) | exact hn174_1) (.int .i64 t172)).trans hx174_0; clear hn174_0; clear hn174_1; replace p174 := eq_true p174; replace q174 := eq_true q174) | (refine gL (some 72) rfl Tryz.func47 #[.string (rdOf ByteArray.empty l0 2)] ?_; (with_reducible refine (script_data.calls kj4 (rdOf ByteArray.empty l0 2) t175 true _ A31.out).mono ?_); rintro e w37 ⟨v177, rfl, ho0, hb⟩; refine ⟨_, rfl, ?_⟩; have HO178 := Aside0.mk (Kd.R_lower ho0 (below_size bl)); replace BK161 := Aside0.mk (blk_below (g := gb161) (o := .cells #[.int .i64 (wrap64 (t165 + 1)), .int .i64 t172, .slice none 0 0] 37 (0, 0)) (by (with_reducible repeat (first | refine blk_drewN ?_ _ | refine blk_drew ?_ | refine blk_alloc ?_ _)); refine blk_put (cs := #[.int .i64 (wrap64 (t165 + 1)), .int .i64 0, .slice none 0 0]) ?_ 1 _ rfl; (with_reducible repeat (first | refine blk_drewN ?_ _ | refine blk_drew ?_ | refine blk_alloc ?_ _)); refine blk_put (cs := #[.int .i64 0, .int .i64 0, .slice none 0 0]) ?_ 0 _ rfl; exact uB <| BK161.out) hb); replace BK170 := Aside0.mk (blk_below (g := gb170) (o := .cells #[.string t166, .int .i64 t167, .bool true] 43 (0, 0)) (by (with_reducible repeat (first | refine blk_drewN ?_ _ | refine blk_drew ?_ | refine blk_alloc ?_ _)); refine blk_far ?_ NB170_161.out _; (with_reducible repeat (first | refine blk_drewN ?_ _ | refine blk_drew ?_ | refine blk_alloc ?_ _)); refine blk_far ?_ NB170_161.out _; exact uB <| BK170.out) hb); replace HB := Aside0.mk (below_step bl hb); have hcl8_ := kc HB hcL; (try clear hb); (try clear ho0); obtain ⟨Ao38, co38, eo38⟩ := Kd.R_slice HO178.out; subst eo38; obtain ⟨hcz39_0, hcz39_1, hcz39_2, hfz39_0, hfz39_1, hfz39_2⟩ := z3 BK161))
        refine bodyPost_ret (results_ct rfl _ _ gb161 37 #[.int .i64 (wrap64 (t165 + 1)), .int .i64 t172, .slice Ao38 t175.length co38] (0, 0) _ rfl (by (with_reducible repeat (first | refine blk_drewN ?_ _ | refine blk_drew ?_ | refine blk_alloc ?_ _)); refine blk_put (cs := #[.int .i64 (wrap64 (t165 + 1)), .int .i64 t172, .slice Ao38 t175.length co38]) ?_ 2 _ rfl; (with_reducible repeat (first | refine blk_drewN ?_ _ | refine blk_drew ?_ | refine blk_alloc ?_ _)); refine blk_put (cs := #[.int .i64 (wrap64 (t165 + 1)), .int .i64 t172, .slice Ao38 t175.length co38]) ?_ 1 _ rfl; (with_reducible repeat (first | refine blk_drewN ?_ _ | refine blk_drew ?_ | refine blk_alloc ?_ _)); refine blk_put (cs := #[.int .i64 (wrap64 (t165 + 1)), .int .i64 t172, .slice Ao38 t175.length co38]) ?_ 0 _ rfl; (with_reducible repeat (first | refine blk_drewN ?_ _ | refine blk_drew ?_ | refine blk_alloc ?_ _)); refine blk_put (cs := #[.int .i64 (wrap64 (t165 + 1)), .int .i64 t172, .slice none 0 0]) ?_ 2 _ rfl; exact uB <| BK161.out) Tryz.underlying37 rfl (by kernel_rfl)) rfl ?_
        exact ⟨_, re_, Kd.R_lower (by exact uR <| Kd.R_mono (Kd.R_far (p := ⟨gb161, 2, none⟩) (Kd.R_far (p := ⟨gb161, 1, none⟩) (Kd.R_far (p := ⟨gb161, 0, none⟩) (Kd.R_far (p := ⟨gb161, 2, none⟩) (Kd.R_types HO178.out BK161.out (by decide)) (fun _ hk => hk.2) (.slice Ao38 t175.length co38)) (fun _ hk => hk.2) (.int .i64 (wrap64 (t165 + 1)))) (fun _ hk => hk.2) (.int .i64 t172)) (fun _ hk => hk.2) (.slice Ao38 t175.length co38)) (fun _ hk => trivial)) (below_size HB0.out), below_step HB0.out bl⟩
       ·
        replace c32 := Bool.eq_false_iff.mpr c32
        subst c32
        rw [if_neg (show ¬ (false = true) by decide)] at H
        exact absurd H (by simp)
      ·
       replace c29 := Bool.eq_false_iff.mpr c29
       subst c29
       rw [if_neg (show ¬ (false = true) by decide)] at H
       simp only [Option.some.injEq, Prod.mk.injEq] at H
       obtain ⟨rfl, rfl, rfl, rfl⟩ := H
       have p171 : 0 ≤ (1 : Int) := (by omega)
       have q171 : 1 < (l0.length : Int) := od
       obtain ⟨ad171, e171, hx171_0⟩ := Kd.at_string HR0.out 1 p171 q171
       cases e171
       (try simp only [show (1 : Int).toNat = 1 from rfl, Nat.reduceMul, Nat.reduceEqDiff, Go.Addr.add, ↓reduceIte] at hx171_0)
       have qi171 : (1 < l0.length) = True := eq_true (by omega)
       (try rw [show ((1 : Int)).toNat = 1 from rfl] at hx171_0)
       replace hx171_0 := kc HB hx171_0
       replace p171 := eq_true p171
       replace q171 := eq_true q171
       go_wp2_with (first | (refine gL (some 43) rfl Tryz.func46 #[.string (rdOf ByteArray.empty l0 1)] ?_; (with_reducible refine (sat_Read.calls (hL := ld) (rdOf ByteArray.empty l0 1) t172 t173 _ A25.out).mono ?_); rintro e w40 ⟨rfl, hb⟩; refine ⟨_, rfl, ?_⟩; replace BK161 := cB BK161 hb; replace BK170 := cB BK170 hb; replace HB := Aside0.mk (below_step bl hb); have hcl9_ := kc HB hcL; (try clear hb); have hnb41 := NB170_161.out; have hnc41 := NB161_170.out; obtain ⟨hcz42_0, hcz42_1, hcz42_2, hfz42_0, hfz42_1, hfz42_2⟩ := z3 BK170; obtain ⟨hcz43_0, hcz43_1, hcz43_2, hfz43_0, hfz43_1, hfz43_2⟩ := z3 BK161) | ((with_reducible refine gate_store (t := 37) (p := 2) rfl ?_); refine store_event (t := 37) (p := 2) (v := ?vo_w44) (w1 := (((((w40.setCell ⟨gb161, 0, none⟩ (.int .i64 (wrap64 (t165 + 1)))).setCell ⟨gb161, 1, none⟩ (.int .i64 t172)).setCell ⟨gb161, 0, none⟩ (.int .i64 (wrap64 (t165 + 1)))).setCell ⟨gb161, 1, none⟩ (.int .i64 t172)).setCell ⟨gb161, 2, none⟩ (.slice none 0 0))) ?hg ?ho ?hn ?hr ?_; (case ho => rfl); (case hg => rfl); (case hn => rfl); (case hr => first | (go_simp; done) | (go_simp; rfl)); intro w44 hw; have n0_ : Aside0 (w44.heap[gb161]? = some (.cells #[.int .i64 (wrap64 (t165 + 1)), .int .i64 t172, .slice none 0 0] 37 (0, 0))) := ⟨(by rw [hw]; exact (by (with_reducible repeat (first | refine blk_drewN ?_ _ | refine blk_drew ?_ | refine blk_alloc ?_ _)); refine blk_put (cs := #[.int .i64 (wrap64 (t165 + 1)), .int .i64 t172, .slice none 0 0]) ?_ 2 _ rfl; (with_reducible repeat (first | refine blk_drewN ?_ _ | refine blk_drew ?_ | refine blk_alloc ?_ _)); refine blk_put (cs := #[.int .i64 (wrap64 (t165 + 1)), .int .i64 t172, .slice none 0 0]) ?_ 1 _ rfl; (with_reducible repeat (first | refine blk_drewN ?_ _ | refine blk_drew ?_ | refine blk_alloc ?_ _)); refine blk_put (cs := #[.int .i64 (wrap64 (t165 + 1)), .int .i64 t172, .slice none 0 0]) ?_ 0 _ rfl; (with_reducible repeat (first | refine blk_drewN ?_ _ | refine blk_drew ?_ | refine blk_alloc ?_ _)); refine blk_put (cs := #[.int .i64 (wrap64 (t165 + 1)), .int .i64 0, .slice none 0 0]) ?_ 1 _ rfl; (with_reducible repeat (first | refine blk_drewN ?_ _ | refine blk_drew ?_ | refine blk_alloc ?_ _)); refine blk_put (cs := #[.int .i64 0, .int .i64 0, .slice none 0 0]) ?_ 0 _ rfl; exact uB <| BK161.out))⟩; have n1_ : Aside0 (w44.heap[gb170]? = some (.cells #[.string t166, .int .i64 t167, .bool false] 43 (0, 0))) := ⟨(by rw [hw]; exact (by (with_reducible repeat (first | refine blk_drewN ?_ _ | refine blk_drew ?_ | refine blk_alloc ?_ _)); refine blk_far ?_ NB170_161.out _; (with_reducible repeat (first | refine blk_drewN ?_ _ | refine blk_drew ?_ | refine blk_alloc ?_ _)); refine blk_far ?_ NB170_161.out _; (with_reducible repeat (first | refine blk_drewN ?_ _ | refine blk_drew ?_ | refine blk_alloc ?_ _)); refine blk_far ?_ NB170_161.out _; (with_reducible repeat (first | refine blk_drewN ?_ _ | refine blk_drew ?_ | refine blk_alloc ?_ _)); refine blk_far ?_ NB170_161.out _; (with_reducible repeat (first | refine blk_drewN ?_ _ | refine blk_drew ?_ | refine blk_alloc ?_ _)); refine blk_far ?_ NB170_161.out _; exact uB <| BK170.out))⟩; have n2_ : Aside0 (Below w.heap.size w w44) := ⟨(by rw [hw]; exact bl)⟩; clear hw; clear BK161; clear BK170; clear HB; have BK161 := n0_; have BK170 := n1_; have HB := n2_; clear n0_ n1_ n2_; have hcl10_ := kc HB hcL))
       refine bodyPost_ret (results_ct rfl _ _ gb161 37 #[.int .i64 (wrap64 (t165 + 1)), .int .i64 t172, .slice none 0 0] (0, 0) _ rfl (uB BK161.out) Tryz.underlying37 rfl (by kernel_rfl)) rfl ?_
       exact ⟨_, re_, nl_, below_step HB0.out bl⟩
     ·
      rw [if_neg c26] at H
      have c26b0 : (t173 == 0) = false := beq_eq_false_iff_ne.mpr c26
      have c26b1 : (t173 != 0) = true := bne_iff_ne.mpr c26
      simp only [Option.some.injEq, Prod.mk.injEq] at H
      obtain ⟨rfl, rfl, rfl, rfl⟩ := H
      have p171 : 0 ≤ (1 : Int) := (by omega)
      have q171 : 1 < (l0.length : Int) := od
      obtain ⟨ad171, e171, hx171_0⟩ := Kd.at_string HR0.out 1 p171 q171
      cases e171
      (try simp only [show (1 : Int).toNat = 1 from rfl, Nat.reduceMul, Nat.reduceEqDiff, Go.Addr.add, ↓reduceIte] at hx171_0)
      have qi171 : (1 < l0.length) = True := eq_true (by omega)
      (try rw [show ((1 : Int)).toNat = 1 from rfl] at hx171_0)
      replace hx171_0 := kc HB hx171_0
      replace p171 := eq_true p171
      replace q171 := eq_true q171
      go_wp2_with (first | (refine gL (some 43) rfl Tryz.func46 #[.string (rdOf ByteArray.empty l0 1)] ?_; (with_reducible refine (sat_Read.calls (hL := ld) (rdOf ByteArray.empty l0 1) t172 t173 _ A25.out).mono ?_); rintro e w45 ⟨rfl, hb⟩; refine ⟨_, rfl, ?_⟩; replace BK161 := cB BK161 hb; replace BK170 := cB BK170 hb; replace HB := Aside0.mk (below_step bl hb); have hcl11_ := kc HB hcL; (try clear hb); have hnb46 := NB161_170.out; have hnc46 := NB170_161.out; obtain ⟨hcz47_0, hcz47_1, hcz47_2, hfz47_0, hfz47_1, hfz47_2⟩ := z3 BK161))
      refine bodyPost_ret (results_ct rfl _ _ gb161 37 #[.int .i64 0, .int .i64 0, .slice none 0 0] (0, 0) _ rfl (by (with_reducible repeat (first | refine blk_drewN ?_ _ | refine blk_drew ?_ | refine blk_alloc ?_ _)); refine blk_put (cs := #[.int .i64 0, .int .i64 0, .slice none 0 0]) ?_ 2 _ rfl; (with_reducible repeat (first | refine blk_drewN ?_ _ | refine blk_drew ?_ | refine blk_alloc ?_ _)); refine blk_put (cs := #[.int .i64 0, .int .i64 0, .slice none 0 0]) ?_ 1 _ rfl; (with_reducible repeat (first | refine blk_drewN ?_ _ | refine blk_drew ?_ | refine blk_alloc ?_ _)); refine blk_put (cs := #[.int .i64 0, .int .i64 0, .slice none 0 0]) ?_ 0 _ rfl; exact uB <| BK161.out) Tryz.underlying37 rfl (by kernel_rfl)) rfl ?_
      exact ⟨_, re_, nl_, below_step HB0.out bl⟩
    ·
     rw [if_neg c24] at H
     exact absurd H (by simp)
def word_Split.l0 : Nat → ByteArray → Int → List ByteArray → Option (List ByteArray)
 | 0, _, _, _ => none
 | k + 1, x0, x1, x4 => (strings_IndexByte.f x0 x1).bind fun t179 => (if t179 < 0 then (if x4.length < 8796093022208 then (some (x4 ++ [x0])) else (none)) else (if 0 ≤ t179 then (if t179 ≤ (x0.size : Int) then (if x4.length < 8796093022208 then (if 0 ≤ (wrap64 (t179 + 1)) then (if (wrap64 (t179 + 1)) ≤ (x0.size : Int) then (word_Split.l0 k (x0.extract ((wrap64 (t179 + 1)) : Int).toNat x0.size) x1 (x4 ++ [x0.extract 0 (t179 : Int).toNat])) else (none)) else (none)) else (none)) else (none)) else (none)))
def word_Split.f (k : Nat) (a0 : ByteArray) (a1 : Int) : Option (List ByteArray) := word_Split.l0 k a0 a1 ([] : List ByteArray)
theorem word_Split.mono_l : ∀ k, (∀ y0 y1 y2, LeC (word_Split.l0 k y0 y1 y2) (word_Split.l0 (k + 1) y0 y1 y2))
 | 0 => fun _ _ _ => ⟨fun r h => by simp [word_Split.l0] at h⟩
 | k + 1 => by have ih0 := word_Split.mono_l k; exact fun _ _ _ => by unfold word_Split.l0; exact lm
theorem word_Split.mono : ∀ a0 a1 k, LeO (word_Split.f k a0 a1) (word_Split.f (k + 1) a0 a1) := by
 intro a0 a1 k
 have ih0 := word_Split.mono_l k
 unfold word_Split.f
 exact lo
instance word_Split.mI {a0 a1 k} : LeC (word_Split.f k a0 a1) (word_Split.f (k + 1) a0 a1) := ⟨word_Split.mono _ _ _⟩
def word_Split.T4 : Bool × List (List Nat × List Nat) := (true, [([], []), ([], []), ([], []), ([1, 2], [1, 2]), ([3], [3]), ([0, 4], [0, 4]), ([], []), ([], []), ([7], [7]), ([6, 8], [6, 8]), ([5, 5, 0, 1, 2, 3, 4, 5], [0, 5]), ([9, 10, 0, 1, 2, 3, 4, 5, 6, 7, 8, 9, 10], [1, 6, 9])])
def word_Split.B4 : List Nat := [0, 0, 0, 6, 14, 31, 0, 0, 128, 448, 63, 2047]
theorem word_Split.tab4 : rtab .any (opsOf Tryz.f34 4) = word_Split.T4 := by kernel_rfl
theorem word_Split.bits4 : waitsOk word_Split.T4.2 word_Split.B4 = true := by kernel_rfl
theorem word_Split.calls (k : Nat) (a0 : ByteArray) (a1 : Int) (r : List ByteArray) (w : World) (h : word_Split.f k a0 a1 = some r) :
 Calls Tryz.prog 34 #[.string a0, .int .u8 a1] w fun e w' => ∃ v0_ : Value, e = .returned (v0_) ∧ Kd.R Kd.string 9 w' w.heap.size (fun _ => True) v0_ r ∧ Below w.heap.size w w' := by
 have HB := Aside0.mk (Below.refl w.heap.size w)
 have H : (word_Split.l0 k a0 a1 ([] : List ByteArray)) = some r := h
 clear h
 have H' := Aside0.mk H
 clear H
 go_enter Tryz.func34, Tryz.ntmps34
 go_wp2
 go_loopg [0, 4] k (fun kq v0 v4 w' => ∃ (x0_1 : ByteArray) (x4_1 : List ByteArray), v0 = .string x0_1 ∧ Aside0 (word_Split.l0 kq x0_1 a1 x4_1 = some r) ∧ Aside0 (kq ≤ k) ∧ Aside0 (Kd.R Kd.string 9 w' w.heap.size (fun _ => True) v4 x4_1) ∧ Aside0 (Below w.heap.size w w'))
 case atStart => exact ⟨(a0), (([] : List ByteArray)), rs_, H', ⟨Nat.le_refl _⟩, ⟨nl_⟩, ⟨uW HB.out⟩⟩
 case round =>
  clear H'
  try clear p2
  obtain ⟨x0_1, x4_1, rfl, HA, HK1, HO_4, HB⟩ := hrel
  cases gk with
  | zero => exact absurd HA.out (by simp [word_Split.l0])
  | succ k1 =>
   have H := HA.out
   clear HA
   simp only [word_Split.l0] at H
   obtain ⟨t179, A3, H⟩ := bs H
   try dsimp only at H
   by_cases c4 : t179 < 0
   ·
    rw [if_pos c4] at H
    have c4b0 : decide (t179 < 0) = true := decide_eq_true c4
    clear c4
    obtain ⟨c5, H⟩ := gd H
    have LMc5 := Aside0.mk c5
    clear c5
    obtain ⟨y180, hy180⟩ : ∃ y_ : List ByteArray, y_ = (x4_1 ++ [x0_1]) := ⟨_, rfl⟩
    replace H : (some y180) = some r := by first | (rw [hy180]; with_reducible exact H) | (have H2_ := (Option.bind_some _ _).symm.trans H; rw [hy180]; with_reducible exact H2_) | (have H2_ := (Option.bind_some _ _).symm.trans H; with_reducible exact H2_) | with_reducible exact H | (rw [hy180]; exact H) | exact H
    have Ny180 := Aside0.mk hy180
    clear hy180
    obtain rfl := Option.some.inj H
    go_wp2_with (first | (refine gL (some 8) rfl Tryz.func48 #[.string x0_1, .int .u8 a1] ?_; (with_reducible refine (strings_IndexByte.calls x0_1 a1 t179 _ A3.out).mono ?_); rintro e w' ⟨rfl, ⟨nd, rfl⟩⟩; refine ⟨_, rfl, ?_⟩) | ((with_reducible refine gate_builtin (b := .append) (xs := #[.tmp 11, .tmp 13]) rfl ?_); at_builtin; refine Kd.R_append Kd.string (w0 := w) w.heap.size rfl (.tmp 11) (.tmp 13) 47 9 (.string ⟨#[]⟩) 16 rfl Tryz.underlying47 info9 rfl (by decide) (by omega) u4 x4_1 x0_1 [.string x0_1] (fun _ => True) (fun _ => False) rfl rfl ?aP (fun _ hk => hk.elim) ?aF ?aO ?aB ?aS ?aL ?_; (case aP => exact rfl); (case aB => exact (uW HB.out)); (case aF => exact (fun _ _ => trivial)); (case aO => exact (uR HO_4.out)); (case aS => exact (below_size (uW HB.out))); (case aL => have := LMc5.out; omega); intro v181 w6 ho hb hg hat; rw [← Ny180.out] at ho; replace HB := Aside0.mk (hb); have HO182 := Aside0.mk (ho); clear HO_4; clear ho hb hg hat))
    go_ret
    exact ⟨_, re_, uR HO182.out, uW HB.out⟩
   ·
    rw [if_neg c4] at H
    have c4b0 : decide (t179 < 0) = false := decide_eq_false c4
    clear c4
    by_cases c7 : 0 ≤ t179
    ·
     rw [if_pos c7] at H
     have c7b0 := eq_true c7
     have c7b1 : decide (0 ≤ t179) = true := decide_eq_true c7
     clear c7
     obtain ⟨c8, H⟩ := gd H
     have c8b0 := eq_true c8
     have c8b1 : decide (t179 ≤ (x0_1.size : Int)) = true := decide_eq_true c8
     clear c8
     obtain ⟨c9, H⟩ := gd H
     have LMc9 := Aside0.mk c9
     clear c9
     obtain ⟨y183, hy183⟩ : ∃ y_ : List ByteArray, y_ = (x4_1 ++ [x0_1.extract 0 (t179 : Int).toNat]) := ⟨_, rfl⟩
     replace H : (if 0 ≤ (wrap64 (t179 + 1)) then (if (wrap64 (t179 + 1)) ≤ (x0_1.size : Int) then (word_Split.l0 k1 (x0_1.extract ((wrap64 (t179 + 1)) : Int).toNat x0_1.size) a1 y183) else (none)) else (none)) = some r := by first | (rw [hy183]; with_reducible exact H) | (have H2_ := (Option.bind_some _ _).symm.trans H; rw [hy183]; with_reducible exact H2_) | (have H2_ := (Option.bind_some _ _).symm.trans H; with_reducible exact H2_) | with_reducible exact H | (rw [hy183]; exact H) | exact H
     have Ny183 := Aside0.mk hy183
     clear hy183
     obtain ⟨ji10, hji10⟩ : ∃ j_ : Int, (wrap64 (t179 + 1)) = j_ := ⟨_, rfl⟩
     (first | rw [hji10] at H | simp only [hji10] at H)
     (try rw [hji10] at A3)
     have hji10w : (IntKind.i64.wrap (t179 + 1)) = ji10 := (i64_w _).trans hji10
     obtain ⟨c11, H⟩ := gd H
     have c11b0 := eq_true c11
     have c11b1 : decide (0 ≤ (ji10)) = true := decide_eq_true c11
     clear c11
     obtain ⟨c12, H⟩ := gd H
     have c12b0 := eq_true c12
     have c12b1 : decide ((ji10) ≤ (x0_1.size : Int)) = true := decide_eq_true c12
     clear c12
     have H' := Aside0.mk H
     clear H
     try go_wp2_with (first | (refine gL (some 8) rfl Tryz.func48 #[.string x0_1, .int .u8 a1] ?_; (with_reducible refine (strings_IndexByte.calls x0_1 a1 t179 _ A3.out).mono ?_); rintro e w' ⟨rfl, ⟨nd, rfl⟩⟩; refine ⟨_, rfl, ?_⟩))
     (try (rw [drewN_self wr]; generalize hq_ : World.drewN wr _ = wr; have n0_ : Aside0 (Kd.R Kd.string 9 wr w.heap.size (fun _ => True) u4 x4_1) := ⟨by rw [← hq_]; exact (uR HO_4.out)⟩; have n1_ : Aside0 (Below w.heap.size w wr) := ⟨by rw [← hq_]; exact (uW HB.out)⟩; clear HO_4 HB hq_; have HO_4 := n0_; have HB := n1_; clear n0_ n1_))
     replace HO_4 := Aside0.mk (Kd.R_drew HO_4.out)
     replace HB := Aside0.mk (below_drew1 HB.out)
     refine start_ (n := 12) (S := fun w' => True) (ds := []) _ (by kernel_rfl) rfl rfl trivial (fun hHeld => ?_); refine with_tabW word_Split.tab4 word_Split.bits4 (fun HT_ HW_ => ?_)
     generalize wr.drew = w13 at HO_4 HB hHeld ⊢
     refine p1 0 (some 15) ?_
     refine p1 1 (some 16) ?_
     refine p1 2 (some 17) ?_
     refine p1 3 (some 18) ?_
     refine p1 6 (some 21) ?_
     refine p1 7 (some 22) ?_
     refine p1 8 (some 23) ?_
     refine p1 9 (some 24) ?_
     refine o1 4 (some 19) rfl rfl (fun K hK => ?_)
     refine value_ (w1 := ?_) (v := ?_) (by rfl) rfl ?_ ?_
     rotate_left 2
     ·
      go_simp
      constructor
      ·
       rfl
      ·
       rfl
     refine hK.out _ _ trivial (fun hHeld => ?_)
     clear hK K
     refine norm_ (a' := ?_) ?_ ?_
     rotate_left
     ·
      show Act.put _ (some 19) _ = _
      simp only [Act.put, List.setIfInBounds_toArray, List.set_cons_zero, List.set_cons_succ, i64_w, i32_w]
      rfl
     refine o1 5 (some 20) rfl rfl (fun K hK => ?_)
     refine Kd.R_append_step Kd.string (w0 := w) w.heap.size (by rfl) (.tmp 15) (.tmp 19) 47 9 (.string ⟨#[]⟩) 16 rfl Tryz.underlying47 info9 rfl (by decide) (by omega) u4 x4_1 (x0_1.extract 0 (t179 : Int).toNat) [.string (x0_1.extract 0 (t179 : Int).toNat)] (fun _ => True) (fun _ => False) rfl rfl ?aP (fun _ hk => hk.elim) ?aF ?aO ?aB ?aS ?aL ?_
     (case aP => exact rfl)
     (case aB => exact (uW HB.out))
     (case aF => exact (fun _ _ => trivial))
     (case aO => exact (uR HO_4.out))
     (case aS => exact (below_size (uW HB.out)))
     (case aL => have := LMc9.out; omega)
     intro v184 w14 ho hb hg hat
     rw [← Ny183.out] at ho
     replace HB := Aside0.mk (hb)
     have HO185 := Aside0.mk (ho)
     clear HO_4
     clear ho hb hg hat
     refine hK.out _ _ trivial (fun hHeld => ?_)
     clear hK K
     refine norm_ (a' := ?_) ?_ ?_
     rotate_left
     ·
      show Act.put _ (some 20) _ = _
      simp only [Act.put, List.setIfInBounds_toArray, List.set_cons_zero, List.set_cons_succ, i64_w, i32_w]
      rfl
     refine p1 10 (some 4) ?_
     refine p1 11 (some 0) ?_
     refine done_ (done_of HT_.out (by kernel_rfl)) ?_
     try go_wp2
     go_roundg k1
     case measure => have := HK1.out; omega
     case rel => exact ⟨(x0_1.extract ((ji10) : Int).toNat x0_1.size), (y183), (by first | rfl | (simp; done) | (simp only [← hji10] <;> (first | rfl | simp)) | (simp [*]; done)), H', ⟨by have := HK1.out; omega⟩, ⟨uR HO185.out⟩, ⟨uW HB.out⟩⟩
    ·
     rw [if_neg c7] at H
     exact absurd H (by simp)
def script_Parse.l0 : Nat → ByteArray → List (S37) → Option ((List (S37)) × Int × Int)
 | 0, _, _ => none
 | k + 1, x0, x2 => if x0.toList = ([] : List UInt8) then (some (x2, 0, 0)) else (if (wrap64 ((x2.length : Int) + 1)) > 2000 then (none) else ((strings_Cut.f x0 (⟨#[10]⟩ : ByteArray)).bind fun bt186 => (if bt186.2.2 = true then ((word_Split.f k bt186.1 32).bind fun t189 => ((script_event.f k t189).bind fun bt192 => (if bt192.2.2.2 = 0 then (if x2.length < 3518437208883 then (script_Parse.l0 k bt186.2.1 (x2 ++ [(⟨bt192.1, bt192.2.1, bt192.2.2.1⟩ : S37)])) else (none)) else (some (([] : List (S37)), wrap64 ((x2.length : Int) + 1), bt192.2.2.2))))) else (some (([] : List (S37)), wrap64 ((x2.length : Int) + 1), 2)))))
def script_Parse.f (k : Nat) (a0 : ByteArray) : Option ((List (S37)) × Int × Int) := script_Parse.l0 k a0 ([] : List (S37))
theorem script_Parse.mono_l : ∀ k, (∀ y0 y1, LeC (script_Parse.l0 k y0 y1) (script_Parse.l0 (k + 1) y0 y1))
 | 0 => fun _ _ => ⟨fun r h => by simp [script_Parse.l0] at h⟩
 | k + 1 => by have ih0 := script_Parse.mono_l k; exact fun _ _ => by unfold script_Parse.l0; exact lm
theorem script_Parse.mono : ∀ a0 k, LeO (script_Parse.f k a0) (script_Parse.f (k + 1) a0) := by
 intro a0 k
 have ih0 := script_Parse.mono_l k
 unfold script_Parse.f
 exact lo
instance script_Parse.mI {a0 k} : LeC (script_Parse.f k a0) (script_Parse.f (k + 1) a0) := ⟨script_Parse.mono _ _⟩
theorem script_Parse.calls (k : Nat) (a0 : ByteArray) (r1 : List (S37)) (r2 : Int) (r3 : Int) (w : World) (hL : LD w) (h : script_Parse.f k a0 = some (r1, r2, r3)) :
 Calls Tryz.prog 13 #[.string a0] w fun e w' => ∃ v0_ : Value, e = .returned (.tuple #[v0_, .int .i64 r2, .int .i64 r3]) ∧ Kd.S k37 37 w' w.heap.size (fun _ => True) v0_ r1 ∧ Below w.heap.size w w' := by
 have HL0 := Aside0.mk hL
 clear hL
 have hu37 := Tryz.underlying37
 have HB := Aside0.mk (Below.refl w.heap.size w)
 have H : (script_Parse.l0 k a0 ([] : List (S37))) = some (r1, r2, r3) := h
 clear h
 have H' := Aside0.mk H
 clear H
 go_enter Tryz.func13, Tryz.ntmps13
 go_wp2
 go_loopg [0, 2] k (fun kq v0 v2 w' => ∃ (x0_1 : ByteArray) (x2_1 : List (S37)), v0 = .string x0_1 ∧ Aside0 (script_Parse.l0 kq x0_1 x2_1 = some (r1, r2, r3)) ∧ Aside0 (kq ≤ k) ∧ Aside0 (Kd.S k37 37 w' w.heap.size (fun _ => True) v2 x2_1) ∧ Aside0 (Below w.heap.size w w'))
 case atStart => exact ⟨(a0), (([] : List (S37))), rs_, H', ⟨Nat.le_refl _⟩, ⟨by first | exact Kd.S_nil _ _ _ _ _ | exact Kd.N_nil _ _ _ _ _ | exact Kd.V_nil _ _ _ _ _ | exact Kd.Q_nil _ _ _ _ _ | exact Kd.R_nil _ _ _ _ _⟩, ⟨uW HB.out⟩⟩
 case round =>
  clear H'
  try clear c1
  obtain ⟨x0_1, x2_1, rfl, HA, HK1, HO_2, HB⟩ := hrel
  cases gk with
  | zero => exact absurd HA.out (by simp [script_Parse.l0])
  | succ k1 =>
   have H := HA.out
   clear HA
   simp only [script_Parse.l0] at H
   by_cases c2 : x0_1.toList = ([] : List UInt8)
   ·
    rw [if_pos c2] at H
    have c2b0 : (x0_1.toList == ([] : List UInt8)) = true := beq_iff_eq.mpr c2
    have c2b1 : (x0_1.toList != ([] : List UInt8)) = false := bne_eq_false_iff_eq.mpr c2
    clear c2
    simp only [Option.some.injEq, Prod.mk.injEq] at H
    obtain ⟨rfl, rfl, rfl⟩ := H
    go_wp2
    go_ret3
    exact ⟨_, re_, uS HO_2.out, uW HB.out⟩
   ·
    rw [if_neg c2] at H
    have c2b0 : (x0_1.toList == ([] : List UInt8)) = false := beq_eq_false_iff_ne.mpr c2
    have c2b1 : (x0_1.toList != ([] : List UInt8)) = true := bne_iff_ne.mpr c2
    obtain ⟨c3b0, H⟩ := gnn H
    obtain ⟨⟨t186, t187, t188⟩, A4, H⟩ := bs H
    try dsimp only at H
    by_cases c5 : t188 = true
    ·
     subst c5
     rw [if_pos rfl] at H
     obtain ⟨t189, A6, H⟩ := bs H
     try dsimp only at H
     obtain ⟨⟨t192, t193, t194, t197⟩, A7, H⟩ := bs H
     try dsimp only at H
     by_cases c8 : t197 = 0
     ·
      rw [if_pos c8] at H
      have c8b0 : (t197 == 0) = true := beq_iff_eq.mpr c8
      have c8b1 : (t197 != 0) = false := bne_eq_false_iff_eq.mpr c8
      clear c8
      obtain ⟨c9, H⟩ := gd H
      have LMc9 := Aside0.mk c9
      clear c9
      obtain ⟨y199, hy199⟩ : ∃ y_ : List (S37), y_ = (x2_1 ++ [(⟨t192, t193, t194⟩ : S37)]) := ⟨_, rfl⟩
      replace H : (script_Parse.l0 k1 t187 y199) = some (r1, r2, r3) := by first | (rw [hy199]; with_reducible exact H) | (have H2_ := (Option.bind_some _ _).symm.trans H; rw [hy199]; with_reducible exact H2_) | (have H2_ := (Option.bind_some _ _).symm.trans H; with_reducible exact H2_) | with_reducible exact H | (rw [hy199]; exact H) | exact H
      have Ny199 := Aside0.mk hy199
      clear hy199
      have H' := Aside0.mk H
      clear H
      obtain ⟨Ao10, co10, eo10⟩ := Kd.S_slice HO_2.out
      subst eo10
      go_wp2_with (first | (refine gL (some 20) rfl Tryz.func32 #[.string x0_1, .string (⟨#[10]⟩ : ByteArray)] ?_; (with_reducible refine (strings_Cut.calls (hL := ld) x0_1 (⟨#[10]⟩ : ByteArray) t186 t187 true _ A4.out).mono ?_); rintro e w' ⟨rfl, ⟨nd, rfl⟩⟩; refine ⟨_, rfl, ?_⟩; (try (rw [drewN_self wr]; generalize hq_ : World.drewN wr _ = wr; have n0_ : Aside0 (Kd.S k37 37 wr w.heap.size (fun _ => True) (.slice Ao10 x2_1.length co10) x2_1) := ⟨by rw [← hq_]; exact (uS HO_2.out)⟩; have n1_ : Aside0 (Below w.heap.size w wr) := ⟨by rw [← hq_]; exact (uW HB.out)⟩; clear HO_2 HB hq_; have HO_2 := n0_; have HB := n1_; clear n0_ n1_))) | (refine gL (some 29) rfl Tryz.func34 #[.string t186, .int .u8 32] ?_; (with_reducible refine (word_Split.calls k1 t186 32 t189 _ A6.out).mono ?_); rintro e w11 ⟨v190, rfl, ho0, hb⟩; refine ⟨_, rfl, ?_⟩; replace HO_2 := cS HO_2 hb; have HO191 := Aside0.mk (Kd.R_lower ho0 (below_size (uW HB.out))); replace HB := cW HB hb; (try clear hb); (try clear ho0); obtain ⟨Ao12, co12, eo12⟩ := Kd.R_slice HO191.out; subst eo12) | (refine gL (some 30) rfl Tryz.func33 #[.slice Ao12 t189.length co12] ?_; (with_reducible refine (script_event.calls (hL := ld) k1 _ _ t189 t192 t193 t194 t197 _ ?side1 ?side2 A7.out).mono ?_); (case side1 => exact uC <| (Kd.R_reads' HO191.out).2.2); (case side2 => exact (Kd.R_reads' HO191.out).2.1); rintro e w13 ⟨v195, rfl, ho0, hb⟩; refine ⟨_, rfl, ?_⟩; replace HO_2 := Aside0.mk (Kd.S_elder' (uS HO_2.out) (Kd.R_base ho0) hb); replace HO191 := cR HO191 hb; have HO196 := Aside0.mk (Kd.R_lower ho0 (below_size (uW HB.out))); replace HB := cW HB hb; (try clear hb); (try clear ho0)) | ((with_reducible refine gate_dst (N := 8) rfl ?_); refine bx (N := 8) #[.int .i64 0, .int .i64 0, .slice none 0 0] 37 ?_; intro gb198 hg w14 hbox hb; replace HO_2 := Aside0.mk (Kd.S_below (Kd.S_elderB (uS HO_2.out) gb198 (Nat.le_of_eq hg.symm)) hb); replace HO191 := cR HO191 hb; replace HO196 := cR HO196 hb; have BK198 := Aside0.mk (hbox); have GW198 := gw hg (uW HB.out); have GE198 := GW198; replace HB := cW HB hb; clear hb hbox hg; obtain ⟨hcz15_0, hcz15_1, hcz15_2, hfz15_0, hfz15_1, hfz15_2⟩ := z3 BK198; obtain ⟨Ao16, co16, eo16⟩ := Kd.R_slice HO196.out; subst eo16) | ((with_reducible refine gate_store (t := 37) (p := 8) rfl ?_); refine store_event (t := 37) (p := 8) (v := ?vo_w17) (w1 := (((w14.setCell ⟨gb198, 0, none⟩ (.int .i64 t192)).setCell ⟨gb198, 1, none⟩ (.int .i64 t193)).setCell ⟨gb198, 2, none⟩ (.slice Ao16 t194.length co16))) ?hg ?ho ?hn ?hr ?_; (case ho => rfl); (case hg => rfl); (case hn => rfl); (case hr => first | (go_simp; done) | (go_simp; rfl)); intro w17 hw; have n0_ : Aside0 (Kd.S k37 37 w17 w.heap.size (fun k_ => some k_ ≠ (.slice Ao16 t194.length co16 : Value).ownBlock ∧ k_ ≠ gb198) (.slice Ao10 x2_1.length co10) x2_1) := ⟨(by rw [hw]; exact (by exact uS <| Kd.S_mono (Kd.S_far (p := ⟨gb198, 2, none⟩) (Kd.S_far (p := ⟨gb198, 1, none⟩) (Kd.S_far (p := ⟨gb198, 0, none⟩) (Kd.S_mono HO_2.out (fun k_ hk => (⟨hk, hk.2⟩ : _ ∧ k_ ≠ gb198))) (fun _ hk => hk.2) (.int .i64 t192)) (fun _ hk => hk.2) (.int .i64 t193)) (fun _ hk => hk.2) (.slice Ao16 t194.length co16)) (fun _ hk => ⟨hk.1.1.2, hk.1.2⟩)))⟩; have n1_ : Aside0 (Kd.R Kd.string 9 w17 w.heap.size (fun _ => True) (.slice Ao12 t189.length co12) t189) := ⟨(by rw [hw]; exact (by exact uR <| Kd.R_mono (Kd.R_far (p := ⟨gb198, 2, none⟩) (Kd.R_far (p := ⟨gb198, 1, none⟩) (Kd.R_far (p := ⟨gb198, 0, none⟩) (Kd.R_types HO191.out BK198.out (by decide)) (fun _ hk => hk.2) (.int .i64 t192)) (fun _ hk => hk.2) (.int .i64 t193)) (fun _ hk => hk.2) (.slice Ao16 t194.length co16)) (fun _ hk => trivial)))⟩; have n2_ : Aside0 (Kd.R (Kd.int .u8) 5 w17 w.heap.size (fun _ => True) (.slice Ao16 t194.length co16) t194) := ⟨(by rw [hw]; exact (by exact uR <| Kd.R_mono (Kd.R_far (p := ⟨gb198, 2, none⟩) (Kd.R_far (p := ⟨gb198, 1, none⟩) (Kd.R_far (p := ⟨gb198, 0, none⟩) (Kd.R_types HO196.out BK198.out (by decide)) (fun _ hk => hk.2) (.int .i64 t192)) (fun _ hk => hk.2) (.int .i64 t193)) (fun _ hk => hk.2) (.slice Ao16 t194.length co16)) (fun _ hk => trivial)))⟩; have n3_ : Aside0 (w17.heap[gb198]? = some (.cells #[.int .i64 t192, .int .i64 t193, .slice Ao16 t194.length co16] 37 (0, 0))) := ⟨(by rw [hw]; exact (by (with_reducible repeat (first | refine blk_drewN ?_ _ | refine blk_drew ?_ | refine blk_alloc ?_ _)); refine blk_put (cs := #[.int .i64 t192, .int .i64 t193, .slice none 0 0]) ?_ 2 _ rfl; (with_reducible repeat (first | refine blk_drewN ?_ _ | refine blk_drew ?_ | refine blk_alloc ?_ _)); refine blk_put (cs := #[.int .i64 t192, .int .i64 0, .slice none 0 0]) ?_ 1 _ rfl; (with_reducible repeat (first | refine blk_drewN ?_ _ | refine blk_drew ?_ | refine blk_alloc ?_ _)); refine blk_put (cs := #[.int .i64 0, .int .i64 0, .slice none 0 0]) ?_ 0 _ rfl; exact uB <| BK198.out))⟩; have n4_ : Aside0 (Below w.heap.size w w17) := ⟨(by rw [hw]; exact bl)⟩; clear hw; clear HO_2; clear HO191; clear HO196; clear BK198; clear HB; have HO_2 := n0_; have HO191 := n1_; have HO196 := n2_; have BK198 := n3_; have HB := n4_; clear n0_ n1_ n2_ n3_ n4_; obtain ⟨hcz18_0, hcz18_1, hcz18_2, hfz18_0, hfz18_1, hfz18_2⟩ := z3 BK198) | ((with_reducible refine gate_builtin (b := .append) (xs := #[.tmp 37, .tmp 39]) rfl ?_); at_builtin; refine Kd.S_append k37 (w0 := w) w.heap.size rfl (.tmp 37) (.tmp 39) 22 37 (.agg #[(.int .i64 0), (.int .i64 0), (.slice none 0 0)]) 40 rfl Tryz.underlying22 info37 rfl (by decide) (by omega) (.slice Ao10 x2_1.length co10) x2_1 (⟨t192, t193, t194⟩ : S37) [.int .i64 t192, .int .i64 t193, .slice Ao16 t194.length co16] (fun k_ => k_ ≠ gb198) (fun k_ => some k_ = (.slice Ao16 t194.length co16 : Value).ownBlock) rfl rfl ?aP (fun k_ hk_ => ((Kd.R_mono (ok' := fun k_ => ((fun k_ => k_ ≠ gb198)) k_ ∧ some k_ ≠ (.slice Ao10 x2_1.length co10 : Value).ownBlock) (Kd.R_types (Kd.R_apart' (HO196.out) (Kd.S_typed HO_2.out) (by decide)) BK198.out (by decide)) (fun k_ hk => ⟨hk.2, hk.1.2⟩))).1 k_ hk_.symm) ?aF ?aO ?aB ?aS ?aL ?_; (case aP => exact k37_mkM _ _ _ (⟨t192, t193, t194⟩ : S37) (Kd.R_mono (Kd.R_tight rfl (Kd.R_mono (ok' := fun k_ => ((fun k_ => k_ ≠ gb198)) k_ ∧ some k_ ≠ (.slice Ao10 x2_1.length co10 : Value).ownBlock) (Kd.R_types (Kd.R_apart' (HO196.out) (Kd.S_typed HO_2.out) (by decide)) BK198.out (by decide)) (fun k_ hk => ⟨hk.2, hk.1.2⟩))) (fun _ h_ => h_))); (case aB => exact bl); (case aF => exact (fun k_ hk => Kd.freshB (g := gb198) (o := .cells #[.int .i64 t192, .int .i64 t193, .slice Ao16 t194.length co16] 37 (0, 0)) (uB BK198.out) k_ hk)); (case aO => exact (by exact uS <| Kd.S_mono HO_2.out (fun k_ hk => ⟨hk.2, fun e_ => hk.1 e_⟩))); (case aS => exact (below_size bl)); (case aL => have := LMc9.out; omega); intro v200 w19 ho hb hg hat; rw [← Ny199.out] at ho; replace HO191 := Aside0.mk (Kd.R_over' (uR HO191.out) (Kd.S_typed (uS HO_2.out)) (by decide) hg); replace BK198 := Aside0.mk (blk_grown (g := gb198) (o := .cells #[.int .i64 t192, .int .i64 t193, .slice Ao16 t194.length co16] 37 (0, 0)) (uB BK198.out) hg (Kd.S_away HO_2.out (fun _ hk => hk.2))); replace HB := Aside0.mk (hb); have HO201 := Aside0.mk (ho); clear HO_2; clear HO196; clear ho hb hg hat))
      go_roundg k1
      case measure => have := HK1.out; omega
      case rel => exact ⟨(t187), (y199), rs_, H', ⟨by have := HK1.out; omega⟩, ⟨by exact uS <| Kd.S_mono HO201.out (fun _ hk => trivial)⟩, ⟨bl⟩⟩
     ·
      rw [if_neg c8] at H
      have c8b0 : (t197 == 0) = false := beq_eq_false_iff_ne.mpr c8
      have c8b1 : (t197 != 0) = true := bne_iff_ne.mpr c8
      simp only [Option.some.injEq, Prod.mk.injEq] at H
      obtain ⟨rfl, rfl, rfl⟩ := H
      obtain ⟨Ao20, co20, eo20⟩ := Kd.S_slice HO_2.out
      subst eo20
      go_wp2_with (first | (refine gL (some 20) rfl Tryz.func32 #[.string x0_1, .string (⟨#[10]⟩ : ByteArray)] ?_; (with_reducible refine (strings_Cut.calls (hL := ld) x0_1 (⟨#[10]⟩ : ByteArray) t186 t187 true _ A4.out).mono ?_); rintro e w' ⟨rfl, ⟨nd, rfl⟩⟩; refine ⟨_, rfl, ?_⟩; (try (rw [drewN_self wr]; generalize hq_ : World.drewN wr _ = wr; have n0_ : Aside0 (Kd.S k37 37 wr w.heap.size (fun _ => True) (.slice Ao20 x2_1.length co20) x2_1) := ⟨by rw [← hq_]; exact (uS HO_2.out)⟩; have n1_ : Aside0 (Below w.heap.size w wr) := ⟨by rw [← hq_]; exact (uW HB.out)⟩; clear HO_2 HB hq_; have HO_2 := n0_; have HB := n1_; clear n0_ n1_))) | (refine gL (some 29) rfl Tryz.func34 #[.string t186, .int .u8 32] ?_; (with_reducible refine (word_Split.calls k1 t186 32 t189 _ A6.out).mono ?_); rintro e w21 ⟨v190, rfl, ho0, hb⟩; refine ⟨_, rfl, ?_⟩; replace HO_2 := cS HO_2 hb; have HO191 := Aside0.mk (Kd.R_lower ho0 (below_size (uW HB.out))); replace HB := cW HB hb; (try clear hb); (try clear ho0); obtain ⟨Ao22, co22, eo22⟩ := Kd.R_slice HO191.out; subst eo22) | (refine gL (some 30) rfl Tryz.func33 #[.slice Ao22 t189.length co22] ?_; (with_reducible refine (script_event.calls (hL := ld) k1 _ _ t189 t192 t193 t194 t197 _ ?side1 ?side2 A7.out).mono ?_); (case side1 => exact uC <| (Kd.R_reads' HO191.out).2.2); (case side2 => exact (Kd.R_reads' HO191.out).2.1); rintro e w23 ⟨v195, rfl, ho0, hb⟩; refine ⟨_, rfl, ?_⟩; replace HO_2 := Aside0.mk (Kd.S_elder' (uS HO_2.out) (Kd.R_base ho0) hb); replace HO191 := cR HO191 hb; have HO196 := Aside0.mk (Kd.R_lower ho0 (below_size (uW HB.out))); replace HB := cW HB hb; (try clear hb); (try clear ho0)) | ((with_reducible refine gate_dst (N := 8) rfl ?_); refine bx (N := 8) #[.int .i64 0, .int .i64 0, .slice none 0 0] 37 ?_; intro gb198 hg w24 hbox hb; replace HO_2 := Aside0.mk (Kd.S_below (Kd.S_elderB (uS HO_2.out) gb198 (Nat.le_of_eq hg.symm)) hb); replace HO191 := cR HO191 hb; replace HO196 := cR HO196 hb; have BK198 := Aside0.mk (hbox); have GW198 := gw hg (uW HB.out); have GE198 := GW198; replace HB := cW HB hb; clear hb hbox hg; obtain ⟨hcz25_0, hcz25_1, hcz25_2, hfz25_0, hfz25_1, hfz25_2⟩ := z3 BK198; obtain ⟨Ao26, co26, eo26⟩ := Kd.R_slice HO196.out; subst eo26))
      go_ret3
      exact ⟨_, re_, by first | exact Kd.S_nil _ _ _ _ _ | exact Kd.N_nil _ _ _ _ _ | exact Kd.V_nil _ _ _ _ _ | exact Kd.Q_nil _ _ _ _ _ | exact Kd.R_nil _ _ _ _ _, bl⟩
    ·
     replace c5 := Bool.eq_false_iff.mpr c5
     subst c5
     rw [if_neg (show ¬ (false = true) by decide)] at H
     simp only [Option.some.injEq, Prod.mk.injEq] at H
     obtain ⟨rfl, rfl, rfl⟩ := H
     obtain ⟨Ao27, co27, eo27⟩ := Kd.S_slice HO_2.out
     subst eo27
     go_wp2_with (first | (refine gL (some 20) rfl Tryz.func32 #[.string x0_1, .string (⟨#[10]⟩ : ByteArray)] ?_; (with_reducible refine (strings_Cut.calls (hL := ld) x0_1 (⟨#[10]⟩ : ByteArray) t186 t187 false _ A4.out).mono ?_); rintro e w' ⟨rfl, ⟨nd, rfl⟩⟩; refine ⟨_, rfl, ?_⟩))
     go_ret3
     exact ⟨_, re_, by first | exact Kd.S_nil _ _ _ _ _ | exact Kd.N_nil _ _ _ _ _ | exact Kd.V_nil _ _ _ _ _ | exact Kd.Q_nil _ _ _ _ _ | exact Kd.R_nil _ _ _ _ _, uW HB.out⟩
def w26_alive.f (k : Nat)  : Option (Bool) := (script_Parse.f k (⟨#[99, 104, 117, 110, 107, 32, 48, 32, 55, 51, 55, 52, 54, 49, 55, 52, 48, 97, 10, 116, 105, 99, 107, 32, 53, 10, 112, 105, 99, 107, 32, 51, 10, 99, 104, 117, 110, 107, 32, 49, 32, 45, 10]⟩ : ByteArray)).bind fun bt202 => ((script_Parse.f k (⟨#[116, 105, 99, 107, 32, 53, 10, 112, 105, 99, 107, 32, 120, 10]⟩ : ByteArray)).bind fun bt207 => ((script_Parse.f k (⟨#[116, 105, 99, 107, 32, 53]⟩ : ByteArray)).bind fun bt212 => ((script_Text.f k bt202.1).bind fun bt217 => ((script_Text.f k (([(⟨0, 0, ([] : List Int)⟩ : S37)] : List (S37)))).bind fun bt222 => (if bt202.2.2 = 0 then (if bt207.2.2 = 2 then (if bt212.2.2 = 2 then (if bt217.2 = 0 then (if bt222.2 = 1 then (if bt202.2.1 = 0 then (if bt207.2.1 = 2 then (if bt212.2.1 = 1 then (if (bt202.1.length : Int) = 4 then (if 0 < (bt202.1.length : Int) then (if (strOfNums ((rd_T37 bt202.1 0).f2)).toList = ([115, 116, 97, 116, 10] : List UInt8) then (if 1 < (bt202.1.length : Int) then (if ((rd_T37 bt202.1 1).f0) = 2 then (if 2 < (bt202.1.length : Int) then (if ((rd_T37 bt202.1 2).f1) = 3 then (if bt217.1.toList = ([99, 104, 117, 110, 107, 32, 48, 32, 55, 51, 55, 52, 54, 49, 55, 52, 48, 97, 10, 116, 105, 99, 107, 32, 53, 10, 112, 105, 99, 107, 32, 51, 10, 99, 104, 117, 110, 107, 32, 49, 32, 45, 10] : List UInt8) then ((script_Right.f k bt202.1).bind fun t227 => (if t227 = true then ((script_Same.f k bt202.1 bt202.1).bind fun t228 => (if t228 = true then ((script_Same.f k bt202.1 ([] : List (S37))).bind fun t229 => (some (!t229))) else (none))) else (none))) else (none)) else (none)) else (none)) else (none)) else (none)) else (none)) else (none)) else (none)) else (none)) else (none)) else (none)) else (none)) else (none)) else (none)) else (none)) else (none))))))
theorem w26_alive.mono : ∀ k, LeO (w26_alive.f k ) (w26_alive.f (k + 1) ) := by
 intro k
 unfold w26_alive.f
 exact lo
instance w26_alive.mI {k} : LeC (w26_alive.f k) (w26_alive.f (k + 1)) := ⟨w26_alive.mono _⟩
theorem w26_alive.calls (k : Nat)  (r : Bool) (w : World) (hL : LD w) (h : w26_alive.f k  = some r) :
 Calls Tryz.prog 5 #[] w fun e w' => e = .returned (.bool r) ∧ Below w.heap.size w w' := by
 have HL0 := Aside0.mk hL
 clear hL
 have hu37 := Tryz.underlying37
 have HB := Aside0.mk (Below.refl w.heap.size w)
 have H : ((script_Parse.f k (⟨#[99, 104, 117, 110, 107, 32, 48, 32, 55, 51, 55, 52, 54, 49, 55, 52, 48, 97, 10, 116, 105, 99, 107, 32, 53, 10, 112, 105, 99, 107, 32, 51, 10, 99, 104, 117, 110, 107, 32, 49, 32, 45, 10]⟩ : ByteArray)).bind fun bt202 => ((script_Parse.f k (⟨#[116, 105, 99, 107, 32, 53, 10, 112, 105, 99, 107, 32, 120, 10]⟩ : ByteArray)).bind fun bt207 => ((script_Parse.f k (⟨#[116, 105, 99, 107, 32, 53]⟩ : ByteArray)).bind fun bt212 => ((script_Text.f k bt202.1).bind fun bt217 => ((script_Text.f k (([(⟨0, 0, ([] : List Int)⟩ : S37)] : List (S37)))).bind fun bt222 => (if bt202.2.2 = 0 then (if bt207.2.2 = 2 then (if bt212.2.2 = 2 then (if bt217.2 = 0 then (if bt222.2 = 1 then (if bt202.2.1 = 0 then (if bt207.2.1 = 2 then (if bt212.2.1 = 1 then (if (bt202.1.length : Int) = 4 then (if 0 < (bt202.1.length : Int) then (if (strOfNums ((rd_T37 bt202.1 0).f2)).toList = ([115, 116, 97, 116, 10] : List UInt8) then (if 1 < (bt202.1.length : Int) then (if ((rd_T37 bt202.1 1).f0) = 2 then (if 2 < (bt202.1.length : Int) then (if ((rd_T37 bt202.1 2).f1) = 3 then (if bt217.1.toList = ([99, 104, 117, 110, 107, 32, 48, 32, 55, 51, 55, 52, 54, 49, 55, 52, 48, 97, 10, 116, 105, 99, 107, 32, 53, 10, 112, 105, 99, 107, 32, 51, 10, 99, 104, 117, 110, 107, 32, 49, 32, 45, 10] : List UInt8) then ((script_Right.f k bt202.1).bind fun t227 => (if t227 = true then ((script_Same.f k bt202.1 bt202.1).bind fun t228 => (if t228 = true then ((script_Same.f k bt202.1 ([] : List (S37))).bind fun t229 => (some (!t229))) else (none))) else (none))) else (none)) else (none)) else (none)) else (none)) else (none)) else (none)) else (none)) else (none)) else (none)) else (none)) else (none)) else (none)) else (none)) else (none)) else (none)) else (none))))))) = some r := h
 clear h
 obtain ⟨⟨t202, t203, t204⟩, A1, H⟩ := bs H
 try dsimp only at H
 obtain ⟨⟨t207, t208, t209⟩, A2, H⟩ := bs H
 try dsimp only at H
 obtain ⟨⟨t212, t213, t214⟩, A3, H⟩ := bs H
 try dsimp only at H
 obtain ⟨⟨t217, t218⟩, A4, H⟩ := bs H
 try dsimp only at H
 obtain ⟨y219, hy219⟩ : ∃ y_ : List (S37), y_ = (([(⟨0, 0, ([] : List Int)⟩ : S37)] : List (S37))) := ⟨_, rfl⟩
 replace H : ((script_Text.f k y219).bind fun bt222 => (if t204 = 0 then (if t209 = 2 then (if t214 = 2 then (if t218 = 0 then (if bt222.2 = 1 then (if t203 = 0 then (if t208 = 2 then (if t213 = 1 then (if (t202.length : Int) = 4 then (if 0 < (t202.length : Int) then (if (strOfNums ((rd_T37 t202 0).f2)).toList = ([115, 116, 97, 116, 10] : List UInt8) then (if 1 < (t202.length : Int) then (if ((rd_T37 t202 1).f0) = 2 then (if 2 < (t202.length : Int) then (if ((rd_T37 t202 2).f1) = 3 then (if t217.toList = ([99, 104, 117, 110, 107, 32, 48, 32, 55, 51, 55, 52, 54, 49, 55, 52, 48, 97, 10, 116, 105, 99, 107, 32, 53, 10, 112, 105, 99, 107, 32, 51, 10, 99, 104, 117, 110, 107, 32, 49, 32, 45, 10] : List UInt8) then ((script_Right.f k t202).bind fun t227 => (if t227 = true then ((script_Same.f k t202 t202).bind fun t228 => (if t228 = true then ((script_Same.f k t202 ([] : List (S37))).bind fun t229 => (some (!t229))) else (none))) else (none))) else (none)) else (none)) else (none)) else (none)) else (none)) else (none)) else (none)) else (none)) else (none)) else (none)) else (none)) else (none)) else (none)) else (none)) else (none)) else (none))) = some r := by first | (rw [hy219]; with_reducible exact H) | (have H2_ := (Option.bind_some _ _).symm.trans H; rw [hy219]; with_reducible exact H2_) | (have H2_ := (Option.bind_some _ _).symm.trans H; with_reducible exact H2_) | with_reducible exact H | (rw [hy219]; exact H) | exact H
 have Ny219 := Aside0.mk hy219
 clear hy219
 obtain ⟨⟨t222, t223⟩, A5, H⟩ := bs H
 try dsimp only at H
 by_cases c6 : t204 = 0
 ·
  rw [if_pos c6] at H
  have c6b0 : (t204 == 0) = true := beq_iff_eq.mpr c6
  have c6b1 : (t204 != 0) = false := bne_eq_false_iff_eq.mpr c6
  clear c6
  obtain ⟨c7, H⟩ := gd H
  have c7b0 : (t209 == 2) = true := beq_iff_eq.mpr c7
  have c7b1 : (t209 != 2) = false := bne_eq_false_iff_eq.mpr c7
  clear c7
  obtain ⟨c8, H⟩ := gd H
  have c8b0 : (t214 == 2) = true := beq_iff_eq.mpr c8
  have c8b1 : (t214 != 2) = false := bne_eq_false_iff_eq.mpr c8
  clear c8
  obtain ⟨c9, H⟩ := gd H
  have c9b0 : (t218 == 0) = true := beq_iff_eq.mpr c9
  have c9b1 : (t218 != 0) = false := bne_eq_false_iff_eq.mpr c9
  clear c9
  obtain ⟨c10, H⟩ := gd H
  have c10b0 : (t223 == 1) = true := beq_iff_eq.mpr c10
  have c10b1 : (t223 != 1) = false := bne_eq_false_iff_eq.mpr c10
  clear c10
  obtain ⟨c11, H⟩ := gd H
  have c11b0 : (t203 == 0) = true := beq_iff_eq.mpr c11
  have c11b1 : (t203 != 0) = false := bne_eq_false_iff_eq.mpr c11
  clear c11
  obtain ⟨c12, H⟩ := gd H
  have c12b0 : (t208 == 2) = true := beq_iff_eq.mpr c12
  have c12b1 : (t208 != 2) = false := bne_eq_false_iff_eq.mpr c12
  clear c12
  obtain ⟨c13, H⟩ := gd H
  have c13b0 : (t213 == 1) = true := beq_iff_eq.mpr c13
  have c13b1 : (t213 != 1) = false := bne_eq_false_iff_eq.mpr c13
  clear c13
  obtain ⟨c14, H⟩ := gd H
  have c14b0 : ((t202.length : Int) == 4) = true := beq_iff_eq.mpr c14
  have c14b1 : ((t202.length : Int) != 4) = false := bne_eq_false_iff_eq.mpr c14
  clear c14
  obtain ⟨c15, H⟩ := gd H
  have c15b0 : decide (0 < (t202.length : Int)) = true := decide_eq_true c15
  have c15b1 : decide (0 < t202.length) = true := decide_eq_true (by omega)
  clear c15
  obtain ⟨c16, H⟩ := gd H
  have c16b0 : ((strOfNums ((rd_T37 t202 0).f2)).toList == ([115, 116, 97, 116, 10] : List UInt8)) = true := beq_iff_eq.mpr c16
  have c16b1 : ((strOfNums ((rd_T37 t202 0).f2)).toList != ([115, 116, 97, 116, 10] : List UInt8)) = false := bne_eq_false_iff_eq.mpr c16
  clear c16
  obtain ⟨c17, H⟩ := gd H
  have c17b0 : decide (1 < (t202.length : Int)) = true := decide_eq_true c17
  have c17b1 : decide (1 < t202.length) = true := decide_eq_true (by omega)
  clear c17
  obtain ⟨c18, H⟩ := gd H
  have c18b0 : (((rd_T37 t202 1).f0) == 2) = true := beq_iff_eq.mpr c18
  have c18b1 : (((rd_T37 t202 1).f0) != 2) = false := bne_eq_false_iff_eq.mpr c18
  clear c18
  obtain ⟨c19, H⟩ := gd H
  have c19b0 : decide (2 < (t202.length : Int)) = true := decide_eq_true c19
  have c19b1 : decide (2 < t202.length) = true := decide_eq_true (by omega)
  clear c19
  obtain ⟨c20, H⟩ := gd H
  have c20b0 : (((rd_T37 t202 2).f1) == 3) = true := beq_iff_eq.mpr c20
  have c20b1 : (((rd_T37 t202 2).f1) != 3) = false := bne_eq_false_iff_eq.mpr c20
  clear c20
  obtain ⟨c21, H⟩ := gd H
  have c21b0 : (t217.toList == ([99, 104, 117, 110, 107, 32, 48, 32, 55, 51, 55, 52, 54, 49, 55, 52, 48, 97, 10, 116, 105, 99, 107, 32, 53, 10, 112, 105, 99, 107, 32, 51, 10, 99, 104, 117, 110, 107, 32, 49, 32, 45, 10] : List UInt8)) = true := beq_iff_eq.mpr c21
  have c21b1 : (t217.toList != ([99, 104, 117, 110, 107, 32, 48, 32, 55, 51, 55, 52, 54, 49, 55, 52, 48, 97, 10, 116, 105, 99, 107, 32, 53, 10, 112, 105, 99, 107, 32, 51, 10, 99, 104, 117, 110, 107, 32, 49, 32, 45, 10] : List UInt8)) = false := bne_eq_false_iff_eq.mpr c21
  clear c21
  obtain ⟨t227, A22, H⟩ := bs H
  try dsimp only at H
  by_cases c23 : t227 = true
  ·
   subst c23
   rw [if_pos rfl] at H
   obtain ⟨t228, A24, H⟩ := bs H
   try dsimp only at H
   by_cases c25 : t228 = true
   ·
    subst c25
    rw [if_pos rfl] at H
    obtain ⟨t229, A26, H⟩ := bs H
    try dsimp only at H
    obtain rfl := Option.some.inj H
    go_enter Tryz.func5, Tryz.ntmps5
    go_wp2_with (first | (refine gL (some 15) rfl Tryz.func13 #[.string (⟨#[99, 104, 117, 110, 107, 32, 48, 32, 55, 51, 55, 52, 54, 49, 55, 52, 48, 97, 10, 116, 105, 99, 107, 32, 53, 10, 112, 105, 99, 107, 32, 51, 10, 99, 104, 117, 110, 107, 32, 49, 32, 45, 10]⟩ : ByteArray)] ?_; (with_reducible refine (script_Parse.calls (hL := ld) k (⟨#[99, 104, 117, 110, 107, 32, 48, 32, 55, 51, 55, 52, 54, 49, 55, 52, 48, 97, 10, 116, 105, 99, 107, 32, 53, 10, 112, 105, 99, 107, 32, 51, 10, 99, 104, 117, 110, 107, 32, 49, 32, 45, 10]⟩ : ByteArray) t202 t203 t204 _ A1.out).mono ?_); rintro e w27 ⟨v205, rfl, ho0, hb⟩; refine ⟨_, rfl, ?_⟩; have HO206 := Aside0.mk (Kd.S_lower ho0 (below_size (uW HB.out))); replace HB := cW HB hb; (try clear hb); (try clear ho0)) | (refine gL (some 20) rfl Tryz.func13 #[.string (⟨#[116, 105, 99, 107, 32, 53, 10, 112, 105, 99, 107, 32, 120, 10]⟩ : ByteArray)] ?_; (with_reducible refine (script_Parse.calls (hL := ld) k (⟨#[116, 105, 99, 107, 32, 53, 10, 112, 105, 99, 107, 32, 120, 10]⟩ : ByteArray) t207 t208 t209 _ A2.out).mono ?_); rintro e w28 ⟨v210, rfl, ho0, hb⟩; refine ⟨_, rfl, ?_⟩; have HO211 := Aside0.mk (Kd.S_lower (Kd.S_new' ho0 (Kd.S_lt (uS HO206.out))) (below_size (uW HB.out))); replace HO206 := Aside0.mk (Kd.S_elder' (uS HO206.out) (Kd.S_base ho0) hb); replace HB := cW HB hb; (try clear hb); (try clear ho0)) | (refine gL (some 25) rfl Tryz.func13 #[.string (⟨#[116, 105, 99, 107, 32, 53]⟩ : ByteArray)] ?_; (with_reducible refine (script_Parse.calls (hL := ld) k (⟨#[116, 105, 99, 107, 32, 53]⟩ : ByteArray) t212 t213 t214 _ A3.out).mono ?_); rintro e w29 ⟨v215, rfl, ho0, hb⟩; refine ⟨_, rfl, ?_⟩; have HO216 := Aside0.mk (Kd.S_lower (Kd.S_new' (Kd.S_new' ho0 (Kd.S_lt (uS HO206.out))) (Kd.S_lt (uS HO211.out))) (below_size (uW HB.out))); replace HO206 := Aside0.mk (Kd.S_elder' (uS HO206.out) (Kd.S_base ho0) hb); replace HO211 := Aside0.mk (Kd.S_elder' (uS HO211.out) (Kd.S_base ho0) hb); replace HB := cW HB hb; (try clear hb); (try clear ho0); obtain ⟨Ao30, co30, eo30⟩ := Kd.S_slice HO206.out; subst eo30) | (refine gL (some 31) rfl Tryz.func7 #[.slice Ao30 t202.length co30] ?_; (with_reducible refine (script_Text.calls (hL := ld) k _ _ t202 t217 t218 _ ?side1 ?side2 A4.out).mono ?_); (case side1 => exact uC <| (Kd.S_reads' HO206.out).2.2); (case side2 => exact (Kd.S_reads' HO206.out).2.1); rintro e w31 ⟨rfl, hb⟩; refine ⟨_, rfl, ?_⟩; replace HO206 := cS HO206 hb; replace HO211 := cS HO211 hb; replace HO216 := cS HO216 hb; replace HB := cW HB hb; (try clear hb)) | ((with_reducible refine gate_dst (N := 36) rfl ?_); (try (refine gate_guard (by rfl) ?_; dsimp only)); refine Kd.S_lit k37 _ 37 ?hg (N := 36) ?hd (xs := ([(⟨0, 0, ([] : List Int)⟩ : S37)] : List (S37))) (inner := [.int .i64 0, .int .i64 0, .slice none 0 0]) (ok := fun _ => True) (okp := fun _ => True) ?hr ?hp (fun _ hk => hk) trivial (Below.refl _ _) (Nat.le_refl _) (by simp) ?_; (case hd => rfl); (case hg => rfl); (case hr => first | (go_simp; done) | (go_simp; rfl)); (case hp => exact (Reps.c3 (show Kd.M k37 _ _ _ (⟨0, 0, ([] : List Int)⟩ : S37) [.int .i64 0, .int .i64 0, .slice none 0 0] from (k37_mkM _ _ _ (⟨0, 0, ([] : List Int)⟩ : S37) (Kd.R_nil _ _ _ _ _))) (Reps.none _ _))); intro v220 w32 ho33 hb hg_ hnew_; clear hg_ hnew_; (first | rw [← Ny219.out] at ho33 | (simp only [Int.reduceToNat] at ho33; rw [← Ny219.out] at ho33)); have HO221 := Aside0.mk (Kd.S_lower (Kd.S_new' (Kd.S_new' (Kd.S_new' ho33 (Kd.S_lt (uS HO206.out))) (Kd.S_lt (uS HO211.out))) (Kd.S_lt (uS HO216.out))) (below_size (uW HB.out))); replace HO206 := Aside0.mk (Kd.S_elder' (uS HO206.out) (Kd.S_base ho33) hb); replace HO211 := Aside0.mk (Kd.S_elder' (uS HO211.out) (Kd.S_base ho33) hb); replace HO216 := Aside0.mk (Kd.S_elder' (uS HO216.out) (Kd.S_base ho33) hb); replace HB := cW HB hb; clear hb ho33; obtain ⟨Ao34, co34, eo34⟩ := Kd.S_slice HO221.out; subst eo34) | (refine gL (some 37) rfl Tryz.func7 #[.slice Ao34 y219.length co34] ?_; (with_reducible refine (script_Text.calls (hL := ld) k _ _ y219 t222 t223 _ ?side1 ?side2 A5.out).mono ?_); (case side1 => exact uC <| (Kd.S_reads' HO221.out).2.2); (case side2 => exact (Kd.S_reads' HO221.out).2.1); rintro e w35 ⟨rfl, hb⟩; refine ⟨_, rfl, ?_⟩; replace HO206 := cS HO206 hb; replace HO211 := cS HO211 hb; replace HO216 := cS HO216 hb; replace HO221 := cS HO221 hb; replace HB := cW HB hb; (try clear hb); have p224 : 0 ≤ (0 : Int) := (by omega); have q224 : 0 < (t202.length : Int) := od; obtain ⟨ad224, A224_2, c224_2, e224, hx224_0, hx224_1, hx224_2, hl224_2, hi224_2⟩ := at_T37 (Kd.S_reads' HO206.out).2.2 0 p224 q224; cases e224; obtain ⟨ce224, hce224, hMe224, hcc224⟩ := Kd.S_get HO206.out z37 0 p224 (by first | exact q224 | exact od | (have e_ := (Kd.S_reads' HO206.out).1; omega)); obtain ⟨ve224_2, rfl, ge224_2⟩ := k37_openM hMe224; have hv224_2 := hcc224 2 _ rfl; rw [add_field _ _ 2 (by omega)] at hv224_2; replace hv224_2 := Option.some.inj (hv224_2.symm.trans hx224_2); rw [hv224_2] at ge224_2; have HL224_2 := Aside0.mk (show Kd.R (Kd.int .u8) 5 _ _ _ _ ((rd_T37 t202 0).f2) from ge224_2); clear hv224_2 ge224_2; clear hcc224 hce224; have qi224 : (0 < t202.length) = True := eq_true (by omega); (try rw [show ((0 : Int)).toNat = 0 from rfl] at hx224_0); (try rw [show 0 * 3 = 0 from rfl] at hx224_0); (try rw [Addr.add_zero'] at hx224_0); (try rw [show ((0 : Int)).toNat = 0 from rfl] at hx224_1); (try rw [show 0 * 3 = 0 from rfl] at hx224_1); (try rw [Addr.add_zero'] at hx224_1); (try rw [show ((0 : Int)).toNat = 0 from rfl] at hx224_2); (try rw [show 0 * 3 = 0 from rfl] at hx224_2); (try rw [Addr.add_zero'] at hx224_2); have HR224_2 := Aside0.mk hi224_2; have HC224_2 := Aside0.mk hl224_2; clear hi224_2 hl224_2; replace p224 := eq_true p224; replace q224 := eq_true q224; have hcv36 := Kd.C_string (P := Tryz.prog) (A := A224_2) (c := c224_2) Tryz.underlying35 Tryz.underlying5 Tryz.underlying9 (by repeat (first | (with_reducible exact HR224_2.out) | (with_reducible refine Kd.C_alloc ?_ _) | (with_reducible refine Kd.C_drewN ?_ _) | (with_reducible refine Kd.C_drew ?_) | exact HR224_2.out)); have p225 : 0 ≤ (1 : Int) := (by omega); have q225 : 1 < (t202.length : Int) := od; obtain ⟨ad225, A225_2, c225_2, e225, hx225_0, hx225_1, hx225_2, hl225_2, hi225_2⟩ := at_T37 (Kd.S_reads' HO206.out).2.2 1 p225 q225; obtain rfl : ad224 = ad225 := (by injection e225); obtain ⟨ce225, hce225, hMe225, hcc225⟩ := Kd.S_get HO206.out z37 1 p225 (by first | exact q225 | exact od | (have e_ := (Kd.S_reads' HO206.out).1; omega)); obtain ⟨ve225_2, rfl, ge225_2⟩ := k37_openM hMe225; have hv225_2 := hcc225 2 _ rfl; rw [add_field _ _ 2 (by omega)] at hv225_2; replace hv225_2 := Option.some.inj (hv225_2.symm.trans hx225_2); rw [hv225_2] at ge225_2; have HL225_2 := Aside0.mk (show Kd.R (Kd.int .u8) 5 _ _ _ _ ((rd_T37 t202 1).f2) from ge225_2); clear hv225_2 ge225_2; clear hcc225 hce225; (try simp only [show (1 : Int).toNat = 1 from rfl, Nat.reduceMul, Nat.reduceEqDiff, Go.Addr.add, ↓reduceIte] at hx225_0); (try simp only [show (1 : Int).toNat = 1 from rfl, Nat.reduceMul, Nat.reduceEqDiff, Go.Addr.add, ↓reduceIte] at hx225_1); (try simp only [show (1 : Int).toNat = 1 from rfl, Nat.reduceMul, Nat.reduceEqDiff, Go.Addr.add, ↓reduceIte] at hx225_2); have qi225 : (1 < t202.length) = True := eq_true (by omega); (try rw [show ((1 : Int)).toNat = 1 from rfl] at hx225_0); (try rw [show 1 * 3 = 3 from rfl] at hx225_0); (try rw [show ((1 : Int)).toNat = 1 from rfl] at hx225_1); (try rw [show 1 * 3 = 3 from rfl] at hx225_1); (try rw [show ((1 : Int)).toNat = 1 from rfl] at hx225_2); (try rw [show 1 * 3 = 3 from rfl] at hx225_2); have HR225_2 := Aside0.mk hi225_2; have HC225_2 := Aside0.mk hl225_2; clear hi225_2 hl225_2; replace p225 := eq_true p225; replace q225 := eq_true q225; have p226 : 0 ≤ (2 : Int) := (by omega); have q226 : 2 < (t202.length : Int) := od; obtain ⟨ad226, A226_2, c226_2, e226, hx226_0, hx226_1, hx226_2, hl226_2, hi226_2⟩ := at_T37 (Kd.S_reads' HO206.out).2.2 2 p226 q226; obtain rfl : ad224 = ad226 := (by injection e226); obtain ⟨ce226, hce226, hMe226, hcc226⟩ := Kd.S_get HO206.out z37 2 p226 (by first | exact q226 | exact od | (have e_ := (Kd.S_reads' HO206.out).1; omega)); obtain ⟨ve226_2, rfl, ge226_2⟩ := k37_openM hMe226; have hv226_2 := hcc226 2 _ rfl; rw [add_field _ _ 2 (by omega)] at hv226_2; replace hv226_2 := Option.some.inj (hv226_2.symm.trans hx226_2); rw [hv226_2] at ge226_2; have HL226_2 := Aside0.mk (show Kd.R (Kd.int .u8) 5 _ _ _ _ ((rd_T37 t202 2).f2) from ge226_2); clear hv226_2 ge226_2; clear hcc226 hce226; (try simp only [show (2 : Int).toNat = 2 from rfl, Nat.reduceMul, Nat.reduceEqDiff, Go.Addr.add, ↓reduceIte] at hx226_0); (try simp only [show (2 : Int).toNat = 2 from rfl, Nat.reduceMul, Nat.reduceEqDiff, Go.Addr.add, ↓reduceIte] at hx226_1); (try simp only [show (2 : Int).toNat = 2 from rfl, Nat.reduceMul, Nat.reduceEqDiff, Go.Addr.add, ↓reduceIte] at hx226_2); have qi226 : (2 < t202.length) = True := eq_true (by omega); (try rw [show ((2 : Int)).toNat = 2 from rfl] at hx226_0); (try rw [show 2 * 3 = 6 from rfl] at hx226_0); (try rw [show ((2 : Int)).toNat = 2 from rfl] at hx226_1); (try rw [show 2 * 3 = 6 from rfl] at hx226_1); (try rw [show ((2 : Int)).toNat = 2 from rfl] at hx226_2); (try rw [show 2 * 3 = 6 from rfl] at hx226_2); have HR226_2 := Aside0.mk hi226_2; have HC226_2 := Aside0.mk hl226_2; clear hi226_2 hl226_2; replace p226 := eq_true p226; replace q226 := eq_true q226) | (go_at_call 9; (with_reducible refine (script_Right.calls k _ _ t202 true _ ?side1 ?side2 A22.out).mono ?_); (case side1 => exact uC <| (Kd.S_reads' HO206.out).2.2); (case side2 => exact (Kd.S_reads' HO206.out).2.1); rintro e w37 ⟨rfl, hb⟩; replace HO206 := cS HO206 hb; replace HO211 := cS HO211 hb; replace HO216 := cS HO216 hb; replace HO221 := cS HO221 hb; replace HL224_2 := cR HL224_2 hb; replace HL225_2 := cR HL225_2 hb; replace HL226_2 := cR HL226_2 hb; replace HR224_2 := cC HR224_2 hb; replace HR225_2 := cC HR225_2 hb; replace HR226_2 := cC HR226_2 hb; replace HB := cW HB hb; (try clear hb)) | (go_at_call 11; (with_reducible refine (script_Same.calls k _ _ t202 _ _ t202 true _ ?side1 ?side2 ?side3 ?side4 A24.out).mono ?_); (case side1 => exact uC <| (Kd.S_reads' HO206.out).2.2); (case side2 => exact (Kd.S_reads' HO206.out).2.1); (case side3 => exact uC <| (Kd.S_reads' HO206.out).2.2); (case side4 => exact (Kd.S_reads' HO206.out).2.1); rintro e w38 ⟨rfl, hb⟩; replace HO206 := cS HO206 hb; replace HO211 := cS HO211 hb; replace HO216 := cS HO216 hb; replace HO221 := cS HO221 hb; replace HL224_2 := cR HL224_2 hb; replace HL225_2 := cR HL225_2 hb; replace HL226_2 := cR HL226_2 hb; replace HR224_2 := cC HR224_2 hb; replace HR225_2 := cC HR225_2 hb; replace HR226_2 := cC HR226_2 hb; replace HB := cW HB hb; (try clear hb)) | (go_at_call 11; (refine (script_Same.calls k _ _ t202 _ _ ([] : List (S37)) t229 _ ?side1 ?side2 ?side3 ?side4 A26.out).mono ?_); (case side1 => exact uC <| (Kd.S_reads' HO206.out).2.2); (case side2 => exact (Kd.S_reads' HO206.out).2.1); (case side3 => exact Kd.C_nil _ _); (case side4 => exact Nat.le_refl _); rintro e w39 ⟨rfl, hb⟩; replace HO206 := cS HO206 hb; replace HO211 := cS HO211 hb; replace HO216 := cS HO216 hb; replace HO221 := cS HO221 hb; replace HL224_2 := cR HL224_2 hb; replace HL225_2 := cR HL225_2 hb; replace HL226_2 := cR HL226_2 hb; replace HR224_2 := cC HR224_2 hb; replace HR225_2 := cC HR225_2 hb; replace HR226_2 := cC HR226_2 hb; replace HB := cW HB hb; (try clear hb)))
    go_ret
    exact ⟨re_, uW HB.out⟩
   ·
    replace c25 := Bool.eq_false_iff.mpr c25
    subst c25
    rw [if_neg (show ¬ (false = true) by decide)] at H
    exact absurd H (by simp)
  ·
   replace c23 := Bool.eq_false_iff.mpr c23
   subst c23
   rw [if_neg (show ¬ (false = true) by decide)] at H
   exact absurd H (by simp)
 ·
  rw [if_neg c6] at H
  exact absurd H (by simp)
def r25_Few.l0 : Nat → List (S37) → Int → Option (Bool)
 | 0, _, _ => none
 | k + 1, x0, x5 => if x5 < (x0.length : Int) then (if 0 ≤ x5 then (if (((rd_T37 x0 x5).f2).length : Int) > 400 then (some false) else (r25_Few.l0 k x0 (wrap64 (x5 + 1)))) else (none)) else (some true)
def r25_Few.f (k : Nat) (l0 : List (S37)) (a1 : Int) : Option (Bool) := if (l0.length : Int) > a1 then (some false) else (r25_Few.l0 k l0 0)
theorem r25_Few.mono_l : ∀ k, (∀ y0 y1, LeC (r25_Few.l0 k y0 y1) (r25_Few.l0 (k + 1) y0 y1))
 | 0 => fun _ _ => ⟨fun r h => by simp [r25_Few.l0] at h⟩
 | k + 1 => by have ih0 := r25_Few.mono_l k; exact fun _ _ => by unfold r25_Few.l0; exact lm
theorem r25_Few.mono : ∀ a0 a1 k, LeO (r25_Few.f k a0 a1) (r25_Few.f (k + 1) a0 a1) := by
 intro a0 a1 k
 have ih0 := r25_Few.mono_l k
 unfold r25_Few.f
 exact lo
instance r25_Few.mI {a0 a1 k} : LeC (r25_Few.f k a0 a1) (r25_Few.f (k + 1) a0 a1) := ⟨r25_Few.mono _ _ _⟩
theorem r25_Few.calls (k : Nat) (A0 : Option Addr) (c0 : Nat) (l0 : List (S37)) (a1 : Int) (r : Bool) (w : World) (hr0 : Kd.C k37 w A0 l0.length l0) (hc0 : l0.length ≤ c0) (h : r25_Few.f k l0 a1 = some r) :
 Calls Tryz.prog 6 #[.slice A0 l0.length c0, .int .i64 a1] w fun e w' => e = .returned (.bool r) ∧ Drawn0 w w' := by
 have HR0 := Aside0.mk hr0
 have HC0 := Aside0.mk hc0
 clear hr0 hc0
 have H : (if (l0.length : Int) > a1 then (some false) else (r25_Few.l0 k l0 0)) = some r := h
 clear h
 by_cases c3 : (l0.length : Int) > a1
 ·
  rw [if_pos c3] at H
  have c3b0 : decide (a1 < (l0.length : Int)) = true := decide_eq_true c3
  clear c3
  obtain rfl := Option.some.inj H
  go_enter Tryz.func6, Tryz.ntmps6
  go_wp2
  go_ret
  exact ⟨rs_, dr_⟩
 ·
  rw [if_neg c3] at H
  have c3b0 : decide (a1 < (l0.length : Int)) = false := decide_eq_false c3
  clear c3
  have H' := Aside0.mk H
  clear H
  go_enter Tryz.func6, Tryz.ntmps6
  go_wp2
  go_loopg [5] k (fun kq v5 w' => ∃ (x5_1 : Int), v5 = .int .i64 x5_1 ∧ Aside0 (r25_Few.l0 kq l0 x5_1 = some r) ∧ Aside0 (kq ≤ k) ∧ Drawn0 w w')
  case atStart => exact ⟨(0), rs_, H', ⟨Nat.le_refl _⟩, dr_⟩
  case round =>
   clear H'
   try clear p2
   try clear c3
   try clear c3b0
   obtain ⟨x5_1, rfl, HA, HK1, ⟨m1, rfl⟩⟩ := hrel
   cases gk with
   | zero => exact absurd HA.out (by simp [r25_Few.l0])
   | succ k1 =>
    have H := HA.out
    clear HA
    simp only [r25_Few.l0] at H
    by_cases c4 : x5_1 < (l0.length : Int)
    ·
     rw [if_pos c4] at H
     have c4b0 : decide (x5_1 < (l0.length : Int)) = true := decide_eq_true c4
     clear c4
     obtain ⟨c5b0, H⟩ := gdd H
     by_cases c6 : (((rd_T37 l0 x5_1).f2).length : Int) > 400
     ·
      rw [if_pos c6] at H
      have c6b0 : decide (400 < (((rd_T37 l0 x5_1).f2).length : Int)) = true := decide_eq_true c6
      have c6b1 : decide (400 < ((rd_T37 l0 x5_1).f2).length) = true := decide_eq_true (by omega)
      clear c6
      obtain rfl := Option.some.inj H
      have p230 : 0 ≤ (x5_1 : Int) := od
      have q230 : x5_1 < (l0.length : Int) := od
      obtain ⟨ad230, A230_2, c230_2, e230, hx230_0, hx230_1, hx230_2, hl230_2, hi230_2⟩ := at_T37 HR0.out x5_1 p230 q230
      cases e230
      have HR230_2 := Aside0.mk hi230_2
      have HC230_2 := Aside0.mk hl230_2
      clear hi230_2 hl230_2
      replace p230 := eq_true p230
      replace q230 := eq_true q230
      go_wp2
      go_ret
      exact ⟨rs_, dr_⟩
     ·
      rw [if_neg c6] at H
      have c6b0 : decide (400 < (((rd_T37 l0 x5_1).f2).length : Int)) = false := decide_eq_false c6
      have c6b1 : decide (400 < ((rd_T37 l0 x5_1).f2).length) = false := decide_eq_false (by omega)
      clear c6
      have H' := Aside0.mk H
      clear H
      have p230 : 0 ≤ (x5_1 : Int) := od
      have q230 : x5_1 < (l0.length : Int) := od
      obtain ⟨ad230, A230_2, c230_2, e230, hx230_0, hx230_1, hx230_2, hl230_2, hi230_2⟩ := at_T37 HR0.out x5_1 p230 q230
      cases e230
      have HR230_2 := Aside0.mk hi230_2
      have HC230_2 := Aside0.mk hl230_2
      clear hi230_2 hl230_2
      replace p230 := eq_true p230
      replace q230 := eq_true q230
      go_wp2
      go_roundg k1
      case measure => have := HK1.out; omega
      case rel => exact ⟨(wrap64 (x5_1 + 1)), rs_, H', ⟨by have := HK1.out; omega⟩, dr_⟩
    ·
     rw [if_neg c4] at H
     have c4b0 : decide (x5_1 < (l0.length : Int)) = false := decide_eq_false c4
     clear c4
     obtain rfl := Option.some.inj H
     go_wp2
     go_ret
     exact ⟨rs_, dr_⟩
def r26_most.f (a0 : Int) : Option (Int) := if a0 = 1 then (some 3) else (if a0 = 2 then (some 1000000000000) else (if a0 = 3 then (some 1000000000000) else (some (-1))))
theorem r26_most.calls (a0 : Int) (r : Int) (w : World) (h : r26_most.f a0 = some r) :
 Calls Tryz.prog 40 #[.int .i64 a0] w fun e w' => e = .returned (.int .i64 r) ∧ Drawn0 w w' := by
 have H : (if a0 = 1 then (some 3) else (if a0 = 2 then (some 1000000000000) else (if a0 = 3 then (some 1000000000000) else (some (-1))))) = some r := h
 clear h
 by_cases c2 : a0 = 1
 ·
  rw [if_pos c2] at H
  have c2b0 : (a0 == 1) = true := beq_iff_eq.mpr c2
  have c2b1 : (a0 != 1) = false := bne_eq_false_iff_eq.mpr c2
  clear c2
  obtain rfl := Option.some.inj H
  go_enter Tryz.func40, Tryz.ntmps40
  go_wp2
  go_ret
  exact ⟨rs_, dr_⟩
 ·
  rw [if_neg c2] at H
  have c2b0 : (a0 == 1) = false := beq_eq_false_iff_ne.mpr c2
  have c2b1 : (a0 != 1) = true := bne_iff_ne.mpr c2
  by_cases c3 : a0 = 2
  ·
   rw [if_pos c3] at H
   have c3b0 : (a0 == 2) = true := beq_iff_eq.mpr c3
   have c3b1 : (a0 != 2) = false := bne_eq_false_iff_eq.mpr c3
   clear c3
   obtain rfl := Option.some.inj H
   go_enter Tryz.func40, Tryz.ntmps40
   go_wp2
   go_ret
   exact ⟨rs_, dr_⟩
  ·
   rw [if_neg c3] at H
   have c3b0 : (a0 == 2) = false := beq_eq_false_iff_ne.mpr c3
   have c3b1 : (a0 != 2) = true := bne_iff_ne.mpr c3
   by_cases c4 : a0 = 3
   ·
    rw [if_pos c4] at H
    have c4b0 : (a0 == 3) = true := beq_iff_eq.mpr c4
    have c4b1 : (a0 != 3) = false := bne_eq_false_iff_eq.mpr c4
    clear c4
    obtain rfl := Option.some.inj H
    go_enter Tryz.func40, Tryz.ntmps40
    go_wp2
    go_ret
    exact ⟨rs_, dr_⟩
   ·
    rw [if_neg c4] at H
    have c4b0 : (a0 == 3) = false := beq_eq_false_iff_ne.mpr c4
    have c4b1 : (a0 != 3) = true := bne_iff_ne.mpr c4
    obtain rfl := Option.some.inj H
    go_enter Tryz.func40, Tryz.ntmps40
    go_wp2
    go_ret
    exact ⟨rs_, dr_⟩
def r26_may.f (a0_0 : Int) (a0_1 : Int) (l0_2 : List Int) : Option (Bool) := if a0_1 ≥ 0 then ((r26_most.f a0_0).bind fun t232 => (if a0_1 ≤ t232 then (if a0_0 = 1 then (some true) else (some ((l0_2.length : Int) == 0))) else (some false))) else (some false)
theorem r26_may.calls (a0_0 : Int) (a0_1 : Int) (A0_2 : Option Addr) (c0_2 : Nat) (l0_2 : List Int) (r : Bool) (w : World) (hr0_2 : Kd.C (Kd.int .u8) w A0_2 l0_2.length l0_2) (hc0_2 : l0_2.length ≤ c0_2) (h : r26_may.f a0_0 a0_1 l0_2 = some r) :
 Calls Tryz.prog 23 #[.agg #[.int .i64 a0_0, .int .i64 a0_1, .slice A0_2 l0_2.length c0_2]] w fun e w' => e = .returned (.bool r) ∧ Below w.heap.size w w' := by
 have hu37 := Tryz.underlying37
 have HR0_2 := Aside0.mk hr0_2
 have HC0_2 := Aside0.mk hc0_2
 clear hr0_2 hc0_2
 have HB := Aside0.mk (Below.refl w.heap.size w)
 have H : (if a0_1 ≥ 0 then ((r26_most.f a0_0).bind fun t232 => (if a0_1 ≤ t232 then (if a0_0 = 1 then (some true) else (some ((l0_2.length : Int) == 0))) else (some false))) else (some false)) = some r := h
 clear h
 by_cases c2 : a0_1 ≥ 0
 ·
  rw [if_pos c2] at H
  have c2b0 : decide (0 ≤ a0_1) = true := decide_eq_true c2
  clear c2
  obtain ⟨t232, A3, H⟩ := bs H
  try dsimp only at H
  by_cases c4 : a0_1 ≤ t232
  ·
   rw [if_pos c4] at H
   have c4b0 : decide (a0_1 ≤ t232) = true := decide_eq_true c4
   clear c4
   by_cases c5 : a0_0 = 1
   ·
    rw [if_pos c5] at H
    have c5b0 : (a0_0 == 1) = true := beq_iff_eq.mpr c5
    have c5b1 : (a0_0 != 1) = false := bne_eq_false_iff_eq.mpr c5
    clear c5
    obtain rfl := Option.some.inj H
    go_enter Tryz.func23, Tryz.ntmps23
    go_wp2_with (first | ((with_reducible refine gate_dst (N := 1) rfl ?_); (try (refine gate_guard (by rfl) ?_; dsimp only)); refine bx (N := 1) #[.int .i64 a0_0, .int .i64 a0_1, .slice A0_2 l0_2.length c0_2] 37 ?_; intro gb231 hg w6 hbox hb; have BK231 := Aside0.mk (hbox); have GW231 := gw hg (uW HB.out); have GE231 := GW231; replace HB := cW HB hb; clear hb hbox hg; obtain ⟨hcz7_0, hcz7_1, hcz7_2, hfz7_0, hfz7_1, hfz7_2⟩ := z3 BK231) | (go_at_call 40; (with_reducible refine (r26_most.calls a0_0 t232 _ A3.out).mono ?_); rintro e w' ⟨rfl, ⟨nd, rfl⟩⟩; (try first | exact ⟨rfl, _, World.drewN_drewN _ _ _⟩ | exact ⟨rfl, _, Eq.trans (World.drewN_drewN _ _ _) (congrArg (World.drewN _) (Nat.add_assoc _ _ _))⟩)))
    repeat (go_quiet (first | ((with_reducible refine gate_dst (N := 1) rfl ?_); (try (refine gate_guard (by rfl) ?_; dsimp only)); refine bx (N := 1) #[.int .i64 a0_0, .int .i64 a0_1, .slice A0_2 l0_2.length c0_2] 37 ?_; intro gb231 hg w6 hbox hb; have BK231 := Aside0.mk (hbox); have GW231 := gw hg (uW HB.out); have GE231 := GW231; replace HB := cW HB hb; clear hb hbox hg; obtain ⟨hcz7_0, hcz7_1, hcz7_2, hfz7_0, hfz7_1, hfz7_2⟩ := z3 BK231) | (go_at_call 40; (with_reducible refine (r26_most.calls a0_0 t232 _ A3.out).mono ?_); rintro e w' ⟨rfl, ⟨nd, rfl⟩⟩; (try first | exact ⟨rfl, _, World.drewN_drewN _ _ _⟩ | exact ⟨rfl, _, Eq.trans (World.drewN_drewN _ _ _) (congrArg (World.drewN _) (Nat.add_assoc _ _ _))⟩))); try go_wp2_with (first | ((with_reducible refine gate_dst (N := 1) rfl ?_); (try (refine gate_guard (by rfl) ?_; dsimp only)); refine bx (N := 1) #[.int .i64 a0_0, .int .i64 a0_1, .slice A0_2 l0_2.length c0_2] 37 ?_; intro gb231 hg w6 hbox hb; have BK231 := Aside0.mk (hbox); have GW231 := gw hg (uW HB.out); have GE231 := GW231; replace HB := cW HB hb; clear hb hbox hg; obtain ⟨hcz7_0, hcz7_1, hcz7_2, hfz7_0, hfz7_1, hfz7_2⟩ := z3 BK231) | (go_at_call 40; (with_reducible refine (r26_most.calls a0_0 t232 _ A3.out).mono ?_); rintro e w' ⟨rfl, ⟨nd, rfl⟩⟩; (try first | exact ⟨rfl, _, World.drewN_drewN _ _ _⟩ | exact ⟨rfl, _, Eq.trans (World.drewN_drewN _ _ _) (congrArg (World.drewN _) (Nat.add_assoc _ _ _))⟩))))
    go_ret
    exact ⟨re_, bl⟩
   ·
    rw [if_neg c5] at H
    have c5b0 : (a0_0 == 1) = false := beq_eq_false_iff_ne.mpr c5
    have c5b1 : (a0_0 != 1) = true := bne_iff_ne.mpr c5
    obtain rfl := Option.some.inj H
    go_enter Tryz.func23, Tryz.ntmps23
    go_wp2_with (first | ((with_reducible refine gate_dst (N := 1) rfl ?_); (try (refine gate_guard (by rfl) ?_; dsimp only)); refine bx (N := 1) #[.int .i64 a0_0, .int .i64 a0_1, .slice A0_2 l0_2.length c0_2] 37 ?_; intro gb231 hg w8 hbox hb; have BK231 := Aside0.mk (hbox); have GW231 := gw hg (uW HB.out); have GE231 := GW231; replace HB := cW HB hb; clear hb hbox hg; obtain ⟨hcz9_0, hcz9_1, hcz9_2, hfz9_0, hfz9_1, hfz9_2⟩ := z3 BK231) | (go_at_call 40; (with_reducible refine (r26_most.calls a0_0 t232 _ A3.out).mono ?_); rintro e w' ⟨rfl, ⟨nd, rfl⟩⟩; (try first | exact ⟨rfl, _, World.drewN_drewN _ _ _⟩ | exact ⟨rfl, _, Eq.trans (World.drewN_drewN _ _ _) (congrArg (World.drewN _) (Nat.add_assoc _ _ _))⟩)))
    repeat (go_quiet (first | ((with_reducible refine gate_dst (N := 1) rfl ?_); (try (refine gate_guard (by rfl) ?_; dsimp only)); refine bx (N := 1) #[.int .i64 a0_0, .int .i64 a0_1, .slice A0_2 l0_2.length c0_2] 37 ?_; intro gb231 hg w8 hbox hb; have BK231 := Aside0.mk (hbox); have GW231 := gw hg (uW HB.out); have GE231 := GW231; replace HB := cW HB hb; clear hb hbox hg; obtain ⟨hcz9_0, hcz9_1, hcz9_2, hfz9_0, hfz9_1, hfz9_2⟩ := z3 BK231) | (go_at_call 40; (with_reducible refine (r26_most.calls a0_0 t232 _ A3.out).mono ?_); rintro e w' ⟨rfl, ⟨nd, rfl⟩⟩; (try first | exact ⟨rfl, _, World.drewN_drewN _ _ _⟩ | exact ⟨rfl, _, Eq.trans (World.drewN_drewN _ _ _) (congrArg (World.drewN _) (Nat.add_assoc _ _ _))⟩))); try go_wp2_with (first | ((with_reducible refine gate_dst (N := 1) rfl ?_); (try (refine gate_guard (by rfl) ?_; dsimp only)); refine bx (N := 1) #[.int .i64 a0_0, .int .i64 a0_1, .slice A0_2 l0_2.length c0_2] 37 ?_; intro gb231 hg w8 hbox hb; have BK231 := Aside0.mk (hbox); have GW231 := gw hg (uW HB.out); have GE231 := GW231; replace HB := cW HB hb; clear hb hbox hg; obtain ⟨hcz9_0, hcz9_1, hcz9_2, hfz9_0, hfz9_1, hfz9_2⟩ := z3 BK231) | (go_at_call 40; (with_reducible refine (r26_most.calls a0_0 t232 _ A3.out).mono ?_); rintro e w' ⟨rfl, ⟨nd, rfl⟩⟩; (try first | exact ⟨rfl, _, World.drewN_drewN _ _ _⟩ | exact ⟨rfl, _, Eq.trans (World.drewN_drewN _ _ _) (congrArg (World.drewN _) (Nat.add_assoc _ _ _))⟩))))
    go_ret
    exact ⟨re_, bl⟩
  ·
   rw [if_neg c4] at H
   have c4b0 : decide (a0_1 ≤ t232) = false := decide_eq_false c4
   clear c4
   obtain rfl := Option.some.inj H
   go_enter Tryz.func23, Tryz.ntmps23
   go_wp2_with (first | ((with_reducible refine gate_dst (N := 1) rfl ?_); (try (refine gate_guard (by rfl) ?_; dsimp only)); refine bx (N := 1) #[.int .i64 a0_0, .int .i64 a0_1, .slice A0_2 l0_2.length c0_2] 37 ?_; intro gb231 hg w10 hbox hb; have BK231 := Aside0.mk (hbox); have GW231 := gw hg (uW HB.out); have GE231 := GW231; replace HB := cW HB hb; clear hb hbox hg; obtain ⟨hcz11_0, hcz11_1, hcz11_2, hfz11_0, hfz11_1, hfz11_2⟩ := z3 BK231) | (go_at_call 40; (with_reducible refine (r26_most.calls a0_0 t232 _ A3.out).mono ?_); rintro e w' ⟨rfl, ⟨nd, rfl⟩⟩; (try first | exact ⟨rfl, _, World.drewN_drewN _ _ _⟩ | exact ⟨rfl, _, Eq.trans (World.drewN_drewN _ _ _) (congrArg (World.drewN _) (Nat.add_assoc _ _ _))⟩)))
   repeat (go_quiet (first | ((with_reducible refine gate_dst (N := 1) rfl ?_); (try (refine gate_guard (by rfl) ?_; dsimp only)); refine bx (N := 1) #[.int .i64 a0_0, .int .i64 a0_1, .slice A0_2 l0_2.length c0_2] 37 ?_; intro gb231 hg w10 hbox hb; have BK231 := Aside0.mk (hbox); have GW231 := gw hg (uW HB.out); have GE231 := GW231; replace HB := cW HB hb; clear hb hbox hg; obtain ⟨hcz11_0, hcz11_1, hcz11_2, hfz11_0, hfz11_1, hfz11_2⟩ := z3 BK231) | (go_at_call 40; (with_reducible refine (r26_most.calls a0_0 t232 _ A3.out).mono ?_); rintro e w' ⟨rfl, ⟨nd, rfl⟩⟩; (try first | exact ⟨rfl, _, World.drewN_drewN _ _ _⟩ | exact ⟨rfl, _, Eq.trans (World.drewN_drewN _ _ _) (congrArg (World.drewN _) (Nat.add_assoc _ _ _))⟩))); try go_wp2_with (first | ((with_reducible refine gate_dst (N := 1) rfl ?_); (try (refine gate_guard (by rfl) ?_; dsimp only)); refine bx (N := 1) #[.int .i64 a0_0, .int .i64 a0_1, .slice A0_2 l0_2.length c0_2] 37 ?_; intro gb231 hg w10 hbox hb; have BK231 := Aside0.mk (hbox); have GW231 := gw hg (uW HB.out); have GE231 := GW231; replace HB := cW HB hb; clear hb hbox hg; obtain ⟨hcz11_0, hcz11_1, hcz11_2, hfz11_0, hfz11_1, hfz11_2⟩ := z3 BK231) | (go_at_call 40; (with_reducible refine (r26_most.calls a0_0 t232 _ A3.out).mono ?_); rintro e w' ⟨rfl, ⟨nd, rfl⟩⟩; (try first | exact ⟨rfl, _, World.drewN_drewN _ _ _⟩ | exact ⟨rfl, _, Eq.trans (World.drewN_drewN _ _ _) (congrArg (World.drewN _) (Nat.add_assoc _ _ _))⟩))))
   go_ret
   exact ⟨re_, bl⟩
 ·
  rw [if_neg c2] at H
  have c2b0 : decide (0 ≤ a0_1) = false := decide_eq_false c2
  clear c2
  obtain rfl := Option.some.inj H
  go_enter Tryz.func23, Tryz.ntmps23
  go_wp2_with (first | ((with_reducible refine gate_dst (N := 1) rfl ?_); (try (refine gate_guard (by rfl) ?_; dsimp only)); refine bx (N := 1) #[.int .i64 a0_0, .int .i64 a0_1, .slice A0_2 l0_2.length c0_2] 37 ?_; intro gb231 hg w12 hbox hb; have BK231 := Aside0.mk (hbox); have GW231 := gw hg (uW HB.out); have GE231 := GW231; replace HB := cW HB hb; clear hb hbox hg; obtain ⟨hcz13_0, hcz13_1, hcz13_2, hfz13_0, hfz13_1, hfz13_2⟩ := z3 BK231))
  repeat (go_quiet (first | ((with_reducible refine gate_dst (N := 1) rfl ?_); (try (refine gate_guard (by rfl) ?_; dsimp only)); refine bx (N := 1) #[.int .i64 a0_0, .int .i64 a0_1, .slice A0_2 l0_2.length c0_2] 37 ?_; intro gb231 hg w12 hbox hb; have BK231 := Aside0.mk (hbox); have GW231 := gw hg (uW HB.out); have GE231 := GW231; replace HB := cW HB hb; clear hb hbox hg; obtain ⟨hcz13_0, hcz13_1, hcz13_2, hfz13_0, hfz13_1, hfz13_2⟩ := z3 BK231)); try go_wp2_with (first | ((with_reducible refine gate_dst (N := 1) rfl ?_); (try (refine gate_guard (by rfl) ?_; dsimp only)); refine bx (N := 1) #[.int .i64 a0_0, .int .i64 a0_1, .slice A0_2 l0_2.length c0_2] 37 ?_; intro gb231 hg w12 hbox hb; have BK231 := Aside0.mk (hbox); have GW231 := gw hg (uW HB.out); have GE231 := GW231; replace HB := cW HB hb; clear hb hbox hg; obtain ⟨hcz13_0, hcz13_1, hcz13_2, hfz13_0, hfz13_1, hfz13_2⟩ := z3 BK231)))
  go_ret
  exact ⟨re_, bl⟩
def r26_names.f  : Option (List ByteArray) := some (([(⟨#[]⟩ : ByteArray), (⟨#[99, 104, 117, 110, 107]⟩ : ByteArray), (⟨#[116, 105, 99, 107]⟩ : ByteArray), (⟨#[112, 105, 99, 107]⟩ : ByteArray)] : List ByteArray))
theorem r26_names.calls  (r : List ByteArray) (w : World) (h : r26_names.f  = some r) :
 Calls Tryz.prog 24 #[] w fun e w' => ∃ v0_ : Value, e = .returned (v0_) ∧ Kd.R Kd.string 9 w' w.heap.size (fun _ => True) v0_ r ∧ Below w.heap.size w w' := by
 have HB := Aside0.mk (Below.refl w.heap.size w)
 have H : (some (([(⟨#[]⟩ : ByteArray), (⟨#[99, 104, 117, 110, 107]⟩ : ByteArray), (⟨#[116, 105, 99, 107]⟩ : ByteArray), (⟨#[112, 105, 99, 107]⟩ : ByteArray)] : List ByteArray))) = some r := h
 clear h
 obtain ⟨y233, hy233⟩ : ∃ y_ : List ByteArray, y_ = (([(⟨#[]⟩ : ByteArray), (⟨#[99, 104, 117, 110, 107]⟩ : ByteArray), (⟨#[116, 105, 99, 107]⟩ : ByteArray), (⟨#[112, 105, 99, 107]⟩ : ByteArray)] : List ByteArray)) := ⟨_, rfl⟩
 replace H : (some y233) = some r := by first | (rw [hy233]; with_reducible exact H) | (have H2_ := (Option.bind_some _ _).symm.trans H; rw [hy233]; with_reducible exact H2_) | (have H2_ := (Option.bind_some _ _).symm.trans H; with_reducible exact H2_) | with_reducible exact H | (rw [hy233]; exact H) | exact H
 have Ny233 := Aside0.mk hy233
 clear hy233
 obtain rfl := Option.some.inj H
 go_enter Tryz.func24, Tryz.ntmps24
 go_wp2_with (first | ((with_reducible refine gate_dst (N := 1) rfl ?_); refine Kd.R_lit Kd.string _ 9 ?hg (N := 1) ?hd (xs := ([(⟨#[]⟩ : ByteArray), (⟨#[99, 104, 117, 110, 107]⟩ : ByteArray), (⟨#[116, 105, 99, 107]⟩ : ByteArray), (⟨#[112, 105, 99, 107]⟩ : ByteArray)] : List ByteArray)) (inner := [.string (⟨#[]⟩ : ByteArray), .string (⟨#[99, 104, 117, 110, 107]⟩ : ByteArray), .string (⟨#[116, 105, 99, 107]⟩ : ByteArray), .string (⟨#[112, 105, 99, 107]⟩ : ByteArray)]) (ok := fun _ => True) (okp := fun _ => True) ?hr ?hp (fun _ hk => hk) trivial (Below.refl _ _) (Nat.le_refl _) (by simp) ?_; (case hd => rfl); (case hg => rfl); (case hr => first | (go_simp; done) | (go_simp; rfl)); (case hp => exact (Reps.one (show Kd.M Kd.string _ _ _ (⟨#[]⟩ : ByteArray) [.string (⟨#[]⟩ : ByteArray)] from rfl) (Reps.one (show Kd.M Kd.string _ _ _ (⟨#[99, 104, 117, 110, 107]⟩ : ByteArray) [.string (⟨#[99, 104, 117, 110, 107]⟩ : ByteArray)] from rfl) (Reps.one (show Kd.M Kd.string _ _ _ (⟨#[116, 105, 99, 107]⟩ : ByteArray) [.string (⟨#[116, 105, 99, 107]⟩ : ByteArray)] from rfl) (Reps.one (show Kd.M Kd.string _ _ _ (⟨#[112, 105, 99, 107]⟩ : ByteArray) [.string (⟨#[112, 105, 99, 107]⟩ : ByteArray)] from rfl) (Reps.none _ _)))))); intro v234 w1 ho2 hb hg_ hnew_; clear hg_ hnew_; (first | rw [← Ny233.out] at ho2 | (simp only [Int.reduceToNat] at ho2; rw [← Ny233.out] at ho2)); have HO235 := Aside0.mk (Kd.R_lower ho2 (below_size (uW HB.out))); replace HB := cW HB hb; clear hb ho2))
 go_ret
 exact ⟨_, re_, uR HO235.out, uW HB.out⟩
mutual
def r01_Number.j0 : Nat → Int → Int → Option (ByteArray)
 | 0, _, _ => none
 | k + 1, x0, x3 => r01_Number.l0 k x0 x3 (⟨#[]⟩ : ByteArray)
def r01_Number.l0 : Nat → Int → Int → ByteArray → Option (ByteArray)
 | 0, _, _, _ => none
 | k + 1, x0, x3, x4 => (some (([(wrap64 (48 + (wrap64 (-(Int.tmod x3 10))))) % 256] : List Int) : List Int)).bind fun y236 => (if (strOfNums y236).size + x4.size ≤ 9223372036854775807 then (if (wrap64 (Int.tdiv x3 10)) = 0 then (if x0 < 0 then (if 1 + ((strOfNums y236) ++ x4).size ≤ 9223372036854775807 then (some ((⟨#[45]⟩ : ByteArray) ++ ((strOfNums y236) ++ x4))) else (none)) else (some ((strOfNums y236) ++ x4))) else (r01_Number.l0 k x0 (wrap64 (Int.tdiv x3 10)) ((strOfNums y236) ++ x4))) else (none))
end
def r01_Number.f (k : Nat) (a0 : Int) : Option (ByteArray) := if a0 > 0 then (r01_Number.j0 k a0 (wrap64 (-a0))) else (r01_Number.j0 k a0 a0)
theorem r01_Number.mono_l : ∀ k, (∀ y0 y1, LeC (r01_Number.j0 k y0 y1) (r01_Number.j0 (k + 1) y0 y1)) ∧ (∀ y0 y1 y2, LeC (r01_Number.l0 k y0 y1 y2) (r01_Number.l0 (k + 1) y0 y1 y2))
 | 0 => ⟨fun _ _ => ⟨fun r h => by simp [r01_Number.j0] at h⟩, fun _ _ _ => ⟨fun r h => by simp [r01_Number.l0] at h⟩⟩
 | k + 1 => by obtain ⟨ih0, ih1⟩ := r01_Number.mono_l k; exact ⟨fun _ _ => by unfold r01_Number.j0; exact lm, fun _ _ _ => by unfold r01_Number.l0; exact lm⟩
theorem r01_Number.mono : ∀ a0 k, LeO (r01_Number.f k a0) (r01_Number.f (k + 1) a0) := by
 intro a0 k
 obtain ⟨ih0, ih1⟩ := r01_Number.mono_l k
 unfold r01_Number.f
 exact lo
instance r01_Number.mI {a0 k} : LeC (r01_Number.f k a0) (r01_Number.f (k + 1) a0) := ⟨r01_Number.mono _ _⟩
theorem r01_Number.calls (k : Nat) (a0 : Int) (r : ByteArray) (w : World) (h : r01_Number.f k a0 = some r) :
 Calls Tryz.prog 25 #[.int .i64 a0] w fun e w' => e = .returned (.string r) ∧ Below w.heap.size w w' := by
 have HB := Aside0.mk (Below.refl w.heap.size w)
 have H : (if a0 > 0 then (r01_Number.j0 k a0 (wrap64 (-a0))) else (r01_Number.j0 k a0 a0)) = some r := h
 clear h
 have HC2 := Aside0.mk H
 clear H
 go_enter Tryz.func25, Tryz.ntmps25
 go_upto_if 7 with (fail)
 go_cut [3] (fun v3 wc => ∃ (kq : Nat) (x3_1 : Int), v3 = .int .i64 x3_1 ∧ Aside0 (r01_Number.j0 kq a0 x3_1 = some r) ∧ Aside0 (kq ≤ k) ∧ Aside0 (Below w.heap.size w wc))
 case first =>
  have H := HC2.out
  clear HC2
  by_cases c3 : a0 > 0
  ·
   rw [if_pos c3] at H
   have c3b0 : decide (0 < a0) = true := decide_eq_true c3
   clear c3
   (first | rw [c3b0] | (simp only [i64_w, i32_w]; rw [c3b0]) | skip)
   have H' := Aside0.mk H
   clear H
   go_wp2
   go_meet
   case rel => exact ⟨_, (wrap64 (-a0)), rs_, H', ⟨by first | omega | exact Nat.le_refl _⟩, ⟨uW HB.out⟩⟩
  ·
   rw [if_neg c3] at H
   have c3b0 : decide (0 < a0) = false := decide_eq_false c3
   clear c3
   (first | rw [c3b0] | (simp only [i64_w, i32_w]; rw [c3b0]) | skip)
   have H' := Aside0.mk H
   clear H
   go_wp2
   go_meet
   case rel => exact ⟨_, (a0), rs_, H', ⟨by first | omega | exact Nat.le_refl _⟩, ⟨uW HB.out⟩⟩
 case rest =>
  clear HC2
  try clear c2
  try clear p2
  try clear c3
  try clear c3b0
  obtain ⟨kq, x3_1, rfl, HA, HJ1, HB⟩ := hcut
  cases kq with
  | zero => exact absurd HA.out (by simp [r01_Number.j0])
  | succ kj1 =>
   have H := HA.out
   clear HA
   simp only [r01_Number.j0] at H
   have H' := Aside0.mk H
   clear H
   go_wp2
   go_loopg [3, 4] kj1 (fun kq v3 v4 w' => ∃ (x3_2 : Int) (x4_2 : ByteArray), v3 = .int .i64 x3_2 ∧ v4 = .string x4_2 ∧ Aside0 (r01_Number.l0 kq a0 x3_2 x4_2 = some r) ∧ Aside0 (kq ≤ kj1) ∧ Aside0 (Below w.heap.size w w'))
   case atStart => exact ⟨(x3_1), ((⟨#[]⟩ : ByteArray)), rs_, rs_, H', ⟨Nat.le_refl _⟩, ⟨uW HB.out⟩⟩
   case round =>
    clear H'
    try clear c2
    try clear p2
    try clear c3
    try clear c3b0
    try clear p2
    obtain ⟨x3_2, x4_2, rfl, rfl, HA, HK2, HB⟩ := hrel
    cases gk with
    | zero => exact absurd HA.out (by simp [r01_Number.l0])
    | succ k2 =>
     have H := HA.out
     clear HA
     simp only [r01_Number.l0] at H
     obtain ⟨y236, Ny236, H⟩ := ys H
     try dsimp only at H
     by_cases c4 : (strOfNums y236).size + x4_2.size ≤ 9223372036854775807
     ·
      rw [if_pos c4] at H
      have c4b0 := eq_true c4
      have c4b1 : decide ((strOfNums y236).size + x4_2.size ≤ 9223372036854775807) = true := decide_eq_true c4
      try have c4b2 : (9223372036854775807 < (strOfNums y236).size + x4_2.size) = False := eq_false (Nat.not_lt.2 c4)
      by_cases c5 : (wrap64 (Int.tdiv x3_2 10)) = 0
      ·
       rw [if_pos c5] at H
       have c5b0 : ((wrap64 (Int.tdiv x3_2 10)) == 0) = true := beq_iff_eq.mpr c5
       have c5b1 : ((wrap64 (Int.tdiv x3_2 10)) != 0) = false := bne_eq_false_iff_eq.mpr c5
       clear c5
       by_cases c6 : a0 < 0
       ·
        rw [if_pos c6] at H
        have c6b0 : decide (a0 < 0) = true := decide_eq_true c6
        clear c6
        obtain ⟨c7, H⟩ := gd H
        have c7b0 := eq_true c7
        have c7b1 : decide (1 + ((strOfNums y236) ++ x4_2).size ≤ 9223372036854775807) = true := decide_eq_true c7
        try have c7b2 : (9223372036854775807 < 1 + ((strOfNums y236) ++ x4_2).size) = False := eq_false (Nat.not_lt.2 c7)
        try have c7b8 := c7b2
        try simp only [ByteArray.size_append] at c7b8
        obtain rfl := Option.some.inj H
        go_wp2_with (first | ((with_reducible refine gate_dst (N := 15) rfl ?_); refine Kd.R_lit (Kd.int .u8) _ 5 ?hg (N := 15) ?hd (xs := ([(wrap64 (48 + (wrap64 (-(Int.tmod x3_2 10))))) % 256] : List Int)) (inner := [.int .u8 ((wrap64 (48 + (wrap64 (-(Int.tmod x3_2 10))))) % 256)]) (ok := fun _ => True) (okp := fun _ => True) ?hr ?hp (fun _ hk => hk) trivial (Below.refl _ _) (Nat.le_refl _) (by simp) ?_; (case hd => rfl); (case hg => rfl); (case hr => first | (go_simp; done) | (go_simp; rfl)); (case hp => exact (Reps.one (show Kd.M (Kd.int .u8) _ _ _ ((wrap64 (48 + (wrap64 (-(Int.tmod x3_2 10))))) % 256) [.int .u8 ((wrap64 (48 + (wrap64 (-(Int.tmod x3_2 10))))) % 256)] from rfl) (Reps.none _ _))); intro v237 w8 ho9 hb hg_ hnew_; clear hg_ hnew_; (first | rw [← Ny236.out] at ho9 | (simp only [Int.reduceToNat] at ho9; rw [← Ny236.out] at ho9)); have HO238 := Aside0.mk (Kd.R_lower ho9 (below_size (uW HB.out))); replace HB := cW HB hb; clear hb ho9; have hcv10 := own_string (P := Tryz.prog) Tryz.underlying35 Tryz.underlying5 Tryz.underlying9 (Kd.own_of_R HO238.out)))
        go_ret
        exact ⟨re_, uW HB.out⟩
       ·
        rw [if_neg c6] at H
        have c6b0 : decide (a0 < 0) = false := decide_eq_false c6
        clear c6
        obtain rfl := Option.some.inj H
        go_wp2_with (first | ((with_reducible refine gate_dst (N := 15) rfl ?_); refine Kd.R_lit (Kd.int .u8) _ 5 ?hg (N := 15) ?hd (xs := ([(wrap64 (48 + (wrap64 (-(Int.tmod x3_2 10))))) % 256] : List Int)) (inner := [.int .u8 ((wrap64 (48 + (wrap64 (-(Int.tmod x3_2 10))))) % 256)]) (ok := fun _ => True) (okp := fun _ => True) ?hr ?hp (fun _ hk => hk) trivial (Below.refl _ _) (Nat.le_refl _) (by simp) ?_; (case hd => rfl); (case hg => rfl); (case hr => first | (go_simp; done) | (go_simp; rfl)); (case hp => exact (Reps.one (show Kd.M (Kd.int .u8) _ _ _ ((wrap64 (48 + (wrap64 (-(Int.tmod x3_2 10))))) % 256) [.int .u8 ((wrap64 (48 + (wrap64 (-(Int.tmod x3_2 10))))) % 256)] from rfl) (Reps.none _ _))); intro v237 w11 ho12 hb hg_ hnew_; clear hg_ hnew_; (first | rw [← Ny236.out] at ho12 | (simp only [Int.reduceToNat] at ho12; rw [← Ny236.out] at ho12)); have HO238 := Aside0.mk (Kd.R_lower ho12 (below_size (uW HB.out))); replace HB := cW HB hb; clear hb ho12; have hcv13 := own_string (P := Tryz.prog) Tryz.underlying35 Tryz.underlying5 Tryz.underlying9 (Kd.own_of_R HO238.out)))
        go_ret
        exact ⟨re_, uW HB.out⟩
      ·
       rw [if_neg c5] at H
       have c5b0 : ((wrap64 (Int.tdiv x3_2 10)) == 0) = false := beq_eq_false_iff_ne.mpr c5
       have c5b1 : ((wrap64 (Int.tdiv x3_2 10)) != 0) = true := bne_iff_ne.mpr c5
       have H' := Aside0.mk H
       clear H
       go_wp2_with (first | ((with_reducible refine gate_dst (N := 15) rfl ?_); refine Kd.R_lit (Kd.int .u8) _ 5 ?hg (N := 15) ?hd (xs := ([(wrap64 (48 + (wrap64 (-(Int.tmod x3_2 10))))) % 256] : List Int)) (inner := [.int .u8 ((wrap64 (48 + (wrap64 (-(Int.tmod x3_2 10))))) % 256)]) (ok := fun _ => True) (okp := fun _ => True) ?hr ?hp (fun _ hk => hk) trivial (Below.refl _ _) (Nat.le_refl _) (by simp) ?_; (case hd => rfl); (case hg => rfl); (case hr => first | (go_simp; done) | (go_simp; rfl)); (case hp => exact (Reps.one (show Kd.M (Kd.int .u8) _ _ _ ((wrap64 (48 + (wrap64 (-(Int.tmod x3_2 10))))) % 256) [.int .u8 ((wrap64 (48 + (wrap64 (-(Int.tmod x3_2 10))))) % 256)] from rfl) (Reps.none _ _))); intro v237 w14 ho15 hb hg_ hnew_; clear hg_ hnew_; (first | rw [← Ny236.out] at ho15 | (simp only [Int.reduceToNat] at ho15; rw [← Ny236.out] at ho15)); have HO238 := Aside0.mk (Kd.R_lower ho15 (below_size (uW HB.out))); replace HB := cW HB hb; clear hb ho15; have hcv16 := own_string (P := Tryz.prog) Tryz.underlying35 Tryz.underlying5 Tryz.underlying9 (Kd.own_of_R HO238.out)))
       go_roundg k2
       case measure => have := HJ1.out; have := HK2.out; omega
       case rel => exact ⟨(wrap64 (Int.tdiv x3_2 10)), ((strOfNums y236) ++ x4_2), rs_, rs_, H', ⟨by have := HJ1.out; have := HK2.out; omega⟩, ⟨uW HB.out⟩⟩
     ·
      rw [if_neg c4] at H
      exact absurd H (by simp)
def r26_digit.f (a0 : Int) : Option (ByteArray) := if 0 ≤ a0 then (if a0 ≤ (wrap64 (a0 + 1)) then (if (wrap64 (a0 + 1)) ≤ 16 then (some ((⟨#[48, 49, 50, 51, 52, 53, 54, 55, 56, 57, 97, 98, 99, 100, 101, 102]⟩ : ByteArray).extract (a0 : Int).toNat ((wrap64 (a0 + 1)) : Int).toNat)) else (none)) else (none)) else (none)
theorem r26_digit.calls (a0 : Int) (r : ByteArray) (w : World) (h : r26_digit.f a0 = some r) :
 Calls Tryz.prog 41 #[.int .i64 a0] w fun e w' => e = .returned (.string r) ∧ Drawn0 w w' := by
 have H : (if 0 ≤ a0 then (if a0 ≤ (wrap64 (a0 + 1)) then (if (wrap64 (a0 + 1)) ≤ 16 then (some ((⟨#[48, 49, 50, 51, 52, 53, 54, 55, 56, 57, 97, 98, 99, 100, 101, 102]⟩ : ByteArray).extract (a0 : Int).toNat ((wrap64 (a0 + 1)) : Int).toNat)) else (none)) else (none)) else (none)) = some r := h
 clear h
 by_cases c2 : 0 ≤ a0
 ·
  rw [if_pos c2] at H
  have c2b0 := eq_true c2
  have c2b1 : decide (0 ≤ a0) = true := decide_eq_true c2
  clear c2
  obtain ⟨c3, H⟩ := gd H
  have c3b0 := eq_true c3
  have c3b1 : decide (a0 ≤ (wrap64 (a0 + 1))) = true := decide_eq_true c3
  obtain ⟨c4, H⟩ := gd H
  have c4b0 := eq_true c4
  have c4b1 : decide ((wrap64 (a0 + 1)) ≤ 16) = true := decide_eq_true c4
  obtain rfl := Option.some.inj H
  go_enter Tryz.func41, Tryz.ntmps41
  go_wp2
  go_ret
  exact ⟨rs_, dr_⟩
 ·
  rw [if_neg c2] at H
  exact absurd H (by simp)
def r26_data.l0 : Nat → List Int → ByteArray → Int → Option (ByteArray)
 | 0, _, _, _ => none
 | k + 1, x0, x3, x4 => if x4 < (x0.length : Int) then (if 0 ≤ x4 then ((r26_digit.f (wrap64 (Int.tdiv (wrap64 (rd x0 x4)) 16))).bind fun t240 => (if x3.size + t240.size ≤ 9223372036854775807 then ((r26_digit.f (Int.tmod (wrap64 (rd x0 x4)) 16)).bind fun t242 => (if (x3 ++ t240).size + t242.size ≤ 9223372036854775807 then (r26_data.l0 k x0 ((x3 ++ t240) ++ t242) (wrap64 (x4 + 1))) else (none))) else (none))) else (none)) else (some x3)
def r26_data.f (k : Nat) (l0 : List Int) : Option (ByteArray) := if (l0.length : Int) = 0 then (some (⟨#[45]⟩ : ByteArray)) else (r26_data.l0 k l0 (⟨#[]⟩ : ByteArray) 0)
theorem r26_data.mono_l : ∀ k, (∀ y0 y1 y2, LeC (r26_data.l0 k y0 y1 y2) (r26_data.l0 (k + 1) y0 y1 y2))
 | 0 => fun _ _ _ => ⟨fun r h => by simp [r26_data.l0] at h⟩
 | k + 1 => by have ih0 := r26_data.mono_l k; exact fun _ _ _ => by unfold r26_data.l0; exact lm
theorem r26_data.mono : ∀ a0 k, LeO (r26_data.f k a0) (r26_data.f (k + 1) a0) := by
 intro a0 k
 have ih0 := r26_data.mono_l k
 unfold r26_data.f
 exact lo
instance r26_data.mI {a0 k} : LeC (r26_data.f k a0) (r26_data.f (k + 1) a0) := ⟨r26_data.mono _ _⟩
theorem r26_data.calls (k : Nat) (A0 : Option Addr) (c0 : Nat) (l0 : List Int) (r : ByteArray) (w : World) (hr0 : Kd.C (Kd.int .u8) w A0 l0.length l0) (hc0 : l0.length ≤ c0) (h : r26_data.f k l0 = some r) :
 Calls Tryz.prog 26 #[.slice A0 l0.length c0] w fun e w' => e = .returned (.string r) ∧ Drawn0 w w' := by
 have HR0 := Aside0.mk hr0
 have HC0 := Aside0.mk hc0
 clear hr0 hc0
 have H : (if (l0.length : Int) = 0 then (some (⟨#[45]⟩ : ByteArray)) else (r26_data.l0 k l0 (⟨#[]⟩ : ByteArray) 0)) = some r := h
 clear h
 by_cases c2 : (l0.length : Int) = 0
 ·
  rw [if_pos c2] at H
  have c2b0 : ((l0.length : Int) == 0) = true := beq_iff_eq.mpr c2
  have c2b1 : ((l0.length : Int) != 0) = false := bne_eq_false_iff_eq.mpr c2
  clear c2
  obtain rfl := Option.some.inj H
  go_enter Tryz.func26, Tryz.ntmps26
  go_wp2
  repeat (go_quiet (fail); try go_wp2)
  go_ret
  exact ⟨rs_, dr_⟩
 ·
  rw [if_neg c2] at H
  have c2b0 : ((l0.length : Int) == 0) = false := beq_eq_false_iff_ne.mpr c2
  have c2b1 : ((l0.length : Int) != 0) = true := bne_iff_ne.mpr c2
  have c2b2 : ¬ (l0 = []) := fun h_ => c2 (by rw [h_]; rfl)
  have H' := Aside0.mk H
  clear H
  go_enter Tryz.func26, Tryz.ntmps26
  go_wp2
  repeat (go_quiet (fail); try go_wp2)
  go_loopg [3, 4] k (fun kq v3 v4 w' => ∃ (x3_1 : ByteArray) (x4_1 : Int), v3 = .string x3_1 ∧ v4 = .int .i64 x4_1 ∧ Aside0 (r26_data.l0 kq l0 x3_1 x4_1 = some r) ∧ Aside0 (kq ≤ k) ∧ Drawn0 w w')
  case atStart => exact ⟨((⟨#[]⟩ : ByteArray)), (0), rs_, rs_, H', ⟨Nat.le_refl _⟩, dr_⟩
  case round =>
   clear H'
   try clear c2
   try clear c2b0
   try clear c2b1
   try clear c2b2
   try clear p2
   obtain ⟨x3_1, x4_1, rfl, rfl, HA, HK1, ⟨m1, rfl⟩⟩ := hrel
   cases gk with
   | zero => exact absurd HA.out (by simp [r26_data.l0])
   | succ k1 =>
    have H := HA.out
    clear HA
    simp only [r26_data.l0] at H
    by_cases c3 : x4_1 < (l0.length : Int)
    ·
     rw [if_pos c3] at H
     have c3b0 : decide (x4_1 < (l0.length : Int)) = true := decide_eq_true c3
     clear c3
     obtain ⟨c4b0, H⟩ := gdd H
     obtain ⟨t240, A5, H⟩ := bs H
     try dsimp only at H
     obtain ⟨c6, H⟩ := gd H
     have c6b0 := eq_true c6
     have c6b1 : decide (x3_1.size + t240.size ≤ 9223372036854775807) = true := decide_eq_true c6
     try have c6b2 : (9223372036854775807 < x3_1.size + t240.size) = False := eq_false (Nat.not_lt.2 c6)
     obtain ⟨t242, A7, H⟩ := bs H
     try dsimp only at H
     obtain ⟨c8, H⟩ := gd H
     have c8b0 := eq_true c8
     have c8b1 : decide ((x3_1 ++ t240).size + t242.size ≤ 9223372036854775807) = true := decide_eq_true c8
     try have c8b2 : (9223372036854775807 < (x3_1 ++ t240).size + t242.size) = False := eq_false (Nat.not_lt.2 c8)
     try have c8b8 := c8b2
     try simp only [ByteArray.size_append] at c8b8
     have H' := Aside0.mk H
     clear H
     have p239 : 0 ≤ (x4_1 : Int) := od
     have q239 : x4_1 < (l0.length : Int) := od
     obtain ⟨ad239, e239, hx239_0⟩ := Kd.at_int HR0.out x4_1 p239 q239
     cases e239
     replace p239 := eq_true p239
     replace q239 := eq_true q239
     go_wp2_with (first | (go_at_call 41; (with_reducible refine (r26_digit.calls (wrap64 (Int.tdiv (wrap64 (rd l0 x4_1)) 16)) t240 _ A5.out).mono ?_); rintro e w' ⟨rfl, ⟨nd, rfl⟩⟩; (try first | exact ⟨rfl, _, World.drewN_drewN _ _ _⟩ | exact ⟨rfl, _, Eq.trans (World.drewN_drewN _ _ _) (congrArg (World.drewN _) (Nat.add_assoc _ _ _))⟩); (try (have p241 : 0 ≤ (x4_1 : Int) := od; have q241 : x4_1 < (l0.length : Int) := od; obtain ⟨ad241, e241, hx241_0⟩ := Kd.at_int HR0.out x4_1 p241 q241; obtain rfl : ad239 = ad241 := (by injection e241); replace p241 := eq_true p241; replace q241 := eq_true q241))) | (go_at_call 41; (with_reducible refine (r26_digit.calls (Int.tmod (wrap64 (rd l0 x4_1)) 16) t242 _ A7.out).mono ?_); rintro e w' ⟨rfl, ⟨nd, rfl⟩⟩; (try first | exact ⟨rfl, _, World.drewN_drewN _ _ _⟩ | exact ⟨rfl, _, Eq.trans (World.drewN_drewN _ _ _) (congrArg (World.drewN _) (Nat.add_assoc _ _ _))⟩)))
     repeat (go_quiet (first | (go_at_call 41; (with_reducible refine (r26_digit.calls (wrap64 (Int.tdiv (wrap64 (rd l0 x4_1)) 16)) t240 _ A5.out).mono ?_); rintro e w' ⟨rfl, ⟨nd, rfl⟩⟩; (try first | exact ⟨rfl, _, World.drewN_drewN _ _ _⟩ | exact ⟨rfl, _, Eq.trans (World.drewN_drewN _ _ _) (congrArg (World.drewN _) (Nat.add_assoc _ _ _))⟩); (try (have p241 : 0 ≤ (x4_1 : Int) := od; have q241 : x4_1 < (l0.length : Int) := od; obtain ⟨ad241, e241, hx241_0⟩ := Kd.at_int HR0.out x4_1 p241 q241; obtain rfl : ad239 = ad241 := (by injection e241); replace p241 := eq_true p241; replace q241 := eq_true q241))) | (go_at_call 41; (with_reducible refine (r26_digit.calls (Int.tmod (wrap64 (rd l0 x4_1)) 16) t242 _ A7.out).mono ?_); rintro e w' ⟨rfl, ⟨nd, rfl⟩⟩; (try first | exact ⟨rfl, _, World.drewN_drewN _ _ _⟩ | exact ⟨rfl, _, Eq.trans (World.drewN_drewN _ _ _) (congrArg (World.drewN _) (Nat.add_assoc _ _ _))⟩))); try go_wp2_with (first | (go_at_call 41; (with_reducible refine (r26_digit.calls (wrap64 (Int.tdiv (wrap64 (rd l0 x4_1)) 16)) t240 _ A5.out).mono ?_); rintro e w' ⟨rfl, ⟨nd, rfl⟩⟩; (try first | exact ⟨rfl, _, World.drewN_drewN _ _ _⟩ | exact ⟨rfl, _, Eq.trans (World.drewN_drewN _ _ _) (congrArg (World.drewN _) (Nat.add_assoc _ _ _))⟩); (try (have p241 : 0 ≤ (x4_1 : Int) := od; have q241 : x4_1 < (l0.length : Int) := od; obtain ⟨ad241, e241, hx241_0⟩ := Kd.at_int HR0.out x4_1 p241 q241; obtain rfl : ad239 = ad241 := (by injection e241); replace p241 := eq_true p241; replace q241 := eq_true q241))) | (go_at_call 41; (with_reducible refine (r26_digit.calls (Int.tmod (wrap64 (rd l0 x4_1)) 16) t242 _ A7.out).mono ?_); rintro e w' ⟨rfl, ⟨nd, rfl⟩⟩; (try first | exact ⟨rfl, _, World.drewN_drewN _ _ _⟩ | exact ⟨rfl, _, Eq.trans (World.drewN_drewN _ _ _) (congrArg (World.drewN _) (Nat.add_assoc _ _ _))⟩))))
     go_roundg k1
     case measure => have := HK1.out; omega
     case rel => exact ⟨((x3_1 ++ t240) ++ t242), (wrap64 (x4_1 + 1)), rs_, rs_, H', ⟨by have := HK1.out; omega⟩, dr_⟩
    ·
     rw [if_neg c3] at H
     have c3b0 : decide (x4_1 < (l0.length : Int)) = false := decide_eq_false c3
     clear c3
     obtain rfl := Option.some.inj H
     go_wp2
     repeat (go_quiet (fail); try go_wp2)
     go_ret
     exact ⟨rs_, dr_⟩
end Go.Proofs.YtkplklfmhieoaaaGreatDoor.X
