/- Printed by a program of this session's own: what functions of the program compute, and that the machine computes it. No condition of its own. -/
import Derived.Test.YtkplklfmhieoaaaGreatDoorM3
import Derived.Test.YtkplklfmhieoaaaGreatDoorM4
import Derived.Test.YtkplklfmhieoaaaGreatDoorM5
namespace Go.Proofs.YtkplklfmhieoaaaGreatDoor.X
open Go.RowKit Go.Proofs.YtkplklfmhieoaaaGreatDoorW.PrintWords Go.Proofs.YtkplklfmhieoaaaGreatDoorW.PrintLast Go.Proofs.YtkplklfmhieoaaaGreatDoorW.PrintMore
attribute [local go_sem] max2_int min2_int max_two min_two max_three min_three max_four min_four
set_option linter.unusedVariables false
set_option linter.unusedSimpArgs false
set_option maxHeartbeats 8000000
set_option maxRecDepth 100000
def script_event.j0 : Nat → List ByteArray → Int → Bool → Int → Int → ByteArray → Int → Bool → Option (Int × Int × List Int × Int)
 | 0, _, _, _, _, _, _, _, _ => none
 | k + 1, x1, x4, x37, x162000, x162001, x171000, x171001, x171002 => if x37 = true then (some (x162000, x162001, ([] : List Int), 2)) else (if 1 < (x1.length : Int) then ((sat_Read.f (rdOf ByteArray.empty x1 1)).bind fun bt172 => (if bt172.2 = 0 then (if bt172.1 < 0 then (some (x162000, x162001, ([] : List Int), 3)) else (if bt172.1 > x171001 then (some (x162000, x162001, ([] : List Int), 3)) else (if x171002 = true then (if 2 < (x1.length : Int) then ((script_data.f k (rdOf ByteArray.empty x1 2)).bind fun bt175 => (if bt175.2 = true then (some (wrap64 (x4 + 1), bt172.1, bt175.1, 0)) else (some (wrap64 (x4 + 1), bt172.1, bt175.1, 2)))) else (none)) else (some (wrap64 (x4 + 1), bt172.1, ([] : List Int), 0))))) else (some (x162000, x162001, ([] : List Int), bt172.2)))) else (none))
def script_event.f (k : Nat) (l0 : List ByteArray) : Option (Int × Int × List Int × Int) := (script_kinds.f).bind fun t162 => ((script_find.f t162 l0).bind fun t165 => ((script_of.f (wrap64 (t165 + 1))).bind fun bt166 => (if bt166.2.2.2 = true then (if bt166.2.2.1 = true then (if (l0.length : Int) = 3 then (script_event.j0 k l0 t165 false 0 0 bt166.1 bt166.2.1 bt166.2.2.1) else (script_event.j0 k l0 t165 true 0 0 bt166.1 bt166.2.1 bt166.2.2.1)) else (script_event.j0 k l0 t165 ((l0.length : Int) != 2) 0 0 bt166.1 bt166.2.1 bt166.2.2.1)) else (script_event.j0 k l0 t165 true 0 0 bt166.1 bt166.2.1 bt166.2.2.1))))
theorem script_event.mono_l : ∀ k, (∀ y0 y1 y2 y3 y4 y5 y6 y7, LeC (script_event.j0 k y0 y1 y2 y3 y4 y5 y6 y7) (script_event.j0 (k + 1) y0 y1 y2 y3 y4 y5 y6 y7))
 | 0 => fun _ _ _ _ _ _ _ _ => ⟨fun r h => by simp [script_event.j0] at h⟩
 | k + 1 => by have ih0 := script_event.mono_l k; exact fun _ _ _ _ _ _ _ _ => by unfold script_event.j0; exact lm
theorem script_event.mono : ∀ a0 k, LeO (script_event.f k a0) (script_event.f (k + 1) a0) := by
 intro a0 k
 have ih0 := script_event.mono_l k
 unfold script_event.f
 exact lo
instance script_event.mI {a0 k} : LeC (script_event.f k a0) (script_event.f (k + 1) a0) := ⟨script_event.mono _ _⟩
theorem script_event.calls (k : Nat) (A0 : Option Addr) (c0 : Nat) (l0 : List ByteArray) (r1 : Int) (r2 : Int) (r3 : List Int) (r4 : Int) (w : World) (hr0 : Kd.C Kd.string w A0 l0.length l0) (hc0 : l0.length ≤ c0) (hL : LD w) (h : script_event.f k l0 = some (r1, r2, r3, r4)) :
 Calls Tryz.prog 33 #[.slice A0 l0.length c0] w fun e w' => ∃ v2_ : Value, e = .returned (.tuple #[.agg #[.int .i64 r1, .int .i64 r2, v2_], .int .i64 r4]) ∧ Kd.R (Kd.int .u8) 5 w' w.heap.size (fun _ => True) v2_ r3 ∧ Below w.heap.size w w' := by
 have HL0 := Aside0.mk hL
 clear hL
 have hu37 := Tryz.underlying37
 have hu43 := Tryz.underlying43
 have HR0 := Aside0.mk hr0
 have HC0 := Aside0.mk hc0
 clear hr0 hc0
 have HB := Aside0.mk (Below.refl w.heap.size w)
 have H : ((script_kinds.f).bind fun t162 => ((script_find.f t162 l0).bind fun t165 => ((script_of.f (wrap64 (t165 + 1))).bind fun bt166 => (if bt166.2.2.2 = true then (if bt166.2.2.1 = true then (if (l0.length : Int) = 3 then (script_event.j0 k l0 t165 false 0 0 bt166.1 bt166.2.1 bt166.2.2.1) else (script_event.j0 k l0 t165 true 0 0 bt166.1 bt166.2.1 bt166.2.2.1)) else (script_event.j0 k l0 t165 ((l0.length : Int) != 2) 0 0 bt166.1 bt166.2.1 bt166.2.2.1)) else (script_event.j0 k l0 t165 true 0 0 bt166.1 bt166.2.1 bt166.2.2.1))))) = some (r1, r2, r3, r4) := h
 clear h
 obtain ⟨t162, A2, H⟩ := bs H
 try dsimp only at H
 obtain ⟨t165, A3, H⟩ := bs H
 try dsimp only at H
 obtain ⟨⟨t166, t167, t168, t169⟩, A4, H⟩ := bs H
 try dsimp only at H
 have HC5 := Aside0.mk H
 clear H
 go_enter Tryz.func33, Tryz.ntmps33
 go_upto_region 3 with (first | ((with_reducible refine gate_dst (N := 1) rfl ?_); refine bx (N := 1) #[.slice A0 l0.length c0] 47 ?_; intro bL_ hgL wL hboxL hbL; have HB0 := Aside0.mk (below_step HB.out hbL); have hcL : wL.cell? ⟨bL_, 0, none⟩ = some (.slice A0 l0.length c0) := (blk_cell hboxL 0).trans rfl; clear HB hbL hboxL hgL; rename World => w; replace HR0 := Aside0.mk (Kd.C_below HR0.out HB0.out); replace HL0 := Aside0.mk (LD.below HL0.out HB0.out); have HB := Aside0.mk (Below.refl w.heap.size w)) | ((with_reducible refine gate_dst (N := 2) rfl ?_); (try (refine gate_guard (by rfl) ?_; dsimp only)); refine bx (N := 2) #[.int .i64 0, .int .i64 0, .slice none 0 0] 37 ?_; intro gb161 hg w6 hbox hb; have BK161 := Aside0.mk (hbox); have GW161 := gw hg (uW HB.out); have GE161 := GW161; replace HB := cW HB hb; have hcl1_ := kc HB hcL; have hnL161_ : gb161 ≠ bL_ := fun e_ => Nat.not_lt.2 GE161.out (e_ ▸ (show bL_ < w.heap.size from World.block_lt_of_cell? w _ hcL)); have hnM161_ := Ne.symm hnL161_; clear hb hbox hg) | (refine gL (some 8) rfl Tryz.func36 #[] ?_; (with_reducible refine (script_kinds.calls  t162 _ A2.out).mono ?_); rintro e w7 ⟨v163, rfl, ho0, hb⟩; refine ⟨_, rfl, ?_⟩; have HO164 := Aside0.mk (Kd.R_lower ho0 (below_size bl)); replace BK161 := cB BK161 hb; replace HB := Aside0.mk (below_step bl hb); have hcl2_ := kc HB hcL; (try clear hb); (try clear ho0); obtain ⟨Ao8, co8, eo8⟩ := Kd.R_slice HO164.out; subst eo8) | (refine gL (some 10) rfl Tryz.func44 #[.slice Ao8 t162.length co8, .func (.func 45) #[] #[.pointer (some ⟨bL_, 0, none⟩)]] ?_; (with_reducible refine (script_find.calls (B0_ := bL_) _ _ t162 A0 c0 l0 t165 _ ?side1 ?side2 ?side3 ?side4 ?sideL A3.out).mono ?_); (case sideL => first | exact kc HB hcL | assumption); (case side1 => exact uC <| (Kd.R_reads' HO164.out).2.2); (case side2 => exact (Kd.R_reads' HO164.out).2.1); (case side3 => exact uC <| (Kd.C_below HR0.out HB.out)); (case side4 => exact HC0.out); rintro e w9 ⟨rfl, hb⟩; refine ⟨_, rfl, ?_⟩; replace HO164 := cR HO164 hb; replace BK161 := cB BK161 hb; replace HB := Aside0.mk (below_step bl hb); have hcl3_ := kc HB hcL; (try clear hb)) | (refine gL (some 14) rfl Tryz.func16 #[.int .i64 (wrap64 (t165 + 1))] ?_; (with_reducible refine (script_of.calls (wrap64 (t165 + 1)) t166 t167 t168 t169 _ A4.out).mono ?_); rintro e w10 ⟨rfl, hb⟩; refine ⟨_, rfl, ?_⟩; replace HO164 := cR HO164 hb; replace BK161 := cB BK161 hb; replace HB := Aside0.mk (below_step bl hb); have hcl4_ := kc HB hcL; (try clear hb)) | ((with_reducible refine gate_dst (N := 5) rfl ?_); (try (refine gate_guard (by rfl) ?_; dsimp only)); refine bx (N := 5) #[.string (⟨#[]⟩ : ByteArray), .int .i64 0, .bool false] 43 ?_; intro gb170 hg w11 hbox hb; replace HO164 := Aside0.mk (Kd.R_below (Kd.R_elderB (uR HO164.out) gb170 (Nat.le_of_eq hg.symm)) hb); have BK170 := Aside0.mk (hbox); have GW170 := gw hg bl; have GE170 := GW170; replace HB := Aside0.mk (below_step bl hb); have NB161_170 := Aside0.mk ((by rw [hg]; exact Nat.ne_of_lt (blk_lt (g := gb161) (o := .cells #[.int .i64 0, .int .i64 0, .slice none 0 0] 37 (0, 0)) (uB BK161.out)) : gb161 ≠ gb170)); have NB170_161 := Aside0.mk ((by rw [hg]; exact Nat.ne_of_gt (blk_lt (g := gb161) (o := .cells #[.int .i64 0, .int .i64 0, .slice none 0 0] 37 (0, 0)) (uB BK161.out)) : gb170 ≠ gb161)); replace BK161 := cB BK161 hb; have hcl5_ := kc HB hcL; have hnL170_ : gb170 ≠ bL_ := fun e_ => Nat.not_lt.2 GE170.out (e_ ▸ (show bL_ < w.heap.size from World.block_lt_of_cell? w _ hcL)); have hnM170_ := Ne.symm hnL170_; clear hb hbox hg; have hnb12 := NB170_161.out; have hnc12 := NB161_170.out; obtain ⟨hcz13_0, hcz13_1, hcz13_2, hfz13_0, hfz13_1, hfz13_2⟩ := z3 BK170))
 (try simp only [Act.put, List.setIfInBounds_toArray, List.set_cons_zero, List.set_cons_succ])
 go_cut [37] (fun v37 wc => ∃ (kq : Nat) (x37_4 : Bool), v37 = .bool x37_4 ∧ Aside0 (script_event.j0 kq l0 t165 x37_4 0 0 t166 t167 t168 = some (r1, r2, r3, r4)) ∧ Aside0 (kq ≤ k) ∧ Aside0 (wc.heap[gb161]? = some (.cells #[.int .i64 0, .int .i64 0, (.slice none 0 0)] 37 (0, 0))) ∧ Aside0 (wc.heap[gb170]? = some (.cells #[.string t166, .int .i64 t167, .bool t168] 43 (0, 0))) ∧ Aside0 (Below w.heap.size w wc))
 case first =>
  have H := HC5.out
  clear HC5
  by_cases c14 : t169 = true
  ·
   subst c14
   rw [if_pos rfl] at H
   by_cases c15 : t168 = true
   ·
    subst c15
    rw [if_pos rfl] at H
    by_cases c16 : (l0.length : Int) = 3
    ·
     rw [if_pos c16] at H
     have c16b0 : ((l0.length : Int) == 3) = true := beq_iff_eq.mpr c16
     have c16b1 : ((l0.length : Int) != 3) = false := bne_eq_false_iff_eq.mpr c16
     clear c16
     (first | rw [c16b0] | (simp only [i64_w, i32_w]; rw [c16b0]) | skip)
     have H' := Aside0.mk H
     clear H
     have hnb17 := NB170_161.out
     have hnc17 := NB161_170.out
     obtain ⟨hcz18_0, hcz18_1, hcz18_2, hfz18_0, hfz18_1, hfz18_2⟩ := z3 BK170
     go_wp2
     go_meet
     case rel => exact ⟨_, (false), rs_, H', ⟨by first | omega | exact Nat.le_refl _⟩, ⟨by (with_reducible repeat (first | refine blk_drewN ?_ _ | refine blk_drew ?_ | refine blk_alloc ?_ _)); refine blk_far ?_ NB161_170.out _; (with_reducible repeat (first | refine blk_drewN ?_ _ | refine blk_drew ?_ | refine blk_alloc ?_ _)); refine blk_far ?_ NB161_170.out _; (with_reducible repeat (first | refine blk_drewN ?_ _ | refine blk_drew ?_ | refine blk_alloc ?_ _)); refine blk_far ?_ NB161_170.out _; exact uB <| BK161.out⟩, ⟨by (with_reducible repeat (first | refine blk_drewN ?_ _ | refine blk_drew ?_ | refine blk_alloc ?_ _)); refine blk_put (cs := #[.string t166, .int .i64 t167, .bool false]) ?_ 2 _ rfl; (with_reducible repeat (first | refine blk_drewN ?_ _ | refine blk_drew ?_ | refine blk_alloc ?_ _)); refine blk_put (cs := #[.string t166, .int .i64 0, .bool false]) ?_ 1 _ rfl; (with_reducible repeat (first | refine blk_drewN ?_ _ | refine blk_drew ?_ | refine blk_alloc ?_ _)); refine blk_put (cs := #[.string (⟨#[]⟩ : ByteArray), .int .i64 0, .bool false]) ?_ 0 _ rfl; exact uB <| BK170.out⟩, ⟨bl⟩⟩
    ·
     rw [if_neg c16] at H
     have c16b0 : ((l0.length : Int) == 3) = false := beq_eq_false_iff_ne.mpr c16
     have c16b1 : ((l0.length : Int) != 3) = true := bne_iff_ne.mpr c16
     (first | rw [c16b0] | (simp only [i64_w, i32_w]; rw [c16b0]) | skip)
     have H' := Aside0.mk H
     clear H
     have hnb19 := NB170_161.out
     have hnc19 := NB161_170.out
     obtain ⟨hcz20_0, hcz20_1, hcz20_2, hfz20_0, hfz20_1, hfz20_2⟩ := z3 BK170
     go_wp2
     go_meet
     case rel => exact ⟨_, (true), rs_, H', ⟨by first | omega | exact Nat.le_refl _⟩, ⟨by (with_reducible repeat (first | refine blk_drewN ?_ _ | refine blk_drew ?_ | refine blk_alloc ?_ _)); refine blk_far ?_ NB161_170.out _; (with_reducible repeat (first | refine blk_drewN ?_ _ | refine blk_drew ?_ | refine blk_alloc ?_ _)); refine blk_far ?_ NB161_170.out _; (with_reducible repeat (first | refine blk_drewN ?_ _ | refine blk_drew ?_ | refine blk_alloc ?_ _)); refine blk_far ?_ NB161_170.out _; exact uB <| BK161.out⟩, ⟨by (with_reducible repeat (first | refine blk_drewN ?_ _ | refine blk_drew ?_ | refine blk_alloc ?_ _)); refine blk_put (cs := #[.string t166, .int .i64 t167, .bool false]) ?_ 2 _ rfl; (with_reducible repeat (first | refine blk_drewN ?_ _ | refine blk_drew ?_ | refine blk_alloc ?_ _)); refine blk_put (cs := #[.string t166, .int .i64 0, .bool false]) ?_ 1 _ rfl; (with_reducible repeat (first | refine blk_drewN ?_ _ | refine blk_drew ?_ | refine blk_alloc ?_ _)); refine blk_put (cs := #[.string (⟨#[]⟩ : ByteArray), .int .i64 0, .bool false]) ?_ 0 _ rfl; exact uB <| BK170.out⟩, ⟨bl⟩⟩
   ·
    replace c15 := Bool.eq_false_iff.mpr c15
    subst c15
    rw [if_neg (show ¬ (false = true) by decide)] at H
    have H' := Aside0.mk H
    clear H
    have hnb21 := NB170_161.out
    have hnc21 := NB161_170.out
    obtain ⟨hcz22_0, hcz22_1, hcz22_2, hfz22_0, hfz22_1, hfz22_2⟩ := z3 BK170
    go_wp2
    go_meet
    case rel => exact ⟨_, (((l0.length : Int) != 2)), rs_, H', ⟨by first | omega | exact Nat.le_refl _⟩, ⟨by (with_reducible repeat (first | refine blk_drewN ?_ _ | refine blk_drew ?_ | refine blk_alloc ?_ _)); refine blk_far ?_ NB161_170.out _; (with_reducible repeat (first | refine blk_drewN ?_ _ | refine blk_drew ?_ | refine blk_alloc ?_ _)); refine blk_far ?_ NB161_170.out _; (with_reducible repeat (first | refine blk_drewN ?_ _ | refine blk_drew ?_ | refine blk_alloc ?_ _)); refine blk_far ?_ NB161_170.out _; exact uB <| BK161.out⟩, ⟨by (with_reducible repeat (first | refine blk_drewN ?_ _ | refine blk_drew ?_ | refine blk_alloc ?_ _)); refine blk_put (cs := #[.string t166, .int .i64 t167, .bool false]) ?_ 2 _ rfl; (with_reducible repeat (first | refine blk_drewN ?_ _ | refine blk_drew ?_ | refine blk_alloc ?_ _)); refine blk_put (cs := #[.string t166, .int .i64 0, .bool false]) ?_ 1 _ rfl; (with_reducible repeat (first | refine blk_drewN ?_ _ | refine blk_drew ?_ | refine blk_alloc ?_ _)); refine blk_put (cs := #[.string (⟨#[]⟩ : ByteArray), .int .i64 0, .bool false]) ?_ 0 _ rfl; exact uB <| BK170.out⟩, ⟨bl⟩⟩
  ·
   replace c14 := Bool.eq_false_iff.mpr c14
   subst c14
   rw [if_neg (show ¬ (false = true) by decide)] at H
   have H' := Aside0.mk H
   clear H
   go_wp2
   go_meet
   case rel => exact ⟨_, (true), rs_, H', ⟨by first | omega | exact Nat.le_refl _⟩, ⟨by (with_reducible repeat (first | refine blk_drewN ?_ _ | refine blk_drew ?_ | refine blk_alloc ?_ _)); refine blk_far ?_ NB161_170.out _; (with_reducible repeat (first | refine blk_drewN ?_ _ | refine blk_drew ?_ | refine blk_alloc ?_ _)); refine blk_far ?_ NB161_170.out _; (with_reducible repeat (first | refine blk_drewN ?_ _ | refine blk_drew ?_ | refine blk_alloc ?_ _)); refine blk_far ?_ NB161_170.out _; exact uB <| BK161.out⟩, ⟨by (with_reducible repeat (first | refine blk_drewN ?_ _ | refine blk_drew ?_ | refine blk_alloc ?_ _)); refine blk_put (cs := #[.string t166, .int .i64 t167, .bool false]) ?_ 2 _ rfl; (with_reducible repeat (first | refine blk_drewN ?_ _ | refine blk_drew ?_ | refine blk_alloc ?_ _)); refine blk_put (cs := #[.string t166, .int .i64 0, .bool false]) ?_ 1 _ rfl; (with_reducible repeat (first | refine blk_drewN ?_ _ | refine blk_drew ?_ | refine blk_alloc ?_ _)); refine blk_put (cs := #[.string (⟨#[]⟩ : ByteArray), .int .i64 0, .bool false]) ?_ 0 _ rfl; exact uB <| BK170.out⟩, ⟨bl⟩⟩
 case rest =>
  clear HC5
  try clear c1
  try clear c2
  try clear p2
  try clear c3
  try clear p6
  try clear c9
  try clear c12
  try clear c14
  try clear c15
  try clear c16
  try clear c16b0
  try clear c16b1
  try clear c17
  try clear c19
  try clear c21
  try clear hcz13_0
  try clear hcz13_1
  try clear hcz13_2
  try clear hcz18_0
  try clear hcz18_1
  try clear hcz18_2
  try clear hcz20_0
  try clear hcz20_1
  try clear hcz20_2
  try clear hcz22_0
  try clear hcz22_1
  try clear hcz22_2
  try clear hfz13_0
  try clear hfz13_1
  try clear hfz13_2
  try clear hfz18_0
  try clear hfz18_1
  try clear hfz18_2
  try clear hfz20_0
  try clear hfz20_1
  try clear hfz20_2
  try clear hfz22_0
  try clear hfz22_1
  try clear hfz22_2
  obtain ⟨kq, x37_4, rfl, HA, HJ4, BK161, BK170, HB⟩ := hcut
  have hcl6_ := kc HB hcL
  cases kq with
  | zero => exact absurd HA.out (by simp [script_event.j0])
  | succ kj4 =>
   have H := HA.out
   clear HA
   simp only [script_event.j0] at H
   by_cases c23 : x37_4 = true
   ·
    subst c23
    rw [if_pos rfl] at H
    simp only [Option.some.injEq, Prod.mk.injEq] at H
    obtain ⟨rfl, rfl, rfl, rfl⟩ := H
    have hnb24 := NB161_170.out
    have hnc24 := NB170_161.out
    obtain ⟨hcz25_0, hcz25_1, hcz25_2, hfz25_0, hfz25_1, hfz25_2⟩ := z3 BK161
    go_wp2
    refine bodyPost_ret (results_ct rfl _ _ gb161 37 #[.int .i64 0, .int .i64 0, .slice none 0 0] (0, 0) _ rfl (by (with_reducible repeat (first | refine blk_drewN ?_ _ | refine blk_drew ?_ | refine blk_alloc ?_ _)); refine blk_put (cs := #[.int .i64 0, .int .i64 0, .slice none 0 0]) ?_ 2 _ rfl; (with_reducible repeat (first | refine blk_drewN ?_ _ | refine blk_drew ?_ | refine blk_alloc ?_ _)); refine blk_put (cs := #[.int .i64 0, .int .i64 0, .slice none 0 0]) ?_ 1 _ rfl; (with_reducible repeat (first | refine blk_drewN ?_ _ | refine blk_drew ?_ | refine blk_alloc ?_ _)); refine blk_put (cs := #[.int .i64 0, .int .i64 0, .slice none 0 0]) ?_ 0 _ rfl; exact uB <| BK161.out) Tryz.underlying37 rfl (by kernel_rfl)) rfl ?_
    exact ⟨_, re_, nl_, below_step HB0.out bl⟩
   ·
    replace c23 := Bool.eq_false_iff.mpr c23
    subst c23
    rw [if_neg (show ¬ (false = true) by decide)] at H
    by_cases c26 : 1 < (l0.length : Int)
    ·
     rw [if_pos c26] at H
     have c26b0 : decide (1 < (l0.length : Int)) = true := decide_eq_true c26
     have c26b1 : decide (1 < l0.length) = true := decide_eq_true (by omega)
     clear c26
     obtain ⟨⟨t172, t173⟩, A27, H⟩ := bs H
     try dsimp only at H
     by_cases c28 : t173 = 0
     ·
      rw [if_pos c28] at H
      have c28b0 : (t173 == 0) = true := beq_iff_eq.mpr c28
      have c28b1 : (t173 != 0) = false := bne_eq_false_iff_eq.mpr c28
      clear c28
      by_cases c29 : t172 < 0
      ·
       rw [if_pos c29] at H
       have c29b0 : decide (t172 < 0) = true := decide_eq_true c29
       clear c29
       simp only [Option.some.injEq, Prod.mk.injEq] at H
       obtain ⟨rfl, rfl, rfl, rfl⟩ := H
       have p171 : 0 ≤ (1 : Int) := (by omega)
       have q171 : 1 < (l0.length : Int) := od
       obtain ⟨ad171, e171, hx171_0⟩ := Kd.at_string HR0.out 1 p171 q171
       cases e171
       (try simp only [show (1 : Int).toNat = 1 from rfl, Nat.reduceMul, Nat.reduceEqDiff, Go.Addr.add, ↓reduceIte] at hx171_0)
       have qi171 : (1 < l0.length) = True := eq_true (by omega)
       (try rw [show ((1 : Int)).toNat = 1 from rfl] at hx171_0)
       replace hx171_0 := kc HB hx171_0
       replace p171 := eq_true p171
       replace q171 := eq_true q171
       go_wp2_with (first | (refine gL (some 43) rfl Tryz.func46 #[.string (rdOf ByteArray.empty l0 1)] ?_; (with_reducible refine (sat_Read.calls (hL := ld) (rdOf ByteArray.empty l0 1) t172 t173 _ A27.out).mono ?_); rintro e w30 ⟨rfl, hb⟩; refine ⟨_, rfl, ?_⟩; replace BK161 := cB BK161 hb; replace BK170 := cB BK170 hb; replace HB := Aside0.mk (below_step bl hb); have hcl7_ := kc HB hcL; (try clear hb); have hnb31 := NB161_170.out; have hnc31 := NB170_161.out; obtain ⟨hcz32_0, hcz32_1, hcz32_2, hfz32_0, hfz32_1, hfz32_2⟩ := z3 BK161))
       refine bodyPost_ret (results_ct rfl _ _ gb161 37 #[.int .i64 0, .int .i64 0, .slice none 0 0] (0, 0) _ rfl (by (with_reducible repeat (first | refine blk_drewN ?_ _ | refine blk_drew ?_ | refine blk_alloc ?_ _)); refine blk_put (cs := #[.int .i64 0, .int .i64 0, .slice none 0 0]) ?_ 2 _ rfl; (with_reducible repeat (first | refine blk_drewN ?_ _ | refine blk_drew ?_ | refine blk_alloc ?_ _)); refine blk_put (cs := #[.int .i64 0, .int .i64 0, .slice none 0 0]) ?_ 1 _ rfl; (with_reducible repeat (first | refine blk_drewN ?_ _ | refine blk_drew ?_ | refine blk_alloc ?_ _)); refine blk_put (cs := #[.int .i64 0, .int .i64 0, .slice none 0 0]) ?_ 0 _ rfl; exact uB <| BK161.out) Tryz.underlying37 rfl (by kernel_rfl)) rfl ?_
       exact ⟨_, re_, nl_, below_step HB0.out bl⟩
      ·
       rw [if_neg c29] at H
       have c29b0 : decide (t172 < 0) = false := decide_eq_false c29
       clear c29
       by_cases c33 : t172 > t167
       ·
        rw [if_pos c33] at H
        have c33b0 : decide (t167 < t172) = true := decide_eq_true c33
        clear c33
        simp only [Option.some.injEq, Prod.mk.injEq] at H
        obtain ⟨rfl, rfl, rfl, rfl⟩ := H
        have p171 : 0 ≤ (1 : Int) := (by omega)
        have q171 : 1 < (l0.length : Int) := od
        obtain ⟨ad171, e171, hx171_0⟩ := Kd.at_string HR0.out 1 p171 q171
        cases e171
        (try simp only [show (1 : Int).toNat = 1 from rfl, Nat.reduceMul, Nat.reduceEqDiff, Go.Addr.add, ↓reduceIte] at hx171_0)
        have qi171 : (1 < l0.length) = True := eq_true (by omega)
        (try rw [show ((1 : Int)).toNat = 1 from rfl] at hx171_0)
        replace hx171_0 := kc HB hx171_0
        replace p171 := eq_true p171
        replace q171 := eq_true q171
        go_wp2_with (first | (refine gL (some 43) rfl Tryz.func46 #[.string (rdOf ByteArray.empty l0 1)] ?_; (with_reducible refine (sat_Read.calls (hL := ld) (rdOf ByteArray.empty l0 1) t172 t173 _ A27.out).mono ?_); rintro e w34 ⟨rfl, hb⟩; refine ⟨_, rfl, ?_⟩; replace BK161 := cB BK161 hb; replace BK170 := cB BK170 hb; replace HB := Aside0.mk (below_step bl hb); have hcl8_ := kc HB hcL; (try clear hb); have hnb35 := NB170_161.out; have hnc35 := NB161_170.out; obtain ⟨hcz36_0, hcz36_1, hcz36_2, hfz36_0, hfz36_1, hfz36_2⟩ := z3 BK170; obtain ⟨hcz37_0, hcz37_1, hcz37_2, hfz37_0, hfz37_1, hfz37_2⟩ := z3 BK161))
        refine bodyPost_ret (results_ct rfl _ _ gb161 37 #[.int .i64 0, .int .i64 0, .slice none 0 0] (0, 0) _ rfl (by (with_reducible repeat (first | refine blk_drewN ?_ _ | refine blk_drew ?_ | refine blk_alloc ?_ _)); refine blk_put (cs := #[.int .i64 0, .int .i64 0, .slice none 0 0]) ?_ 2 _ rfl; (with_reducible repeat (first | refine blk_drewN ?_ _ | refine blk_drew ?_ | refine blk_alloc ?_ _)); refine blk_put (cs := #[.int .i64 0, .int .i64 0, .slice none 0 0]) ?_ 1 _ rfl; (with_reducible repeat (first | refine blk_drewN ?_ _ | refine blk_drew ?_ | refine blk_alloc ?_ _)); refine blk_put (cs := #[.int .i64 0, .int .i64 0, .slice none 0 0]) ?_ 0 _ rfl; exact uB <| BK161.out) Tryz.underlying37 rfl (by kernel_rfl)) rfl ?_
        exact ⟨_, re_, nl_, below_step HB0.out bl⟩
       ·
        rw [if_neg c33] at H
        have c33b0 : decide (t167 < t172) = false := decide_eq_false c33
        clear c33
        by_cases c38 : t168 = true
        ·
         subst c38
         rw [if_pos rfl] at H
         obtain ⟨c39, H⟩ := gd H
         have c39b0 : decide (2 < (l0.length : Int)) = true := decide_eq_true c39
         have c39b1 : decide (2 < l0.length) = true := decide_eq_true (by omega)
         clear c39
         obtain ⟨⟨t175, t176⟩, A40, H⟩ := bs H
         try dsimp only at H
         by_cases c41 : t176 = true
         ·
          subst c41
          rw [if_pos rfl] at H
          simp only [Option.some.injEq, Prod.mk.injEq] at H
          obtain ⟨rfl, rfl, rfl, rfl⟩ := H
          have p171 : 0 ≤ (1 : Int) := (by omega)
          have q171 : 1 < (l0.length : Int) := od
          obtain ⟨ad171, e171, hx171_0⟩ := Kd.at_string HR0.out 1 p171 q171
          cases e171
          (try simp only [show (1 : Int).toNat = 1 from rfl, Nat.reduceMul, Nat.reduceEqDiff, Go.Addr.add, ↓reduceIte] at hx171_0)
          have qi171 : (1 < l0.length) = True := eq_true (by omega)
          (try rw [show ((1 : Int)).toNat = 1 from rfl] at hx171_0)
          replace hx171_0 := kc HB hx171_0
          replace p171 := eq_true p171
          replace q171 := eq_true q171
          go_wp2_with (first | (refine gL (some 43) rfl Tryz.func46 #[.string (rdOf ByteArray.empty l0 1)] ?_; (with_reducible refine (sat_Read.calls (hL := ld) (rdOf ByteArray.empty l0 1) t172 t173 _ A27.out).mono ?_); rintro e w42 ⟨rfl, hb⟩; refine ⟨_, rfl, ?_⟩; replace BK161 := cB BK161 hb; replace BK170 := cB BK170 hb; replace HB := Aside0.mk (below_step bl hb); have hcl9_ := kc HB hcL; (try clear hb); have hnb43 := NB170_161.out; have hnc43 := NB161_170.out; obtain ⟨hcz44_0, hcz44_1, hcz44_2, hfz44_0, hfz44_1, hfz44_2⟩ := z3 BK170; obtain ⟨hcz45_0, hcz45_1, hcz45_2, hfz45_0, hfz45_1, hfz45_2⟩ := z3 BK161; have p174 : 0 ≤ (2 : Int) := (by omega); have q174 : 2 < (l0.length : Int) := od; obtain ⟨ad174, e174, hx174_0⟩ := Kd.at_string HR0.out 2 p174 q174; obtain rfl : ad171 = ad174 := (by injection e174); (try simp only [show (2 : Int).toNat = 2 from rfl, Nat.reduceMul, Nat.reduceEqDiff, Go.Addr.add, ↓reduceIte] at hx174_0); have qi174 : (2 < l0.length) = True := eq_true (by omega); (try rw [show ((2 : Int)).toNat = 2 from rfl] at hx174_0); have hn174_0 : ad171.block ≠ gb161 := Nat.ne_of_lt (Nat.lt_of_lt_of_le (by have := World.block_lt_of_cell? _ _ hx174_0; first | rwa [add_block] at this | exact this) GW161.out); have hn174_1 : ad171.block ≠ gb161 := Nat.ne_of_lt (Nat.lt_of_lt_of_le (by have := World.block_lt_of_cell? _ _ hx174_0; first | rwa [add_block] at this | exact this) GW161.out); replace hx174_0 := kc HB hx174_0; replace hx174_0 := (cell_far (p := ⟨gb161, 0, none⟩) (by first | (rw [add_block]; exact hn174_0) | (show (Addr.add _ _).block ≠ _; rw [add_block]; exact hn174_0) | exact hn174_0) (.int .i64 (wrap64 (t165 + 1)))).trans hx174_0; replace hx174_0 := (cell_far (p := ⟨gb161, 1, none⟩) (by first | (rw [add_block]; exact hn174_1) | (show (Addr.add _ _).block ≠ _; rw [add_block]; exact hn174_1) | exact hn174_1) (.int .i64 t172)).trans hx174_0; clear hn174_0; clear hn174_1; replace p174 := eq_true p174; replace q174 := eq_true q174) | (refine gL (some 72) rfl Tryz.func47 #[.string (rdOf ByteArray.empty l0 2)] ?_; (with_reducible refine (script_data.calls kj4 (rdOf ByteArray.empty l0 2) t175 true _ A40.out).mono ?_); rintro e w46 ⟨v177, rfl, ho0, hb⟩; refine ⟨_, rfl, ?_⟩; have HO178 := Aside0.mk (Kd.R_lower ho0 (below_size bl)); replace BK161 := Aside0.mk (blk_below (g := gb161) (o := .cells #[.int .i64 (wrap64 (t165 + 1)), .int .i64 t172, .slice none 0 0] 37 (0, 0)) (by (with_reducible repeat (first | refine blk_drewN ?_ _ | refine blk_drew ?_ | refine blk_alloc ?_ _)); refine blk_put (cs := #[.int .i64 (wrap64 (t165 + 1)), .int .i64 0, .slice none 0 0]) ?_ 1 _ rfl; (with_reducible repeat (first | refine blk_drewN ?_ _ | refine blk_drew ?_ | refine blk_alloc ?_ _)); refine blk_put (cs := #[.int .i64 0, .int .i64 0, .slice none 0 0]) ?_ 0 _ rfl; exact uB <| BK161.out) hb); replace BK170 := Aside0.mk (blk_below (g := gb170) (o := .cells #[.string t166, .int .i64 t167, .bool true] 43 (0, 0)) (by (with_reducible repeat (first | refine blk_drewN ?_ _ | refine blk_drew ?_ | refine blk_alloc ?_ _)); refine blk_far ?_ NB170_161.out _; (with_reducible repeat (first | refine blk_drewN ?_ _ | refine blk_drew ?_ | refine blk_alloc ?_ _)); refine blk_far ?_ NB170_161.out _; exact uB <| BK170.out) hb); replace HB := Aside0.mk (below_step bl hb); have hcl10_ := kc HB hcL; (try clear hb); (try clear ho0); obtain ⟨Ao47, co47, eo47⟩ := Kd.R_slice HO178.out; subst eo47; obtain ⟨hcz48_0, hcz48_1, hcz48_2, hfz48_0, hfz48_1, hfz48_2⟩ := z3 BK161))
          refine bodyPost_ret (results_ct rfl _ _ gb161 37 #[.int .i64 (wrap64 (t165 + 1)), .int .i64 t172, .slice Ao47 t175.length co47] (0, 0) _ rfl (by (with_reducible repeat (first | refine blk_drewN ?_ _ | refine blk_drew ?_ | refine blk_alloc ?_ _)); refine blk_put (cs := #[.int .i64 (wrap64 (t165 + 1)), .int .i64 t172, .slice Ao47 t175.length co47]) ?_ 2 _ rfl; (with_reducible repeat (first | refine blk_drewN ?_ _ | refine blk_drew ?_ | refine blk_alloc ?_ _)); refine blk_put (cs := #[.int .i64 (wrap64 (t165 + 1)), .int .i64 t172, .slice Ao47 t175.length co47]) ?_ 1 _ rfl; (with_reducible repeat (first | refine blk_drewN ?_ _ | refine blk_drew ?_ | refine blk_alloc ?_ _)); refine blk_put (cs := #[.int .i64 (wrap64 (t165 + 1)), .int .i64 t172, .slice Ao47 t175.length co47]) ?_ 0 _ rfl; (with_reducible repeat (first | refine blk_drewN ?_ _ | refine blk_drew ?_ | refine blk_alloc ?_ _)); refine blk_put (cs := #[.int .i64 (wrap64 (t165 + 1)), .int .i64 t172, .slice none 0 0]) ?_ 2 _ rfl; exact uB <| BK161.out) Tryz.underlying37 rfl (by kernel_rfl)) rfl ?_
          exact ⟨_, re_, Kd.R_lower (by exact uR <| Kd.R_mono (Kd.R_far (p := ⟨gb161, 2, none⟩) (Kd.R_far (p := ⟨gb161, 1, none⟩) (Kd.R_far (p := ⟨gb161, 0, none⟩) (Kd.R_far (p := ⟨gb161, 2, none⟩) (Kd.R_types HO178.out BK161.out (by decide)) (fun _ hk => hk.2) (.slice Ao47 t175.length co47)) (fun _ hk => hk.2) (.int .i64 (wrap64 (t165 + 1)))) (fun _ hk => hk.2) (.int .i64 t172)) (fun _ hk => hk.2) (.slice Ao47 t175.length co47)) (fun _ hk => trivial)) (below_size HB0.out), below_step HB0.out bl⟩
         ·
          replace c41 := Bool.eq_false_iff.mpr c41
          subst c41
          rw [if_neg (show ¬ (false = true) by decide)] at H
          simp only [Option.some.injEq, Prod.mk.injEq] at H
          obtain ⟨rfl, rfl, rfl, rfl⟩ := H
          have p171 : 0 ≤ (1 : Int) := (by omega)
          have q171 : 1 < (l0.length : Int) := od
          obtain ⟨ad171, e171, hx171_0⟩ := Kd.at_string HR0.out 1 p171 q171
          cases e171
          (try simp only [show (1 : Int).toNat = 1 from rfl, Nat.reduceMul, Nat.reduceEqDiff, Go.Addr.add, ↓reduceIte] at hx171_0)
          have qi171 : (1 < l0.length) = True := eq_true (by omega)
          (try rw [show ((1 : Int)).toNat = 1 from rfl] at hx171_0)
          replace hx171_0 := kc HB hx171_0
          replace p171 := eq_true p171
          replace q171 := eq_true q171
          go_wp2_with (first | (refine gL (some 43) rfl Tryz.func46 #[.string (rdOf ByteArray.empty l0 1)] ?_; (with_reducible refine (sat_Read.calls (hL := ld) (rdOf ByteArray.empty l0 1) t172 t173 _ A27.out).mono ?_); rintro e w49 ⟨rfl, hb⟩; refine ⟨_, rfl, ?_⟩; replace BK161 := cB BK161 hb; replace BK170 := cB BK170 hb; replace HB := Aside0.mk (below_step bl hb); have hcl11_ := kc HB hcL; (try clear hb); have hnb50 := NB170_161.out; have hnc50 := NB161_170.out; obtain ⟨hcz51_0, hcz51_1, hcz51_2, hfz51_0, hfz51_1, hfz51_2⟩ := z3 BK170; obtain ⟨hcz52_0, hcz52_1, hcz52_2, hfz52_0, hfz52_1, hfz52_2⟩ := z3 BK161; have p174 : 0 ≤ (2 : Int) := (by omega); have q174 : 2 < (l0.length : Int) := od; obtain ⟨ad174, e174, hx174_0⟩ := Kd.at_string HR0.out 2 p174 q174; obtain rfl : ad171 = ad174 := (by injection e174); (try simp only [show (2 : Int).toNat = 2 from rfl, Nat.reduceMul, Nat.reduceEqDiff, Go.Addr.add, ↓reduceIte] at hx174_0); have qi174 : (2 < l0.length) = True := eq_true (by omega); (try rw [show ((2 : Int)).toNat = 2 from rfl] at hx174_0); have hn174_0 : ad171.block ≠ gb161 := Nat.ne_of_lt (Nat.lt_of_lt_of_le (by have := World.block_lt_of_cell? _ _ hx174_0; first | rwa [add_block] at this | exact this) GW161.out); have hn174_1 : ad171.block ≠ gb161 := Nat.ne_of_lt (Nat.lt_of_lt_of_le (by have := World.block_lt_of_cell? _ _ hx174_0; first | rwa [add_block] at this | exact this) GW161.out); replace hx174_0 := kc HB hx174_0; replace hx174_0 := (cell_far (p := ⟨gb161, 0, none⟩) (by first | (rw [add_block]; exact hn174_0) | (show (Addr.add _ _).block ≠ _; rw [add_block]; exact hn174_0) | exact hn174_0) (.int .i64 (wrap64 (t165 + 1)))).trans hx174_0; replace hx174_0 := (cell_far (p := ⟨gb161, 1, none⟩) (by first | (rw [add_block]; exact hn174_1) | (show (Addr.add _ _).block ≠ _; rw [add_block]; exact hn174_1) | exact hn174_1) (.int .i64 t172)).trans hx174_0; clear hn174_0; clear hn174_1; replace p174 := eq_true p174; replace q174 := eq_true q174) | (refine gL (some 72) rfl Tryz.func47 #[.string (rdOf ByteArray.empty l0 2)] ?_; (with_reducible refine (script_data.calls kj4 (rdOf ByteArray.empty l0 2) t175 false _ A40.out).mono ?_); rintro e w53 ⟨v177, rfl, ho0, hb⟩; refine ⟨_, rfl, ?_⟩; have HO178 := Aside0.mk (Kd.R_lower ho0 (below_size bl)); replace BK161 := Aside0.mk (blk_below (g := gb161) (o := .cells #[.int .i64 (wrap64 (t165 + 1)), .int .i64 t172, .slice none 0 0] 37 (0, 0)) (by (with_reducible repeat (first | refine blk_drewN ?_ _ | refine blk_drew ?_ | refine blk_alloc ?_ _)); refine blk_put (cs := #[.int .i64 (wrap64 (t165 + 1)), .int .i64 0, .slice none 0 0]) ?_ 1 _ rfl; (with_reducible repeat (first | refine blk_drewN ?_ _ | refine blk_drew ?_ | refine blk_alloc ?_ _)); refine blk_put (cs := #[.int .i64 0, .int .i64 0, .slice none 0 0]) ?_ 0 _ rfl; exact uB <| BK161.out) hb); replace BK170 := Aside0.mk (blk_below (g := gb170) (o := .cells #[.string t166, .int .i64 t167, .bool true] 43 (0, 0)) (by (with_reducible repeat (first | refine blk_drewN ?_ _ | refine blk_drew ?_ | refine blk_alloc ?_ _)); refine blk_far ?_ NB170_161.out _; (with_reducible repeat (first | refine blk_drewN ?_ _ | refine blk_drew ?_ | refine blk_alloc ?_ _)); refine blk_far ?_ NB170_161.out _; exact uB <| BK170.out) hb); replace HB := Aside0.mk (below_step bl hb); have hcl12_ := kc HB hcL; (try clear hb); (try clear ho0); obtain ⟨Ao54, co54, eo54⟩ := Kd.R_slice HO178.out; subst eo54; obtain ⟨hcz55_0, hcz55_1, hcz55_2, hfz55_0, hfz55_1, hfz55_2⟩ := z3 BK161))
          refine bodyPost_ret (results_ct rfl _ _ gb161 37 #[.int .i64 (wrap64 (t165 + 1)), .int .i64 t172, .slice Ao54 t175.length co54] (0, 0) _ rfl (by (with_reducible repeat (first | refine blk_drewN ?_ _ | refine blk_drew ?_ | refine blk_alloc ?_ _)); refine blk_put (cs := #[.int .i64 (wrap64 (t165 + 1)), .int .i64 t172, .slice Ao54 t175.length co54]) ?_ 2 _ rfl; (with_reducible repeat (first | refine blk_drewN ?_ _ | refine blk_drew ?_ | refine blk_alloc ?_ _)); refine blk_put (cs := #[.int .i64 (wrap64 (t165 + 1)), .int .i64 t172, .slice Ao54 t175.length co54]) ?_ 1 _ rfl; (with_reducible repeat (first | refine blk_drewN ?_ _ | refine blk_drew ?_ | refine blk_alloc ?_ _)); refine blk_put (cs := #[.int .i64 (wrap64 (t165 + 1)), .int .i64 t172, .slice Ao54 t175.length co54]) ?_ 0 _ rfl; (with_reducible repeat (first | refine blk_drewN ?_ _ | refine blk_drew ?_ | refine blk_alloc ?_ _)); refine blk_put (cs := #[.int .i64 (wrap64 (t165 + 1)), .int .i64 t172, .slice none 0 0]) ?_ 2 _ rfl; exact uB <| BK161.out) Tryz.underlying37 rfl (by kernel_rfl)) rfl ?_
          exact ⟨_, re_, Kd.R_lower (by exact uR <| Kd.R_mono (Kd.R_far (p := ⟨gb161, 2, none⟩) (Kd.R_far (p := ⟨gb161, 1, none⟩) (Kd.R_far (p := ⟨gb161, 0, none⟩) (Kd.R_far (p := ⟨gb161, 2, none⟩) (Kd.R_types HO178.out BK161.out (by decide)) (fun _ hk => hk.2) (.slice Ao54 t175.length co54)) (fun _ hk => hk.2) (.int .i64 (wrap64 (t165 + 1)))) (fun _ hk => hk.2) (.int .i64 t172)) (fun _ hk => hk.2) (.slice Ao54 t175.length co54)) (fun _ hk => trivial)) (below_size HB0.out), below_step HB0.out bl⟩
        ·
         replace c38 := Bool.eq_false_iff.mpr c38
         subst c38
         rw [if_neg (show ¬ (false = true) by decide)] at H
         simp only [Option.some.injEq, Prod.mk.injEq] at H
         obtain ⟨rfl, rfl, rfl, rfl⟩ := H
         have p171 : 0 ≤ (1 : Int) := (by omega)
         have q171 : 1 < (l0.length : Int) := od
         obtain ⟨ad171, e171, hx171_0⟩ := Kd.at_string HR0.out 1 p171 q171
         cases e171
         (try simp only [show (1 : Int).toNat = 1 from rfl, Nat.reduceMul, Nat.reduceEqDiff, Go.Addr.add, ↓reduceIte] at hx171_0)
         have qi171 : (1 < l0.length) = True := eq_true (by omega)
         (try rw [show ((1 : Int)).toNat = 1 from rfl] at hx171_0)
         replace hx171_0 := kc HB hx171_0
         replace p171 := eq_true p171
         replace q171 := eq_true q171
         go_wp2_with (first | (refine gL (some 43) rfl Tryz.func46 #[.string (rdOf ByteArray.empty l0 1)] ?_; (with_reducible refine (sat_Read.calls (hL := ld) (rdOf ByteArray.empty l0 1) t172 t173 _ A27.out).mono ?_); rintro e w56 ⟨rfl, hb⟩; refine ⟨_, rfl, ?_⟩; replace BK161 := cB BK161 hb; replace BK170 := cB BK170 hb; replace HB := Aside0.mk (below_step bl hb); have hcl13_ := kc HB hcL; (try clear hb); have hnb57 := NB170_161.out; have hnc57 := NB161_170.out; obtain ⟨hcz58_0, hcz58_1, hcz58_2, hfz58_0, hfz58_1, hfz58_2⟩ := z3 BK170; obtain ⟨hcz59_0, hcz59_1, hcz59_2, hfz59_0, hfz59_1, hfz59_2⟩ := z3 BK161) | ((with_reducible refine gate_store (t := 37) (p := 2) rfl ?_); refine store_event (t := 37) (p := 2) (v := ?vo_w60) (w1 := (((((w56.setCell ⟨gb161, 0, none⟩ (.int .i64 (wrap64 (t165 + 1)))).setCell ⟨gb161, 1, none⟩ (.int .i64 t172)).setCell ⟨gb161, 0, none⟩ (.int .i64 (wrap64 (t165 + 1)))).setCell ⟨gb161, 1, none⟩ (.int .i64 t172)).setCell ⟨gb161, 2, none⟩ (.slice none 0 0))) ?hg ?ho ?hn ?hr ?_; (case ho => rfl); (case hg => rfl); (case hn => rfl); (case hr => first | (go_simp; done) | (go_simp; rfl)); intro w60 hw; have n0_ : Aside0 (w60.heap[gb161]? = some (.cells #[.int .i64 (wrap64 (t165 + 1)), .int .i64 t172, .slice none 0 0] 37 (0, 0))) := ⟨(by rw [hw]; exact (by (with_reducible repeat (first | refine blk_drewN ?_ _ | refine blk_drew ?_ | refine blk_alloc ?_ _)); refine blk_put (cs := #[.int .i64 (wrap64 (t165 + 1)), .int .i64 t172, .slice none 0 0]) ?_ 2 _ rfl; (with_reducible repeat (first | refine blk_drewN ?_ _ | refine blk_drew ?_ | refine blk_alloc ?_ _)); refine blk_put (cs := #[.int .i64 (wrap64 (t165 + 1)), .int .i64 t172, .slice none 0 0]) ?_ 1 _ rfl; (with_reducible repeat (first | refine blk_drewN ?_ _ | refine blk_drew ?_ | refine blk_alloc ?_ _)); refine blk_put (cs := #[.int .i64 (wrap64 (t165 + 1)), .int .i64 t172, .slice none 0 0]) ?_ 0 _ rfl; (with_reducible repeat (first | refine blk_drewN ?_ _ | refine blk_drew ?_ | refine blk_alloc ?_ _)); refine blk_put (cs := #[.int .i64 (wrap64 (t165 + 1)), .int .i64 0, .slice none 0 0]) ?_ 1 _ rfl; (with_reducible repeat (first | refine blk_drewN ?_ _ | refine blk_drew ?_ | refine blk_alloc ?_ _)); refine blk_put (cs := #[.int .i64 0, .int .i64 0, .slice none 0 0]) ?_ 0 _ rfl; exact uB <| BK161.out))⟩; have n1_ : Aside0 (w60.heap[gb170]? = some (.cells #[.string t166, .int .i64 t167, .bool false] 43 (0, 0))) := ⟨(by rw [hw]; exact (by (with_reducible repeat (first | refine blk_drewN ?_ _ | refine blk_drew ?_ | refine blk_alloc ?_ _)); refine blk_far ?_ NB170_161.out _; (with_reducible repeat (first | refine blk_drewN ?_ _ | refine blk_drew ?_ | refine blk_alloc ?_ _)); refine blk_far ?_ NB170_161.out _; (with_reducible repeat (first | refine blk_drewN ?_ _ | refine blk_drew ?_ | refine blk_alloc ?_ _)); refine blk_far ?_ NB170_161.out _; (with_reducible repeat (first | refine blk_drewN ?_ _ | refine blk_drew ?_ | refine blk_alloc ?_ _)); refine blk_far ?_ NB170_161.out _; (with_reducible repeat (first | refine blk_drewN ?_ _ | refine blk_drew ?_ | refine blk_alloc ?_ _)); refine blk_far ?_ NB170_161.out _; exact uB <| BK170.out))⟩; have n2_ : Aside0 (Below w.heap.size w w60) := ⟨(by rw [hw]; exact bl)⟩; clear hw; clear BK161; clear BK170; clear HB; have BK161 := n0_; have BK170 := n1_; have HB := n2_; clear n0_ n1_ n2_; have hcl14_ := kc HB hcL))
         refine bodyPost_ret (results_ct rfl _ _ gb161 37 #[.int .i64 (wrap64 (t165 + 1)), .int .i64 t172, .slice none 0 0] (0, 0) _ rfl (uB BK161.out) Tryz.underlying37 rfl (by kernel_rfl)) rfl ?_
         exact ⟨_, re_, nl_, below_step HB0.out bl⟩
     ·
      rw [if_neg c28] at H
      have c28b0 : (t173 == 0) = false := beq_eq_false_iff_ne.mpr c28
      have c28b1 : (t173 != 0) = true := bne_iff_ne.mpr c28
      simp only [Option.some.injEq, Prod.mk.injEq] at H
      obtain ⟨rfl, rfl, rfl, rfl⟩ := H
      have p171 : 0 ≤ (1 : Int) := (by omega)
      have q171 : 1 < (l0.length : Int) := od
      obtain ⟨ad171, e171, hx171_0⟩ := Kd.at_string HR0.out 1 p171 q171
      cases e171
      (try simp only [show (1 : Int).toNat = 1 from rfl, Nat.reduceMul, Nat.reduceEqDiff, Go.Addr.add, ↓reduceIte] at hx171_0)
      have qi171 : (1 < l0.length) = True := eq_true (by omega)
      (try rw [show ((1 : Int)).toNat = 1 from rfl] at hx171_0)
      replace hx171_0 := kc HB hx171_0
      replace p171 := eq_true p171
      replace q171 := eq_true q171
      go_wp2_with (first | (refine gL (some 43) rfl Tryz.func46 #[.string (rdOf ByteArray.empty l0 1)] ?_; (with_reducible refine (sat_Read.calls (hL := ld) (rdOf ByteArray.empty l0 1) t172 t173 _ A27.out).mono ?_); rintro e w61 ⟨rfl, hb⟩; refine ⟨_, rfl, ?_⟩; replace BK161 := cB BK161 hb; replace BK170 := cB BK170 hb; replace HB := Aside0.mk (below_step bl hb); have hcl15_ := kc HB hcL; (try clear hb); have hnb62 := NB161_170.out; have hnc62 := NB170_161.out; obtain ⟨hcz63_0, hcz63_1, hcz63_2, hfz63_0, hfz63_1, hfz63_2⟩ := z3 BK161))
      refine bodyPost_ret (results_ct rfl _ _ gb161 37 #[.int .i64 0, .int .i64 0, .slice none 0 0] (0, 0) _ rfl (by (with_reducible repeat (first | refine blk_drewN ?_ _ | refine blk_drew ?_ | refine blk_alloc ?_ _)); refine blk_put (cs := #[.int .i64 0, .int .i64 0, .slice none 0 0]) ?_ 2 _ rfl; (with_reducible repeat (first | refine blk_drewN ?_ _ | refine blk_drew ?_ | refine blk_alloc ?_ _)); refine blk_put (cs := #[.int .i64 0, .int .i64 0, .slice none 0 0]) ?_ 1 _ rfl; (with_reducible repeat (first | refine blk_drewN ?_ _ | refine blk_drew ?_ | refine blk_alloc ?_ _)); refine blk_put (cs := #[.int .i64 0, .int .i64 0, .slice none 0 0]) ?_ 0 _ rfl; exact uB <| BK161.out) Tryz.underlying37 rfl (by kernel_rfl)) rfl ?_
      exact ⟨_, re_, nl_, below_step HB0.out bl⟩
    ·
     rw [if_neg c26] at H
     exact absurd H (by simp)
def word_Split.l0 : Nat → ByteArray → Int → List ByteArray → Option (List ByteArray)
 | 0, _, _, _ => none
 | k + 1, x0, x1, x4 => (strings_IndexByte.f x0 x1).bind fun t179 => (if t179 < 0 then (if x4.length < 8796093022208 then (some (x4 ++ [x0])) else (none)) else (if 0 ≤ t179 then (if t179 ≤ (x0.size : Int) then (if x4.length < 8796093022208 then (if 0 ≤ (wrap64 (t179 + 1)) then (if (wrap64 (t179 + 1)) ≤ (x0.size : Int) then (word_Split.l0 k (x0.extract ((wrap64 (t179 + 1)) : Int).toNat x0.size) x1 (x4 ++ [x0.extract 0 (t179 : Int).toNat])) else (none)) else (none)) else (none)) else (none)) else (none)))
def word_Split.f (k : Nat) (a0 : ByteArray) (a1 : Int) : Option (List ByteArray) := word_Split.l0 k a0 a1 ([] : List ByteArray)
theorem word_Split.mono_l : ∀ k, (∀ y0 y1 y2, LeC (word_Split.l0 k y0 y1 y2) (word_Split.l0 (k + 1) y0 y1 y2))
 | 0 => fun _ _ _ => ⟨fun r h => by simp [word_Split.l0] at h⟩
 | k + 1 => by have ih0 := word_Split.mono_l k; exact fun _ _ _ => by unfold word_Split.l0; exact lm
theorem word_Split.mono : ∀ a0 a1 k, LeO (word_Split.f k a0 a1) (word_Split.f (k + 1) a0 a1) := by
 intro a0 a1 k
 have ih0 := word_Split.mono_l k
 unfold word_Split.f
 exact lo
instance word_Split.mI {a0 a1 k} : LeC (word_Split.f k a0 a1) (word_Split.f (k + 1) a0 a1) := ⟨word_Split.mono _ _ _⟩
def word_Split.T4 : Bool × List (List Nat × List Nat) := (true, [([], []), ([], []), ([], []), ([1, 2], [1, 2]), ([3], [3]), ([0, 4], [0, 4]), ([], []), ([], []), ([7], [7]), ([6, 8], [6, 8]), ([5, 5, 0, 1, 2, 3, 4, 5], [0, 5]), ([9, 10, 0, 1, 2, 3, 4, 5, 6, 7, 8, 9, 10], [1, 6, 9])])
def word_Split.B4 : List Nat := [0, 0, 0, 6, 14, 31, 0, 0, 128, 448, 63, 2047]
theorem word_Split.tab4 : rtab .any (opsOf Tryz.f34 4) = word_Split.T4 := by kernel_rfl
theorem word_Split.bits4 : waitsOk word_Split.T4.2 word_Split.B4 = true := by kernel_rfl
theorem word_Split.calls (k : Nat) (a0 : ByteArray) (a1 : Int) (r : List ByteArray) (w : World) (h : word_Split.f k a0 a1 = some r) :
 Calls Tryz.prog 34 #[.string a0, .int .u8 a1] w fun e w' => ∃ v0_ : Value, e = .returned (v0_) ∧ Kd.R Kd.string 9 w' w.heap.size (fun _ => True) v0_ r ∧ Below w.heap.size w w' := by
 have HB := Aside0.mk (Below.refl w.heap.size w)
 have H : (word_Split.l0 k a0 a1 ([] : List ByteArray)) = some r := h
 clear h
 have H' := Aside0.mk H
 clear H
 go_enter Tryz.func34, Tryz.ntmps34
 go_wp2
 go_loopg [0, 4] k (fun kq v0 v4 w' => ∃ (x0_1 : ByteArray) (x4_1 : List ByteArray), v0 = .string x0_1 ∧ Aside0 (word_Split.l0 kq x0_1 a1 x4_1 = some r) ∧ Aside0 (kq ≤ k) ∧ Aside0 (Kd.R Kd.string 9 w' w.heap.size (fun _ => True) v4 x4_1) ∧ Aside0 (Below w.heap.size w w'))
 case atStart => exact ⟨(a0), (([] : List ByteArray)), rs_, H', ⟨Nat.le_refl _⟩, ⟨nl_⟩, ⟨uW HB.out⟩⟩
 case round =>
  clear H'
  try clear p2
  obtain ⟨x0_1, x4_1, rfl, HA, HK1, HO_4, HB⟩ := hrel
  cases gk with
  | zero => exact absurd HA.out (by simp [word_Split.l0])
  | succ k1 =>
   have H := HA.out
   clear HA
   simp only [word_Split.l0] at H
   obtain ⟨t179, A3, H⟩ := bs H
   try dsimp only at H
   by_cases c4 : t179 < 0
   ·
    rw [if_pos c4] at H
    have c4b0 : decide (t179 < 0) = true := decide_eq_true c4
    clear c4
    obtain ⟨c5, H⟩ := gd H
    have LMc5 := Aside0.mk c5
    clear c5
    obtain ⟨y180, hy180⟩ : ∃ y_ : List ByteArray, y_ = (x4_1 ++ [x0_1]) := ⟨_, rfl⟩
    replace H : (some y180) = some r := by first | (rw [hy180]; with_reducible exact H) | (have H2_ := (Option.bind_some _ _).symm.trans H; rw [hy180]; with_reducible exact H2_) | (have H2_ := (Option.bind_some _ _).symm.trans H; with_reducible exact H2_) | with_reducible exact H | (rw [hy180]; exact H) | exact H
    have Ny180 := Aside0.mk hy180
    clear hy180
    obtain rfl := Option.some.inj H
    go_wp2_with (first | (refine gL (some 8) rfl Tryz.func48 #[.string x0_1, .int .u8 a1] ?_; (with_reducible refine (strings_IndexByte.calls x0_1 a1 t179 _ A3.out).mono ?_); rintro e w' ⟨rfl, ⟨nd, rfl⟩⟩; refine ⟨_, rfl, ?_⟩) | ((with_reducible refine gate_builtin (b := .append) (xs := #[.tmp 11, .tmp 13]) rfl ?_); at_builtin; refine Kd.R_append Kd.string (w0 := w) w.heap.size rfl (.tmp 11) (.tmp 13) 47 9 (.string ⟨#[]⟩) 16 rfl Tryz.underlying47 info9 rfl (by decide) (by omega) u4 x4_1 x0_1 [.string x0_1] (fun _ => True) (fun _ => False) rfl rfl ?aP (fun _ hk => hk.elim) ?aF ?aO ?aB ?aS ?aL ?_; (case aP => exact rfl); (case aB => exact (uW HB.out)); (case aF => exact (fun _ _ => trivial)); (case aO => exact (uR HO_4.out)); (case aS => exact (below_size (uW HB.out))); (case aL => have := LMc5.out; omega); intro v181 w6 ho hb hg hat; rw [← Ny180.out] at ho; replace HB := Aside0.mk (hb); have HO182 := Aside0.mk (ho); clear HO_4; clear ho hb hg hat))
    go_ret
    exact ⟨_, re_, uR HO182.out, uW HB.out⟩
   ·
    rw [if_neg c4] at H
    have c4b0 : decide (t179 < 0) = false := decide_eq_false c4
    clear c4
    by_cases c7 : 0 ≤ t179
    ·
     rw [if_pos c7] at H
     have c7b0 := eq_true c7
     have c7b1 : decide (0 ≤ t179) = true := decide_eq_true c7
     clear c7
     obtain ⟨c8, H⟩ := gd H
     have c8b0 := eq_true c8
     have c8b1 : decide (t179 ≤ (x0_1.size : Int)) = true := decide_eq_true c8
     clear c8
     obtain ⟨c9, H⟩ := gd H
     have LMc9 := Aside0.mk c9
     clear c9
     obtain ⟨y183, hy183⟩ : ∃ y_ : List ByteArray, y_ = (x4_1 ++ [x0_1.extract 0 (t179 : Int).toNat]) := ⟨_, rfl⟩
     replace H : (if 0 ≤ (wrap64 (t179 + 1)) then (if (wrap64 (t179 + 1)) ≤ (x0_1.size : Int) then (word_Split.l0 k1 (x0_1.extract ((wrap64 (t179 + 1)) : Int).toNat x0_1.size) a1 y183) else (none)) else (none)) = some r := by first | (rw [hy183]; with_reducible exact H) | (have H2_ := (Option.bind_some _ _).symm.trans H; rw [hy183]; with_reducible exact H2_) | (have H2_ := (Option.bind_some _ _).symm.trans H; with_reducible exact H2_) | with_reducible exact H | (rw [hy183]; exact H) | exact H
     have Ny183 := Aside0.mk hy183
     clear hy183
     obtain ⟨ji10, hji10⟩ : ∃ j_ : Int, (wrap64 (t179 + 1)) = j_ := ⟨_, rfl⟩
     (first | rw [hji10] at H | simp only [hji10] at H)
     (try rw [hji10] at A3)
     have hji10w : (IntKind.i64.wrap (t179 + 1)) = ji10 := (i64_w _).trans hji10
     obtain ⟨c11, H⟩ := gd H
     have c11b0 := eq_true c11
     have c11b1 : decide (0 ≤ (ji10)) = true := decide_eq_true c11
     clear c11
     obtain ⟨c12, H⟩ := gd H
     have c12b0 := eq_true c12
     have c12b1 : decide ((ji10) ≤ (x0_1.size : Int)) = true := decide_eq_true c12
     clear c12
     have H' := Aside0.mk H
     clear H
     try go_wp2_with (first | (refine gL (some 8) rfl Tryz.func48 #[.string x0_1, .int .u8 a1] ?_; (with_reducible refine (strings_IndexByte.calls x0_1 a1 t179 _ A3.out).mono ?_); rintro e w' ⟨rfl, ⟨nd, rfl⟩⟩; refine ⟨_, rfl, ?_⟩))
     (try (rw [drewN_self wr]; generalize hq_ : World.drewN wr _ = wr; have n0_ : Aside0 (Kd.R Kd.string 9 wr w.heap.size (fun _ => True) u4 x4_1) := ⟨by rw [← hq_]; exact (uR HO_4.out)⟩; have n1_ : Aside0 (Below w.heap.size w wr) := ⟨by rw [← hq_]; exact (uW HB.out)⟩; clear HO_4 HB hq_; have HO_4 := n0_; have HB := n1_; clear n0_ n1_))
     replace HO_4 := Aside0.mk (Kd.R_drew HO_4.out)
     replace HB := Aside0.mk (below_drew1 HB.out)
     refine start_ (n := 12) (S := fun w' => True) (ds := []) _ (by kernel_rfl) rfl rfl trivial (fun hHeld => ?_); refine with_tabW word_Split.tab4 word_Split.bits4 (fun HT_ HW_ => ?_)
     generalize wr.drew = w13 at HO_4 HB hHeld ⊢
     refine p1 0 (some 15) ?_
     refine p1 1 (some 16) ?_
     refine p1 2 (some 17) ?_
     refine p1 3 (some 18) ?_
     refine p1 6 (some 21) ?_
     refine p1 7 (some 22) ?_
     refine p1 8 (some 23) ?_
     refine p1 9 (some 24) ?_
     refine o1 4 (some 19) rfl rfl (fun K hK => ?_)
     refine value_ (w1 := ?_) (v := ?_) (by rfl) rfl ?_ ?_
     rotate_left 2
     ·
      go_simp
      constructor
      ·
       rfl
      ·
       rfl
     refine hK.out _ _ trivial (fun hHeld => ?_)
     clear hK K
     refine norm_ (a' := ?_) ?_ ?_
     rotate_left
     ·
      show Act.put _ (some 19) _ = _
      simp only [Act.put, List.setIfInBounds_toArray, List.set_cons_zero, List.set_cons_succ, i64_w, i32_w]
      rfl
     refine o1 5 (some 20) rfl rfl (fun K hK => ?_)
     refine Kd.R_append_step Kd.string (w0 := w) w.heap.size (by rfl) (.tmp 15) (.tmp 19) 47 9 (.string ⟨#[]⟩) 16 rfl Tryz.underlying47 info9 rfl (by decide) (by omega) u4 x4_1 (x0_1.extract 0 (t179 : Int).toNat) [.string (x0_1.extract 0 (t179 : Int).toNat)] (fun _ => True) (fun _ => False) rfl rfl ?aP (fun _ hk => hk.elim) ?aF ?aO ?aB ?aS ?aL ?_
     (case aP => exact rfl)
     (case aB => exact (uW HB.out))
     (case aF => exact (fun _ _ => trivial))
     (case aO => exact (uR HO_4.out))
     (case aS => exact (below_size (uW HB.out)))
     (case aL => have := LMc9.out; omega)
     intro v184 w14 ho hb hg hat
     rw [← Ny183.out] at ho
     replace HB := Aside0.mk (hb)
     have HO185 := Aside0.mk (ho)
     clear HO_4
     clear ho hb hg hat
     refine hK.out _ _ trivial (fun hHeld => ?_)
     clear hK K
     refine norm_ (a' := ?_) ?_ ?_
     rotate_left
     ·
      show Act.put _ (some 20) _ = _
      simp only [Act.put, List.setIfInBounds_toArray, List.set_cons_zero, List.set_cons_succ, i64_w, i32_w]
      rfl
     refine p1 10 (some 4) ?_
     refine p1 11 (some 0) ?_
     refine done_ (done_of HT_.out (by kernel_rfl)) ?_
     try go_wp2
     go_roundg k1
     case measure => have := HK1.out; omega
     case rel => exact ⟨(x0_1.extract ((ji10) : Int).toNat x0_1.size), (y183), (by first | rfl | (simp; done) | (simp only [← hji10] <;> (first | rfl | simp)) | (simp [*]; done)), H', ⟨by have := HK1.out; omega⟩, ⟨uR HO185.out⟩, ⟨uW HB.out⟩⟩
    ·
     rw [if_neg c7] at H
     exact absurd H (by simp)
def script_Parse.l0 : Nat → ByteArray → List (S37) → Option ((List (S37)) × Int × Int)
 | 0, _, _ => none
 | k + 1, x0, x2 => if x0.toList = ([] : List UInt8) then (some (x2, 0, 0)) else (if (wrap64 ((x2.length : Int) + 1)) > 2000 then (some (([] : List (S37)), wrap64 ((x2.length : Int) + 1), 4)) else ((strings_Cut.f x0 (⟨#[10]⟩ : ByteArray)).bind fun bt186 => (if bt186.2.2 = true then ((word_Split.f k bt186.1 32).bind fun t189 => ((script_event.f k t189).bind fun bt192 => (if bt192.2.2.2 = 0 then (if x2.length < 3518437208883 then (script_Parse.l0 k bt186.2.1 (x2 ++ [(⟨bt192.1, bt192.2.1, bt192.2.2.1⟩ : S37)])) else (none)) else (some (([] : List (S37)), wrap64 ((x2.length : Int) + 1), bt192.2.2.2))))) else (some (([] : List (S37)), wrap64 ((x2.length : Int) + 1), 2)))))
def script_Parse.f (k : Nat) (a0 : ByteArray) : Option ((List (S37)) × Int × Int) := script_Parse.l0 k a0 ([] : List (S37))
theorem script_Parse.mono_l : ∀ k, (∀ y0 y1, LeC (script_Parse.l0 k y0 y1) (script_Parse.l0 (k + 1) y0 y1))
 | 0 => fun _ _ => ⟨fun r h => by simp [script_Parse.l0] at h⟩
 | k + 1 => by have ih0 := script_Parse.mono_l k; exact fun _ _ => by unfold script_Parse.l0; exact lm
theorem script_Parse.mono : ∀ a0 k, LeO (script_Parse.f k a0) (script_Parse.f (k + 1) a0) := by
 intro a0 k
 have ih0 := script_Parse.mono_l k
 unfold script_Parse.f
 exact lo
instance script_Parse.mI {a0 k} : LeC (script_Parse.f k a0) (script_Parse.f (k + 1) a0) := ⟨script_Parse.mono _ _⟩
theorem script_Parse.calls (k : Nat) (a0 : ByteArray) (r1 : List (S37)) (r2 : Int) (r3 : Int) (w : World) (hL : LD w) (h : script_Parse.f k a0 = some (r1, r2, r3)) :
 Calls Tryz.prog 13 #[.string a0] w fun e w' => ∃ v0_ : Value, e = .returned (.tuple #[v0_, .int .i64 r2, .int .i64 r3]) ∧ Kd.S k37 37 w' w.heap.size (fun _ => True) v0_ r1 ∧ Below w.heap.size w w' := by
 have HL0 := Aside0.mk hL
 clear hL
 have hu37 := Tryz.underlying37
 have HB := Aside0.mk (Below.refl w.heap.size w)
 have H : (script_Parse.l0 k a0 ([] : List (S37))) = some (r1, r2, r3) := h
 clear h
 have H' := Aside0.mk H
 clear H
 go_enter Tryz.func13, Tryz.ntmps13
 go_wp2
 go_loopg [0, 2] k (fun kq v0 v2 w' => ∃ (x0_1 : ByteArray) (x2_1 : List (S37)), v0 = .string x0_1 ∧ Aside0 (script_Parse.l0 kq x0_1 x2_1 = some (r1, r2, r3)) ∧ Aside0 (kq ≤ k) ∧ Aside0 (Kd.S k37 37 w' w.heap.size (fun _ => True) v2 x2_1) ∧ Aside0 (Below w.heap.size w w'))
 case atStart => exact ⟨(a0), (([] : List (S37))), rs_, H', ⟨Nat.le_refl _⟩, ⟨by first | exact Kd.S_nil _ _ _ _ _ | exact Kd.N_nil _ _ _ _ _ | exact Kd.V_nil _ _ _ _ _ | exact Kd.Q_nil _ _ _ _ _ | exact Kd.R_nil _ _ _ _ _⟩, ⟨uW HB.out⟩⟩
 case round =>
  clear H'
  try clear c1
  obtain ⟨x0_1, x2_1, rfl, HA, HK1, HO_2, HB⟩ := hrel
  cases gk with
  | zero => exact absurd HA.out (by simp [script_Parse.l0])
  | succ k1 =>
   have H := HA.out
   clear HA
   simp only [script_Parse.l0] at H
   by_cases c2 : x0_1.toList = ([] : List UInt8)
   ·
    rw [if_pos c2] at H
    have c2b0 : (x0_1.toList == ([] : List UInt8)) = true := beq_iff_eq.mpr c2
    have c2b1 : (x0_1.toList != ([] : List UInt8)) = false := bne_eq_false_iff_eq.mpr c2
    clear c2
    simp only [Option.some.injEq, Prod.mk.injEq] at H
    obtain ⟨rfl, rfl, rfl⟩ := H
    go_wp2
    go_ret3
    exact ⟨_, re_, uS HO_2.out, uW HB.out⟩
   ·
    rw [if_neg c2] at H
    have c2b0 : (x0_1.toList == ([] : List UInt8)) = false := beq_eq_false_iff_ne.mpr c2
    have c2b1 : (x0_1.toList != ([] : List UInt8)) = true := bne_iff_ne.mpr c2
    by_cases c3 : (wrap64 ((x2_1.length : Int) + 1)) > 2000
    ·
     rw [if_pos c3] at H
     have c3b0 : decide (2000 < (wrap64 ((x2_1.length : Int) + 1))) = true := decide_eq_true c3
     clear c3
     simp only [Option.some.injEq, Prod.mk.injEq] at H
     obtain ⟨rfl, rfl, rfl⟩ := H
     obtain ⟨Ao4, co4, eo4⟩ := Kd.S_slice HO_2.out
     subst eo4
     go_wp2
     go_ret3
     exact ⟨_, re_, by first | exact Kd.S_nil _ _ _ _ _ | exact Kd.N_nil _ _ _ _ _ | exact Kd.V_nil _ _ _ _ _ | exact Kd.Q_nil _ _ _ _ _ | exact Kd.R_nil _ _ _ _ _, uW HB.out⟩
    ·
     rw [if_neg c3] at H
     have c3b0 : decide (2000 < (wrap64 ((x2_1.length : Int) + 1))) = false := decide_eq_false c3
     clear c3
     obtain ⟨⟨t186, t187, t188⟩, A5, H⟩ := bs H
     try dsimp only at H
     by_cases c6 : t188 = true
     ·
      subst c6
      rw [if_pos rfl] at H
      obtain ⟨t189, A7, H⟩ := bs H
      try dsimp only at H
      obtain ⟨⟨t192, t193, t194, t197⟩, A8, H⟩ := bs H
      try dsimp only at H
      by_cases c9 : t197 = 0
      ·
       rw [if_pos c9] at H
       have c9b0 : (t197 == 0) = true := beq_iff_eq.mpr c9
       have c9b1 : (t197 != 0) = false := bne_eq_false_iff_eq.mpr c9
       clear c9
       obtain ⟨c10, H⟩ := gd H
       have LMc10 := Aside0.mk c10
       clear c10
       obtain ⟨y199, hy199⟩ : ∃ y_ : List (S37), y_ = (x2_1 ++ [(⟨t192, t193, t194⟩ : S37)]) := ⟨_, rfl⟩
       replace H : (script_Parse.l0 k1 t187 y199) = some (r1, r2, r3) := by first | (rw [hy199]; with_reducible exact H) | (have H2_ := (Option.bind_some _ _).symm.trans H; rw [hy199]; with_reducible exact H2_) | (have H2_ := (Option.bind_some _ _).symm.trans H; with_reducible exact H2_) | with_reducible exact H | (rw [hy199]; exact H) | exact H
       have Ny199 := Aside0.mk hy199
       clear hy199
       have H' := Aside0.mk H
       clear H
       obtain ⟨Ao11, co11, eo11⟩ := Kd.S_slice HO_2.out
       subst eo11
       go_wp2_with (first | (refine gL (some 20) rfl Tryz.func32 #[.string x0_1, .string (⟨#[10]⟩ : ByteArray)] ?_; (with_reducible refine (strings_Cut.calls (hL := ld) x0_1 (⟨#[10]⟩ : ByteArray) t186 t187 true _ A5.out).mono ?_); rintro e w' ⟨rfl, ⟨nd, rfl⟩⟩; refine ⟨_, rfl, ?_⟩; (try (rw [drewN_self wr]; generalize hq_ : World.drewN wr _ = wr; have n0_ : Aside0 (Kd.S k37 37 wr w.heap.size (fun _ => True) (.slice Ao11 x2_1.length co11) x2_1) := ⟨by rw [← hq_]; exact (uS HO_2.out)⟩; have n1_ : Aside0 (Below w.heap.size w wr) := ⟨by rw [← hq_]; exact (uW HB.out)⟩; clear HO_2 HB hq_; have HO_2 := n0_; have HB := n1_; clear n0_ n1_))) | (refine gL (some 29) rfl Tryz.func34 #[.string t186, .int .u8 32] ?_; (with_reducible refine (word_Split.calls k1 t186 32 t189 _ A7.out).mono ?_); rintro e w12 ⟨v190, rfl, ho0, hb⟩; refine ⟨_, rfl, ?_⟩; replace HO_2 := cS HO_2 hb; have HO191 := Aside0.mk (Kd.R_lower ho0 (below_size (uW HB.out))); replace HB := cW HB hb; (try clear hb); (try clear ho0); obtain ⟨Ao13, co13, eo13⟩ := Kd.R_slice HO191.out; subst eo13) | (refine gL (some 30) rfl Tryz.func33 #[.slice Ao13 t189.length co13] ?_; (with_reducible refine (script_event.calls (hL := ld) k1 _ _ t189 t192 t193 t194 t197 _ ?side1 ?side2 A8.out).mono ?_); (case side1 => exact uC <| (Kd.R_reads' HO191.out).2.2); (case side2 => exact (Kd.R_reads' HO191.out).2.1); rintro e w14 ⟨v195, rfl, ho0, hb⟩; refine ⟨_, rfl, ?_⟩; replace HO_2 := Aside0.mk (Kd.S_elder' (uS HO_2.out) (Kd.R_base ho0) hb); replace HO191 := cR HO191 hb; have HO196 := Aside0.mk (Kd.R_lower ho0 (below_size (uW HB.out))); replace HB := cW HB hb; (try clear hb); (try clear ho0)) | ((with_reducible refine gate_dst (N := 8) rfl ?_); refine bx (N := 8) #[.int .i64 0, .int .i64 0, .slice none 0 0] 37 ?_; intro gb198 hg w15 hbox hb; replace HO_2 := Aside0.mk (Kd.S_below (Kd.S_elderB (uS HO_2.out) gb198 (Nat.le_of_eq hg.symm)) hb); replace HO191 := cR HO191 hb; replace HO196 := cR HO196 hb; have BK198 := Aside0.mk (hbox); have GW198 := gw hg (uW HB.out); have GE198 := GW198; replace HB := cW HB hb; clear hb hbox hg; obtain ⟨hcz16_0, hcz16_1, hcz16_2, hfz16_0, hfz16_1, hfz16_2⟩ := z3 BK198; obtain ⟨Ao17, co17, eo17⟩ := Kd.R_slice HO196.out; subst eo17) | ((with_reducible refine gate_store (t := 37) (p := 8) rfl ?_); refine store_event (t := 37) (p := 8) (v := ?vo_w18) (w1 := (((w15.setCell ⟨gb198, 0, none⟩ (.int .i64 t192)).setCell ⟨gb198, 1, none⟩ (.int .i64 t193)).setCell ⟨gb198, 2, none⟩ (.slice Ao17 t194.length co17))) ?hg ?ho ?hn ?hr ?_; (case ho => rfl); (case hg => rfl); (case hn => rfl); (case hr => first | (go_simp; done) | (go_simp; rfl)); intro w18 hw; have n0_ : Aside0 (Kd.S k37 37 w18 w.heap.size (fun k_ => some k_ ≠ (.slice Ao17 t194.length co17 : Value).ownBlock ∧ k_ ≠ gb198) (.slice Ao11 x2_1.length co11) x2_1) := ⟨(by rw [hw]; exact (by exact uS <| Kd.S_mono (Kd.S_far (p := ⟨gb198, 2, none⟩) (Kd.S_far (p := ⟨gb198, 1, none⟩) (Kd.S_far (p := ⟨gb198, 0, none⟩) (Kd.S_mono HO_2.out (fun k_ hk => (⟨hk, hk.2⟩ : _ ∧ k_ ≠ gb198))) (fun _ hk => hk.2) (.int .i64 t192)) (fun _ hk => hk.2) (.int .i64 t193)) (fun _ hk => hk.2) (.slice Ao17 t194.length co17)) (fun _ hk => ⟨hk.1.1.2, hk.1.2⟩)))⟩; have n1_ : Aside0 (Kd.R Kd.string 9 w18 w.heap.size (fun _ => True) (.slice Ao13 t189.length co13) t189) := ⟨(by rw [hw]; exact (by exact uR <| Kd.R_mono (Kd.R_far (p := ⟨gb198, 2, none⟩) (Kd.R_far (p := ⟨gb198, 1, none⟩) (Kd.R_far (p := ⟨gb198, 0, none⟩) (Kd.R_types HO191.out BK198.out (by decide)) (fun _ hk => hk.2) (.int .i64 t192)) (fun _ hk => hk.2) (.int .i64 t193)) (fun _ hk => hk.2) (.slice Ao17 t194.length co17)) (fun _ hk => trivial)))⟩; have n2_ : Aside0 (Kd.R (Kd.int .u8) 5 w18 w.heap.size (fun _ => True) (.slice Ao17 t194.length co17) t194) := ⟨(by rw [hw]; exact (by exact uR <| Kd.R_mono (Kd.R_far (p := ⟨gb198, 2, none⟩) (Kd.R_far (p := ⟨gb198, 1, none⟩) (Kd.R_far (p := ⟨gb198, 0, none⟩) (Kd.R_types HO196.out BK198.out (by decide)) (fun _ hk => hk.2) (.int .i64 t192)) (fun _ hk => hk.2) (.int .i64 t193)) (fun _ hk => hk.2) (.slice Ao17 t194.length co17)) (fun _ hk => trivial)))⟩; have n3_ : Aside0 (w18.heap[gb198]? = some (.cells #[.int .i64 t192, .int .i64 t193, .slice Ao17 t194.length co17] 37 (0, 0))) := ⟨(by rw [hw]; exact (by (with_reducible repeat (first | refine blk_drewN ?_ _ | refine blk_drew ?_ | refine blk_alloc ?_ _)); refine blk_put (cs := #[.int .i64 t192, .int .i64 t193, .slice none 0 0]) ?_ 2 _ rfl; (with_reducible repeat (first | refine blk_drewN ?_ _ | refine blk_drew ?_ | refine blk_alloc ?_ _)); refine blk_put (cs := #[.int .i64 t192, .int .i64 0, .slice none 0 0]) ?_ 1 _ rfl; (with_reducible repeat (first | refine blk_drewN ?_ _ | refine blk_drew ?_ | refine blk_alloc ?_ _)); refine blk_put (cs := #[.int .i64 0, .int .i64 0, .slice none 0 0]) ?_ 0 _ rfl; exact uB <| BK198.out))⟩; have n4_ : Aside0 (Below w.heap.size w w18) := ⟨(by rw [hw]; exact bl)⟩; clear hw; clear HO_2; clear HO191; clear HO196; clear BK198; clear HB; have HO_2 := n0_; have HO191 := n1_; have HO196 := n2_; have BK198 := n3_; have HB := n4_; clear n0_ n1_ n2_ n3_ n4_; obtain ⟨hcz19_0, hcz19_1, hcz19_2, hfz19_0, hfz19_1, hfz19_2⟩ := z3 BK198) | ((with_reducible refine gate_builtin (b := .append) (xs := #[.tmp 37, .tmp 39]) rfl ?_); at_builtin; refine Kd.S_append k37 (w0 := w) w.heap.size rfl (.tmp 37) (.tmp 39) 22 37 (.agg #[(.int .i64 0), (.int .i64 0), (.slice none 0 0)]) 40 rfl Tryz.underlying22 info37 rfl (by decide) (by omega) (.slice Ao11 x2_1.length co11) x2_1 (⟨t192, t193, t194⟩ : S37) [.int .i64 t192, .int .i64 t193, .slice Ao17 t194.length co17] (fun k_ => k_ ≠ gb198) (fun k_ => some k_ = (.slice Ao17 t194.length co17 : Value).ownBlock) rfl rfl ?aP (fun k_ hk_ => ((Kd.R_mono (ok' := fun k_ => ((fun k_ => k_ ≠ gb198)) k_ ∧ some k_ ≠ (.slice Ao11 x2_1.length co11 : Value).ownBlock) (Kd.R_types (Kd.R_apart' (HO196.out) (Kd.S_typed HO_2.out) (by decide)) BK198.out (by decide)) (fun k_ hk => ⟨hk.2, hk.1.2⟩))).1 k_ hk_.symm) ?aF ?aO ?aB ?aS ?aL ?_; (case aP => exact k37_mkM _ _ _ (⟨t192, t193, t194⟩ : S37) (Kd.R_mono (Kd.R_tight rfl (Kd.R_mono (ok' := fun k_ => ((fun k_ => k_ ≠ gb198)) k_ ∧ some k_ ≠ (.slice Ao11 x2_1.length co11 : Value).ownBlock) (Kd.R_types (Kd.R_apart' (HO196.out) (Kd.S_typed HO_2.out) (by decide)) BK198.out (by decide)) (fun k_ hk => ⟨hk.2, hk.1.2⟩))) (fun _ h_ => h_))); (case aB => exact bl); (case aF => exact (fun k_ hk => Kd.freshB (g := gb198) (o := .cells #[.int .i64 t192, .int .i64 t193, .slice Ao17 t194.length co17] 37 (0, 0)) (uB BK198.out) k_ hk)); (case aO => exact (by exact uS <| Kd.S_mono HO_2.out (fun k_ hk => ⟨hk.2, fun e_ => hk.1 e_⟩))); (case aS => exact (below_size bl)); (case aL => have := LMc10.out; omega); intro v200 w20 ho hb hg hat; rw [← Ny199.out] at ho; replace HO191 := Aside0.mk (Kd.R_over' (uR HO191.out) (Kd.S_typed (uS HO_2.out)) (by decide) hg); replace BK198 := Aside0.mk (blk_grown (g := gb198) (o := .cells #[.int .i64 t192, .int .i64 t193, .slice Ao17 t194.length co17] 37 (0, 0)) (uB BK198.out) hg (Kd.S_away HO_2.out (fun _ hk => hk.2))); replace HB := Aside0.mk (hb); have HO201 := Aside0.mk (ho); clear HO_2; clear HO196; clear ho hb hg hat))
       go_roundg k1
       case measure => have := HK1.out; omega
       case rel => exact ⟨(t187), (y199), rs_, H', ⟨by have := HK1.out; omega⟩, ⟨by exact uS <| Kd.S_mono HO201.out (fun _ hk => trivial)⟩, ⟨bl⟩⟩
      ·
       rw [if_neg c9] at H
       have c9b0 : (t197 == 0) = false := beq_eq_false_iff_ne.mpr c9
       have c9b1 : (t197 != 0) = true := bne_iff_ne.mpr c9
       simp only [Option.some.injEq, Prod.mk.injEq] at H
       obtain ⟨rfl, rfl, rfl⟩ := H
       obtain ⟨Ao21, co21, eo21⟩ := Kd.S_slice HO_2.out
       subst eo21
       go_wp2_with (first | (refine gL (some 20) rfl Tryz.func32 #[.string x0_1, .string (⟨#[10]⟩ : ByteArray)] ?_; (with_reducible refine (strings_Cut.calls (hL := ld) x0_1 (⟨#[10]⟩ : ByteArray) t186 t187 true _ A5.out).mono ?_); rintro e w' ⟨rfl, ⟨nd, rfl⟩⟩; refine ⟨_, rfl, ?_⟩; (try (rw [drewN_self wr]; generalize hq_ : World.drewN wr _ = wr; have n0_ : Aside0 (Kd.S k37 37 wr w.heap.size (fun _ => True) (.slice Ao21 x2_1.length co21) x2_1) := ⟨by rw [← hq_]; exact (uS HO_2.out)⟩; have n1_ : Aside0 (Below w.heap.size w wr) := ⟨by rw [← hq_]; exact (uW HB.out)⟩; clear HO_2 HB hq_; have HO_2 := n0_; have HB := n1_; clear n0_ n1_))) | (refine gL (some 29) rfl Tryz.func34 #[.string t186, .int .u8 32] ?_; (with_reducible refine (word_Split.calls k1 t186 32 t189 _ A7.out).mono ?_); rintro e w22 ⟨v190, rfl, ho0, hb⟩; refine ⟨_, rfl, ?_⟩; replace HO_2 := cS HO_2 hb; have HO191 := Aside0.mk (Kd.R_lower ho0 (below_size (uW HB.out))); replace HB := cW HB hb; (try clear hb); (try clear ho0); obtain ⟨Ao23, co23, eo23⟩ := Kd.R_slice HO191.out; subst eo23) | (refine gL (some 30) rfl Tryz.func33 #[.slice Ao23 t189.length co23] ?_; (with_reducible refine (script_event.calls (hL := ld) k1 _ _ t189 t192 t193 t194 t197 _ ?side1 ?side2 A8.out).mono ?_); (case side1 => exact uC <| (Kd.R_reads' HO191.out).2.2); (case side2 => exact (Kd.R_reads' HO191.out).2.1); rintro e w24 ⟨v195, rfl, ho0, hb⟩; refine ⟨_, rfl, ?_⟩; replace HO_2 := Aside0.mk (Kd.S_elder' (uS HO_2.out) (Kd.R_base ho0) hb); replace HO191 := cR HO191 hb; have HO196 := Aside0.mk (Kd.R_lower ho0 (below_size (uW HB.out))); replace HB := cW HB hb; (try clear hb); (try clear ho0)) | ((with_reducible refine gate_dst (N := 8) rfl ?_); refine bx (N := 8) #[.int .i64 0, .int .i64 0, .slice none 0 0] 37 ?_; intro gb198 hg w25 hbox hb; replace HO_2 := Aside0.mk (Kd.S_below (Kd.S_elderB (uS HO_2.out) gb198 (Nat.le_of_eq hg.symm)) hb); replace HO191 := cR HO191 hb; replace HO196 := cR HO196 hb; have BK198 := Aside0.mk (hbox); have GW198 := gw hg (uW HB.out); have GE198 := GW198; replace HB := cW HB hb; clear hb hbox hg; obtain ⟨hcz26_0, hcz26_1, hcz26_2, hfz26_0, hfz26_1, hfz26_2⟩ := z3 BK198; obtain ⟨Ao27, co27, eo27⟩ := Kd.R_slice HO196.out; subst eo27))
       go_ret3
       exact ⟨_, re_, by first | exact Kd.S_nil _ _ _ _ _ | exact Kd.N_nil _ _ _ _ _ | exact Kd.V_nil _ _ _ _ _ | exact Kd.Q_nil _ _ _ _ _ | exact Kd.R_nil _ _ _ _ _, bl⟩
     ·
      replace c6 := Bool.eq_false_iff.mpr c6
      subst c6
      rw [if_neg (show ¬ (false = true) by decide)] at H
      simp only [Option.some.injEq, Prod.mk.injEq] at H
      obtain ⟨rfl, rfl, rfl⟩ := H
      obtain ⟨Ao28, co28, eo28⟩ := Kd.S_slice HO_2.out
      subst eo28
      go_wp2_with (first | (refine gL (some 20) rfl Tryz.func32 #[.string x0_1, .string (⟨#[10]⟩ : ByteArray)] ?_; (with_reducible refine (strings_Cut.calls (hL := ld) x0_1 (⟨#[10]⟩ : ByteArray) t186 t187 false _ A5.out).mono ?_); rintro e w' ⟨rfl, ⟨nd, rfl⟩⟩; refine ⟨_, rfl, ?_⟩))
      go_ret3
      exact ⟨_, re_, by first | exact Kd.S_nil _ _ _ _ _ | exact Kd.N_nil _ _ _ _ _ | exact Kd.V_nil _ _ _ _ _ | exact Kd.Q_nil _ _ _ _ _ | exact Kd.R_nil _ _ _ _ _, uW HB.out⟩
def w26_alive.f (k : Nat)  : Option (Bool) := (script_Parse.f k (⟨#[99, 104, 117, 110, 107, 32, 48, 32, 55, 51, 55, 52, 54, 49, 55, 52, 48, 97, 10, 116, 105, 99, 107, 32, 53, 10, 112, 105, 99, 107, 32, 51, 10, 99, 104, 117, 110, 107, 32, 49, 32, 45, 10]⟩ : ByteArray)).bind fun bt202 => ((script_Parse.f k (⟨#[116, 105, 99, 107, 32, 53, 10, 112, 105, 99, 107, 32, 120, 10]⟩ : ByteArray)).bind fun bt207 => ((script_Parse.f k (⟨#[116, 105, 99, 107, 32, 53]⟩ : ByteArray)).bind fun bt212 => ((script_Text.f k bt202.1).bind fun bt217 => ((script_Text.f k (([(⟨0, 0, ([] : List Int)⟩ : S37)] : List (S37)))).bind fun bt222 => (if bt202.2.2 = 0 then (if bt207.2.2 = 2 then (if bt212.2.2 = 2 then (if bt217.2 = 0 then (if bt222.2 = 1 then (if bt202.2.1 = 0 then (if bt207.2.1 = 2 then (if bt212.2.1 = 1 then (if (bt202.1.length : Int) = 4 then (if 0 < (bt202.1.length : Int) then (if (strOfNums ((rd_T37 bt202.1 0).f2)).toList = ([115, 116, 97, 116, 10] : List UInt8) then (if 1 < (bt202.1.length : Int) then (if ((rd_T37 bt202.1 1).f0) = 2 then (if 2 < (bt202.1.length : Int) then (if ((rd_T37 bt202.1 2).f1) = 3 then (if bt217.1.toList = ([99, 104, 117, 110, 107, 32, 48, 32, 55, 51, 55, 52, 54, 49, 55, 52, 48, 97, 10, 116, 105, 99, 107, 32, 53, 10, 112, 105, 99, 107, 32, 51, 10, 99, 104, 117, 110, 107, 32, 49, 32, 45, 10] : List UInt8) then ((script_Right.f k bt202.1).bind fun t227 => (if t227 = true then ((script_Same.f k bt202.1 bt202.1).bind fun t228 => (if t228 = true then ((script_Same.f k bt202.1 ([] : List (S37))).bind fun t229 => (some (!t229))) else (none))) else (none))) else (none)) else (none)) else (none)) else (none)) else (none)) else (none)) else (none)) else (none)) else (none)) else (none)) else (none)) else (none)) else (none)) else (none)) else (none)) else (none))))))
theorem w26_alive.mono : ∀ k, LeO (w26_alive.f k ) (w26_alive.f (k + 1) ) := by
 intro k
 unfold w26_alive.f
 exact lo
instance w26_alive.mI {k} : LeC (w26_alive.f k) (w26_alive.f (k + 1)) := ⟨w26_alive.mono _⟩
theorem w26_alive.calls (k : Nat)  (r : Bool) (w : World) (hL : LD w) (h : w26_alive.f k  = some r) :
 Calls Tryz.prog 5 #[] w fun e w' => e = .returned (.bool r) ∧ Below w.heap.size w w' := by
 have HL0 := Aside0.mk hL
 clear hL
 have hu37 := Tryz.underlying37
 have HB := Aside0.mk (Below.refl w.heap.size w)
 have H : ((script_Parse.f k (⟨#[99, 104, 117, 110, 107, 32, 48, 32, 55, 51, 55, 52, 54, 49, 55, 52, 48, 97, 10, 116, 105, 99, 107, 32, 53, 10, 112, 105, 99, 107, 32, 51, 10, 99, 104, 117, 110, 107, 32, 49, 32, 45, 10]⟩ : ByteArray)).bind fun bt202 => ((script_Parse.f k (⟨#[116, 105, 99, 107, 32, 53, 10, 112, 105, 99, 107, 32, 120, 10]⟩ : ByteArray)).bind fun bt207 => ((script_Parse.f k (⟨#[116, 105, 99, 107, 32, 53]⟩ : ByteArray)).bind fun bt212 => ((script_Text.f k bt202.1).bind fun bt217 => ((script_Text.f k (([(⟨0, 0, ([] : List Int)⟩ : S37)] : List (S37)))).bind fun bt222 => (if bt202.2.2 = 0 then (if bt207.2.2 = 2 then (if bt212.2.2 = 2 then (if bt217.2 = 0 then (if bt222.2 = 1 then (if bt202.2.1 = 0 then (if bt207.2.1 = 2 then (if bt212.2.1 = 1 then (if (bt202.1.length : Int) = 4 then (if 0 < (bt202.1.length : Int) then (if (strOfNums ((rd_T37 bt202.1 0).f2)).toList = ([115, 116, 97, 116, 10] : List UInt8) then (if 1 < (bt202.1.length : Int) then (if ((rd_T37 bt202.1 1).f0) = 2 then (if 2 < (bt202.1.length : Int) then (if ((rd_T37 bt202.1 2).f1) = 3 then (if bt217.1.toList = ([99, 104, 117, 110, 107, 32, 48, 32, 55, 51, 55, 52, 54, 49, 55, 52, 48, 97, 10, 116, 105, 99, 107, 32, 53, 10, 112, 105, 99, 107, 32, 51, 10, 99, 104, 117, 110, 107, 32, 49, 32, 45, 10] : List UInt8) then ((script_Right.f k bt202.1).bind fun t227 => (if t227 = true then ((script_Same.f k bt202.1 bt202.1).bind fun t228 => (if t228 = true then ((script_Same.f k bt202.1 ([] : List (S37))).bind fun t229 => (some (!t229))) else (none))) else (none))) else (none)) else (none)) else (none)) else (none)) else (none)) else (none)) else (none)) else (none)) else (none)) else (none)) else (none)) else (none)) else (none)) else (none)) else (none)) else (none))))))) = some r := h
 clear h
 obtain ⟨⟨t202, t203, t204⟩, A1, H⟩ := bs H
 try dsimp only at H
 obtain ⟨⟨t207, t208, t209⟩, A2, H⟩ := bs H
 try dsimp only at H
 obtain ⟨⟨t212, t213, t214⟩, A3, H⟩ := bs H
 try dsimp only at H
 obtain ⟨⟨t217, t218⟩, A4, H⟩ := bs H
 try dsimp only at H
 obtain ⟨y219, hy219⟩ : ∃ y_ : List (S37), y_ = (([(⟨0, 0, ([] : List Int)⟩ : S37)] : List (S37))) := ⟨_, rfl⟩
 replace H : ((script_Text.f k y219).bind fun bt222 => (if t204 = 0 then (if t209 = 2 then (if t214 = 2 then (if t218 = 0 then (if bt222.2 = 1 then (if t203 = 0 then (if t208 = 2 then (if t213 = 1 then (if (t202.length : Int) = 4 then (if 0 < (t202.length : Int) then (if (strOfNums ((rd_T37 t202 0).f2)).toList = ([115, 116, 97, 116, 10] : List UInt8) then (if 1 < (t202.length : Int) then (if ((rd_T37 t202 1).f0) = 2 then (if 2 < (t202.length : Int) then (if ((rd_T37 t202 2).f1) = 3 then (if t217.toList = ([99, 104, 117, 110, 107, 32, 48, 32, 55, 51, 55, 52, 54, 49, 55, 52, 48, 97, 10, 116, 105, 99, 107, 32, 53, 10, 112, 105, 99, 107, 32, 51, 10, 99, 104, 117, 110, 107, 32, 49, 32, 45, 10] : List UInt8) then ((script_Right.f k t202).bind fun t227 => (if t227 = true then ((script_Same.f k t202 t202).bind fun t228 => (if t228 = true then ((script_Same.f k t202 ([] : List (S37))).bind fun t229 => (some (!t229))) else (none))) else (none))) else (none)) else (none)) else (none)) else (none)) else (none)) else (none)) else (none)) else (none)) else (none)) else (none)) else (none)) else (none)) else (none)) else (none)) else (none)) else (none))) = some r := by first | (rw [hy219]; with_reducible exact H) | (have H2_ := (Option.bind_some _ _).symm.trans H; rw [hy219]; with_reducible exact H2_) | (have H2_ := (Option.bind_some _ _).symm.trans H; with_reducible exact H2_) | with_reducible exact H | (rw [hy219]; exact H) | exact H
 have Ny219 := Aside0.mk hy219
 clear hy219
 obtain ⟨⟨t222, t223⟩, A5, H⟩ := bs H
 try dsimp only at H
 by_cases c6 : t204 = 0
 ·
  rw [if_pos c6] at H
  have c6b0 : (t204 == 0) = true := beq_iff_eq.mpr c6
  have c6b1 : (t204 != 0) = false := bne_eq_false_iff_eq.mpr c6
  clear c6
  obtain ⟨c7, H⟩ := gd H
  have c7b0 : (t209 == 2) = true := beq_iff_eq.mpr c7
  have c7b1 : (t209 != 2) = false := bne_eq_false_iff_eq.mpr c7
  clear c7
  obtain ⟨c8, H⟩ := gd H
  have c8b0 : (t214 == 2) = true := beq_iff_eq.mpr c8
  have c8b1 : (t214 != 2) = false := bne_eq_false_iff_eq.mpr c8
  clear c8
  obtain ⟨c9, H⟩ := gd H
  have c9b0 : (t218 == 0) = true := beq_iff_eq.mpr c9
  have c9b1 : (t218 != 0) = false := bne_eq_false_iff_eq.mpr c9
  clear c9
  obtain ⟨c10, H⟩ := gd H
  have c10b0 : (t223 == 1) = true := beq_iff_eq.mpr c10
  have c10b1 : (t223 != 1) = false := bne_eq_false_iff_eq.mpr c10
  clear c10
  obtain ⟨c11, H⟩ := gd H
  have c11b0 : (t203 == 0) = true := beq_iff_eq.mpr c11
  have c11b1 : (t203 != 0) = false := bne_eq_false_iff_eq.mpr c11
  clear c11
  obtain ⟨c12, H⟩ := gd H
  have c12b0 : (t208 == 2) = true := beq_iff_eq.mpr c12
  have c12b1 : (t208 != 2) = false := bne_eq_false_iff_eq.mpr c12
  clear c12
  obtain ⟨c13, H⟩ := gd H
  have c13b0 : (t213 == 1) = true := beq_iff_eq.mpr c13
  have c13b1 : (t213 != 1) = false := bne_eq_false_iff_eq.mpr c13
  clear c13
  obtain ⟨c14, H⟩ := gd H
  have c14b0 : ((t202.length : Int) == 4) = true := beq_iff_eq.mpr c14
  have c14b1 : ((t202.length : Int) != 4) = false := bne_eq_false_iff_eq.mpr c14
  clear c14
  obtain ⟨c15, H⟩ := gd H
  have c15b0 : decide (0 < (t202.length : Int)) = true := decide_eq_true c15
  have c15b1 : decide (0 < t202.length) = true := decide_eq_true (by omega)
  clear c15
  obtain ⟨c16, H⟩ := gd H
  have c16b0 : ((strOfNums ((rd_T37 t202 0).f2)).toList == ([115, 116, 97, 116, 10] : List UInt8)) = true := beq_iff_eq.mpr c16
  have c16b1 : ((strOfNums ((rd_T37 t202 0).f2)).toList != ([115, 116, 97, 116, 10] : List UInt8)) = false := bne_eq_false_iff_eq.mpr c16
  clear c16
  obtain ⟨c17, H⟩ := gd H
  have c17b0 : decide (1 < (t202.length : Int)) = true := decide_eq_true c17
  have c17b1 : decide (1 < t202.length) = true := decide_eq_true (by omega)
  clear c17
  obtain ⟨c18, H⟩ := gd H
  have c18b0 : (((rd_T37 t202 1).f0) == 2) = true := beq_iff_eq.mpr c18
  have c18b1 : (((rd_T37 t202 1).f0) != 2) = false := bne_eq_false_iff_eq.mpr c18
  clear c18
  obtain ⟨c19, H⟩ := gd H
  have c19b0 : decide (2 < (t202.length : Int)) = true := decide_eq_true c19
  have c19b1 : decide (2 < t202.length) = true := decide_eq_true (by omega)
  clear c19
  obtain ⟨c20, H⟩ := gd H
  have c20b0 : (((rd_T37 t202 2).f1) == 3) = true := beq_iff_eq.mpr c20
  have c20b1 : (((rd_T37 t202 2).f1) != 3) = false := bne_eq_false_iff_eq.mpr c20
  clear c20
  obtain ⟨c21, H⟩ := gd H
  have c21b0 : (t217.toList == ([99, 104, 117, 110, 107, 32, 48, 32, 55, 51, 55, 52, 54, 49, 55, 52, 48, 97, 10, 116, 105, 99, 107, 32, 53, 10, 112, 105, 99, 107, 32, 51, 10, 99, 104, 117, 110, 107, 32, 49, 32, 45, 10] : List UInt8)) = true := beq_iff_eq.mpr c21
  have c21b1 : (t217.toList != ([99, 104, 117, 110, 107, 32, 48, 32, 55, 51, 55, 52, 54, 49, 55, 52, 48, 97, 10, 116, 105, 99, 107, 32, 53, 10, 112, 105, 99, 107, 32, 51, 10, 99, 104, 117, 110, 107, 32, 49, 32, 45, 10] : List UInt8)) = false := bne_eq_false_iff_eq.mpr c21
  clear c21
  obtain ⟨t227, A22, H⟩ := bs H
  try dsimp only at H
  by_cases c23 : t227 = true
  ·
   subst c23
   rw [if_pos rfl] at H
   obtain ⟨t228, A24, H⟩ := bs H
   try dsimp only at H
   by_cases c25 : t228 = true
   ·
    subst c25
    rw [if_pos rfl] at H
    obtain ⟨t229, A26, H⟩ := bs H
    try dsimp only at H
    obtain rfl := Option.some.inj H
    go_enter Tryz.func5, Tryz.ntmps5
    go_wp2_with (first | (refine gL (some 15) rfl Tryz.func13 #[.string (⟨#[99, 104, 117, 110, 107, 32, 48, 32, 55, 51, 55, 52, 54, 49, 55, 52, 48, 97, 10, 116, 105, 99, 107, 32, 53, 10, 112, 105, 99, 107, 32, 51, 10, 99, 104, 117, 110, 107, 32, 49, 32, 45, 10]⟩ : ByteArray)] ?_; (with_reducible refine (script_Parse.calls (hL := ld) k (⟨#[99, 104, 117, 110, 107, 32, 48, 32, 55, 51, 55, 52, 54, 49, 55, 52, 48, 97, 10, 116, 105, 99, 107, 32, 53, 10, 112, 105, 99, 107, 32, 51, 10, 99, 104, 117, 110, 107, 32, 49, 32, 45, 10]⟩ : ByteArray) t202 t203 t204 _ A1.out).mono ?_); rintro e w27 ⟨v205, rfl, ho0, hb⟩; refine ⟨_, rfl, ?_⟩; have HO206 := Aside0.mk (Kd.S_lower ho0 (below_size (uW HB.out))); replace HB := cW HB hb; (try clear hb); (try clear ho0)) | (refine gL (some 20) rfl Tryz.func13 #[.string (⟨#[116, 105, 99, 107, 32, 53, 10, 112, 105, 99, 107, 32, 120, 10]⟩ : ByteArray)] ?_; (with_reducible refine (script_Parse.calls (hL := ld) k (⟨#[116, 105, 99, 107, 32, 53, 10, 112, 105, 99, 107, 32, 120, 10]⟩ : ByteArray) t207 t208 t209 _ A2.out).mono ?_); rintro e w28 ⟨v210, rfl, ho0, hb⟩; refine ⟨_, rfl, ?_⟩; have HO211 := Aside0.mk (Kd.S_lower (Kd.S_new' ho0 (Kd.S_lt (uS HO206.out))) (below_size (uW HB.out))); replace HO206 := Aside0.mk (Kd.S_elder' (uS HO206.out) (Kd.S_base ho0) hb); replace HB := cW HB hb; (try clear hb); (try clear ho0)) | (refine gL (some 25) rfl Tryz.func13 #[.string (⟨#[116, 105, 99, 107, 32, 53]⟩ : ByteArray)] ?_; (with_reducible refine (script_Parse.calls (hL := ld) k (⟨#[116, 105, 99, 107, 32, 53]⟩ : ByteArray) t212 t213 t214 _ A3.out).mono ?_); rintro e w29 ⟨v215, rfl, ho0, hb⟩; refine ⟨_, rfl, ?_⟩; have HO216 := Aside0.mk (Kd.S_lower (Kd.S_new' (Kd.S_new' ho0 (Kd.S_lt (uS HO206.out))) (Kd.S_lt (uS HO211.out))) (below_size (uW HB.out))); replace HO206 := Aside0.mk (Kd.S_elder' (uS HO206.out) (Kd.S_base ho0) hb); replace HO211 := Aside0.mk (Kd.S_elder' (uS HO211.out) (Kd.S_base ho0) hb); replace HB := cW HB hb; (try clear hb); (try clear ho0); obtain ⟨Ao30, co30, eo30⟩ := Kd.S_slice HO206.out; subst eo30) | (refine gL (some 31) rfl Tryz.func7 #[.slice Ao30 t202.length co30] ?_; (with_reducible refine (script_Text.calls (hL := ld) k _ _ t202 t217 t218 _ ?side1 ?side2 A4.out).mono ?_); (case side1 => exact uC <| (Kd.S_reads' HO206.out).2.2); (case side2 => exact (Kd.S_reads' HO206.out).2.1); rintro e w31 ⟨rfl, hb⟩; refine ⟨_, rfl, ?_⟩; replace HO206 := cS HO206 hb; replace HO211 := cS HO211 hb; replace HO216 := cS HO216 hb; replace HB := cW HB hb; (try clear hb)) | ((with_reducible refine gate_dst (N := 36) rfl ?_); (try (refine gate_guard (by rfl) ?_; dsimp only)); refine Kd.S_lit k37 _ 37 ?hg (N := 36) ?hd (xs := ([(⟨0, 0, ([] : List Int)⟩ : S37)] : List (S37))) (inner := [.int .i64 0, .int .i64 0, .slice none 0 0]) (ok := fun _ => True) (okp := fun _ => True) ?hr ?hp (fun _ hk => hk) trivial (Below.refl _ _) (Nat.le_refl _) (by simp) ?_; (case hd => rfl); (case hg => rfl); (case hr => first | (go_simp; done) | (go_simp; rfl)); (case hp => exact (Reps.c3 (show Kd.M k37 _ _ _ (⟨0, 0, ([] : List Int)⟩ : S37) [.int .i64 0, .int .i64 0, .slice none 0 0] from (k37_mkM _ _ _ (⟨0, 0, ([] : List Int)⟩ : S37) (Kd.R_nil _ _ _ _ _))) (Reps.none _ _))); intro v220 w32 ho33 hb hg_ hnew_; clear hg_ hnew_; (first | rw [← Ny219.out] at ho33 | (simp only [Int.reduceToNat] at ho33; rw [← Ny219.out] at ho33)); have HO221 := Aside0.mk (Kd.S_lower (Kd.S_new' (Kd.S_new' (Kd.S_new' ho33 (Kd.S_lt (uS HO206.out))) (Kd.S_lt (uS HO211.out))) (Kd.S_lt (uS HO216.out))) (below_size (uW HB.out))); replace HO206 := Aside0.mk (Kd.S_elder' (uS HO206.out) (Kd.S_base ho33) hb); replace HO211 := Aside0.mk (Kd.S_elder' (uS HO211.out) (Kd.S_base ho33) hb); replace HO216 := Aside0.mk (Kd.S_elder' (uS HO216.out) (Kd.S_base ho33) hb); replace HB := cW HB hb; clear hb ho33; obtain ⟨Ao34, co34, eo34⟩ := Kd.S_slice HO221.out; subst eo34) | (refine gL (some 37) rfl Tryz.func7 #[.slice Ao34 y219.length co34] ?_; (with_reducible refine (script_Text.calls (hL := ld) k _ _ y219 t222 t223 _ ?side1 ?side2 A5.out).mono ?_); (case side1 => exact uC <| (Kd.S_reads' HO221.out).2.2); (case side2 => exact (Kd.S_reads' HO221.out).2.1); rintro e w35 ⟨rfl, hb⟩; refine ⟨_, rfl, ?_⟩; replace HO206 := cS HO206 hb; replace HO211 := cS HO211 hb; replace HO216 := cS HO216 hb; replace HO221 := cS HO221 hb; replace HB := cW HB hb; (try clear hb); have p224 : 0 ≤ (0 : Int) := (by omega); have q224 : 0 < (t202.length : Int) := od; obtain ⟨ad224, A224_2, c224_2, e224, hx224_0, hx224_1, hx224_2, hl224_2, hi224_2⟩ := at_T37 (Kd.S_reads' HO206.out).2.2 0 p224 q224; cases e224; obtain ⟨ce224, hce224, hMe224, hcc224⟩ := Kd.S_get HO206.out z37 0 p224 (by first | exact q224 | exact od | (have e_ := (Kd.S_reads' HO206.out).1; omega)); obtain ⟨ve224_2, rfl, ge224_2⟩ := k37_openM hMe224; have hv224_2 := hcc224 2 _ rfl; rw [add_field _ _ 2 (by omega)] at hv224_2; replace hv224_2 := Option.some.inj (hv224_2.symm.trans hx224_2); rw [hv224_2] at ge224_2; have HL224_2 := Aside0.mk (show Kd.R (Kd.int .u8) 5 _ _ _ _ ((rd_T37 t202 0).f2) from ge224_2); clear hv224_2 ge224_2; clear hcc224 hce224; have qi224 : (0 < t202.length) = True := eq_true (by omega); (try rw [show ((0 : Int)).toNat = 0 from rfl] at hx224_0); (try rw [show 0 * 3 = 0 from rfl] at hx224_0); (try rw [Addr.add_zero'] at hx224_0); (try rw [show ((0 : Int)).toNat = 0 from rfl] at hx224_1); (try rw [show 0 * 3 = 0 from rfl] at hx224_1); (try rw [Addr.add_zero'] at hx224_1); (try rw [show ((0 : Int)).toNat = 0 from rfl] at hx224_2); (try rw [show 0 * 3 = 0 from rfl] at hx224_2); (try rw [Addr.add_zero'] at hx224_2); have HR224_2 := Aside0.mk hi224_2; have HC224_2 := Aside0.mk hl224_2; clear hi224_2 hl224_2; replace p224 := eq_true p224; replace q224 := eq_true q224; have hcv36 := Kd.C_string (P := Tryz.prog) (A := A224_2) (c := c224_2) Tryz.underlying35 Tryz.underlying5 Tryz.underlying9 (by repeat (first | (with_reducible exact HR224_2.out) | (with_reducible refine Kd.C_alloc ?_ _) | (with_reducible refine Kd.C_drewN ?_ _) | (with_reducible refine Kd.C_drew ?_) | exact HR224_2.out)); have p225 : 0 ≤ (1 : Int) := (by omega); have q225 : 1 < (t202.length : Int) := od; obtain ⟨ad225, A225_2, c225_2, e225, hx225_0, hx225_1, hx225_2, hl225_2, hi225_2⟩ := at_T37 (Kd.S_reads' HO206.out).2.2 1 p225 q225; obtain rfl : ad224 = ad225 := (by injection e225); obtain ⟨ce225, hce225, hMe225, hcc225⟩ := Kd.S_get HO206.out z37 1 p225 (by first | exact q225 | exact od | (have e_ := (Kd.S_reads' HO206.out).1; omega)); obtain ⟨ve225_2, rfl, ge225_2⟩ := k37_openM hMe225; have hv225_2 := hcc225 2 _ rfl; rw [add_field _ _ 2 (by omega)] at hv225_2; replace hv225_2 := Option.some.inj (hv225_2.symm.trans hx225_2); rw [hv225_2] at ge225_2; have HL225_2 := Aside0.mk (show Kd.R (Kd.int .u8) 5 _ _ _ _ ((rd_T37 t202 1).f2) from ge225_2); clear hv225_2 ge225_2; clear hcc225 hce225; (try simp only [show (1 : Int).toNat = 1 from rfl, Nat.reduceMul, Nat.reduceEqDiff, Go.Addr.add, ↓reduceIte] at hx225_0); (try simp only [show (1 : Int).toNat = 1 from rfl, Nat.reduceMul, Nat.reduceEqDiff, Go.Addr.add, ↓reduceIte] at hx225_1); (try simp only [show (1 : Int).toNat = 1 from rfl, Nat.reduceMul, Nat.reduceEqDiff, Go.Addr.add, ↓reduceIte] at hx225_2); have qi225 : (1 < t202.length) = True := eq_true (by omega); (try rw [show ((1 : Int)).toNat = 1 from rfl] at hx225_0); (try rw [show 1 * 3 = 3 from rfl] at hx225_0); (try rw [show ((1 : Int)).toNat = 1 from rfl] at hx225_1); (try rw [show 1 * 3 = 3 from rfl] at hx225_1); (try rw [show ((1 : Int)).toNat = 1 from rfl] at hx225_2); (try rw [show 1 * 3 = 3 from rfl] at hx225_2); have HR225_2 := Aside0.mk hi225_2; have HC225_2 := Aside0.mk hl225_2; clear hi225_2 hl225_2; replace p225 := eq_true p225; replace q225 := eq_true q225; have p226 : 0 ≤ (2 : Int) := (by omega); have q226 : 2 < (t202.length : Int) := od; obtain ⟨ad226, A226_2, c226_2, e226, hx226_0, hx226_1, hx226_2, hl226_2, hi226_2⟩ := at_T37 (Kd.S_reads' HO206.out).2.2 2 p226 q226; obtain rfl : ad224 = ad226 := (by injection e226); obtain ⟨ce226, hce226, hMe226, hcc226⟩ := Kd.S_get HO206.out z37 2 p226 (by first | exact q226 | exact od | (have e_ := (Kd.S_reads' HO206.out).1; omega)); obtain ⟨ve226_2, rfl, ge226_2⟩ := k37_openM hMe226; have hv226_2 := hcc226 2 _ rfl; rw [add_field _ _ 2 (by omega)] at hv226_2; replace hv226_2 := Option.some.inj (hv226_2.symm.trans hx226_2); rw [hv226_2] at ge226_2; have HL226_2 := Aside0.mk (show Kd.R (Kd.int .u8) 5 _ _ _ _ ((rd_T37 t202 2).f2) from ge226_2); clear hv226_2 ge226_2; clear hcc226 hce226; (try simp only [show (2 : Int).toNat = 2 from rfl, Nat.reduceMul, Nat.reduceEqDiff, Go.Addr.add, ↓reduceIte] at hx226_0); (try simp only [show (2 : Int).toNat = 2 from rfl, Nat.reduceMul, Nat.reduceEqDiff, Go.Addr.add, ↓reduceIte] at hx226_1); (try simp only [show (2 : Int).toNat = 2 from rfl, Nat.reduceMul, Nat.reduceEqDiff, Go.Addr.add, ↓reduceIte] at hx226_2); have qi226 : (2 < t202.length) = True := eq_true (by omega); (try rw [show ((2 : Int)).toNat = 2 from rfl] at hx226_0); (try rw [show 2 * 3 = 6 from rfl] at hx226_0); (try rw [show ((2 : Int)).toNat = 2 from rfl] at hx226_1); (try rw [show 2 * 3 = 6 from rfl] at hx226_1); (try rw [show ((2 : Int)).toNat = 2 from rfl] at hx226_2); (try rw [show 2 * 3 = 6 from rfl] at hx226_2); have HR226_2 := Aside0.mk hi226_2; have HC226_2 := Aside0.mk hl226_2; clear hi226_2 hl226_2; replace p226 := eq_true p226; replace q226 := eq_true q226) | (go_at_call 9; (with_reducible refine (script_Right.calls k _ _ t202 true _ ?side1 ?side2 A22.out).mono ?_); (case side1 => exact uC <| (Kd.S_reads' HO206.out).2.2); (case side2 => exact (Kd.S_reads' HO206.out).2.1); rintro e w37 ⟨rfl, hb⟩; replace HO206 := cS HO206 hb; replace HO211 := cS HO211 hb; replace HO216 := cS HO216 hb; replace HO221 := cS HO221 hb; replace HL224_2 := cR HL224_2 hb; replace HL225_2 := cR HL225_2 hb; replace HL226_2 := cR HL226_2 hb; replace HR224_2 := cC HR224_2 hb; replace HR225_2 := cC HR225_2 hb; replace HR226_2 := cC HR226_2 hb; replace HB := cW HB hb; (try clear hb)) | (go_at_call 11; (with_reducible refine (script_Same.calls k _ _ t202 _ _ t202 true _ ?side1 ?side2 ?side3 ?side4 A24.out).mono ?_); (case side1 => exact uC <| (Kd.S_reads' HO206.out).2.2); (case side2 => exact (Kd.S_reads' HO206.out).2.1); (case side3 => exact uC <| (Kd.S_reads' HO206.out).2.2); (case side4 => exact (Kd.S_reads' HO206.out).2.1); rintro e w38 ⟨rfl, hb⟩; replace HO206 := cS HO206 hb; replace HO211 := cS HO211 hb; replace HO216 := cS HO216 hb; replace HO221 := cS HO221 hb; replace HL224_2 := cR HL224_2 hb; replace HL225_2 := cR HL225_2 hb; replace HL226_2 := cR HL226_2 hb; replace HR224_2 := cC HR224_2 hb; replace HR225_2 := cC HR225_2 hb; replace HR226_2 := cC HR226_2 hb; replace HB := cW HB hb; (try clear hb)) | (go_at_call 11; (refine (script_Same.calls k _ _ t202 _ _ ([] : List (S37)) t229 _ ?side1 ?side2 ?side3 ?side4 A26.out).mono ?_); (case side1 => exact uC <| (Kd.S_reads' HO206.out).2.2); (case side2 => exact (Kd.S_reads' HO206.out).2.1); (case side3 => exact Kd.C_nil _ _); (case side4 => exact Nat.le_refl _); rintro e w39 ⟨rfl, hb⟩; replace HO206 := cS HO206 hb; replace HO211 := cS HO211 hb; replace HO216 := cS HO216 hb; replace HO221 := cS HO221 hb; replace HL224_2 := cR HL224_2 hb; replace HL225_2 := cR HL225_2 hb; replace HL226_2 := cR HL226_2 hb; replace HR224_2 := cC HR224_2 hb; replace HR225_2 := cC HR225_2 hb; replace HR226_2 := cC HR226_2 hb; replace HB := cW HB hb; (try clear hb)))
    go_ret
    exact ⟨re_, uW HB.out⟩
   ·
    replace c25 := Bool.eq_false_iff.mpr c25
    subst c25
    rw [if_neg (show ¬ (false = true) by decide)] at H
    exact absurd H (by simp)
  ·
   replace c23 := Bool.eq_false_iff.mpr c23
   subst c23
   rw [if_neg (show ¬ (false = true) by decide)] at H
   exact absurd H (by simp)
 ·
  rw [if_neg c6] at H
  exact absurd H (by simp)
def r26_Same.l0 : Nat → List (S37) → List (S37) → Int → Option (Bool)
 | 0, _, _, _ => none
 | k + 1, x0, x1, x5 => if x5 < (x0.length : Int) then (if 0 ≤ x5 then (if x5 < (x1.length : Int) then (if ((rd_T37 x0 x5).f0) = ((rd_T37 x1 x5).f0) then (if ((rd_T37 x0 x5).f1) = ((rd_T37 x1 x5).f1) then (if (strOfNums ((rd_T37 x0 x5).f2)).toList = (strOfNums ((rd_T37 x1 x5).f2)).toList then (r26_Same.l0 k x0 x1 (wrap64 (x5 + 1))) else (some false)) else (some false)) else (some false)) else (none)) else (none)) else (some true)
def r26_Same.f (k : Nat) (l0 : List (S37)) (l1 : List (S37)) : Option (Bool) := if (l0.length : Int) = (l1.length : Int) then (r26_Same.l0 k l0 l1 0) else (some false)
theorem r26_Same.mono_l : ∀ k, (∀ y0 y1 y2, LeC (r26_Same.l0 k y0 y1 y2) (r26_Same.l0 (k + 1) y0 y1 y2))
 | 0 => fun _ _ _ => ⟨fun r h => by simp [r26_Same.l0] at h⟩
 | k + 1 => by have ih0 := r26_Same.mono_l k; exact fun _ _ _ => by unfold r26_Same.l0; exact lm
theorem r26_Same.mono : ∀ a0 a1 k, LeO (r26_Same.f k a0 a1) (r26_Same.f (k + 1) a0 a1) := by
 intro a0 a1 k
 have ih0 := r26_Same.mono_l k
 unfold r26_Same.f
 exact lo
instance r26_Same.mI {a0 a1 k} : LeC (r26_Same.f k a0 a1) (r26_Same.f (k + 1) a0 a1) := ⟨r26_Same.mono _ _ _⟩
theorem r26_Same.calls (k : Nat) (A0 : Option Addr) (c0 : Nat) (l0 : List (S37)) (A1 : Option Addr) (c1 : Nat) (l1 : List (S37)) (r : Bool) (w : World) (hr0 : Kd.C k37 w A0 l0.length l0) (hc0 : l0.length ≤ c0) (hr1 : Kd.C k37 w A1 l1.length l1) (hc1 : l1.length ≤ c1) (h : r26_Same.f k l0 l1 = some r) :
 Calls Tryz.prog 12 #[.slice A0 l0.length c0, .slice A1 l1.length c1] w fun e w' => e = .returned (.bool r) ∧ Drawn0 w w' := by
 have HR0 := Aside0.mk hr0
 have HC0 := Aside0.mk hc0
 clear hr0 hc0
 have HR1 := Aside0.mk hr1
 have HC1 := Aside0.mk hc1
 clear hr1 hc1
 have H : (if (l0.length : Int) = (l1.length : Int) then (r26_Same.l0 k l0 l1 0) else (some false)) = some r := h
 clear h
 by_cases c3 : (l0.length : Int) = (l1.length : Int)
 ·
  rw [if_pos c3] at H
  have c3b0 : ((l0.length : Int) == (l1.length : Int)) = true := beq_iff_eq.mpr c3
  have c3b1 : ((l0.length : Int) != (l1.length : Int)) = false := bne_eq_false_iff_eq.mpr c3
  have c3b2 : (l0.length == l1.length) = true := by first | simpa using c3 | (simp at c3 ⊢; omega)
  clear c3
  have H' := Aside0.mk H
  clear H
  go_enter Tryz.func12, Tryz.ntmps12
  go_wp2
  repeat (go_quiet (fail); try go_wp2)
  go_loopg [5] k (fun kq v5 w' => ∃ (x5_1 : Int), v5 = .int .i64 x5_1 ∧ Aside0 (r26_Same.l0 kq l0 l1 x5_1 = some r) ∧ Aside0 (kq ≤ k) ∧ Drawn0 w w')
  case atStart => exact ⟨(0), rs_, H', ⟨Nat.le_refl _⟩, dr_⟩
  case round =>
   clear H'
   try clear c1
   try clear p2
   try clear c3
   try clear c3b0
   try clear c3b1
   try clear c3b2
   obtain ⟨x5_1, rfl, HA, HK1, ⟨m1, rfl⟩⟩ := hrel
   cases gk with
   | zero => exact absurd HA.out (by simp [r26_Same.l0])
   | succ k1 =>
    have H := HA.out
    clear HA
    simp only [r26_Same.l0] at H
    by_cases c4 : x5_1 < (l0.length : Int)
    ·
     rw [if_pos c4] at H
     have c4b0 : decide (x5_1 < (l0.length : Int)) = true := decide_eq_true c4
     clear c4
     obtain ⟨c5b0, H⟩ := gdd H
     obtain ⟨c6b0, H⟩ := gdd H
     by_cases c7 : ((rd_T37 l0 x5_1).f0) = ((rd_T37 l1 x5_1).f0)
     ·
      rw [if_pos c7] at H
      have c7b0 : (((rd_T37 l0 x5_1).f0) == ((rd_T37 l1 x5_1).f0)) = true := beq_iff_eq.mpr c7
      have c7b1 : (((rd_T37 l0 x5_1).f0) != ((rd_T37 l1 x5_1).f0)) = false := bne_eq_false_iff_eq.mpr c7
      clear c7
      by_cases c8 : ((rd_T37 l0 x5_1).f1) = ((rd_T37 l1 x5_1).f1)
      ·
       rw [if_pos c8] at H
       have c8b0 : (((rd_T37 l0 x5_1).f1) == ((rd_T37 l1 x5_1).f1)) = true := beq_iff_eq.mpr c8
       have c8b1 : (((rd_T37 l0 x5_1).f1) != ((rd_T37 l1 x5_1).f1)) = false := bne_eq_false_iff_eq.mpr c8
       clear c8
       by_cases c9 : (strOfNums ((rd_T37 l0 x5_1).f2)).toList = (strOfNums ((rd_T37 l1 x5_1).f2)).toList
       ·
        rw [if_pos c9] at H
        have c9b0 : ((strOfNums ((rd_T37 l0 x5_1).f2)).toList == (strOfNums ((rd_T37 l1 x5_1).f2)).toList) = true := beq_iff_eq.mpr c9
        have c9b1 : ((strOfNums ((rd_T37 l0 x5_1).f2)).toList != (strOfNums ((rd_T37 l1 x5_1).f2)).toList) = false := bne_eq_false_iff_eq.mpr c9
        clear c9
        have H' := Aside0.mk H
        clear H
        have p230 : 0 ≤ (x5_1 : Int) := od
        have q230 : x5_1 < (l0.length : Int) := od
        obtain ⟨ad230, A230_2, c230_2, e230, hx230_0, hx230_1, hx230_2, hl230_2, hi230_2⟩ := at_T37 HR0.out x5_1 p230 q230
        cases e230
        have HR230_2 := Aside0.mk hi230_2
        have HC230_2 := Aside0.mk hl230_2
        clear hi230_2 hl230_2
        replace p230 := eq_true p230
        replace q230 := eq_true q230
        have p231 : 0 ≤ (x5_1 : Int) := od
        have q231 : x5_1 < (l1.length : Int) := od
        obtain ⟨ad231, A231_2, c231_2, e231, hx231_0, hx231_1, hx231_2, hl231_2, hi231_2⟩ := at_T37 HR1.out x5_1 p231 q231
        cases e231
        have HR231_2 := Aside0.mk hi231_2
        have HC231_2 := Aside0.mk hl231_2
        clear hi231_2 hl231_2
        replace p231 := eq_true p231
        replace q231 := eq_true q231
        have p232 : 0 ≤ (x5_1 : Int) := od
        have q232 : x5_1 < (l0.length : Int) := od
        obtain ⟨ad232, A232_2, c232_2, e232, hx232_0, hx232_1, hx232_2, hl232_2, hi232_2⟩ := at_T37 HR0.out x5_1 p232 q232
        obtain rfl : ad230 = ad232 := (by injection e232)
        have HR232_2 := Aside0.mk hi232_2
        have HC232_2 := Aside0.mk hl232_2
        clear hi232_2 hl232_2
        replace p232 := eq_true p232
        replace q232 := eq_true q232
        have ea_ := Option.some.inj (hx230_2.symm.trans hx232_2)
        injection ea_ with ea_ en_ ec_
        subst ea_
        subst ec_
        clear en_
        have p233 : 0 ≤ (x5_1 : Int) := od
        have q233 : x5_1 < (l1.length : Int) := od
        obtain ⟨ad233, A233_2, c233_2, e233, hx233_0, hx233_1, hx233_2, hl233_2, hi233_2⟩ := at_T37 HR1.out x5_1 p233 q233
        obtain rfl : ad231 = ad233 := (by injection e233)
        have HR233_2 := Aside0.mk hi233_2
        have HC233_2 := Aside0.mk hl233_2
        clear hi233_2 hl233_2
        replace p233 := eq_true p233
        replace q233 := eq_true q233
        have ea_ := Option.some.inj (hx231_2.symm.trans hx233_2)
        injection ea_ with ea_ en_ ec_
        subst ea_
        subst ec_
        clear en_
        have p234 : 0 ≤ (x5_1 : Int) := od
        have q234 : x5_1 < (l0.length : Int) := od
        obtain ⟨ad234, A234_2, c234_2, e234, hx234_0, hx234_1, hx234_2, hl234_2, hi234_2⟩ := at_T37 HR0.out x5_1 p234 q234
        obtain rfl : ad230 = ad234 := (by injection e234)
        have HR234_2 := Aside0.mk hi234_2
        have HC234_2 := Aside0.mk hl234_2
        clear hi234_2 hl234_2
        replace p234 := eq_true p234
        replace q234 := eq_true q234
        have ea_ := Option.some.inj (hx230_2.symm.trans hx234_2)
        injection ea_ with ea_ en_ ec_
        subst ea_
        subst ec_
        clear en_
        have hcv10 := Kd.C_string (P := Tryz.prog) (A := A230_2) (c := c230_2) Tryz.underlying35 Tryz.underlying5 Tryz.underlying9 HR234_2.out
        have hcv11 := fun m_ => Kd.C_string (P := Tryz.prog) (A := A230_2) (c := c230_2) Tryz.underlying35 Tryz.underlying5 Tryz.underlying9 (Kd.C_drewN HR234_2.out m_)
        have hcv12 := fun m_ n_ => Kd.C_string (P := Tryz.prog) (A := A230_2) (c := c230_2) Tryz.underlying35 Tryz.underlying5 Tryz.underlying9 (Kd.C_drewN (Kd.C_drewN HR234_2.out m_) n_)
        have p235 : 0 ≤ (x5_1 : Int) := od
        have q235 : x5_1 < (l1.length : Int) := od
        obtain ⟨ad235, A235_2, c235_2, e235, hx235_0, hx235_1, hx235_2, hl235_2, hi235_2⟩ := at_T37 HR1.out x5_1 p235 q235
        obtain rfl : ad231 = ad235 := (by injection e235)
        have HR235_2 := Aside0.mk hi235_2
        have HC235_2 := Aside0.mk hl235_2
        clear hi235_2 hl235_2
        replace p235 := eq_true p235
        replace q235 := eq_true q235
        have ea_ := Option.some.inj (hx231_2.symm.trans hx235_2)
        injection ea_ with ea_ en_ ec_
        subst ea_
        subst ec_
        clear en_
        have hcv13 := Kd.C_string (P := Tryz.prog) (A := A231_2) (c := c231_2) Tryz.underlying35 Tryz.underlying5 Tryz.underlying9 HR235_2.out
        have hcv14 := fun m_ => Kd.C_string (P := Tryz.prog) (A := A231_2) (c := c231_2) Tryz.underlying35 Tryz.underlying5 Tryz.underlying9 (Kd.C_drewN HR235_2.out m_)
        have hcv15 := fun m_ n_ => Kd.C_string (P := Tryz.prog) (A := A231_2) (c := c231_2) Tryz.underlying35 Tryz.underlying5 Tryz.underlying9 (Kd.C_drewN (Kd.C_drewN HR235_2.out m_) n_)
        go_wp2
        repeat (go_quiet (fail); try go_wp2)
        go_roundg k1
        case measure => have := HK1.out; omega
        case rel => exact ⟨(wrap64 (x5_1 + 1)), rs_, H', ⟨by have := HK1.out; omega⟩, dr_⟩
       ·
        rw [if_neg c9] at H
        have c9b0 : ((strOfNums ((rd_T37 l0 x5_1).f2)).toList == (strOfNums ((rd_T37 l1 x5_1).f2)).toList) = false := beq_eq_false_iff_ne.mpr c9
        have c9b1 : ((strOfNums ((rd_T37 l0 x5_1).f2)).toList != (strOfNums ((rd_T37 l1 x5_1).f2)).toList) = true := bne_iff_ne.mpr c9
        obtain rfl := Option.some.inj H
        have p230 : 0 ≤ (x5_1 : Int) := od
        have q230 : x5_1 < (l0.length : Int) := od
        obtain ⟨ad230, A230_2, c230_2, e230, hx230_0, hx230_1, hx230_2, hl230_2, hi230_2⟩ := at_T37 HR0.out x5_1 p230 q230
        cases e230
        have HR230_2 := Aside0.mk hi230_2
        have HC230_2 := Aside0.mk hl230_2
        clear hi230_2 hl230_2
        replace p230 := eq_true p230
        replace q230 := eq_true q230
        have p231 : 0 ≤ (x5_1 : Int) := od
        have q231 : x5_1 < (l1.length : Int) := od
        obtain ⟨ad231, A231_2, c231_2, e231, hx231_0, hx231_1, hx231_2, hl231_2, hi231_2⟩ := at_T37 HR1.out x5_1 p231 q231
        cases e231
        have HR231_2 := Aside0.mk hi231_2
        have HC231_2 := Aside0.mk hl231_2
        clear hi231_2 hl231_2
        replace p231 := eq_true p231
        replace q231 := eq_true q231
        have p232 : 0 ≤ (x5_1 : Int) := od
        have q232 : x5_1 < (l0.length : Int) := od
        obtain ⟨ad232, A232_2, c232_2, e232, hx232_0, hx232_1, hx232_2, hl232_2, hi232_2⟩ := at_T37 HR0.out x5_1 p232 q232
        obtain rfl : ad230 = ad232 := (by injection e232)
        have HR232_2 := Aside0.mk hi232_2
        have HC232_2 := Aside0.mk hl232_2
        clear hi232_2 hl232_2
        replace p232 := eq_true p232
        replace q232 := eq_true q232
        have ea_ := Option.some.inj (hx230_2.symm.trans hx232_2)
        injection ea_ with ea_ en_ ec_
        subst ea_
        subst ec_
        clear en_
        have p233 : 0 ≤ (x5_1 : Int) := od
        have q233 : x5_1 < (l1.length : Int) := od
        obtain ⟨ad233, A233_2, c233_2, e233, hx233_0, hx233_1, hx233_2, hl233_2, hi233_2⟩ := at_T37 HR1.out x5_1 p233 q233
        obtain rfl : ad231 = ad233 := (by injection e233)
        have HR233_2 := Aside0.mk hi233_2
        have HC233_2 := Aside0.mk hl233_2
        clear hi233_2 hl233_2
        replace p233 := eq_true p233
        replace q233 := eq_true q233
        have ea_ := Option.some.inj (hx231_2.symm.trans hx233_2)
        injection ea_ with ea_ en_ ec_
        subst ea_
        subst ec_
        clear en_
        have p234 : 0 ≤ (x5_1 : Int) := od
        have q234 : x5_1 < (l0.length : Int) := od
        obtain ⟨ad234, A234_2, c234_2, e234, hx234_0, hx234_1, hx234_2, hl234_2, hi234_2⟩ := at_T37 HR0.out x5_1 p234 q234
        obtain rfl : ad230 = ad234 := (by injection e234)
        have HR234_2 := Aside0.mk hi234_2
        have HC234_2 := Aside0.mk hl234_2
        clear hi234_2 hl234_2
        replace p234 := eq_true p234
        replace q234 := eq_true q234
        have ea_ := Option.some.inj (hx230_2.symm.trans hx234_2)
        injection ea_ with ea_ en_ ec_
        subst ea_
        subst ec_
        clear en_
        have hcv16 := Kd.C_string (P := Tryz.prog) (A := A230_2) (c := c230_2) Tryz.underlying35 Tryz.underlying5 Tryz.underlying9 HR234_2.out
        have hcv17 := fun m_ => Kd.C_string (P := Tryz.prog) (A := A230_2) (c := c230_2) Tryz.underlying35 Tryz.underlying5 Tryz.underlying9 (Kd.C_drewN HR234_2.out m_)
        have hcv18 := fun m_ n_ => Kd.C_string (P := Tryz.prog) (A := A230_2) (c := c230_2) Tryz.underlying35 Tryz.underlying5 Tryz.underlying9 (Kd.C_drewN (Kd.C_drewN HR234_2.out m_) n_)
        have p235 : 0 ≤ (x5_1 : Int) := od
        have q235 : x5_1 < (l1.length : Int) := od
        obtain ⟨ad235, A235_2, c235_2, e235, hx235_0, hx235_1, hx235_2, hl235_2, hi235_2⟩ := at_T37 HR1.out x5_1 p235 q235
        obtain rfl : ad231 = ad235 := (by injection e235)
        have HR235_2 := Aside0.mk hi235_2
        have HC235_2 := Aside0.mk hl235_2
        clear hi235_2 hl235_2
        replace p235 := eq_true p235
        replace q235 := eq_true q235
        have ea_ := Option.some.inj (hx231_2.symm.trans hx235_2)
        injection ea_ with ea_ en_ ec_
        subst ea_
        subst ec_
        clear en_
        have hcv19 := Kd.C_string (P := Tryz.prog) (A := A231_2) (c := c231_2) Tryz.underlying35 Tryz.underlying5 Tryz.underlying9 HR235_2.out
        have hcv20 := fun m_ => Kd.C_string (P := Tryz.prog) (A := A231_2) (c := c231_2) Tryz.underlying35 Tryz.underlying5 Tryz.underlying9 (Kd.C_drewN HR235_2.out m_)
        have hcv21 := fun m_ n_ => Kd.C_string (P := Tryz.prog) (A := A231_2) (c := c231_2) Tryz.underlying35 Tryz.underlying5 Tryz.underlying9 (Kd.C_drewN (Kd.C_drewN HR235_2.out m_) n_)
        go_wp2
        repeat (go_quiet (fail); try go_wp2)
        go_ret
        exact ⟨rs_, dr_⟩
      ·
       rw [if_neg c8] at H
       have c8b0 : (((rd_T37 l0 x5_1).f1) == ((rd_T37 l1 x5_1).f1)) = false := beq_eq_false_iff_ne.mpr c8
       have c8b1 : (((rd_T37 l0 x5_1).f1) != ((rd_T37 l1 x5_1).f1)) = true := bne_iff_ne.mpr c8
       obtain rfl := Option.some.inj H
       have p230 : 0 ≤ (x5_1 : Int) := od
       have q230 : x5_1 < (l0.length : Int) := od
       obtain ⟨ad230, A230_2, c230_2, e230, hx230_0, hx230_1, hx230_2, hl230_2, hi230_2⟩ := at_T37 HR0.out x5_1 p230 q230
       cases e230
       have HR230_2 := Aside0.mk hi230_2
       have HC230_2 := Aside0.mk hl230_2
       clear hi230_2 hl230_2
       replace p230 := eq_true p230
       replace q230 := eq_true q230
       have p231 : 0 ≤ (x5_1 : Int) := od
       have q231 : x5_1 < (l1.length : Int) := od
       obtain ⟨ad231, A231_2, c231_2, e231, hx231_0, hx231_1, hx231_2, hl231_2, hi231_2⟩ := at_T37 HR1.out x5_1 p231 q231
       cases e231
       have HR231_2 := Aside0.mk hi231_2
       have HC231_2 := Aside0.mk hl231_2
       clear hi231_2 hl231_2
       replace p231 := eq_true p231
       replace q231 := eq_true q231
       have p232 : 0 ≤ (x5_1 : Int) := od
       have q232 : x5_1 < (l0.length : Int) := od
       obtain ⟨ad232, A232_2, c232_2, e232, hx232_0, hx232_1, hx232_2, hl232_2, hi232_2⟩ := at_T37 HR0.out x5_1 p232 q232
       obtain rfl : ad230 = ad232 := (by injection e232)
       have HR232_2 := Aside0.mk hi232_2
       have HC232_2 := Aside0.mk hl232_2
       clear hi232_2 hl232_2
       replace p232 := eq_true p232
       replace q232 := eq_true q232
       have ea_ := Option.some.inj (hx230_2.symm.trans hx232_2)
       injection ea_ with ea_ en_ ec_
       subst ea_
       subst ec_
       clear en_
       have p233 : 0 ≤ (x5_1 : Int) := od
       have q233 : x5_1 < (l1.length : Int) := od
       obtain ⟨ad233, A233_2, c233_2, e233, hx233_0, hx233_1, hx233_2, hl233_2, hi233_2⟩ := at_T37 HR1.out x5_1 p233 q233
       obtain rfl : ad231 = ad233 := (by injection e233)
       have HR233_2 := Aside0.mk hi233_2
       have HC233_2 := Aside0.mk hl233_2
       clear hi233_2 hl233_2
       replace p233 := eq_true p233
       replace q233 := eq_true q233
       have ea_ := Option.some.inj (hx231_2.symm.trans hx233_2)
       injection ea_ with ea_ en_ ec_
       subst ea_
       subst ec_
       clear en_
       go_wp2
       repeat (go_quiet (fail); try go_wp2)
       go_ret
       exact ⟨rs_, dr_⟩
     ·
      rw [if_neg c7] at H
      have c7b0 : (((rd_T37 l0 x5_1).f0) == ((rd_T37 l1 x5_1).f0)) = false := beq_eq_false_iff_ne.mpr c7
      have c7b1 : (((rd_T37 l0 x5_1).f0) != ((rd_T37 l1 x5_1).f0)) = true := bne_iff_ne.mpr c7
      obtain rfl := Option.some.inj H
      have p230 : 0 ≤ (x5_1 : Int) := od
      have q230 : x5_1 < (l0.length : Int) := od
      obtain ⟨ad230, A230_2, c230_2, e230, hx230_0, hx230_1, hx230_2, hl230_2, hi230_2⟩ := at_T37 HR0.out x5_1 p230 q230
      cases e230
      have HR230_2 := Aside0.mk hi230_2
      have HC230_2 := Aside0.mk hl230_2
      clear hi230_2 hl230_2
      replace p230 := eq_true p230
      replace q230 := eq_true q230
      have p231 : 0 ≤ (x5_1 : Int) := od
      have q231 : x5_1 < (l1.length : Int) := od
      obtain ⟨ad231, A231_2, c231_2, e231, hx231_0, hx231_1, hx231_2, hl231_2, hi231_2⟩ := at_T37 HR1.out x5_1 p231 q231
      cases e231
      have HR231_2 := Aside0.mk hi231_2
      have HC231_2 := Aside0.mk hl231_2
      clear hi231_2 hl231_2
      replace p231 := eq_true p231
      replace q231 := eq_true q231
      go_wp2
      repeat (go_quiet (fail); try go_wp2)
      go_ret
      exact ⟨rs_, dr_⟩
    ·
     rw [if_neg c4] at H
     have c4b0 : decide (x5_1 < (l0.length : Int)) = false := decide_eq_false c4
     clear c4
     obtain rfl := Option.some.inj H
     go_wp2
     repeat (go_quiet (fail); try go_wp2)
     go_ret
     exact ⟨rs_, dr_⟩
 ·
  rw [if_neg c3] at H
  have c3b0 : ((l0.length : Int) == (l1.length : Int)) = false := beq_eq_false_iff_ne.mpr c3
  have c3b1 : ((l0.length : Int) != (l1.length : Int)) = true := bne_iff_ne.mpr c3
  have c3b2 : (l0.length == l1.length) = false := by first | simpa using c3 | (simp at c3 ⊢; omega)
  obtain rfl := Option.some.inj H
  go_enter Tryz.func12, Tryz.ntmps12
  go_wp2
  repeat (go_quiet (fail); try go_wp2)
  go_ret
  exact ⟨rs_, dr_⟩
def r26_names.f  : Option (List ByteArray) := some (([(⟨#[]⟩ : ByteArray), (⟨#[99, 104, 117, 110, 107]⟩ : ByteArray), (⟨#[116, 105, 99, 107]⟩ : ByteArray), (⟨#[112, 105, 99, 107]⟩ : ByteArray)] : List ByteArray))
theorem r26_names.calls  (r : List ByteArray) (w : World) (h : r26_names.f  = some r) :
 Calls Tryz.prog 24 #[] w fun e w' => ∃ v0_ : Value, e = .returned (v0_) ∧ Kd.R Kd.string 9 w' w.heap.size (fun _ => True) v0_ r ∧ Below w.heap.size w w' := by
 have HB := Aside0.mk (Below.refl w.heap.size w)
 have H : (some (([(⟨#[]⟩ : ByteArray), (⟨#[99, 104, 117, 110, 107]⟩ : ByteArray), (⟨#[116, 105, 99, 107]⟩ : ByteArray), (⟨#[112, 105, 99, 107]⟩ : ByteArray)] : List ByteArray))) = some r := h
 clear h
 obtain ⟨y236, hy236⟩ : ∃ y_ : List ByteArray, y_ = (([(⟨#[]⟩ : ByteArray), (⟨#[99, 104, 117, 110, 107]⟩ : ByteArray), (⟨#[116, 105, 99, 107]⟩ : ByteArray), (⟨#[112, 105, 99, 107]⟩ : ByteArray)] : List ByteArray)) := ⟨_, rfl⟩
 replace H : (some y236) = some r := by first | (rw [hy236]; with_reducible exact H) | (have H2_ := (Option.bind_some _ _).symm.trans H; rw [hy236]; with_reducible exact H2_) | (have H2_ := (Option.bind_some _ _).symm.trans H; with_reducible exact H2_) | with_reducible exact H | (rw [hy236]; exact H) | exact H
 have Ny236 := Aside0.mk hy236
 clear hy236
 obtain rfl := Option.some.inj H
 go_enter Tryz.func24, Tryz.ntmps24
 go_wp2_with (first | ((with_reducible refine gate_dst (N := 1) rfl ?_); refine Kd.R_lit Kd.string _ 9 ?hg (N := 1) ?hd (xs := ([(⟨#[]⟩ : ByteArray), (⟨#[99, 104, 117, 110, 107]⟩ : ByteArray), (⟨#[116, 105, 99, 107]⟩ : ByteArray), (⟨#[112, 105, 99, 107]⟩ : ByteArray)] : List ByteArray)) (inner := [.string (⟨#[]⟩ : ByteArray), .string (⟨#[99, 104, 117, 110, 107]⟩ : ByteArray), .string (⟨#[116, 105, 99, 107]⟩ : ByteArray), .string (⟨#[112, 105, 99, 107]⟩ : ByteArray)]) (ok := fun _ => True) (okp := fun _ => True) ?hr ?hp (fun _ hk => hk) trivial (Below.refl _ _) (Nat.le_refl _) (by simp) ?_; (case hd => rfl); (case hg => rfl); (case hr => first | (go_simp; done) | (go_simp; rfl)); (case hp => exact (Reps.one (show Kd.M Kd.string _ _ _ (⟨#[]⟩ : ByteArray) [.string (⟨#[]⟩ : ByteArray)] from rfl) (Reps.one (show Kd.M Kd.string _ _ _ (⟨#[99, 104, 117, 110, 107]⟩ : ByteArray) [.string (⟨#[99, 104, 117, 110, 107]⟩ : ByteArray)] from rfl) (Reps.one (show Kd.M Kd.string _ _ _ (⟨#[116, 105, 99, 107]⟩ : ByteArray) [.string (⟨#[116, 105, 99, 107]⟩ : ByteArray)] from rfl) (Reps.one (show Kd.M Kd.string _ _ _ (⟨#[112, 105, 99, 107]⟩ : ByteArray) [.string (⟨#[112, 105, 99, 107]⟩ : ByteArray)] from rfl) (Reps.none _ _)))))); intro v237 w1 ho2 hb hg_ hnew_; clear hg_ hnew_; (first | rw [← Ny236.out] at ho2 | (simp only [Int.reduceToNat] at ho2; rw [← Ny236.out] at ho2)); have HO238 := Aside0.mk (Kd.R_lower ho2 (below_size (uW HB.out))); replace HB := cW HB hb; clear hb ho2))
 go_ret
 exact ⟨_, re_, uR HO238.out, uW HB.out⟩
def r26_most.f (a0 : Int) : Option (Int) := if a0 = 1 then (some 3) else (if a0 = 2 then (some 1000000000000) else (if a0 = 3 then (some 1000000000000) else (some (-1))))
theorem r26_most.calls (a0 : Int) (r : Int) (w : World) (h : r26_most.f a0 = some r) :
 Calls Tryz.prog 40 #[.int .i64 a0] w fun e w' => e = .returned (.int .i64 r) ∧ Drawn0 w w' := by
 have H : (if a0 = 1 then (some 3) else (if a0 = 2 then (some 1000000000000) else (if a0 = 3 then (some 1000000000000) else (some (-1))))) = some r := h
 clear h
 by_cases c2 : a0 = 1
 ·
  rw [if_pos c2] at H
  have c2b0 : (a0 == 1) = true := beq_iff_eq.mpr c2
  have c2b1 : (a0 != 1) = false := bne_eq_false_iff_eq.mpr c2
  clear c2
  obtain rfl := Option.some.inj H
  go_enter Tryz.func40, Tryz.ntmps40
  go_wp2
  go_ret
  exact ⟨rs_, dr_⟩
 ·
  rw [if_neg c2] at H
  have c2b0 : (a0 == 1) = false := beq_eq_false_iff_ne.mpr c2
  have c2b1 : (a0 != 1) = true := bne_iff_ne.mpr c2
  by_cases c3 : a0 = 2
  ·
   rw [if_pos c3] at H
   have c3b0 : (a0 == 2) = true := beq_iff_eq.mpr c3
   have c3b1 : (a0 != 2) = false := bne_eq_false_iff_eq.mpr c3
   clear c3
   obtain rfl := Option.some.inj H
   go_enter Tryz.func40, Tryz.ntmps40
   go_wp2
   go_ret
   exact ⟨rs_, dr_⟩
  ·
   rw [if_neg c3] at H
   have c3b0 : (a0 == 2) = false := beq_eq_false_iff_ne.mpr c3
   have c3b1 : (a0 != 2) = true := bne_iff_ne.mpr c3
   by_cases c4 : a0 = 3
   ·
    rw [if_pos c4] at H
    have c4b0 : (a0 == 3) = true := beq_iff_eq.mpr c4
    have c4b1 : (a0 != 3) = false := bne_eq_false_iff_eq.mpr c4
    clear c4
    obtain rfl := Option.some.inj H
    go_enter Tryz.func40, Tryz.ntmps40
    go_wp2
    go_ret
    exact ⟨rs_, dr_⟩
   ·
    rw [if_neg c4] at H
    have c4b0 : (a0 == 3) = false := beq_eq_false_iff_ne.mpr c4
    have c4b1 : (a0 != 3) = true := bne_iff_ne.mpr c4
    obtain rfl := Option.some.inj H
    go_enter Tryz.func40, Tryz.ntmps40
    go_wp2
    go_ret
    exact ⟨rs_, dr_⟩
def r02_Split.l0 : Nat → ByteArray → Int → List ByteArray → Int → Int → Option (List ByteArray)
 | 0, _, _, _, _, _ => none
 | k + 1, x0, x1, x5, x6, x7 => if x7 < (x0.size : Int) then (if 0 ≤ x7 then (if (bt x0 x7) = x1 then (if 0 ≤ x6 then (if x6 ≤ x7 then (if x7 ≤ (x0.size : Int) then (if x5.length < 8796093022208 then (r02_Split.l0 k x0 x1 (x5 ++ [x0.extract (x6 : Int).toNat (x7 : Int).toNat]) (wrap64 (x7 + 1)) (wrap64 (x7 + 1))) else (none)) else (none)) else (none)) else (none)) else (r02_Split.l0 k x0 x1 x5 x6 (wrap64 (x7 + 1)))) else (none)) else (if 0 ≤ x6 then (if x6 ≤ (x0.size : Int) then (if x5.length < 8796093022208 then (some (x5 ++ [x0.extract (x6 : Int).toNat x0.size])) else (none)) else (none)) else (none))
def r02_Split.f (k : Nat) (a0 : ByteArray) (a1 : Int) : Option (List ByteArray) := r02_Split.l0 k a0 a1 ([] : List ByteArray) 0 0
theorem r02_Split.mono_l : ∀ k, (∀ y0 y1 y2 y3 y4, LeC (r02_Split.l0 k y0 y1 y2 y3 y4) (r02_Split.l0 (k + 1) y0 y1 y2 y3 y4))
 | 0 => fun _ _ _ _ _ => ⟨fun r h => by simp [r02_Split.l0] at h⟩
 | k + 1 => by have ih0 := r02_Split.mono_l k; exact fun _ _ _ _ _ => by unfold r02_Split.l0; exact lm
theorem r02_Split.mono : ∀ a0 a1 k, LeO (r02_Split.f k a0 a1) (r02_Split.f (k + 1) a0 a1) := by
 intro a0 a1 k
 have ih0 := r02_Split.mono_l k
 unfold r02_Split.f
 exact lo
instance r02_Split.mI {a0 a1 k} : LeC (r02_Split.f k a0 a1) (r02_Split.f (k + 1) a0 a1) := ⟨r02_Split.mono _ _ _⟩
theorem r02_Split.calls (k : Nat) (a0 : ByteArray) (a1 : Int) (r : List ByteArray) (w : World) (h : r02_Split.f k a0 a1 = some r) :
 Calls Tryz.prog 49 #[.string a0, .int .u8 a1] w fun e w' => ∃ v0_ : Value, e = .returned (v0_) ∧ Kd.R Kd.string 9 w' w.heap.size (fun _ => True) v0_ r ∧ Below w.heap.size w w' := by
 have HB := Aside0.mk (Below.refl w.heap.size w)
 have H : (r02_Split.l0 k a0 a1 ([] : List ByteArray) 0 0) = some r := h
 clear h
 have H' := Aside0.mk H
 clear H
 go_enter Tryz.func49, Tryz.ntmps49
 go_wp2
 go_loopg [5, 6, 7] k (fun kq v5 v6 v7 w' => ∃ (x5_1 : List ByteArray) (x6_1 : Int) (x7_1 : Int), v6 = .int .i64 x6_1 ∧ v7 = .int .i64 x7_1 ∧ Aside0 (r02_Split.l0 kq a0 a1 x5_1 x6_1 x7_1 = some r) ∧ Aside0 (kq ≤ k) ∧ Aside0 (Kd.R Kd.string 9 w' w.heap.size (fun _ => True) v5 x5_1) ∧ Aside0 (Below w.heap.size w w'))
 case atStart => exact ⟨(([] : List ByteArray)), (0), (0), rs_, rs_, H', ⟨Nat.le_refl _⟩, ⟨nl_⟩, ⟨uW HB.out⟩⟩
 case round =>
  clear H'
  try clear p2
  obtain ⟨x5_1, x6_1, x7_1, rfl, rfl, HA, HK1, HO_5, HB⟩ := hrel
  cases gk with
  | zero => exact absurd HA.out (by simp [r02_Split.l0])
  | succ k1 =>
   have H := HA.out
   clear HA
   simp only [r02_Split.l0] at H
   by_cases c3 : x7_1 < (a0.size : Int)
   ·
    rw [if_pos c3] at H
    have c3b0 : decide (x7_1 < (a0.size : Int)) = true := decide_eq_true c3
    clear c3
    obtain ⟨c4b0, H⟩ := gdd H
    by_cases c6 : (bt a0 x7_1) = a1
    ·
     rw [if_pos c6] at H
     have c6b0 : ((bt a0 x7_1) == a1) = true := beq_iff_eq.mpr c6
     have c6b1 : ((bt a0 x7_1) != a1) = false := bne_eq_false_iff_eq.mpr c6
     clear c6
     obtain ⟨c7, H⟩ := gd H
     have c7b0 := eq_true c7
     have c7b1 : decide (0 ≤ x6_1) = true := decide_eq_true c7
     clear c7
     obtain ⟨c8, H⟩ := gd H
     have c8b0 := eq_true c8
     have c8b1 : decide (x6_1 ≤ x7_1) = true := decide_eq_true c8
     clear c8
     obtain ⟨c9, H⟩ := gd H
     have c9b0 := eq_true c9
     have c9b1 : decide (x7_1 ≤ (a0.size : Int)) = true := decide_eq_true c9
     clear c9
     obtain ⟨c10, H⟩ := gd H
     have LMc10 := Aside0.mk c10
     clear c10
     obtain ⟨y239, hy239⟩ : ∃ y_ : List ByteArray, y_ = (x5_1 ++ [a0.extract (x6_1 : Int).toNat (x7_1 : Int).toNat]) := ⟨_, rfl⟩
     replace H : (r02_Split.l0 k1 a0 a1 y239 (wrap64 (x7_1 + 1)) (wrap64 (x7_1 + 1))) = some r := by first | (rw [hy239]; with_reducible exact H) | (have H2_ := (Option.bind_some _ _).symm.trans H; rw [hy239]; with_reducible exact H2_) | (have H2_ := (Option.bind_some _ _).symm.trans H; with_reducible exact H2_) | with_reducible exact H | (rw [hy239]; exact H) | exact H
     have Ny239 := Aside0.mk hy239
     clear hy239
     have H' := Aside0.mk H
     clear H
     have p5 : 0 ≤ (x7_1 : Int) := od
     have q5 : x7_1 < (a0.size : Int) := od
     have hx5 := bt_at a0 x7_1
     replace p5 := eq_true p5
     replace q5 := eq_true q5
     go_wp2_with (first | ((with_reducible refine gate_builtin (b := .append) (xs := #[.tmp 19, .tmp 24]) rfl ?_); at_builtin; refine Kd.R_append Kd.string (w0 := w) w.heap.size rfl (.tmp 19) (.tmp 24) 47 9 (.string ⟨#[]⟩) 16 rfl Tryz.underlying47 info9 rfl (by decide) (by omega) u5 x5_1 (a0.extract (x6_1 : Int).toNat (x7_1 : Int).toNat) [.string (a0.extract (x6_1 : Int).toNat (x7_1 : Int).toNat)] (fun _ => True) (fun _ => False) rfl rfl ?aP (fun _ hk => hk.elim) ?aF ?aO ?aB ?aS ?aL ?_; (case aP => exact rfl); (case aB => exact (uW HB.out)); (case aF => exact (fun _ _ => trivial)); (case aO => exact (uR HO_5.out)); (case aS => exact (below_size (uW HB.out))); (case aL => have := LMc10.out; omega); intro v240 w11 ho hb hg hat; rw [← Ny239.out] at ho; replace HB := Aside0.mk (hb); have HO241 := Aside0.mk (ho); clear HO_5; clear ho hb hg hat))
     go_roundg k1
     case measure => have := HK1.out; omega
     case rel => exact ⟨(y239), (wrap64 (x7_1 + 1)), (wrap64 (x7_1 + 1)), rs_, rs_, H', ⟨by have := HK1.out; omega⟩, ⟨uR HO241.out⟩, ⟨uW HB.out⟩⟩
    ·
     rw [if_neg c6] at H
     have c6b0 : ((bt a0 x7_1) == a1) = false := beq_eq_false_iff_ne.mpr c6
     have c6b1 : ((bt a0 x7_1) != a1) = true := bne_iff_ne.mpr c6
     have H' := Aside0.mk H
     clear H
     have p5 : 0 ≤ (x7_1 : Int) := od
     have q5 : x7_1 < (a0.size : Int) := od
     have hx5 := bt_at a0 x7_1
     replace p5 := eq_true p5
     replace q5 := eq_true q5
     go_wp2
     go_roundg k1
     case measure => have := HK1.out; omega
     case rel => exact ⟨(x5_1), (x6_1), (wrap64 (x7_1 + 1)), rs_, rs_, H', ⟨by have := HK1.out; omega⟩, ⟨uR HO_5.out⟩, ⟨uW HB.out⟩⟩
   ·
    rw [if_neg c3] at H
    have c3b0 : decide (x7_1 < (a0.size : Int)) = false := decide_eq_false c3
    clear c3
    by_cases c12 : 0 ≤ x6_1
    ·
     rw [if_pos c12] at H
     have c12b0 := eq_true c12
     have c12b1 : decide (0 ≤ x6_1) = true := decide_eq_true c12
     clear c12
     obtain ⟨c13, H⟩ := gd H
     have c13b0 := eq_true c13
     have c13b1 : decide (x6_1 ≤ (a0.size : Int)) = true := decide_eq_true c13
     clear c13
     obtain ⟨c14, H⟩ := gd H
     have LMc14 := Aside0.mk c14
     clear c14
     obtain ⟨y242, hy242⟩ : ∃ y_ : List ByteArray, y_ = (x5_1 ++ [a0.extract (x6_1 : Int).toNat a0.size]) := ⟨_, rfl⟩
     replace H : (some y242) = some r := by first | (rw [hy242]; with_reducible exact H) | (have H2_ := (Option.bind_some _ _).symm.trans H; rw [hy242]; with_reducible exact H2_) | (have H2_ := (Option.bind_some _ _).symm.trans H; with_reducible exact H2_) | with_reducible exact H | (rw [hy242]; exact H) | exact H
     have Ny242 := Aside0.mk hy242
     clear hy242
     obtain rfl := Option.some.inj H
     go_wp2_with (first | ((with_reducible refine gate_builtin (b := .append) (xs := #[.tmp 28, .tmp 32]) rfl ?_); at_builtin; refine Kd.R_append Kd.string (w0 := w) w.heap.size rfl (.tmp 28) (.tmp 32) 47 9 (.string ⟨#[]⟩) 16 rfl Tryz.underlying47 info9 rfl (by decide) (by omega) u5 x5_1 (a0.extract (x6_1 : Int).toNat a0.size) [.string (a0.extract (x6_1 : Int).toNat a0.size)] (fun _ => True) (fun _ => False) rfl rfl ?aP (fun _ hk => hk.elim) ?aF ?aO ?aB ?aS ?aL ?_; (case aP => exact rfl); (case aB => exact (uW HB.out)); (case aF => exact (fun _ _ => trivial)); (case aO => exact (uR HO_5.out)); (case aS => exact (below_size (uW HB.out))); (case aL => have := LMc14.out; omega); intro v243 w15 ho hb hg hat; rw [← Ny242.out] at ho; replace HB := Aside0.mk (hb); have HO244 := Aside0.mk (ho); clear HO_5; clear ho hb hg hat))
     go_ret
     exact ⟨_, re_, uR HO244.out, uW HB.out⟩
    ·
     rw [if_neg c12] at H
     exact absurd H (by simp)
end Go.Proofs.YtkplklfmhieoaaaGreatDoor.X
