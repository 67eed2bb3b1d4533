/- Printed by a program of this session's own: what functions of the program compute, and that the machine computes it. No condition of its own. -/
import Derived.Test.YtkplklfmhieoaaaDoorM3
import Derived.Test.YtkplklfmhieoaaaDoorM4
namespace Go.Proofs.YtkplklfmhieoaaaDoor.X
open Go.RowKit Go.Proofs.YtkplklfmhieoaaaDoorW.PrintWords Go.Proofs.YtkplklfmhieoaaaDoorW.PrintLast Go.Proofs.YtkplklfmhieoaaaDoorW.PrintMore
attribute [local go_sem] max2_int min2_int max_two min_two max_three min_three max_four min_four
set_option linter.unusedVariables false
set_option linter.unusedSimpArgs false
set_option maxHeartbeats 8000000
set_option maxRecDepth 100000
def script_event.j0 : Nat → List ByteArray → Int → Bool → Int → Int → ByteArray → Int → Bool → Option (Int × Int × List Int × Int)
 | 0, _, _, _, _, _, _, _, _ => none
 | k + 1, x1, x4, x37, x147000, x147001, x156000, x156001, x156002 => if x37 = true then (some (x147000, x147001, ([] : List Int), 2)) else (if 1 < (x1.length : Int) then ((sat_Read.f (rdOf ByteArray.empty x1 1)).bind fun bt157 => (if bt157.2 = 0 then (if bt157.1 < 0 then (some (x147000, x147001, ([] : List Int), 3)) else (if bt157.1 > x156001 then (some (x147000, x147001, ([] : List Int), 3)) else (if x156002 = true then (if 2 < (x1.length : Int) then ((script_data.f k (rdOf ByteArray.empty x1 2)).bind fun bt160 => (if bt160.2 = true then (some (wrap64 (x4 + 1), bt157.1, bt160.1, 0)) else (some (wrap64 (x4 + 1), bt157.1, bt160.1, 2)))) else (none)) else (some (wrap64 (x4 + 1), bt157.1, ([] : List Int), 0))))) else (some (x147000, x147001, ([] : List Int), bt157.2)))) else (none))
def script_event.f (k : Nat) (l0 : List ByteArray) : Option (Int × Int × List Int × Int) := (script_kinds.f).bind fun t147 => ((script_find.f t147 l0).bind fun t150 => ((script_of.f (wrap64 (t150 + 1))).bind fun bt151 => (if bt151.2.2.2 = true then (if bt151.2.2.1 = true then (if (l0.length : Int) = 3 then (script_event.j0 k l0 t150 false 0 0 bt151.1 bt151.2.1 bt151.2.2.1) else (script_event.j0 k l0 t150 true 0 0 bt151.1 bt151.2.1 bt151.2.2.1)) else (script_event.j0 k l0 t150 ((l0.length : Int) != 2) 0 0 bt151.1 bt151.2.1 bt151.2.2.1)) else (script_event.j0 k l0 t150 true 0 0 bt151.1 bt151.2.1 bt151.2.2.1))))
theorem script_event.mono_l : ∀ k, (∀ y0 y1 y2 y3 y4 y5 y6 y7, LeC (script_event.j0 k y0 y1 y2 y3 y4 y5 y6 y7) (script_event.j0 (k + 1) y0 y1 y2 y3 y4 y5 y6 y7))
 | 0 => fun _ _ _ _ _ _ _ _ => ⟨fun r h => by simp [script_event.j0] at h⟩
 | k + 1 => by have ih0 := script_event.mono_l k; exact fun _ _ _ _ _ _ _ _ => by unfold script_event.j0; exact lm
theorem script_event.mono : ∀ a0 k, LeO (script_event.f k a0) (script_event.f (k + 1) a0) := by
 intro a0 k
 have ih0 := script_event.mono_l k
 unfold script_event.f
 exact lo
instance script_event.mI {a0 k} : LeC (script_event.f k a0) (script_event.f (k + 1) a0) := ⟨script_event.mono _ _⟩
theorem script_event.calls (k : Nat) (A0 : Option Addr) (c0 : Nat) (l0 : List ByteArray) (r1 : Int) (r2 : Int) (r3 : List Int) (r4 : Int) (w : World) (hr0 : Kd.C Kd.string w A0 l0.length l0) (hc0 : l0.length ≤ c0) (hL : LD w) (h : script_event.f k l0 = some (r1, r2, r3, r4)) :
 Calls Tryd.prog 22 #[.slice A0 l0.length c0] w fun e w' => ∃ v2_ : Value, e = .returned (.tuple #[.agg #[.int .i64 r1, .int .i64 r2, v2_], .int .i64 r4]) ∧ Kd.R (Kd.int .u8) 5 w' w.heap.size (fun _ => True) v2_ r3 ∧ Below w.heap.size w w' := by
 have HL0 := Aside0.mk hL
 clear hL
 have hu36 := Tryd.underlying36
 have hu43 := Tryd.underlying43
 have HR0 := Aside0.mk hr0
 have HC0 := Aside0.mk hc0
 clear hr0 hc0
 have HB := Aside0.mk (Below.refl w.heap.size w)
 have H : ((script_kinds.f).bind fun t147 => ((script_find.f t147 l0).bind fun t150 => ((script_of.f (wrap64 (t150 + 1))).bind fun bt151 => (if bt151.2.2.2 = true then (if bt151.2.2.1 = true then (if (l0.length : Int) = 3 then (script_event.j0 k l0 t150 false 0 0 bt151.1 bt151.2.1 bt151.2.2.1) else (script_event.j0 k l0 t150 true 0 0 bt151.1 bt151.2.1 bt151.2.2.1)) else (script_event.j0 k l0 t150 ((l0.length : Int) != 2) 0 0 bt151.1 bt151.2.1 bt151.2.2.1)) else (script_event.j0 k l0 t150 true 0 0 bt151.1 bt151.2.1 bt151.2.2.1))))) = some (r1, r2, r3, r4) := h
 clear h
 obtain ⟨t147, A2, H⟩ := bs H
 try dsimp only at H
 obtain ⟨t150, A3, H⟩ := bs H
 try dsimp only at H
 obtain ⟨⟨t151, t152, t153, t154⟩, A4, H⟩ := bs H
 try dsimp only at H
 have HC5 := Aside0.mk H
 clear H
 go_enter Tryd.func22, Tryd.ntmps22
 go_upto_region 3 with (first | ((with_reducible refine gate_dst (N := 1) rfl ?_); refine bx (N := 1) #[.slice A0 l0.length c0] 47 ?_; intro bL_ hgL wL hboxL hbL; have HB0 := Aside0.mk (below_step HB.out hbL); have hcL : wL.cell? ⟨bL_, 0, none⟩ = some (.slice A0 l0.length c0) := (blk_cell hboxL 0).trans rfl; clear HB hbL hboxL hgL; rename World => w; replace HR0 := Aside0.mk (Kd.C_below HR0.out HB0.out); replace HL0 := Aside0.mk (LD.below HL0.out HB0.out); have HB := Aside0.mk (Below.refl w.heap.size w)) | ((with_reducible refine gate_dst (N := 2) rfl ?_); (try (refine gate_guard (by rfl) ?_; dsimp only)); refine bx (N := 2) #[.int .i64 0, .int .i64 0, .slice none 0 0] 36 ?_; intro gb146 hg w6 hbox hb; have BK146 := Aside0.mk (hbox); have GW146 := gw hg (uW HB.out); have GE146 := GW146; replace HB := cW HB hb; have hcl1_ := kc HB hcL; have hnL146_ : gb146 ≠ bL_ := fun e_ => Nat.not_lt.2 GE146.out (e_ ▸ (show bL_ < w.heap.size from World.block_lt_of_cell? w _ hcL)); have hnM146_ := Ne.symm hnL146_; clear hb hbox hg) | (refine gL (some 8) rfl Tryd.func30 #[] ?_; (with_reducible refine (script_kinds.calls  t147 _ A2.out).mono ?_); rintro e w7 ⟨v148, rfl, ho0, hb⟩; refine ⟨_, rfl, ?_⟩; have HO149 := Aside0.mk (Kd.R_lower ho0 (below_size bl)); replace BK146 := cB BK146 hb; replace HB := Aside0.mk (below_step bl hb); have hcl2_ := kc HB hcL; (try clear hb); (try clear ho0); obtain ⟨Ao8, co8, eo8⟩ := Kd.R_slice HO149.out; subst eo8) | (refine gL (some 10) rfl Tryd.func35 #[.slice Ao8 t147.length co8, .func (.func 36) #[] #[.pointer (some ⟨bL_, 0, none⟩)]] ?_; (with_reducible refine (script_find.calls (B0_ := bL_) _ _ t147 A0 c0 l0 t150 _ ?side1 ?side2 ?side3 ?side4 ?sideL A3.out).mono ?_); (case sideL => first | exact kc HB hcL | assumption); (case side1 => exact uC <| (Kd.R_reads' HO149.out).2.2); (case side2 => exact (Kd.R_reads' HO149.out).2.1); (case side3 => exact uC <| (Kd.C_below HR0.out HB.out)); (case side4 => exact HC0.out); rintro e w9 ⟨rfl, hb⟩; refine ⟨_, rfl, ?_⟩; replace HO149 := cR HO149 hb; replace BK146 := cB BK146 hb; replace HB := Aside0.mk (below_step bl hb); have hcl3_ := kc HB hcL; (try clear hb)) | (refine gL (some 14) rfl Tryd.func14 #[.int .i64 (wrap64 (t150 + 1))] ?_; (with_reducible refine (script_of.calls (wrap64 (t150 + 1)) t151 t152 t153 t154 _ A4.out).mono ?_); rintro e w10 ⟨rfl, hb⟩; refine ⟨_, rfl, ?_⟩; replace HO149 := cR HO149 hb; replace BK146 := cB BK146 hb; replace HB := Aside0.mk (below_step bl hb); have hcl4_ := kc HB hcL; (try clear hb)) | ((with_reducible refine gate_dst (N := 5) rfl ?_); (try (refine gate_guard (by rfl) ?_; dsimp only)); refine bx (N := 5) #[.string (⟨#[]⟩ : ByteArray), .int .i64 0, .bool false] 43 ?_; intro gb155 hg w11 hbox hb; replace HO149 := Aside0.mk (Kd.R_below (Kd.R_elderB (uR HO149.out) gb155 (Nat.le_of_eq hg.symm)) hb); have BK155 := Aside0.mk (hbox); have GW155 := gw hg bl; have GE155 := GW155; replace HB := Aside0.mk (below_step bl hb); have NB146_155 := Aside0.mk ((by rw [hg]; exact Nat.ne_of_lt (blk_lt (g := gb146) (o := .cells #[.int .i64 0, .int .i64 0, .slice none 0 0] 36 (0, 0)) (uB BK146.out)) : gb146 ≠ gb155)); have NB155_146 := Aside0.mk ((by rw [hg]; exact Nat.ne_of_gt (blk_lt (g := gb146) (o := .cells #[.int .i64 0, .int .i64 0, .slice none 0 0] 36 (0, 0)) (uB BK146.out)) : gb155 ≠ gb146)); replace BK146 := cB BK146 hb; have hcl5_ := kc HB hcL; have hnL155_ : gb155 ≠ bL_ := fun e_ => Nat.not_lt.2 GE155.out (e_ ▸ (show bL_ < w.heap.size from World.block_lt_of_cell? w _ hcL)); have hnM155_ := Ne.symm hnL155_; clear hb hbox hg; have hnb12 := NB155_146.out; have hnc12 := NB146_155.out; obtain ⟨hcz13_0, hcz13_1, hcz13_2, hfz13_0, hfz13_1, hfz13_2⟩ := z3 BK155))
 (try simp only [Act.put, List.setIfInBounds_toArray, List.set_cons_zero, List.set_cons_succ])
 go_cut [37] (fun v37 wc => ∃ (kq : Nat) (x37_4 : Bool), v37 = .bool x37_4 ∧ Aside0 (script_event.j0 kq l0 t150 x37_4 0 0 t151 t152 t153 = some (r1, r2, r3, r4)) ∧ Aside0 (kq ≤ k) ∧ Aside0 (wc.heap[gb146]? = some (.cells #[.int .i64 0, .int .i64 0, (.slice none 0 0)] 36 (0, 0))) ∧ Aside0 (wc.heap[gb155]? = some (.cells #[.string t151, .int .i64 t152, .bool t153] 43 (0, 0))) ∧ Aside0 (Below w.heap.size w wc))
 case first =>
  have H := HC5.out
  clear HC5
  by_cases c14 : t154 = true
  ·
   subst c14
   rw [if_pos rfl] at H
   by_cases c15 : t153 = true
   ·
    subst c15
    rw [if_pos rfl] at H
    by_cases c16 : (l0.length : Int) = 3
    ·
     rw [if_pos c16] at H
     have c16b0 : ((l0.length : Int) == 3) = true := beq_iff_eq.mpr c16
     have c16b1 : ((l0.length : Int) != 3) = false := bne_eq_false_iff_eq.mpr c16
     clear c16
     (first | rw [c16b0] | (simp only [i64_w, i32_w]; rw [c16b0]) | skip)
     have H' := Aside0.mk H
     clear H
     have hnb17 := NB155_146.out
     have hnc17 := NB146_155.out
     obtain ⟨hcz18_0, hcz18_1, hcz18_2, hfz18_0, hfz18_1, hfz18_2⟩ := z3 BK155
     go_wp2
     go_meet
     case rel => exact ⟨_, (false), rs_, H', ⟨by first | omega | exact Nat.le_refl _⟩, ⟨by (with_reducible repeat (first | refine blk_drewN ?_ _ | refine blk_drew ?_ | refine blk_alloc ?_ _)); refine blk_far ?_ NB146_155.out _; (with_reducible repeat (first | refine blk_drewN ?_ _ | refine blk_drew ?_ | refine blk_alloc ?_ _)); refine blk_far ?_ NB146_155.out _; (with_reducible repeat (first | refine blk_drewN ?_ _ | refine blk_drew ?_ | refine blk_alloc ?_ _)); refine blk_far ?_ NB146_155.out _; exact uB <| BK146.out⟩, ⟨by (with_reducible repeat (first | refine blk_drewN ?_ _ | refine blk_drew ?_ | refine blk_alloc ?_ _)); refine blk_put (cs := #[.string t151, .int .i64 t152, .bool false]) ?_ 2 _ rfl; (with_reducible repeat (first | refine blk_drewN ?_ _ | refine blk_drew ?_ | refine blk_alloc ?_ _)); refine blk_put (cs := #[.string t151, .int .i64 0, .bool false]) ?_ 1 _ rfl; (with_reducible repeat (first | refine blk_drewN ?_ _ | refine blk_drew ?_ | refine blk_alloc ?_ _)); refine blk_put (cs := #[.string (⟨#[]⟩ : ByteArray), .int .i64 0, .bool false]) ?_ 0 _ rfl; exact uB <| BK155.out⟩, ⟨bl⟩⟩
    ·
     rw [if_neg c16] at H
     have c16b0 : ((l0.length : Int) == 3) = false := beq_eq_false_iff_ne.mpr c16
     have c16b1 : ((l0.length : Int) != 3) = true := bne_iff_ne.mpr c16
     (first | rw [c16b0] | (simp only [i64_w, i32_w]; rw [c16b0]) | skip)
     have H' := Aside0.mk H
     clear H
     have hnb19 := NB155_146.out
     have hnc19 := NB146_155.out
     obtain ⟨hcz20_0, hcz20_1, hcz20_2, hfz20_0, hfz20_1, hfz20_2⟩ := z3 BK155
     go_wp2
     go_meet
     case rel => exact ⟨_, (true), rs_, H', ⟨by first | omega | exact Nat.le_refl _⟩, ⟨by (with_reducible repeat (first | refine blk_drewN ?_ _ | refine blk_drew ?_ | refine blk_alloc ?_ _)); refine blk_far ?_ NB146_155.out _; (with_reducible repeat (first | refine blk_drewN ?_ _ | refine blk_drew ?_ | refine blk_alloc ?_ _)); refine blk_far ?_ NB146_155.out _; (with_reducible repeat (first | refine blk_drewN ?_ _ | refine blk_drew ?_ | refine blk_alloc ?_ _)); refine blk_far ?_ NB146_155.out _; exact uB <| BK146.out⟩, ⟨by (with_reducible repeat (first | refine blk_drewN ?_ _ | refine blk_drew ?_ | refine blk_alloc ?_ _)); refine blk_put (cs := #[.string t151, .int .i64 t152, .bool false]) ?_ 2 _ rfl; (with_reducible repeat (first | refine blk_drewN ?_ _ | refine blk_drew ?_ | refine blk_alloc ?_ _)); refine blk_put (cs := #[.string t151, .int .i64 0, .bool false]) ?_ 1 _ rfl; (with_reducible repeat (first | refine blk_drewN ?_ _ | refine blk_drew ?_ | refine blk_alloc ?_ _)); refine blk_put (cs := #[.string (⟨#[]⟩ : ByteArray), .int .i64 0, .bool false]) ?_ 0 _ rfl; exact uB <| BK155.out⟩, ⟨bl⟩⟩
   ·
    replace c15 := Bool.eq_false_iff.mpr c15
    subst c15
    rw [if_neg (show ¬ (false = true) by decide)] at H
    have H' := Aside0.mk H
    clear H
    have hnb21 := NB155_146.out
    have hnc21 := NB146_155.out
    obtain ⟨hcz22_0, hcz22_1, hcz22_2, hfz22_0, hfz22_1, hfz22_2⟩ := z3 BK155
    go_wp2
    go_meet
    case rel => exact ⟨_, (((l0.length : Int) != 2)), rs_, H', ⟨by first | omega | exact Nat.le_refl _⟩, ⟨by (with_reducible repeat (first | refine blk_drewN ?_ _ | refine blk_drew ?_ | refine blk_alloc ?_ _)); refine blk_far ?_ NB146_155.out _; (with_reducible repeat (first | refine blk_drewN ?_ _ | refine blk_drew ?_ | refine blk_alloc ?_ _)); refine blk_far ?_ NB146_155.out _; (with_reducible repeat (first | refine blk_drewN ?_ _ | refine blk_drew ?_ | refine blk_alloc ?_ _)); refine blk_far ?_ NB146_155.out _; exact uB <| BK146.out⟩, ⟨by (with_reducible repeat (first | refine blk_drewN ?_ _ | refine blk_drew ?_ | refine blk_alloc ?_ _)); refine blk_put (cs := #[.string t151, .int .i64 t152, .bool false]) ?_ 2 _ rfl; (with_reducible repeat (first | refine blk_drewN ?_ _ | refine blk_drew ?_ | refine blk_alloc ?_ _)); refine blk_put (cs := #[.string t151, .int .i64 0, .bool false]) ?_ 1 _ rfl; (with_reducible repeat (first | refine blk_drewN ?_ _ | refine blk_drew ?_ | refine blk_alloc ?_ _)); refine blk_put (cs := #[.string (⟨#[]⟩ : ByteArray), .int .i64 0, .bool false]) ?_ 0 _ rfl; exact uB <| BK155.out⟩, ⟨bl⟩⟩
  ·
   replace c14 := Bool.eq_false_iff.mpr c14
   subst c14
   rw [if_neg (show ¬ (false = true) by decide)] at H
   have H' := Aside0.mk H
   clear H
   go_wp2
   go_meet
   case rel => exact ⟨_, (true), rs_, H', ⟨by first | omega | exact Nat.le_refl _⟩, ⟨by (with_reducible repeat (first | refine blk_drewN ?_ _ | refine blk_drew ?_ | refine blk_alloc ?_ _)); refine blk_far ?_ NB146_155.out _; (with_reducible repeat (first | refine blk_drewN ?_ _ | refine blk_drew ?_ | refine blk_alloc ?_ _)); refine blk_far ?_ NB146_155.out _; (with_reducible repeat (first | refine blk_drewN ?_ _ | refine blk_drew ?_ | refine blk_alloc ?_ _)); refine blk_far ?_ NB146_155.out _; exact uB <| BK146.out⟩, ⟨by (with_reducible repeat (first | refine blk_drewN ?_ _ | refine blk_drew ?_ | refine blk_alloc ?_ _)); refine blk_put (cs := #[.string t151, .int .i64 t152, .bool false]) ?_ 2 _ rfl; (with_reducible repeat (first | refine blk_drewN ?_ _ | refine blk_drew ?_ | refine blk_alloc ?_ _)); refine blk_put (cs := #[.string t151, .int .i64 0, .bool false]) ?_ 1 _ rfl; (with_reducible repeat (first | refine blk_drewN ?_ _ | refine blk_drew ?_ | refine blk_alloc ?_ _)); refine blk_put (cs := #[.string (⟨#[]⟩ : ByteArray), .int .i64 0, .bool false]) ?_ 0 _ rfl; exact uB <| BK155.out⟩, ⟨bl⟩⟩
 case rest =>
  clear HC5
  try clear c1
  try clear c2
  try clear p2
  try clear c3
  try clear p6
  try clear c9
  try clear c12
  try clear c14
  try clear c15
  try clear c16
  try clear c16b0
  try clear c16b1
  try clear c17
  try clear c19
  try clear c21
  try clear c22
  try clear hcz13_0
  try clear hcz13_1
  try clear hcz13_2
  try clear hcz18_0
  try clear hcz18_1
  try clear hcz18_2
  try clear hcz20_0
  try clear hcz20_1
  try clear hcz20_2
  try clear hcz22_0
  try clear hcz22_1
  try clear hcz22_2
  try clear hfz13_0
  try clear hfz13_1
  try clear hfz13_2
  try clear hfz18_0
  try clear hfz18_1
  try clear hfz18_2
  try clear hfz20_0
  try clear hfz20_1
  try clear hfz20_2
  try clear hfz22_0
  try clear hfz22_1
  try clear hfz22_2
  obtain ⟨kq, x37_4, rfl, HA, HJ4, BK146, BK155, HB⟩ := hcut
  have hcl6_ := kc HB hcL
  cases kq with
  | zero => exact absurd HA.out (by simp [script_event.j0])
  | succ kj4 =>
   have H := HA.out
   clear HA
   simp only [script_event.j0] at H
   by_cases c23 : x37_4 = true
   ·
    subst c23
    rw [if_pos rfl] at H
    simp only [Option.some.injEq, Prod.mk.injEq] at H
    obtain ⟨rfl, rfl, rfl, rfl⟩ := H
    have hnb24 := NB146_155.out
    have hnc24 := NB155_146.out
    obtain ⟨hcz25_0, hcz25_1, hcz25_2, hfz25_0, hfz25_1, hfz25_2⟩ := z3 BK146
    go_wp2
    refine bodyPost_ret (results_ct rfl _ _ gb146 36 #[.int .i64 0, .int .i64 0, .slice none 0 0] (0, 0) _ rfl (by (with_reducible repeat (first | refine blk_drewN ?_ _ | refine blk_drew ?_ | refine blk_alloc ?_ _)); refine blk_put (cs := #[.int .i64 0, .int .i64 0, .slice none 0 0]) ?_ 2 _ rfl; (with_reducible repeat (first | refine blk_drewN ?_ _ | refine blk_drew ?_ | refine blk_alloc ?_ _)); refine blk_put (cs := #[.int .i64 0, .int .i64 0, .slice none 0 0]) ?_ 1 _ rfl; (with_reducible repeat (first | refine blk_drewN ?_ _ | refine blk_drew ?_ | refine blk_alloc ?_ _)); refine blk_put (cs := #[.int .i64 0, .int .i64 0, .slice none 0 0]) ?_ 0 _ rfl; exact uB <| BK146.out) Tryd.underlying36 rfl (by kernel_rfl)) rfl ?_
    exact ⟨_, re_, nl_, below_step HB0.out bl⟩
   ·
    replace c23 := Bool.eq_false_iff.mpr c23
    subst c23
    rw [if_neg (show ¬ (false = true) by decide)] at H
    by_cases c26 : 1 < (l0.length : Int)
    ·
     rw [if_pos c26] at H
     have c26b0 : decide (1 < (l0.length : Int)) = true := decide_eq_true c26
     have c26b1 : decide (1 < l0.length) = true := decide_eq_true (by omega)
     clear c26
     obtain ⟨⟨t157, t158⟩, A27, H⟩ := bs H
     try dsimp only at H
     by_cases c28 : t158 = 0
     ·
      rw [if_pos c28] at H
      have c28b0 : (t158 == 0) = true := beq_iff_eq.mpr c28
      have c28b1 : (t158 != 0) = false := bne_eq_false_iff_eq.mpr c28
      clear c28
      by_cases c29 : t157 < 0
      ·
       rw [if_pos c29] at H
       have c29b0 : decide (t157 < 0) = true := decide_eq_true c29
       clear c29
       simp only [Option.some.injEq, Prod.mk.injEq] at H
       obtain ⟨rfl, rfl, rfl, rfl⟩ := H
       have p156 : 0 ≤ (1 : Int) := (by omega)
       have q156 : 1 < (l0.length : Int) := od
       obtain ⟨ad156, e156, hx156_0⟩ := Kd.at_string HR0.out 1 p156 q156
       cases e156
       (try simp only [show (1 : Int).toNat = 1 from rfl, Nat.reduceMul, Nat.reduceEqDiff, Go.Addr.add, ↓reduceIte] at hx156_0)
       have qi156 : (1 < l0.length) = True := eq_true (by omega)
       (try rw [show ((1 : Int)).toNat = 1 from rfl] at hx156_0)
       replace hx156_0 := kc HB hx156_0
       replace p156 := eq_true p156
       replace q156 := eq_true q156
       go_wp2_with (first | (refine gL (some 43) rfl Tryd.func37 #[.string (rdOf ByteArray.empty l0 1)] ?_; (with_reducible refine (sat_Read.calls (hL := ld) (rdOf ByteArray.empty l0 1) t157 t158 _ A27.out).mono ?_); rintro e w30 ⟨rfl, hb⟩; refine ⟨_, rfl, ?_⟩; replace BK146 := cB BK146 hb; replace BK155 := cB BK155 hb; replace HB := Aside0.mk (below_step bl hb); have hcl7_ := kc HB hcL; (try clear hb); have hnb31 := NB146_155.out; have hnc31 := NB155_146.out; obtain ⟨hcz32_0, hcz32_1, hcz32_2, hfz32_0, hfz32_1, hfz32_2⟩ := z3 BK146))
       refine bodyPost_ret (results_ct rfl _ _ gb146 36 #[.int .i64 0, .int .i64 0, .slice none 0 0] (0, 0) _ rfl (by (with_reducible repeat (first | refine blk_drewN ?_ _ | refine blk_drew ?_ | refine blk_alloc ?_ _)); refine blk_put (cs := #[.int .i64 0, .int .i64 0, .slice none 0 0]) ?_ 2 _ rfl; (with_reducible repeat (first | refine blk_drewN ?_ _ | refine blk_drew ?_ | refine blk_alloc ?_ _)); refine blk_put (cs := #[.int .i64 0, .int .i64 0, .slice none 0 0]) ?_ 1 _ rfl; (with_reducible repeat (first | refine blk_drewN ?_ _ | refine blk_drew ?_ | refine blk_alloc ?_ _)); refine blk_put (cs := #[.int .i64 0, .int .i64 0, .slice none 0 0]) ?_ 0 _ rfl; exact uB <| BK146.out) Tryd.underlying36 rfl (by kernel_rfl)) rfl ?_
       exact ⟨_, re_, nl_, below_step HB0.out bl⟩
      ·
       rw [if_neg c29] at H
       have c29b0 : decide (t157 < 0) = false := decide_eq_false c29
       clear c29
       by_cases c33 : t157 > t152
       ·
        rw [if_pos c33] at H
        have c33b0 : decide (t152 < t157) = true := decide_eq_true c33
        clear c33
        simp only [Option.some.injEq, Prod.mk.injEq] at H
        obtain ⟨rfl, rfl, rfl, rfl⟩ := H
        have p156 : 0 ≤ (1 : Int) := (by omega)
        have q156 : 1 < (l0.length : Int) := od
        obtain ⟨ad156, e156, hx156_0⟩ := Kd.at_string HR0.out 1 p156 q156
        cases e156
        (try simp only [show (1 : Int).toNat = 1 from rfl, Nat.reduceMul, Nat.reduceEqDiff, Go.Addr.add, ↓reduceIte] at hx156_0)
        have qi156 : (1 < l0.length) = True := eq_true (by omega)
        (try rw [show ((1 : Int)).toNat = 1 from rfl] at hx156_0)
        replace hx156_0 := kc HB hx156_0
        replace p156 := eq_true p156
        replace q156 := eq_true q156
        go_wp2_with (first | (refine gL (some 43) rfl Tryd.func37 #[.string (rdOf ByteArray.empty l0 1)] ?_; (with_reducible refine (sat_Read.calls (hL := ld) (rdOf ByteArray.empty l0 1) t157 t158 _ A27.out).mono ?_); rintro e w34 ⟨rfl, hb⟩; refine ⟨_, rfl, ?_⟩; replace BK146 := cB BK146 hb; replace BK155 := cB BK155 hb; replace HB := Aside0.mk (below_step bl hb); have hcl8_ := kc HB hcL; (try clear hb); have hnb35 := NB155_146.out; have hnc35 := NB146_155.out; obtain ⟨hcz36_0, hcz36_1, hcz36_2, hfz36_0, hfz36_1, hfz36_2⟩ := z3 BK155; obtain ⟨hcz37_0, hcz37_1, hcz37_2, hfz37_0, hfz37_1, hfz37_2⟩ := z3 BK146))
        refine bodyPost_ret (results_ct rfl _ _ gb146 36 #[.int .i64 0, .int .i64 0, .slice none 0 0] (0, 0) _ rfl (by (with_reducible repeat (first | refine blk_drewN ?_ _ | refine blk_drew ?_ | refine blk_alloc ?_ _)); refine blk_put (cs := #[.int .i64 0, .int .i64 0, .slice none 0 0]) ?_ 2 _ rfl; (with_reducible repeat (first | refine blk_drewN ?_ _ | refine blk_drew ?_ | refine blk_alloc ?_ _)); refine blk_put (cs := #[.int .i64 0, .int .i64 0, .slice none 0 0]) ?_ 1 _ rfl; (with_reducible repeat (first | refine blk_drewN ?_ _ | refine blk_drew ?_ | refine blk_alloc ?_ _)); refine blk_put (cs := #[.int .i64 0, .int .i64 0, .slice none 0 0]) ?_ 0 _ rfl; exact uB <| BK146.out) Tryd.underlying36 rfl (by kernel_rfl)) rfl ?_
        exact ⟨_, re_, nl_, below_step HB0.out bl⟩
       ·
        rw [if_neg c33] at H
        have c33b0 : decide (t152 < t157) = false := decide_eq_false c33
        clear c33
        by_cases c38 : t153 = true
        ·
         subst c38
         rw [if_pos rfl] at H
         obtain ⟨c39, H⟩ := gd H
         have c39b0 : decide (2 < (l0.length : Int)) = true := decide_eq_true c39
         have c39b1 : decide (2 < l0.length) = true := decide_eq_true (by omega)
         clear c39
         obtain ⟨⟨t160, t161⟩, A40, H⟩ := bs H
         try dsimp only at H
         by_cases c41 : t161 = true
         ·
          subst c41
          rw [if_pos rfl] at H
          simp only [Option.some.injEq, Prod.mk.injEq] at H
          obtain ⟨rfl, rfl, rfl, rfl⟩ := H
          have p156 : 0 ≤ (1 : Int) := (by omega)
          have q156 : 1 < (l0.length : Int) := od
          obtain ⟨ad156, e156, hx156_0⟩ := Kd.at_string HR0.out 1 p156 q156
          cases e156
          (try simp only [show (1 : Int).toNat = 1 from rfl, Nat.reduceMul, Nat.reduceEqDiff, Go.Addr.add, ↓reduceIte] at hx156_0)
          have qi156 : (1 < l0.length) = True := eq_true (by omega)
          (try rw [show ((1 : Int)).toNat = 1 from rfl] at hx156_0)
          replace hx156_0 := kc HB hx156_0
          replace p156 := eq_true p156
          replace q156 := eq_true q156
          go_wp2_with (first | (refine gL (some 43) rfl Tryd.func37 #[.string (rdOf ByteArray.empty l0 1)] ?_; (with_reducible refine (sat_Read.calls (hL := ld) (rdOf ByteArray.empty l0 1) t157 t158 _ A27.out).mono ?_); rintro e w42 ⟨rfl, hb⟩; refine ⟨_, rfl, ?_⟩; replace BK146 := cB BK146 hb; replace BK155 := cB BK155 hb; replace HB := Aside0.mk (below_step bl hb); have hcl9_ := kc HB hcL; (try clear hb); have hnb43 := NB155_146.out; have hnc43 := NB146_155.out; obtain ⟨hcz44_0, hcz44_1, hcz44_2, hfz44_0, hfz44_1, hfz44_2⟩ := z3 BK155; obtain ⟨hcz45_0, hcz45_1, hcz45_2, hfz45_0, hfz45_1, hfz45_2⟩ := z3 BK146; have p159 : 0 ≤ (2 : Int) := (by omega); have q159 : 2 < (l0.length : Int) := od; obtain ⟨ad159, e159, hx159_0⟩ := Kd.at_string HR0.out 2 p159 q159; obtain rfl : ad156 = ad159 := (by injection e159); (try simp only [show (2 : Int).toNat = 2 from rfl, Nat.reduceMul, Nat.reduceEqDiff, Go.Addr.add, ↓reduceIte] at hx159_0); have qi159 : (2 < l0.length) = True := eq_true (by omega); (try rw [show ((2 : Int)).toNat = 2 from rfl] at hx159_0); have hn159_0 : ad156.block ≠ gb146 := Nat.ne_of_lt (Nat.lt_of_lt_of_le (by have := World.block_lt_of_cell? _ _ hx159_0; first | rwa [add_block] at this | exact this) GW146.out); have hn159_1 : ad156.block ≠ gb146 := Nat.ne_of_lt (Nat.lt_of_lt_of_le (by have := World.block_lt_of_cell? _ _ hx159_0; first | rwa [add_block] at this | exact this) GW146.out); replace hx159_0 := kc HB hx159_0; replace hx159_0 := (cell_far (p := ⟨gb146, 0, none⟩) (by first | (rw [add_block]; exact hn159_0) | (show (Addr.add _ _).block ≠ _; rw [add_block]; exact hn159_0) | exact hn159_0) (.int .i64 (wrap64 (t150 + 1)))).trans hx159_0; replace hx159_0 := (cell_far (p := ⟨gb146, 1, none⟩) (by first | (rw [add_block]; exact hn159_1) | (show (Addr.add _ _).block ≠ _; rw [add_block]; exact hn159_1) | exact hn159_1) (.int .i64 t157)).trans hx159_0; clear hn159_0; clear hn159_1; replace p159 := eq_true p159; replace q159 := eq_true q159) | (refine gL (some 72) rfl Tryd.func38 #[.string (rdOf ByteArray.empty l0 2)] ?_; (with_reducible refine (script_data.calls kj4 (rdOf ByteArray.empty l0 2) t160 true _ A40.out).mono ?_); rintro e w46 ⟨v162, rfl, ho0, hb⟩; refine ⟨_, rfl, ?_⟩; have HO163 := Aside0.mk (Kd.R_lower ho0 (below_size bl)); replace BK146 := Aside0.mk (blk_below (g := gb146) (o := .cells #[.int .i64 (wrap64 (t150 + 1)), .int .i64 t157, .slice none 0 0] 36 (0, 0)) (by (with_reducible repeat (first | refine blk_drewN ?_ _ | refine blk_drew ?_ | refine blk_alloc ?_ _)); refine blk_put (cs := #[.int .i64 (wrap64 (t150 + 1)), .int .i64 0, .slice none 0 0]) ?_ 1 _ rfl; (with_reducible repeat (first | refine blk_drewN ?_ _ | refine blk_drew ?_ | refine blk_alloc ?_ _)); refine blk_put (cs := #[.int .i64 0, .int .i64 0, .slice none 0 0]) ?_ 0 _ rfl; exact uB <| BK146.out) hb); replace BK155 := Aside0.mk (blk_below (g := gb155) (o := .cells #[.string t151, .int .i64 t152, .bool true] 43 (0, 0)) (by (with_reducible repeat (first | refine blk_drewN ?_ _ | refine blk_drew ?_ | refine blk_alloc ?_ _)); refine blk_far ?_ NB155_146.out _; (with_reducible repeat (first | refine blk_drewN ?_ _ | refine blk_drew ?_ | refine blk_alloc ?_ _)); refine blk_far ?_ NB155_146.out _; exact uB <| BK155.out) hb); replace HB := Aside0.mk (below_step bl hb); have hcl10_ := kc HB hcL; (try clear hb); (try clear ho0); obtain ⟨Ao47, co47, eo47⟩ := Kd.R_slice HO163.out; subst eo47; obtain ⟨hcz48_0, hcz48_1, hcz48_2, hfz48_0, hfz48_1, hfz48_2⟩ := z3 BK146))
          refine bodyPost_ret (results_ct rfl _ _ gb146 36 #[.int .i64 (wrap64 (t150 + 1)), .int .i64 t157, .slice Ao47 t160.length co47] (0, 0) _ rfl (by (with_reducible repeat (first | refine blk_drewN ?_ _ | refine blk_drew ?_ | refine blk_alloc ?_ _)); refine blk_put (cs := #[.int .i64 (wrap64 (t150 + 1)), .int .i64 t157, .slice Ao47 t160.length co47]) ?_ 2 _ rfl; (with_reducible repeat (first | refine blk_drewN ?_ _ | refine blk_drew ?_ | refine blk_alloc ?_ _)); refine blk_put (cs := #[.int .i64 (wrap64 (t150 + 1)), .int .i64 t157, .slice Ao47 t160.length co47]) ?_ 1 _ rfl; (with_reducible repeat (first | refine blk_drewN ?_ _ | refine blk_drew ?_ | refine blk_alloc ?_ _)); refine blk_put (cs := #[.int .i64 (wrap64 (t150 + 1)), .int .i64 t157, .slice Ao47 t160.length co47]) ?_ 0 _ rfl; (with_reducible repeat (first | refine blk_drewN ?_ _ | refine blk_drew ?_ | refine blk_alloc ?_ _)); refine blk_put (cs := #[.int .i64 (wrap64 (t150 + 1)), .int .i64 t157, .slice none 0 0]) ?_ 2 _ rfl; exact uB <| BK146.out) Tryd.underlying36 rfl (by kernel_rfl)) rfl ?_
          exact ⟨_, re_, Kd.R_lower (by exact uR <| Kd.R_mono (Kd.R_far (p := ⟨gb146, 2, none⟩) (Kd.R_far (p := ⟨gb146, 1, none⟩) (Kd.R_far (p := ⟨gb146, 0, none⟩) (Kd.R_far (p := ⟨gb146, 2, none⟩) (Kd.R_types HO163.out BK146.out (by decide)) (fun _ hk => hk.2) (.slice Ao47 t160.length co47)) (fun _ hk => hk.2) (.int .i64 (wrap64 (t150 + 1)))) (fun _ hk => hk.2) (.int .i64 t157)) (fun _ hk => hk.2) (.slice Ao47 t160.length co47)) (fun _ hk => trivial)) (below_size HB0.out), below_step HB0.out bl⟩
         ·
          replace c41 := Bool.eq_false_iff.mpr c41
          subst c41
          rw [if_neg (show ¬ (false = true) by decide)] at H
          simp only [Option.some.injEq, Prod.mk.injEq] at H
          obtain ⟨rfl, rfl, rfl, rfl⟩ := H
          have p156 : 0 ≤ (1 : Int) := (by omega)
          have q156 : 1 < (l0.length : Int) := od
          obtain ⟨ad156, e156, hx156_0⟩ := Kd.at_string HR0.out 1 p156 q156
          cases e156
          (try simp only [show (1 : Int).toNat = 1 from rfl, Nat.reduceMul, Nat.reduceEqDiff, Go.Addr.add, ↓reduceIte] at hx156_0)
          have qi156 : (1 < l0.length) = True := eq_true (by omega)
          (try rw [show ((1 : Int)).toNat = 1 from rfl] at hx156_0)
          replace hx156_0 := kc HB hx156_0
          replace p156 := eq_true p156
          replace q156 := eq_true q156
          go_wp2_with (first | (refine gL (some 43) rfl Tryd.func37 #[.string (rdOf ByteArray.empty l0 1)] ?_; (with_reducible refine (sat_Read.calls (hL := ld) (rdOf ByteArray.empty l0 1) t157 t158 _ A27.out).mono ?_); rintro e w49 ⟨rfl, hb⟩; refine ⟨_, rfl, ?_⟩; replace BK146 := cB BK146 hb; replace BK155 := cB BK155 hb; replace HB := Aside0.mk (below_step bl hb); have hcl11_ := kc HB hcL; (try clear hb); have hnb50 := NB155_146.out; have hnc50 := NB146_155.out; obtain ⟨hcz51_0, hcz51_1, hcz51_2, hfz51_0, hfz51_1, hfz51_2⟩ := z3 BK155; obtain ⟨hcz52_0, hcz52_1, hcz52_2, hfz52_0, hfz52_1, hfz52_2⟩ := z3 BK146; have p159 : 0 ≤ (2 : Int) := (by omega); have q159 : 2 < (l0.length : Int) := od; obtain ⟨ad159, e159, hx159_0⟩ := Kd.at_string HR0.out 2 p159 q159; obtain rfl : ad156 = ad159 := (by injection e159); (try simp only [show (2 : Int).toNat = 2 from rfl, Nat.reduceMul, Nat.reduceEqDiff, Go.Addr.add, ↓reduceIte] at hx159_0); have qi159 : (2 < l0.length) = True := eq_true (by omega); (try rw [show ((2 : Int)).toNat = 2 from rfl] at hx159_0); have hn159_0 : ad156.block ≠ gb146 := Nat.ne_of_lt (Nat.lt_of_lt_of_le (by have := World.block_lt_of_cell? _ _ hx159_0; first | rwa [add_block] at this | exact this) GW146.out); have hn159_1 : ad156.block ≠ gb146 := Nat.ne_of_lt (Nat.lt_of_lt_of_le (by have := World.block_lt_of_cell? _ _ hx159_0; first | rwa [add_block] at this | exact this) GW146.out); replace hx159_0 := kc HB hx159_0; replace hx159_0 := (cell_far (p := ⟨gb146, 0, none⟩) (by first | (rw [add_block]; exact hn159_0) | (show (Addr.add _ _).block ≠ _; rw [add_block]; exact hn159_0) | exact hn159_0) (.int .i64 (wrap64 (t150 + 1)))).trans hx159_0; replace hx159_0 := (cell_far (p := ⟨gb146, 1, none⟩) (by first | (rw [add_block]; exact hn159_1) | (show (Addr.add _ _).block ≠ _; rw [add_block]; exact hn159_1) | exact hn159_1) (.int .i64 t157)).trans hx159_0; clear hn159_0; clear hn159_1; replace p159 := eq_true p159; replace q159 := eq_true q159) | (refine gL (some 72) rfl Tryd.func38 #[.string (rdOf ByteArray.empty l0 2)] ?_; (with_reducible refine (script_data.calls kj4 (rdOf ByteArray.empty l0 2) t160 false _ A40.out).mono ?_); rintro e w53 ⟨v162, rfl, ho0, hb⟩; refine ⟨_, rfl, ?_⟩; have HO163 := Aside0.mk (Kd.R_lower ho0 (below_size bl)); replace BK146 := Aside0.mk (blk_below (g := gb146) (o := .cells #[.int .i64 (wrap64 (t150 + 1)), .int .i64 t157, .slice none 0 0] 36 (0, 0)) (by (with_reducible repeat (first | refine blk_drewN ?_ _ | refine blk_drew ?_ | refine blk_alloc ?_ _)); refine blk_put (cs := #[.int .i64 (wrap64 (t150 + 1)), .int .i64 0, .slice none 0 0]) ?_ 1 _ rfl; (with_reducible repeat (first | refine blk_drewN ?_ _ | refine blk_drew ?_ | refine blk_alloc ?_ _)); refine blk_put (cs := #[.int .i64 0, .int .i64 0, .slice none 0 0]) ?_ 0 _ rfl; exact uB <| BK146.out) hb); replace BK155 := Aside0.mk (blk_below (g := gb155) (o := .cells #[.string t151, .int .i64 t152, .bool true] 43 (0, 0)) (by (with_reducible repeat (first | refine blk_drewN ?_ _ | refine blk_drew ?_ | refine blk_alloc ?_ _)); refine blk_far ?_ NB155_146.out _; (with_reducible repeat (first | refine blk_drewN ?_ _ | refine blk_drew ?_ | refine blk_alloc ?_ _)); refine blk_far ?_ NB155_146.out _; exact uB <| BK155.out) hb); replace HB := Aside0.mk (below_step bl hb); have hcl12_ := kc HB hcL; (try clear hb); (try clear ho0); obtain ⟨Ao54, co54, eo54⟩ := Kd.R_slice HO163.out; subst eo54; obtain ⟨hcz55_0, hcz55_1, hcz55_2, hfz55_0, hfz55_1, hfz55_2⟩ := z3 BK146))
          refine bodyPost_ret (results_ct rfl _ _ gb146 36 #[.int .i64 (wrap64 (t150 + 1)), .int .i64 t157, .slice Ao54 t160.length co54] (0, 0) _ rfl (by (with_reducible repeat (first | refine blk_drewN ?_ _ | refine blk_drew ?_ | refine blk_alloc ?_ _)); refine blk_put (cs := #[.int .i64 (wrap64 (t150 + 1)), .int .i64 t157, .slice Ao54 t160.length co54]) ?_ 2 _ rfl; (with_reducible repeat (first | refine blk_drewN ?_ _ | refine blk_drew ?_ | refine blk_alloc ?_ _)); refine blk_put (cs := #[.int .i64 (wrap64 (t150 + 1)), .int .i64 t157, .slice Ao54 t160.length co54]) ?_ 1 _ rfl; (with_reducible repeat (first | refine blk_drewN ?_ _ | refine blk_drew ?_ | refine blk_alloc ?_ _)); refine blk_put (cs := #[.int .i64 (wrap64 (t150 + 1)), .int .i64 t157, .slice Ao54 t160.length co54]) ?_ 0 _ rfl; (with_reducible repeat (first | refine blk_drewN ?_ _ | refine blk_drew ?_ | refine blk_alloc ?_ _)); refine blk_put (cs := #[.int .i64 (wrap64 (t150 + 1)), .int .i64 t157, .slice none 0 0]) ?_ 2 _ rfl; exact uB <| BK146.out) Tryd.underlying36 rfl (by kernel_rfl)) rfl ?_
          exact ⟨_, re_, Kd.R_lower (by exact uR <| Kd.R_mono (Kd.R_far (p := ⟨gb146, 2, none⟩) (Kd.R_far (p := ⟨gb146, 1, none⟩) (Kd.R_far (p := ⟨gb146, 0, none⟩) (Kd.R_far (p := ⟨gb146, 2, none⟩) (Kd.R_types HO163.out BK146.out (by decide)) (fun _ hk => hk.2) (.slice Ao54 t160.length co54)) (fun _ hk => hk.2) (.int .i64 (wrap64 (t150 + 1)))) (fun _ hk => hk.2) (.int .i64 t157)) (fun _ hk => hk.2) (.slice Ao54 t160.length co54)) (fun _ hk => trivial)) (below_size HB0.out), below_step HB0.out bl⟩
        ·
         replace c38 := Bool.eq_false_iff.mpr c38
         subst c38
         rw [if_neg (show ¬ (false = true) by decide)] at H
         simp only [Option.some.injEq, Prod.mk.injEq] at H
         obtain ⟨rfl, rfl, rfl, rfl⟩ := H
         have p156 : 0 ≤ (1 : Int) := (by omega)
         have q156 : 1 < (l0.length : Int) := od
         obtain ⟨ad156, e156, hx156_0⟩ := Kd.at_string HR0.out 1 p156 q156
         cases e156
         (try simp only [show (1 : Int).toNat = 1 from rfl, Nat.reduceMul, Nat.reduceEqDiff, Go.Addr.add, ↓reduceIte] at hx156_0)
         have qi156 : (1 < l0.length) = True := eq_true (by omega)
         (try rw [show ((1 : Int)).toNat = 1 from rfl] at hx156_0)
         replace hx156_0 := kc HB hx156_0
         replace p156 := eq_true p156
         replace q156 := eq_true q156
         go_wp2_with (first | (refine gL (some 43) rfl Tryd.func37 #[.string (rdOf ByteArray.empty l0 1)] ?_; (with_reducible refine (sat_Read.calls (hL := ld) (rdOf ByteArray.empty l0 1) t157 t158 _ A27.out).mono ?_); rintro e w56 ⟨rfl, hb⟩; refine ⟨_, rfl, ?_⟩; replace BK146 := cB BK146 hb; replace BK155 := cB BK155 hb; replace HB := Aside0.mk (below_step bl hb); have hcl13_ := kc HB hcL; (try clear hb); have hnb57 := NB155_146.out; have hnc57 := NB146_155.out; obtain ⟨hcz58_0, hcz58_1, hcz58_2, hfz58_0, hfz58_1, hfz58_2⟩ := z3 BK155; obtain ⟨hcz59_0, hcz59_1, hcz59_2, hfz59_0, hfz59_1, hfz59_2⟩ := z3 BK146) | ((with_reducible refine gate_store (t := 36) (p := 2) rfl ?_); refine store_event (t := 36) (p := 2) (v := ?vo_w60) (w1 := (((((w56.setCell ⟨gb146, 0, none⟩ (.int .i64 (wrap64 (t150 + 1)))).setCell ⟨gb146, 1, none⟩ (.int .i64 t157)).setCell ⟨gb146, 0, none⟩ (.int .i64 (wrap64 (t150 + 1)))).setCell ⟨gb146, 1, none⟩ (.int .i64 t157)).setCell ⟨gb146, 2, none⟩ (.slice none 0 0))) ?hg ?ho ?hn ?hr ?_; (case ho => rfl); (case hg => rfl); (case hn => rfl); (case hr => first | (go_simp; done) | (go_simp; rfl)); intro w60 hw; have n0_ : Aside0 (w60.heap[gb146]? = some (.cells #[.int .i64 (wrap64 (t150 + 1)), .int .i64 t157, .slice none 0 0] 36 (0, 0))) := ⟨(by rw [hw]; exact (by (with_reducible repeat (first | refine blk_drewN ?_ _ | refine blk_drew ?_ | refine blk_alloc ?_ _)); refine blk_put (cs := #[.int .i64 (wrap64 (t150 + 1)), .int .i64 t157, .slice none 0 0]) ?_ 2 _ rfl; (with_reducible repeat (first | refine blk_drewN ?_ _ | refine blk_drew ?_ | refine blk_alloc ?_ _)); refine blk_put (cs := #[.int .i64 (wrap64 (t150 + 1)), .int .i64 t157, .slice none 0 0]) ?_ 1 _ rfl; (with_reducible repeat (first | refine blk_drewN ?_ _ | refine blk_drew ?_ | refine blk_alloc ?_ _)); refine blk_put (cs := #[.int .i64 (wrap64 (t150 + 1)), .int .i64 t157, .slice none 0 0]) ?_ 0 _ rfl; (with_reducible repeat (first | refine blk_drewN ?_ _ | refine blk_drew ?_ | refine blk_alloc ?_ _)); refine blk_put (cs := #[.int .i64 (wrap64 (t150 + 1)), .int .i64 0, .slice none 0 0]) ?_ 1 _ rfl; (with_reducible repeat (first | refine blk_drewN ?_ _ | refine blk_drew ?_ | refine blk_alloc ?_ _)); refine blk_put (cs := #[.int .i64 0, .int .i64 0, .slice none 0 0]) ?_ 0 _ rfl; exact uB <| BK146.out))⟩; have n1_ : Aside0 (w60.heap[gb155]? = some (.cells #[.string t151, .int .i64 t152, .bool false] 43 (0, 0))) := ⟨(by rw [hw]; exact (by (with_reducible repeat (first | refine blk_drewN ?_ _ | refine blk_drew ?_ | refine blk_alloc ?_ _)); refine blk_far ?_ NB155_146.out _; (with_reducible repeat (first | refine blk_drewN ?_ _ | refine blk_drew ?_ | refine blk_alloc ?_ _)); refine blk_far ?_ NB155_146.out _; (with_reducible repeat (first | refine blk_drewN ?_ _ | refine blk_drew ?_ | refine blk_alloc ?_ _)); refine blk_far ?_ NB155_146.out _; (with_reducible repeat (first | refine blk_drewN ?_ _ | refine blk_drew ?_ | refine blk_alloc ?_ _)); refine blk_far ?_ NB155_146.out _; (with_reducible repeat (first | refine blk_drewN ?_ _ | refine blk_drew ?_ | refine blk_alloc ?_ _)); refine blk_far ?_ NB155_146.out _; exact uB <| BK155.out))⟩; have n2_ : Aside0 (Below w.heap.size w w60) := ⟨(by rw [hw]; exact bl)⟩; clear hw; clear BK146; clear BK155; clear HB; have BK146 := n0_; have BK155 := n1_; have HB := n2_; clear n0_ n1_ n2_; have hcl14_ := kc HB hcL))
         refine bodyPost_ret (results_ct rfl _ _ gb146 36 #[.int .i64 (wrap64 (t150 + 1)), .int .i64 t157, .slice none 0 0] (0, 0) _ rfl (uB BK146.out) Tryd.underlying36 rfl (by kernel_rfl)) rfl ?_
         exact ⟨_, re_, nl_, below_step HB0.out bl⟩
     ·
      rw [if_neg c28] at H
      have c28b0 : (t158 == 0) = false := beq_eq_false_iff_ne.mpr c28
      have c28b1 : (t158 != 0) = true := bne_iff_ne.mpr c28
      simp only [Option.some.injEq, Prod.mk.injEq] at H
      obtain ⟨rfl, rfl, rfl, rfl⟩ := H
      have p156 : 0 ≤ (1 : Int) := (by omega)
      have q156 : 1 < (l0.length : Int) := od
      obtain ⟨ad156, e156, hx156_0⟩ := Kd.at_string HR0.out 1 p156 q156
      cases e156
      (try simp only [show (1 : Int).toNat = 1 from rfl, Nat.reduceMul, Nat.reduceEqDiff, Go.Addr.add, ↓reduceIte] at hx156_0)
      have qi156 : (1 < l0.length) = True := eq_true (by omega)
      (try rw [show ((1 : Int)).toNat = 1 from rfl] at hx156_0)
      replace hx156_0 := kc HB hx156_0
      replace p156 := eq_true p156
      replace q156 := eq_true q156
      go_wp2_with (first | (refine gL (some 43) rfl Tryd.func37 #[.string (rdOf ByteArray.empty l0 1)] ?_; (with_reducible refine (sat_Read.calls (hL := ld) (rdOf ByteArray.empty l0 1) t157 t158 _ A27.out).mono ?_); rintro e w61 ⟨rfl, hb⟩; refine ⟨_, rfl, ?_⟩; replace BK146 := cB BK146 hb; replace BK155 := cB BK155 hb; replace HB := Aside0.mk (below_step bl hb); have hcl15_ := kc HB hcL; (try clear hb); have hnb62 := NB146_155.out; have hnc62 := NB155_146.out; obtain ⟨hcz63_0, hcz63_1, hcz63_2, hfz63_0, hfz63_1, hfz63_2⟩ := z3 BK146))
      refine bodyPost_ret (results_ct rfl _ _ gb146 36 #[.int .i64 0, .int .i64 0, .slice none 0 0] (0, 0) _ rfl (by (with_reducible repeat (first | refine blk_drewN ?_ _ | refine blk_drew ?_ | refine blk_alloc ?_ _)); refine blk_put (cs := #[.int .i64 0, .int .i64 0, .slice none 0 0]) ?_ 2 _ rfl; (with_reducible repeat (first | refine blk_drewN ?_ _ | refine blk_drew ?_ | refine blk_alloc ?_ _)); refine blk_put (cs := #[.int .i64 0, .int .i64 0, .slice none 0 0]) ?_ 1 _ rfl; (with_reducible repeat (first | refine blk_drewN ?_ _ | refine blk_drew ?_ | refine blk_alloc ?_ _)); refine blk_put (cs := #[.int .i64 0, .int .i64 0, .slice none 0 0]) ?_ 0 _ rfl; exact uB <| BK146.out) Tryd.underlying36 rfl (by kernel_rfl)) rfl ?_
      exact ⟨_, re_, nl_, below_step HB0.out bl⟩
    ·
     rw [if_neg c26] at H
     exact absurd H (by simp)
def word_Split.l0 : Nat → ByteArray → Int → List ByteArray → Option (List ByteArray)
 | 0, _, _, _ => none
 | k + 1, x0, x1, x4 => (strings_IndexByte.f x0 x1).bind fun t164 => (if t164 < 0 then (if x4.length < 8796093022208 then (some (x4 ++ [x0])) else (none)) else (if 0 ≤ t164 then (if t164 ≤ (x0.size : Int) then (if x4.length < 8796093022208 then (if 0 ≤ (wrap64 (t164 + 1)) then (if (wrap64 (t164 + 1)) ≤ (x0.size : Int) then (word_Split.l0 k (x0.extract ((wrap64 (t164 + 1)) : Int).toNat x0.size) x1 (x4 ++ [x0.extract 0 (t164 : Int).toNat])) else (none)) else (none)) else (none)) else (none)) else (none)))
def word_Split.f (k : Nat) (a0 : ByteArray) (a1 : Int) : Option (List ByteArray) := word_Split.l0 k a0 a1 ([] : List ByteArray)
theorem word_Split.mono_l : ∀ k, (∀ y0 y1 y2, LeC (word_Split.l0 k y0 y1 y2) (word_Split.l0 (k + 1) y0 y1 y2))
 | 0 => fun _ _ _ => ⟨fun r h => by simp [word_Split.l0] at h⟩
 | k + 1 => by have ih0 := word_Split.mono_l k; exact fun _ _ _ => by unfold word_Split.l0; exact lm
theorem word_Split.mono : ∀ a0 a1 k, LeO (word_Split.f k a0 a1) (word_Split.f (k + 1) a0 a1) := by
 intro a0 a1 k
 have ih0 := word_Split.mono_l k
 unfold word_Split.f
 exact lo
instance word_Split.mI {a0 a1 k} : LeC (word_Split.f k a0 a1) (word_Split.f (k + 1) a0 a1) := ⟨word_Split.mono _ _ _⟩
def word_Split.T4 : Bool × List (List Nat × List Nat) := (true, [([], []), ([], []), ([], []), ([1, 2], [1, 2]), ([3], [3]), ([0, 4], [0, 4]), ([], []), ([], []), ([7], [7]), ([6, 8], [6, 8]), ([5, 5, 0, 1, 2, 3, 4, 5], [0, 5]), ([9, 10, 0, 1, 2, 3, 4, 5, 6, 7, 8, 9, 10], [1, 6, 9])])
def word_Split.B4 : List Nat := [0, 0, 0, 6, 14, 31, 0, 0, 128, 448, 63, 2047]
theorem word_Split.tab4 : rtab .any (opsOf Tryd.f23 4) = word_Split.T4 := by kernel_rfl
theorem word_Split.bits4 : waitsOk word_Split.T4.2 word_Split.B4 = true := by kernel_rfl
theorem word_Split.calls (k : Nat) (a0 : ByteArray) (a1 : Int) (r : List ByteArray) (w : World) (h : word_Split.f k a0 a1 = some r) :
 Calls Tryd.prog 23 #[.string a0, .int .u8 a1] w fun e w' => ∃ v0_ : Value, e = .returned (v0_) ∧ Kd.R Kd.string 9 w' w.heap.size (fun _ => True) v0_ r ∧ Below w.heap.size w w' := by
 have HB := Aside0.mk (Below.refl w.heap.size w)
 have H : (word_Split.l0 k a0 a1 ([] : List ByteArray)) = some r := h
 clear h
 have H' := Aside0.mk H
 clear H
 go_enter Tryd.func23, Tryd.ntmps23
 go_wp2
 go_loopg [0, 4] k (fun kq v0 v4 w' => ∃ (x0_1 : ByteArray) (x4_1 : List ByteArray), v0 = .string x0_1 ∧ Aside0 (word_Split.l0 kq x0_1 a1 x4_1 = some r) ∧ Aside0 (kq ≤ k) ∧ Aside0 (Kd.R Kd.string 9 w' w.heap.size (fun _ => True) v4 x4_1) ∧ Aside0 (Below w.heap.size w w'))
 case atStart => exact ⟨(a0), (([] : List ByteArray)), rs_, H', ⟨Nat.le_refl _⟩, ⟨nl_⟩, ⟨uW HB.out⟩⟩
 case round =>
  clear H'
  try clear c2
  try clear p2
  obtain ⟨x0_1, x4_1, rfl, HA, HK1, HO_4, HB⟩ := hrel
  cases gk with
  | zero => exact absurd HA.out (by simp [word_Split.l0])
  | succ k1 =>
   have H := HA.out
   clear HA
   simp only [word_Split.l0] at H
   obtain ⟨t164, A3, H⟩ := bs H
   try dsimp only at H
   by_cases c4 : t164 < 0
   ·
    rw [if_pos c4] at H
    have c4b0 : decide (t164 < 0) = true := decide_eq_true c4
    clear c4
    obtain ⟨c5, H⟩ := gd H
    have LMc5 := Aside0.mk c5
    clear c5
    obtain ⟨y165, hy165⟩ : ∃ y_ : List ByteArray, y_ = (x4_1 ++ [x0_1]) := ⟨_, rfl⟩
    replace H : (some y165) = some r := by first | (rw [hy165]; with_reducible exact H) | (have H2_ := (Option.bind_some _ _).symm.trans H; rw [hy165]; with_reducible exact H2_) | (have H2_ := (Option.bind_some _ _).symm.trans H; with_reducible exact H2_) | with_reducible exact H | (rw [hy165]; exact H) | exact H
    have Ny165 := Aside0.mk hy165
    clear hy165
    obtain rfl := Option.some.inj H
    go_wp2_with (first | (refine gL (some 8) rfl Tryd.func39 #[.string x0_1, .int .u8 a1] ?_; (with_reducible refine (strings_IndexByte.calls x0_1 a1 t164 _ A3.out).mono ?_); rintro e w' ⟨rfl, ⟨nd, rfl⟩⟩; refine ⟨_, rfl, ?_⟩) | ((with_reducible refine gate_builtin (b := .append) (xs := #[.tmp 11, .tmp 13]) rfl ?_); at_builtin; refine Kd.R_append Kd.string (w0 := w) w.heap.size rfl (.tmp 11) (.tmp 13) 47 9 (.string ⟨#[]⟩) 16 rfl Tryd.underlying47 info9 rfl (by decide) (by omega) u4 x4_1 x0_1 [.string x0_1] (fun _ => True) (fun _ => False) rfl rfl ?aP (fun _ hk => hk.elim) ?aF ?aO ?aB ?aS ?aL ?_; (case aP => exact rfl); (case aB => exact (uW HB.out)); (case aF => exact (fun _ _ => trivial)); (case aO => exact (uR HO_4.out)); (case aS => exact (below_size (uW HB.out))); (case aL => have := LMc5.out; omega); intro v166 w6 ho hb hg hat; rw [← Ny165.out] at ho; replace HB := Aside0.mk (hb); have HO167 := Aside0.mk (ho); clear HO_4; clear ho hb hg hat))
    go_ret
    exact ⟨_, re_, uR HO167.out, uW HB.out⟩
   ·
    rw [if_neg c4] at H
    have c4b0 : decide (t164 < 0) = false := decide_eq_false c4
    clear c4
    by_cases c7 : 0 ≤ t164
    ·
     rw [if_pos c7] at H
     have c7b0 := eq_true c7
     have c7b1 : decide (0 ≤ t164) = true := decide_eq_true c7
     clear c7
     obtain ⟨c8, H⟩ := gd H
     have c8b0 := eq_true c8
     have c8b1 : decide (t164 ≤ (x0_1.size : Int)) = true := decide_eq_true c8
     clear c8
     obtain ⟨c9, H⟩ := gd H
     have LMc9 := Aside0.mk c9
     clear c9
     obtain ⟨y168, hy168⟩ : ∃ y_ : List ByteArray, y_ = (x4_1 ++ [x0_1.extract 0 (t164 : Int).toNat]) := ⟨_, rfl⟩
     replace H : (if 0 ≤ (wrap64 (t164 + 1)) then (if (wrap64 (t164 + 1)) ≤ (x0_1.size : Int) then (word_Split.l0 k1 (x0_1.extract ((wrap64 (t164 + 1)) : Int).toNat x0_1.size) a1 y168) else (none)) else (none)) = some r := by first | (rw [hy168]; with_reducible exact H) | (have H2_ := (Option.bind_some _ _).symm.trans H; rw [hy168]; with_reducible exact H2_) | (have H2_ := (Option.bind_some _ _).symm.trans H; with_reducible exact H2_) | with_reducible exact H | (rw [hy168]; exact H) | exact H
     have Ny168 := Aside0.mk hy168
     clear hy168
     obtain ⟨ji10, hji10⟩ : ∃ j_ : Int, (wrap64 (t164 + 1)) = j_ := ⟨_, rfl⟩
     (first | rw [hji10] at H | simp only [hji10] at H)
     (try rw [hji10] at A3)
     have hji10w : (IntKind.i64.wrap (t164 + 1)) = ji10 := (i64_w _).trans hji10
     obtain ⟨c11, H⟩ := gd H
     have c11b0 := eq_true c11
     have c11b1 : decide (0 ≤ (ji10)) = true := decide_eq_true c11
     clear c11
     obtain ⟨c12, H⟩ := gd H
     have c12b0 := eq_true c12
     have c12b1 : decide ((ji10) ≤ (x0_1.size : Int)) = true := decide_eq_true c12
     clear c12
     have H' := Aside0.mk H
     clear H
     try go_wp2_with (first | (refine gL (some 8) rfl Tryd.func39 #[.string x0_1, .int .u8 a1] ?_; (with_reducible refine (strings_IndexByte.calls x0_1 a1 t164 _ A3.out).mono ?_); rintro e w' ⟨rfl, ⟨nd, rfl⟩⟩; refine ⟨_, rfl, ?_⟩))
     (try (rw [drewN_self wr]; generalize hq_ : World.drewN wr _ = wr; have n0_ : Aside0 (Kd.R Kd.string 9 wr w.heap.size (fun _ => True) u4 x4_1) := ⟨by rw [← hq_]; exact (uR HO_4.out)⟩; have n1_ : Aside0 (Below w.heap.size w wr) := ⟨by rw [← hq_]; exact (uW HB.out)⟩; clear HO_4 HB hq_; have HO_4 := n0_; have HB := n1_; clear n0_ n1_))
     replace HO_4 := Aside0.mk (Kd.R_drew HO_4.out)
     replace HB := Aside0.mk (below_drew1 HB.out)
     refine start_ (n := 12) (S := fun w' => True) (ds := []) _ (by kernel_rfl) rfl rfl trivial (fun hHeld => ?_); refine with_tabW word_Split.tab4 word_Split.bits4 (fun HT_ HW_ => ?_)
     generalize wr.drew = w13 at HO_4 HB hHeld ⊢
     refine p1 0 (some 15) ?_
     refine p1 1 (some 16) ?_
     refine p1 2 (some 17) ?_
     refine p1 3 (some 18) ?_
     refine p1 6 (some 21) ?_
     refine p1 7 (some 22) ?_
     refine p1 8 (some 23) ?_
     refine p1 9 (some 24) ?_
     refine o1 4 (some 19) rfl rfl (fun K hK => ?_)
     refine value_ (w1 := ?_) (v := ?_) (by rfl) rfl ?_ ?_
     rotate_left 2
     ·
      go_simp
      constructor
      ·
       rfl
      ·
       rfl
     refine hK.out _ _ trivial (fun hHeld => ?_)
     clear hK K
     refine norm_ (a' := ?_) ?_ ?_
     rotate_left
     ·
      show Act.put _ (some 19) _ = _
      simp only [Act.put, List.setIfInBounds_toArray, List.set_cons_zero, List.set_cons_succ, i64_w, i32_w]
      rfl
     refine o1 5 (some 20) rfl rfl (fun K hK => ?_)
     refine Kd.R_append_step Kd.string (w0 := w) w.heap.size (by rfl) (.tmp 15) (.tmp 19) 47 9 (.string ⟨#[]⟩) 16 rfl Tryd.underlying47 info9 rfl (by decide) (by omega) u4 x4_1 (x0_1.extract 0 (t164 : Int).toNat) [.string (x0_1.extract 0 (t164 : Int).toNat)] (fun _ => True) (fun _ => False) rfl rfl ?aP (fun _ hk => hk.elim) ?aF ?aO ?aB ?aS ?aL ?_
     (case aP => exact rfl)
     (case aB => exact (uW HB.out))
     (case aF => exact (fun _ _ => trivial))
     (case aO => exact (uR HO_4.out))
     (case aS => exact (below_size (uW HB.out)))
     (case aL => have := LMc9.out; omega)
     intro v169 w14 ho hb hg hat
     rw [← Ny168.out] at ho
     replace HB := Aside0.mk (hb)
     have HO170 := Aside0.mk (ho)
     clear HO_4
     clear ho hb hg hat
     refine hK.out _ _ trivial (fun hHeld => ?_)
     clear hK K
     refine norm_ (a' := ?_) ?_ ?_
     rotate_left
     ·
      show Act.put _ (some 20) _ = _
      simp only [Act.put, List.setIfInBounds_toArray, List.set_cons_zero, List.set_cons_succ, i64_w, i32_w]
      rfl
     refine p1 10 (some 4) ?_
     refine p1 11 (some 0) ?_
     refine done_ (done_of HT_.out (by kernel_rfl)) ?_
     try go_wp2
     go_roundg k1
     case measure => have := HK1.out; omega
     case rel => exact ⟨(x0_1.extract ((ji10) : Int).toNat x0_1.size), (y168), (by first | rfl | (simp; done) | (simp only [← hji10] <;> (first | rfl | simp)) | (simp [*]; done)), H', ⟨by have := HK1.out; omega⟩, ⟨uR HO170.out⟩, ⟨uW HB.out⟩⟩
    ·
     rw [if_neg c7] at H
     exact absurd H (by simp)
def script_Parse.l0 : Nat → ByteArray → List (S36) → Option ((List (S36)) × Int × Int)
 | 0, _, _ => none
 | k + 1, x0, x2 => if x0.toList = ([] : List UInt8) then (some (x2, 0, 0)) else (if (wrap64 ((x2.length : Int) + 1)) > 2000 then (some (([] : List (S36)), wrap64 ((x2.length : Int) + 1), 4)) else ((strings_Cut.f x0 (⟨#[10]⟩ : ByteArray)).bind fun bt171 => (if bt171.2.2 = true then ((word_Split.f k bt171.1 32).bind fun t174 => ((script_event.f k t174).bind fun bt177 => (if bt177.2.2.2 = 0 then (if x2.length < 3518437208883 then (script_Parse.l0 k bt171.2.1 (x2 ++ [(⟨bt177.1, bt177.2.1, bt177.2.2.1⟩ : S36)])) else (none)) else (some (([] : List (S36)), wrap64 ((x2.length : Int) + 1), bt177.2.2.2))))) else (some (([] : List (S36)), wrap64 ((x2.length : Int) + 1), 2)))))
def script_Parse.f (k : Nat) (a0 : ByteArray) : Option ((List (S36)) × Int × Int) := script_Parse.l0 k a0 ([] : List (S36))
theorem script_Parse.mono_l : ∀ k, (∀ y0 y1, LeC (script_Parse.l0 k y0 y1) (script_Parse.l0 (k + 1) y0 y1))
 | 0 => fun _ _ => ⟨fun r h => by simp [script_Parse.l0] at h⟩
 | k + 1 => by have ih0 := script_Parse.mono_l k; exact fun _ _ => by unfold script_Parse.l0; exact lm
theorem script_Parse.mono : ∀ a0 k, LeO (script_Parse.f k a0) (script_Parse.f (k + 1) a0) := by
 intro a0 k
 have ih0 := script_Parse.mono_l k
 unfold script_Parse.f
 exact lo
instance script_Parse.mI {a0 k} : LeC (script_Parse.f k a0) (script_Parse.f (k + 1) a0) := ⟨script_Parse.mono _ _⟩
theorem script_Parse.calls (k : Nat) (a0 : ByteArray) (r1 : List (S36)) (r2 : Int) (r3 : Int) (w : World) (hL : LD w) (h : script_Parse.f k a0 = some (r1, r2, r3)) :
 Calls Tryd.prog 8 #[.string a0] w fun e w' => ∃ v0_ : Value, e = .returned (.tuple #[v0_, .int .i64 r2, .int .i64 r3]) ∧ Kd.S k36 36 w' w.heap.size (fun _ => True) v0_ r1 ∧ Below w.heap.size w w' := by
 have HL0 := Aside0.mk hL
 clear hL
 have hu36 := Tryd.underlying36
 have HB := Aside0.mk (Below.refl w.heap.size w)
 have H : (script_Parse.l0 k a0 ([] : List (S36))) = some (r1, r2, r3) := h
 clear h
 have H' := Aside0.mk H
 clear H
 go_enter Tryd.func8, Tryd.ntmps8
 go_wp2
 go_loopg [0, 2] k (fun kq v0 v2 w' => ∃ (x0_1 : ByteArray) (x2_1 : List (S36)), v0 = .string x0_1 ∧ Aside0 (script_Parse.l0 kq x0_1 x2_1 = some (r1, r2, r3)) ∧ Aside0 (kq ≤ k) ∧ Aside0 (Kd.S k36 36 w' w.heap.size (fun _ => True) v2 x2_1) ∧ Aside0 (Below w.heap.size w w'))
 case atStart => exact ⟨(a0), (([] : List (S36))), rs_, H', ⟨Nat.le_refl _⟩, ⟨by first | exact Kd.S_nil _ _ _ _ _ | exact Kd.N_nil _ _ _ _ _ | exact Kd.V_nil _ _ _ _ _ | exact Kd.Q_nil _ _ _ _ _ | exact Kd.R_nil _ _ _ _ _⟩, ⟨uW HB.out⟩⟩
 case round =>
  clear H'
  obtain ⟨x0_1, x2_1, rfl, HA, HK1, HO_2, HB⟩ := hrel
  cases gk with
  | zero => exact absurd HA.out (by simp [script_Parse.l0])
  | succ k1 =>
   have H := HA.out
   clear HA
   simp only [script_Parse.l0] at H
   by_cases c2 : x0_1.toList = ([] : List UInt8)
   ·
    rw [if_pos c2] at H
    have c2b0 : (x0_1.toList == ([] : List UInt8)) = true := beq_iff_eq.mpr c2
    have c2b1 : (x0_1.toList != ([] : List UInt8)) = false := bne_eq_false_iff_eq.mpr c2
    clear c2
    simp only [Option.some.injEq, Prod.mk.injEq] at H
    obtain ⟨rfl, rfl, rfl⟩ := H
    go_wp2
    go_ret3
    exact ⟨_, re_, uS HO_2.out, uW HB.out⟩
   ·
    rw [if_neg c2] at H
    have c2b0 : (x0_1.toList == ([] : List UInt8)) = false := beq_eq_false_iff_ne.mpr c2
    have c2b1 : (x0_1.toList != ([] : List UInt8)) = true := bne_iff_ne.mpr c2
    by_cases c3 : (wrap64 ((x2_1.length : Int) + 1)) > 2000
    ·
     rw [if_pos c3] at H
     have c3b0 : decide (2000 < (wrap64 ((x2_1.length : Int) + 1))) = true := decide_eq_true c3
     clear c3
     simp only [Option.some.injEq, Prod.mk.injEq] at H
     obtain ⟨rfl, rfl, rfl⟩ := H
     obtain ⟨Ao4, co4, eo4⟩ := Kd.S_slice HO_2.out
     subst eo4
     go_wp2
     go_ret3
     exact ⟨_, re_, by first | exact Kd.S_nil _ _ _ _ _ | exact Kd.N_nil _ _ _ _ _ | exact Kd.V_nil _ _ _ _ _ | exact Kd.Q_nil _ _ _ _ _ | exact Kd.R_nil _ _ _ _ _, uW HB.out⟩
    ·
     rw [if_neg c3] at H
     have c3b0 : decide (2000 < (wrap64 ((x2_1.length : Int) + 1))) = false := decide_eq_false c3
     clear c3
     obtain ⟨⟨t171, t172, t173⟩, A5, H⟩ := bs H
     try dsimp only at H
     by_cases c6 : t173 = true
     ·
      subst c6
      rw [if_pos rfl] at H
      obtain ⟨t174, A7, H⟩ := bs H
      try dsimp only at H
      obtain ⟨⟨t177, t178, t179, t182⟩, A8, H⟩ := bs H
      try dsimp only at H
      by_cases c9 : t182 = 0
      ·
       rw [if_pos c9] at H
       have c9b0 : (t182 == 0) = true := beq_iff_eq.mpr c9
       have c9b1 : (t182 != 0) = false := bne_eq_false_iff_eq.mpr c9
       clear c9
       obtain ⟨c10, H⟩ := gd H
       have LMc10 := Aside0.mk c10
       clear c10
       obtain ⟨y184, hy184⟩ : ∃ y_ : List (S36), y_ = (x2_1 ++ [(⟨t177, t178, t179⟩ : S36)]) := ⟨_, rfl⟩
       replace H : (script_Parse.l0 k1 t172 y184) = some (r1, r2, r3) := by first | (rw [hy184]; with_reducible exact H) | (have H2_ := (Option.bind_some _ _).symm.trans H; rw [hy184]; with_reducible exact H2_) | (have H2_ := (Option.bind_some _ _).symm.trans H; with_reducible exact H2_) | with_reducible exact H | (rw [hy184]; exact H) | exact H
       have Ny184 := Aside0.mk hy184
       clear hy184
       have H' := Aside0.mk H
       clear H
       obtain ⟨Ao11, co11, eo11⟩ := Kd.S_slice HO_2.out
       subst eo11
       go_wp2_with (first | (refine gL (some 20) rfl Tryd.func21 #[.string x0_1, .string (⟨#[10]⟩ : ByteArray)] ?_; (with_reducible refine (strings_Cut.calls (hL := ld) x0_1 (⟨#[10]⟩ : ByteArray) t171 t172 true _ A5.out).mono ?_); rintro e w' ⟨rfl, ⟨nd, rfl⟩⟩; refine ⟨_, rfl, ?_⟩; (try (rw [drewN_self wr]; generalize hq_ : World.drewN wr _ = wr; have n0_ : Aside0 (Kd.S k36 36 wr w.heap.size (fun _ => True) (.slice Ao11 x2_1.length co11) x2_1) := ⟨by rw [← hq_]; exact (uS HO_2.out)⟩; have n1_ : Aside0 (Below w.heap.size w wr) := ⟨by rw [← hq_]; exact (uW HB.out)⟩; clear HO_2 HB hq_; have HO_2 := n0_; have HB := n1_; clear n0_ n1_))) | (refine gL (some 29) rfl Tryd.func23 #[.string t171, .int .u8 32] ?_; (with_reducible refine (word_Split.calls k1 t171 32 t174 _ A7.out).mono ?_); rintro e w12 ⟨v175, rfl, ho0, hb⟩; refine ⟨_, rfl, ?_⟩; replace HO_2 := cS HO_2 hb; have HO176 := Aside0.mk (Kd.R_lower ho0 (below_size (uW HB.out))); replace HB := cW HB hb; (try clear hb); (try clear ho0); obtain ⟨Ao13, co13, eo13⟩ := Kd.R_slice HO176.out; subst eo13) | (refine gL (some 30) rfl Tryd.func22 #[.slice Ao13 t174.length co13] ?_; (with_reducible refine (script_event.calls (hL := ld) k1 _ _ t174 t177 t178 t179 t182 _ ?side1 ?side2 A8.out).mono ?_); (case side1 => exact uC <| (Kd.R_reads' HO176.out).2.2); (case side2 => exact (Kd.R_reads' HO176.out).2.1); rintro e w14 ⟨v180, rfl, ho0, hb⟩; refine ⟨_, rfl, ?_⟩; replace HO_2 := Aside0.mk (Kd.S_elder' (uS HO_2.out) (Kd.R_base ho0) hb); replace HO176 := cR HO176 hb; have HO181 := Aside0.mk (Kd.R_lower ho0 (below_size (uW HB.out))); replace HB := cW HB hb; (try clear hb); (try clear ho0)) | ((with_reducible refine gate_dst (N := 8) rfl ?_); refine bx (N := 8) #[.int .i64 0, .int .i64 0, .slice none 0 0] 36 ?_; intro gb183 hg w15 hbox hb; replace HO_2 := Aside0.mk (Kd.S_below (Kd.S_elderB (uS HO_2.out) gb183 (Nat.le_of_eq hg.symm)) hb); replace HO176 := cR HO176 hb; replace HO181 := cR HO181 hb; have BK183 := Aside0.mk (hbox); have GW183 := gw hg (uW HB.out); have GE183 := GW183; replace HB := cW HB hb; clear hb hbox hg; obtain ⟨hcz16_0, hcz16_1, hcz16_2, hfz16_0, hfz16_1, hfz16_2⟩ := z3 BK183; obtain ⟨Ao17, co17, eo17⟩ := Kd.R_slice HO181.out; subst eo17) | ((with_reducible refine gate_store (t := 36) (p := 8) rfl ?_); refine store_event (t := 36) (p := 8) (v := ?vo_w18) (w1 := (((w15.setCell ⟨gb183, 0, none⟩ (.int .i64 t177)).setCell ⟨gb183, 1, none⟩ (.int .i64 t178)).setCell ⟨gb183, 2, none⟩ (.slice Ao17 t179.length co17))) ?hg ?ho ?hn ?hr ?_; (case ho => rfl); (case hg => rfl); (case hn => rfl); (case hr => first | (go_simp; done) | (go_simp; rfl)); intro w18 hw; have n0_ : Aside0 (Kd.S k36 36 w18 w.heap.size (fun k_ => some k_ ≠ (.slice Ao17 t179.length co17 : Value).ownBlock ∧ k_ ≠ gb183) (.slice Ao11 x2_1.length co11) x2_1) := ⟨(by rw [hw]; exact (by exact uS <| Kd.S_mono (Kd.S_far (p := ⟨gb183, 2, none⟩) (Kd.S_far (p := ⟨gb183, 1, none⟩) (Kd.S_far (p := ⟨gb183, 0, none⟩) (Kd.S_mono HO_2.out (fun k_ hk => (⟨hk, hk.2⟩ : _ ∧ k_ ≠ gb183))) (fun _ hk => hk.2) (.int .i64 t177)) (fun _ hk => hk.2) (.int .i64 t178)) (fun _ hk => hk.2) (.slice Ao17 t179.length co17)) (fun _ hk => ⟨hk.1.1.2, hk.1.2⟩)))⟩; have n1_ : Aside0 (Kd.R Kd.string 9 w18 w.heap.size (fun _ => True) (.slice Ao13 t174.length co13) t174) := ⟨(by rw [hw]; exact (by exact uR <| Kd.R_mono (Kd.R_far (p := ⟨gb183, 2, none⟩) (Kd.R_far (p := ⟨gb183, 1, none⟩) (Kd.R_far (p := ⟨gb183, 0, none⟩) (Kd.R_types HO176.out BK183.out (by decide)) (fun _ hk => hk.2) (.int .i64 t177)) (fun _ hk => hk.2) (.int .i64 t178)) (fun _ hk => hk.2) (.slice Ao17 t179.length co17)) (fun _ hk => trivial)))⟩; have n2_ : Aside0 (Kd.R (Kd.int .u8) 5 w18 w.heap.size (fun _ => True) (.slice Ao17 t179.length co17) t179) := ⟨(by rw [hw]; exact (by exact uR <| Kd.R_mono (Kd.R_far (p := ⟨gb183, 2, none⟩) (Kd.R_far (p := ⟨gb183, 1, none⟩) (Kd.R_far (p := ⟨gb183, 0, none⟩) (Kd.R_types HO181.out BK183.out (by decide)) (fun _ hk => hk.2) (.int .i64 t177)) (fun _ hk => hk.2) (.int .i64 t178)) (fun _ hk => hk.2) (.slice Ao17 t179.length co17)) (fun _ hk => trivial)))⟩; have n3_ : Aside0 (w18.heap[gb183]? = some (.cells #[.int .i64 t177, .int .i64 t178, .slice Ao17 t179.length co17] 36 (0, 0))) := ⟨(by rw [hw]; exact (by (with_reducible repeat (first | refine blk_drewN ?_ _ | refine blk_drew ?_ | refine blk_alloc ?_ _)); refine blk_put (cs := #[.int .i64 t177, .int .i64 t178, .slice none 0 0]) ?_ 2 _ rfl; (with_reducible repeat (first | refine blk_drewN ?_ _ | refine blk_drew ?_ | refine blk_alloc ?_ _)); refine blk_put (cs := #[.int .i64 t177, .int .i64 0, .slice none 0 0]) ?_ 1 _ rfl; (with_reducible repeat (first | refine blk_drewN ?_ _ | refine blk_drew ?_ | refine blk_alloc ?_ _)); refine blk_put (cs := #[.int .i64 0, .int .i64 0, .slice none 0 0]) ?_ 0 _ rfl; exact uB <| BK183.out))⟩; have n4_ : Aside0 (Below w.heap.size w w18) := ⟨(by rw [hw]; exact bl)⟩; clear hw; clear HO_2; clear HO176; clear HO181; clear BK183; clear HB; have HO_2 := n0_; have HO176 := n1_; have HO181 := n2_; have BK183 := n3_; have HB := n4_; clear n0_ n1_ n2_ n3_ n4_; obtain ⟨hcz19_0, hcz19_1, hcz19_2, hfz19_0, hfz19_1, hfz19_2⟩ := z3 BK183) | ((with_reducible refine gate_builtin (b := .append) (xs := #[.tmp 37, .tmp 39]) rfl ?_); at_builtin; refine Kd.S_append k36 (w0 := w) w.heap.size rfl (.tmp 37) (.tmp 39) 22 36 (.agg #[(.int .i64 0), (.int .i64 0), (.slice none 0 0)]) 40 rfl Tryd.underlying22 info36 rfl (by decide) (by omega) (.slice Ao11 x2_1.length co11) x2_1 (⟨t177, t178, t179⟩ : S36) [.int .i64 t177, .int .i64 t178, .slice Ao17 t179.length co17] (fun k_ => k_ ≠ gb183) (fun k_ => some k_ = (.slice Ao17 t179.length co17 : Value).ownBlock) rfl rfl ?aP (fun k_ hk_ => ((Kd.R_mono (ok' := fun k_ => ((fun k_ => k_ ≠ gb183)) k_ ∧ some k_ ≠ (.slice Ao11 x2_1.length co11 : Value).ownBlock) (Kd.R_types (Kd.R_apart' (HO181.out) (Kd.S_typed HO_2.out) (by decide)) BK183.out (by decide)) (fun k_ hk => ⟨hk.2, hk.1.2⟩))).1 k_ hk_.symm) ?aF ?aO ?aB ?aS ?aL ?_; (case aP => exact k36_mkM _ _ _ (⟨t177, t178, t179⟩ : S36) (Kd.R_mono (Kd.R_tight rfl (Kd.R_mono (ok' := fun k_ => ((fun k_ => k_ ≠ gb183)) k_ ∧ some k_ ≠ (.slice Ao11 x2_1.length co11 : Value).ownBlock) (Kd.R_types (Kd.R_apart' (HO181.out) (Kd.S_typed HO_2.out) (by decide)) BK183.out (by decide)) (fun k_ hk => ⟨hk.2, hk.1.2⟩))) (fun _ h_ => h_))); (case aB => exact bl); (case aF => exact (fun k_ hk => Kd.freshB (g := gb183) (o := .cells #[.int .i64 t177, .int .i64 t178, .slice Ao17 t179.length co17] 36 (0, 0)) (uB BK183.out) k_ hk)); (case aO => exact (by exact uS <| Kd.S_mono HO_2.out (fun k_ hk => ⟨hk.2, fun e_ => hk.1 e_⟩))); (case aS => exact (below_size bl)); (case aL => have := LMc10.out; omega); intro v185 w20 ho hb hg hat; rw [← Ny184.out] at ho; replace HO176 := Aside0.mk (Kd.R_over' (uR HO176.out) (Kd.S_typed (uS HO_2.out)) (by decide) hg); replace BK183 := Aside0.mk (blk_grown (g := gb183) (o := .cells #[.int .i64 t177, .int .i64 t178, .slice Ao17 t179.length co17] 36 (0, 0)) (uB BK183.out) hg (Kd.S_away HO_2.out (fun _ hk => hk.2))); replace HB := Aside0.mk (hb); have HO186 := Aside0.mk (ho); clear HO_2; clear HO181; clear ho hb hg hat))
       go_roundg k1
       case measure => have := HK1.out; omega
       case rel => exact ⟨(t172), (y184), rs_, H', ⟨by have := HK1.out; omega⟩, ⟨by exact uS <| Kd.S_mono HO186.out (fun _ hk => trivial)⟩, ⟨bl⟩⟩
      ·
       rw [if_neg c9] at H
       have c9b0 : (t182 == 0) = false := beq_eq_false_iff_ne.mpr c9
       have c9b1 : (t182 != 0) = true := bne_iff_ne.mpr c9
       simp only [Option.some.injEq, Prod.mk.injEq] at H
       obtain ⟨rfl, rfl, rfl⟩ := H
       obtain ⟨Ao21, co21, eo21⟩ := Kd.S_slice HO_2.out
       subst eo21
       go_wp2_with (first | (refine gL (some 20) rfl Tryd.func21 #[.string x0_1, .string (⟨#[10]⟩ : ByteArray)] ?_; (with_reducible refine (strings_Cut.calls (hL := ld) x0_1 (⟨#[10]⟩ : ByteArray) t171 t172 true _ A5.out).mono ?_); rintro e w' ⟨rfl, ⟨nd, rfl⟩⟩; refine ⟨_, rfl, ?_⟩; (try (rw [drewN_self wr]; generalize hq_ : World.drewN wr _ = wr; have n0_ : Aside0 (Kd.S k36 36 wr w.heap.size (fun _ => True) (.slice Ao21 x2_1.length co21) x2_1) := ⟨by rw [← hq_]; exact (uS HO_2.out)⟩; have n1_ : Aside0 (Below w.heap.size w wr) := ⟨by rw [← hq_]; exact (uW HB.out)⟩; clear HO_2 HB hq_; have HO_2 := n0_; have HB := n1_; clear n0_ n1_))) | (refine gL (some 29) rfl Tryd.func23 #[.string t171, .int .u8 32] ?_; (with_reducible refine (word_Split.calls k1 t171 32 t174 _ A7.out).mono ?_); rintro e w22 ⟨v175, rfl, ho0, hb⟩; refine ⟨_, rfl, ?_⟩; replace HO_2 := cS HO_2 hb; have HO176 := Aside0.mk (Kd.R_lower ho0 (below_size (uW HB.out))); replace HB := cW HB hb; (try clear hb); (try clear ho0); obtain ⟨Ao23, co23, eo23⟩ := Kd.R_slice HO176.out; subst eo23) | (refine gL (some 30) rfl Tryd.func22 #[.slice Ao23 t174.length co23] ?_; (with_reducible refine (script_event.calls (hL := ld) k1 _ _ t174 t177 t178 t179 t182 _ ?side1 ?side2 A8.out).mono ?_); (case side1 => exact uC <| (Kd.R_reads' HO176.out).2.2); (case side2 => exact (Kd.R_reads' HO176.out).2.1); rintro e w24 ⟨v180, rfl, ho0, hb⟩; refine ⟨_, rfl, ?_⟩; replace HO_2 := Aside0.mk (Kd.S_elder' (uS HO_2.out) (Kd.R_base ho0) hb); replace HO176 := cR HO176 hb; have HO181 := Aside0.mk (Kd.R_lower ho0 (below_size (uW HB.out))); replace HB := cW HB hb; (try clear hb); (try clear ho0)) | ((with_reducible refine gate_dst (N := 8) rfl ?_); refine bx (N := 8) #[.int .i64 0, .int .i64 0, .slice none 0 0] 36 ?_; intro gb183 hg w25 hbox hb; replace HO_2 := Aside0.mk (Kd.S_below (Kd.S_elderB (uS HO_2.out) gb183 (Nat.le_of_eq hg.symm)) hb); replace HO176 := cR HO176 hb; replace HO181 := cR HO181 hb; have BK183 := Aside0.mk (hbox); have GW183 := gw hg (uW HB.out); have GE183 := GW183; replace HB := cW HB hb; clear hb hbox hg; obtain ⟨hcz26_0, hcz26_1, hcz26_2, hfz26_0, hfz26_1, hfz26_2⟩ := z3 BK183; obtain ⟨Ao27, co27, eo27⟩ := Kd.R_slice HO181.out; subst eo27))
       go_ret3
       exact ⟨_, re_, by first | exact Kd.S_nil _ _ _ _ _ | exact Kd.N_nil _ _ _ _ _ | exact Kd.V_nil _ _ _ _ _ | exact Kd.Q_nil _ _ _ _ _ | exact Kd.R_nil _ _ _ _ _, bl⟩
     ·
      replace c6 := Bool.eq_false_iff.mpr c6
      subst c6
      rw [if_neg (show ¬ (false = true) by decide)] at H
      simp only [Option.some.injEq, Prod.mk.injEq] at H
      obtain ⟨rfl, rfl, rfl⟩ := H
      obtain ⟨Ao28, co28, eo28⟩ := Kd.S_slice HO_2.out
      subst eo28
      go_wp2_with (first | (refine gL (some 20) rfl Tryd.func21 #[.string x0_1, .string (⟨#[10]⟩ : ByteArray)] ?_; (with_reducible refine (strings_Cut.calls (hL := ld) x0_1 (⟨#[10]⟩ : ByteArray) t171 t172 false _ A5.out).mono ?_); rintro e w' ⟨rfl, ⟨nd, rfl⟩⟩; refine ⟨_, rfl, ?_⟩))
      go_ret3
      exact ⟨_, re_, by first | exact Kd.S_nil _ _ _ _ _ | exact Kd.N_nil _ _ _ _ _ | exact Kd.V_nil _ _ _ _ _ | exact Kd.Q_nil _ _ _ _ _ | exact Kd.R_nil _ _ _ _ _, uW HB.out⟩
def api_Event_41.Fn (g : Nat) (lb : Array Value) (p : S36 → Bool) (l : List (S36)) (w : World) : Prop :=
 ∀ (W : World) (x : S36), x ∈ l → Below w.heap.size w W → ∀ (A2_ : Option Addr) (c2_ : Nat), x.f2.length ≤ c2_ → Kd.C (Kd.int .u8) W A2_ x.f2.length x.f2 → Calls Tryd.prog g (#[.agg #[.int .i64 x.f0, .int .i64 x.f1, .slice A2_ x.f2.length c2_]] ++ lb) W fun e w' => e = .returned (.bool (p x)) ∧ Below W.heap.size W w'
def api_Event_41.idx (p : S36 → Bool) : List (S36) → Nat → Int
 | [], _ => -1
 | x :: l, i => if p x = true then (i : Int) else api_Event_41.idx p l (i + 1)
theorem api_Event_41.idx_miss {p : S36 → Bool} : ∀ {l : List (S36)} {i : Nat}, api_Event_41.idx p l i = -1 ∨ (i : Int) ≤ api_Event_41.idx p l i
 | [], _ => .inl rfl
 | x :: l, i => by
  unfold api_Event_41.idx
  split
  ·
   exact .inr (Int.le_refl _)
  ·
   rcases api_Event_41.idx_miss (p := p) (l := l) (i := i + 1) with h | h
   ·
    exact .inl h
   ·
    exact .inr (by omega)
theorem api_Event_41.idx_any (p : S36 → Bool) : ∀ (l : List (S36)) (i : Nat), decide (0 ≤ api_Event_41.idx p l i) = l.any p
 | [], _ => rfl
 | x :: l, i => by
  unfold api_Event_41.idx
  by_cases h : p x = true
  ·
   rw [if_pos h, List.any_cons, h, Bool.true_or]
   exact decide_eq_true (by omega)
  ·
   rw [if_neg h, api_Event_41.idx_any p l (i + 1), List.any_cons, Bool.eq_false_iff.2 h, Bool.false_or]
set_option maxHeartbeats 2000000 in
theorem api_Event_41.calls (g : Nat) (lb : Array Value) (eg : ∀ args w, (callFunc g args).run Tryd.prog w = .ok (.enter g args) w) (p : S36 → Bool) (A0 : Option Addr) (c0 : Nat) (l0 : List (S36)) (w : World) (hr0 : Kd.C k36 w A0 l0.length l0) (hp : api_Event_41.Fn g lb p l0 w) :
 Calls Tryd.prog 41 #[.slice A0 l0.length c0, .func (.func g) #[] lb] w fun e w' => e = .returned (.int .i64 (api_Event_41.idx p l0 0)) ∧ Below w.heap.size w w' := by
 have hu36 := Tryd.underlying36
 have HR0 := Aside0.mk hr0
 have HP := Aside0.mk hp
 have HL := Aside0.mk hr0.2.1
 clear hr0 hp
 go_enter Tryd.func41, Tryd.ntmps41
 go_wp2
 go_loopg [5, 8] l0.length (fun gg _ v8 wr => ∃ x : Int, v8 = .int .i64 x ∧ Aside0 (0 ≤ x) ∧ Aside0 (x ≤ (l0.length : Int)) ∧ Aside0 ((l0.length : Int) - x ≤ gg) ∧ Aside0 (api_Event_41.idx p l0 0 = api_Event_41.idx p (l0.drop x.toNat) x.toNat) ∧ Aside0 (Below w.heap.size w wr))
 case atStart => exact ⟨0, rfl, ⟨by omega⟩, ⟨by omega⟩, ⟨by omega⟩, ⟨rfl⟩, ⟨Below.refl _ _⟩⟩
 case round =>
  obtain ⟨x, rfl, H0, H1, HG, HI, HB⟩ := hrel
  by_cases hlt : x < (l0.length : Int)
  ·
   have p101 : 0 ≤ x := H0.out
   obtain ⟨ad101, A2_, c2_, e101, hx101_0, hx101_1, hx101_2, hl101_2, hC101_2⟩ := at_T36 HR0.out x p101 hlt
   cases e101
   have hy101_0 := kc HB hx101_0
   clear hx101_0
   have hy101_1 := kc HB hx101_1
   clear hx101_1
   have hy101_2 := kc HB hx101_2
   clear hx101_2
   have HN : Aside0 (x.toNat < l0.length) := ⟨by omega⟩
   have hget : rd_T36 l0 x = l0[x.toNat]'HN.out := by
    show l0.getD x.toNat _ = _
    rw [List.getD_eq_getElem?_getD, List.getElem?_eq_getElem HN.out, Option.getD_some]
   have hcall := HP.out wr (rd_T36 l0 x) (by rw [hget]; exact List.getElem_mem HN.out) HB.out _ _ hl101_2 (Kd.C_below hC101_2 HB.out)
   have HGE := Aside0.mk hget
   clear hget
   have c1b0 : decide (x < (l0.length : Int)) = true := decide_eq_true hlt
   have pi101 : (0 ≤ (x : Int)) = True := eq_true p101
   have qi101 : (x < (l0.length : Int)) = True := eq_true hlt
   have HLT := Aside0.mk hlt
   clear hlt p101
   cases hq : p (rd_T36 l0 x) with
   | true =>
    rw [hq] at hcall
    have HQ := Aside0.mk hq
    clear hq
    go_wp2_with (go_at_fn g; refine hcall.mono ?_; rintro e w' ⟨rfl, hb'⟩)
    go_ret
    refine ⟨?_, HB.out.trans (hb'.mono HB.out.size)⟩
    rw [HI.out, List.drop_eq_getElem_cons HN.out]
    unfold api_Event_41.idx
    rw [if_pos (by rw [← HGE.out]; exact HQ.out), Int.toNat_of_nonneg H0.out]
    rfl
   | false =>
    rw [hq] at hcall
    have HQ := Aside0.mk hq
    clear hq
    go_wp2_with (go_at_fn g; refine hcall.mono ?_; rintro e w' ⟨rfl, hb'⟩)
    have hw : wrap64 (x + 1) = x + 1 := by have := HLT.out; have := HL.out; have := H0.out; unfold wrap64; omega
    (try rw [hw])
    clear hw
    go_roundg (l0.length - (x.toNat + 1))
    case measure => have := HLT.out; have := HG.out; have := H0.out; omega
    case rel =>
     refine ⟨x + 1, by first | rfl | (have := HLT.out; have := HL.out; have := H0.out; simp; unfold wrap64; omega), ⟨by have := H0.out; omega⟩, ⟨by have := HLT.out; omega⟩, ⟨by have := HLT.out; have := H0.out; omega⟩, ⟨?_⟩, ⟨HB.out.trans (hb'.mono HB.out.size)⟩⟩
     rw [HI.out, List.drop_eq_getElem_cons HN.out, show (x + 1).toNat = x.toNat + 1 from by have := H0.out; omega]
     conv => lhs; unfold api_Event_41.idx
     rw [if_neg (by rw [← HGE.out, HQ.out]; simp)]
  ·
   have hx : x = (l0.length : Int) := by have := H1.out; omega
   have c1b0 : decide (x < (l0.length : Int)) = false := decide_eq_false hlt
   clear hlt
   have HX := Aside0.mk hx
   clear hx
   go_wp2
   go_ret
   refine ⟨?_, HB.out⟩
   rw [HI.out, HX.out, Int.toNat_natCast, List.drop_of_length_le (Nat.le_refl _)]
   rfl
set_option maxHeartbeats 2000000 in
theorem api_Event_25.calls (g : Nat) (lb : Array Value) (eg : ∀ args w, (callFunc g args).run Tryd.prog w = .ok (.enter g args) w) (p : S36 → Bool) (A0 : Option Addr) (c0 : Nat) (l0 : List (S36)) (w : World) (hr0 : Kd.C k36 w A0 l0.length l0) (hp : api_Event_41.Fn g lb p l0 w) :
 Calls Tryd.prog 25 #[.slice A0 l0.length c0, .func (.func g) #[] lb] w fun e w' => e = .returned (.bool (l0.any p)) ∧ Below w.heap.size w w' := by
 have hcall := fun W => api_Event_41.calls g lb eg p A0 c0 l0 W
 rw [← api_Event_41.idx_any p l0 0]
 generalize api_Event_41.idx p l0 0 = r at hcall ⊢
 go_enter Tryd.func25, Tryd.ntmps25
 go_wp2_with (go_at_call 41; refine (hcall _ hr0 hp).mono ?_; rintro e w' ⟨rfl, hb'⟩)
 go_ret
 exact ⟨rfl, hb'⟩
def script_Right_1.f (a0_0 : Int) (a0_1 : Int) (l0_2 : List Int) : Option (Bool) := (script_may.f a0_0 a0_1 l0_2).bind fun t188 => (some (!t188))
theorem script_Right_1.calls (a0_0 : Int) (a0_1 : Int) (A0_2 : Option Addr) (c0_2 : Nat) (l0_2 : List Int) (r : Bool) (w : World) (hr0_2 : Kd.C (Kd.int .u8) w A0_2 l0_2.length l0_2) (hc0_2 : l0_2.length ≤ c0_2) (h : script_Right_1.f a0_0 a0_1 l0_2 = some r) :
 Calls Tryd.prog 26 #[.agg #[.int .i64 a0_0, .int .i64 a0_1, .slice A0_2 l0_2.length c0_2]] w fun e w' => e = .returned (.bool r) ∧ Below w.heap.size w w' := by
 have hu36 := Tryd.underlying36
 have HR0_2 := Aside0.mk hr0_2
 have HC0_2 := Aside0.mk hc0_2
 clear hr0_2 hc0_2
 have HB := Aside0.mk (Below.refl w.heap.size w)
 have H : ((script_may.f a0_0 a0_1 l0_2).bind fun t188 => (some (!t188))) = some r := h
 clear h
 obtain ⟨t188, A2, H⟩ := bs H
 try dsimp only at H
 obtain rfl := Option.some.inj H
 go_enter Tryd.func26, Tryd.ntmps26
 go_wp2_with (first | ((with_reducible refine gate_dst (N := 1) rfl ?_); refine bx (N := 1) #[.int .i64 a0_0, .int .i64 a0_1, .slice A0_2 l0_2.length c0_2] 36 ?_; intro gb187 hg w3 hbox hb; have BK187 := Aside0.mk (hbox); have GW187 := gw hg (uW HB.out); have GE187 := GW187; replace HB := cW HB hb; clear hb hbox hg; obtain ⟨hcz4_0, hcz4_1, hcz4_2, hfz4_0, hfz4_1, hfz4_2⟩ := z3 BK187) | (refine gL (some 4) rfl Tryd.func13 #[.agg #[.int .i64 a0_0, .int .i64 a0_1, .slice A0_2 l0_2.length c0_2]] ?_; (with_reducible refine (script_may.calls a0_0 a0_1 _ _ l0_2 t188 _ ?side1 ?side2 A2.out).mono ?_); (case side1 => exact uC <| (Kd.C_below HR0_2.out HB.out)); (case side2 => exact HC0_2.out); rintro e w5 ⟨rfl, hb⟩; refine ⟨_, rfl, ?_⟩; replace BK187 := cB BK187 hb; replace HB := Aside0.mk (below_step bl hb); (try clear hb)))
 go_ret
 exact ⟨re_, bl⟩
theorem api_Event_with_26_41.goesV_ {P : Program} {ops : Array Oper} {Q : Exit → Act → World → Prop} {oi : Oper} {N : Option Tmp} {a : Act} {w : World} {K : Act → World → Prop} {f : FuncId} {fn : Func} {cal : Operand} {as_ : Array Operand} {ts : Array TypeId} (hf : P.funcs[f]? = some fn) (hname : (fn.name == "runtime.NumGoroutine") = false) (hb : fn.body.isSome = true) (args : Array Value)
 (hw : Region.wanted oi (yielded ops a.tmps) = true) (hN : oi.dst = N) (hop : oi.op = .call { callee := .value cal, args := as_, argTypes := ts }) (hev : a.eval cal = .func (.func f) #[] #[]) (hargs : as_.map a.eval = args)
 (h : Calls P f args w fun e w' => ∃ v, e = .returned v ∧ K (a.put N v) w') : if Region.wanted oi (yielded ops a.tmps) = true then Oper.wp P oi a w K Q else K (a.put N undef) w := by
 refine call_ f args hw hN ?_ h
 have he := enters_ hf hname hb args w
 unfold execOp
 simp [hop, resolve, Deferred.ofValue, invoke, hev, hargs, he]
theorem api_Event_with_26_41.goesVL_ {P : Program} {ops : Array Oper} {Q : Exit → Act → World → Prop} {rest : List Oper} {oi : Oper} {a : Act} {w : World} (N : Option Tmp) (hd : oi.dst = N) (hg : oi.guard = none) {f : FuncId} {fn : Func} {cal : Operand} {as_ : Array Operand} {ts : Array TypeId} (hf : P.funcs[f]? = some fn) (hname : (fn.name == "runtime.NumGoroutine") = false) (hb : fn.body.isSome = true) (args : Array Value)
 (hop : oi.op = .call { callee := .value cal, args := as_, argTypes := ts }) (hev : a.eval cal = .func (.func f) #[] #[]) (hargs : as_.map a.eval = args)
 (h : Calls P f args w fun e w' => ∃ v, e = .returned v ∧ wpList P ops Q rest (a.put N v) w') : wpList P ops Q (oi :: rest) a w := by
 refine wpList_plain hg fun K hK => ?_
 have he := enters_ hf hname hb args w
 have hrun : (execOp a.eval oi).run P w = .ok (.enter f args) w := by
  unfold execOp
  simp [hop, resolve, Deferred.ofValue, invoke, hev, hargs, he]
 unfold Oper.wp
 rw [hrun, Oper.upon_enter]
 refine h.mono fun e w'' hh => ?_
 obtain ⟨v, rfl, hk⟩ := hh
 subst hd
 exact hK _ _ hk
def api_Event_with_26_41.l0 : Nat → List (S36) → Int → Int → Option (Int)
 | 0, _, _, _ => none
 | k + 1, x0, x7, x8 => if x8 < x7 then (if 0 ≤ x8 then (if x8 < (x0.length : Int) then ((script_Right_1.f ((rd_T36 x0 x8).f0) ((rd_T36 x0 x8).f1) ((rd_T36 x0 x8).f2)).bind fun t190 => (if t190 = true then (some x8) else (api_Event_with_26_41.l0 k x0 x7 (wrap64 (x8 + 1))))) else (none)) else (none)) else (some (-1))
def api_Event_with_26_41.f (k : Nat) (l0 : List (S36)) : Option (Int) := api_Event_with_26_41.l0 k l0 (l0.length : Int) 0
theorem api_Event_with_26_41.mono_l : ∀ k, (∀ y0 y1 y2, LeC (api_Event_with_26_41.l0 k y0 y1 y2) (api_Event_with_26_41.l0 (k + 1) y0 y1 y2))
 | 0 => fun _ _ _ => ⟨fun r h => by simp [api_Event_with_26_41.l0] at h⟩
 | k + 1 => by have ih0 := api_Event_with_26_41.mono_l k; exact fun _ _ _ => by unfold api_Event_with_26_41.l0; exact lm
theorem api_Event_with_26_41.mono : ∀ a0 k, LeO (api_Event_with_26_41.f k a0) (api_Event_with_26_41.f (k + 1) a0) := by
 intro a0 k
 have ih0 := api_Event_with_26_41.mono_l k
 unfold api_Event_with_26_41.f
 exact lo
instance api_Event_with_26_41.mI {a0 k} : LeC (api_Event_with_26_41.f k a0) (api_Event_with_26_41.f (k + 1) a0) := ⟨api_Event_with_26_41.mono _ _⟩
theorem api_Event_with_26_41.calls (k : Nat) (A0 : Option Addr) (c0 : Nat) (l0 : List (S36)) (r : Int) (w : World) (hr0 : Kd.C k36 w A0 l0.length l0) (hc0 : l0.length ≤ c0) (h : api_Event_with_26_41.f k l0 = some r) :
 Calls Tryd.prog 41 #[.slice A0 l0.length c0, .func (.func 26) #[] #[]] w fun e w' => e = .returned (.int .i64 r) ∧ Below w.heap.size w w' := by
 have hu36 := Tryd.underlying36
 have HR0 := Aside0.mk hr0
 have HC0 := Aside0.mk hc0
 clear hr0 hc0
 have HB := Aside0.mk (Below.refl w.heap.size w)
 have H : (api_Event_with_26_41.l0 k l0 (l0.length : Int) 0) = some r := h
 clear h
 have H' := Aside0.mk H
 clear H
 have eg26 : ∀ args w, (callFunc 26 args).run Tryd.prog w = .ok (.enter 26 args) w := enters_of Tryd.func26 (by kernel_rfl) rfl
 go_enter Tryd.func41, Tryd.ntmps41
 go_wp2
 go_loopg [8] k (fun kq v8 w' => ∃ (x8_1 : Int), v8 = .int .i64 x8_1 ∧ Aside0 (api_Event_with_26_41.l0 kq l0 (l0.length : Int) x8_1 = some r) ∧ Aside0 (kq ≤ k) ∧ Aside0 (Below w.heap.size w w'))
 case atStart => exact ⟨(0), rs_, H', ⟨Nat.le_refl _⟩, ⟨uW HB.out⟩⟩
 case round =>
  clear H'
  obtain ⟨x8_1, rfl, HA, HK1, HB⟩ := hrel
  cases gk with
  | zero => exact absurd HA.out (by simp [api_Event_with_26_41.l0])
  | succ k1 =>
   have H := HA.out
   clear HA
   simp only [api_Event_with_26_41.l0] at H
   by_cases c2 : x8_1 < (l0.length : Int)
   ·
    rw [if_pos c2] at H
    have c2b0 : decide (x8_1 < (l0.length : Int)) = true := decide_eq_true c2
    clear c2
    obtain ⟨c3b0, H⟩ := gdd H
    obtain ⟨c4b0, H⟩ := gdd H
    obtain ⟨t190, A5, H⟩ := bs H
    try dsimp only at H
    by_cases c6 : t190 = true
    ·
     subst c6
     rw [if_pos rfl] at H
     obtain rfl := Option.some.inj H
     have p189 : 0 ≤ (x8_1 : Int) := od
     have q189 : x8_1 < (l0.length : Int) := od
     obtain ⟨ad189, A189_2, c189_2, e189, hx189_0, hx189_1, hx189_2, hl189_2, hi189_2⟩ := at_T36 HR0.out x8_1 p189 q189
     cases e189
     replace hx189_0 := kc HB hx189_0
     replace hx189_1 := kc HB hx189_1
     replace hx189_2 := kc HB hx189_2
     have HR189_2 := Aside0.mk hi189_2
     have HC189_2 := Aside0.mk hl189_2
     clear hi189_2 hl189_2
     replace p189 := eq_true p189
     replace q189 := eq_true q189
     go_wp2_with (first | (refine api_Event_with_26_41.goesVL_ (some 16) rfl rfl Tryd.func26 (by kernel_rfl) rfl #[.agg #[.int .i64 ((rd_T36 l0 x8_1).f0), .int .i64 ((rd_T36 l0 x8_1).f1), .slice A189_2 ((rd_T36 l0 x8_1).f2).length c189_2]] rfl (by rfl) (by (try simp only [List.map_toArray, List.map_cons, List.map_nil]); first | done | rfl | (simp only [List.length_drop, List.length_take]; rfl)) ?_; (with_reducible refine (script_Right_1.calls ((rd_T36 l0 x8_1).f0) ((rd_T36 l0 x8_1).f1) _ _ ((rd_T36 l0 x8_1).f2) true _ ?side1 ?side2 A5.out).mono ?_); (case side1 => exact uC <| (Kd.C_below HR189_2.out HB.out)); (case side2 => exact HC189_2.out); rintro e w7 ⟨rfl, hb⟩; refine ⟨_, rfl, ?_⟩; replace HB := cW HB hb; (try clear hb)))
     go_ret
     exact ⟨re_, uW HB.out⟩
    ·
     replace c6 := Bool.eq_false_iff.mpr c6
     subst c6
     rw [if_neg (show ¬ (false = true) by decide)] at H
     have H' := Aside0.mk H
     clear H
     have p189 : 0 ≤ (x8_1 : Int) := od
     have q189 : x8_1 < (l0.length : Int) := od
     obtain ⟨ad189, A189_2, c189_2, e189, hx189_0, hx189_1, hx189_2, hl189_2, hi189_2⟩ := at_T36 HR0.out x8_1 p189 q189
     cases e189
     replace hx189_0 := kc HB hx189_0
     replace hx189_1 := kc HB hx189_1
     replace hx189_2 := kc HB hx189_2
     have HR189_2 := Aside0.mk hi189_2
     have HC189_2 := Aside0.mk hl189_2
     clear hi189_2 hl189_2
     replace p189 := eq_true p189
     replace q189 := eq_true q189
     go_wp2_with (first | (refine api_Event_with_26_41.goesVL_ (some 16) rfl rfl Tryd.func26 (by kernel_rfl) rfl #[.agg #[.int .i64 ((rd_T36 l0 x8_1).f0), .int .i64 ((rd_T36 l0 x8_1).f1), .slice A189_2 ((rd_T36 l0 x8_1).f2).length c189_2]] rfl (by rfl) (by (try simp only [List.map_toArray, List.map_cons, List.map_nil]); first | done | rfl | (simp only [List.length_drop, List.length_take]; rfl)) ?_; (with_reducible refine (script_Right_1.calls ((rd_T36 l0 x8_1).f0) ((rd_T36 l0 x8_1).f1) _ _ ((rd_T36 l0 x8_1).f2) false _ ?side1 ?side2 A5.out).mono ?_); (case side1 => exact uC <| (Kd.C_below HR189_2.out HB.out)); (case side2 => exact HC189_2.out); rintro e w8 ⟨rfl, hb⟩; refine ⟨_, rfl, ?_⟩; replace HB := cW HB hb; (try clear hb)))
     go_roundg k1
     case measure => have := HK1.out; omega
     case rel => exact ⟨(wrap64 (x8_1 + 1)), rs_, H', ⟨by have := HK1.out; omega⟩, ⟨uW HB.out⟩⟩
   ·
    rw [if_neg c2] at H
    have c2b0 : decide (x8_1 < (l0.length : Int)) = false := decide_eq_false c2
    clear c2
    obtain rfl := Option.some.inj H
    go_wp2
    go_ret
    exact ⟨re_, uW HB.out⟩
def api_Event_with_26_25.f (k : Nat) (l0 : List (S36)) : Option (Bool) := (api_Event_with_26_41.f k l0).bind fun t191 => (some (decide (t191 ≥ 0)))
theorem api_Event_with_26_25.mono : ∀ a0 k, LeO (api_Event_with_26_25.f k a0) (api_Event_with_26_25.f (k + 1) a0) := by
 intro a0 k
 unfold api_Event_with_26_25.f
 exact lo
instance api_Event_with_26_25.mI {a0 k} : LeC (api_Event_with_26_25.f k a0) (api_Event_with_26_25.f (k + 1) a0) := ⟨api_Event_with_26_25.mono _ _⟩
theorem api_Event_with_26_25.calls (k : Nat) (A0 : Option Addr) (c0 : Nat) (l0 : List (S36)) (r : Bool) (w : World) (hr0 : Kd.C k36 w A0 l0.length l0) (hc0 : l0.length ≤ c0) (h : api_Event_with_26_25.f k l0 = some r) :
 Calls Tryd.prog 25 #[.slice A0 l0.length c0, .func (.func 26) #[] #[]] w fun e w' => e = .returned (.bool r) ∧ Below w.heap.size w w' := by
 have HR0 := Aside0.mk hr0
 have HC0 := Aside0.mk hc0
 clear hr0 hc0
 have HB := Aside0.mk (Below.refl w.heap.size w)
 have H : ((api_Event_with_26_41.f k l0).bind fun t191 => (some (decide (t191 ≥ 0)))) = some r := h
 clear h
 obtain ⟨t191, A2, H⟩ := bs H
 try dsimp only at H
 obtain rfl := Option.some.inj H
 go_enter Tryd.func25, Tryd.ntmps25
 go_wp2_with (first | (refine gL (some 7) rfl Tryd.func41 #[.slice A0 l0.length c0, (.func (.func 26) #[] #[])] ?_; (with_reducible refine (api_Event_with_26_41.calls k _ _ l0 t191 _ ?side1 ?side2 A2.out).mono ?_); (case side1 => exact uC <| HR0.out); (case side2 => exact HC0.out); rintro e w3 ⟨rfl, hb⟩; refine ⟨_, rfl, ?_⟩; replace HB := cW HB hb; (try clear hb)))
 go_ret
 exact ⟨re_, uW HB.out⟩
def script_Right.f (k : Nat) (l0 : List (S36)) : Option (Bool) := if (l0.length : Int) ≤ 2000 then ((api_Event_with_26_25.f k l0).bind fun t192 => (some (!t192))) else (some false)
theorem script_Right.mono : ∀ a0 k, LeO (script_Right.f k a0) (script_Right.f (k + 1) a0) := by
 intro a0 k
 unfold script_Right.f
 exact lo
instance script_Right.mI {a0 k} : LeC (script_Right.f k a0) (script_Right.f (k + 1) a0) := ⟨script_Right.mono _ _⟩
theorem script_Right.calls (k : Nat) (A0 : Option Addr) (c0 : Nat) (l0 : List (S36)) (r : Bool) (w : World) (hr0 : Kd.C k36 w A0 l0.length l0) (hc0 : l0.length ≤ c0) (h : script_Right.f k l0 = some r) :
 Calls Tryd.prog 11 #[.slice A0 l0.length c0] w fun e w' => e = .returned (.bool r) ∧ Below w.heap.size w w' := by
 have HR0 := Aside0.mk hr0
 have HC0 := Aside0.mk hc0
 clear hr0 hc0
 have HB := Aside0.mk (Below.refl w.heap.size w)
 have H : (if (l0.length : Int) ≤ 2000 then ((api_Event_with_26_25.f k l0).bind fun t192 => (some (!t192))) else (some false)) = some r := h
 clear h
 by_cases c2 : (l0.length : Int) ≤ 2000
 ·
  rw [if_pos c2] at H
  have c2b0 : decide ((l0.length : Int) ≤ 2000) = true := decide_eq_true c2
  have c2b1 : decide (l0.length ≤ 2000) = true := decide_eq_true (by omega)
  clear c2
  obtain ⟨t192, A3, H⟩ := bs H
  try dsimp only at H
  obtain rfl := Option.some.inj H
  go_enter Tryd.func11, Tryd.ntmps11
  go_wp2_with (first | (go_at_call 25; (with_reducible refine (api_Event_with_26_25.calls k _ _ l0 t192 _ ?side1 ?side2 A3.out).mono ?_); (case side1 => exact uC <| HR0.out); (case side2 => exact HC0.out); rintro e w4 ⟨rfl, hb⟩; replace HB := cW HB hb; (try clear hb)))
  go_ret
  exact ⟨re_, uW HB.out⟩
 ·
  rw [if_neg c2] at H
  have c2b0 : decide ((l0.length : Int) ≤ 2000) = false := decide_eq_false c2
  have c2b1 : decide (l0.length ≤ 2000) = false := decide_eq_false (by omega)
  clear c2
  obtain rfl := Option.some.inj H
  go_enter Tryd.func11, Tryd.ntmps11
  go_wp2
  go_ret
  exact ⟨re_, uW HB.out⟩
def bytes_Equal.f (l0 : List Int) (l1 : List Int) : Option (Bool) := some ((strOfNums l0).toList == (strOfNums l1).toList)
theorem bytes_Equal.calls (A0 : Option Addr) (c0 : Nat) (l0 : List Int) (A1 : Option Addr) (c1 : Nat) (l1 : List Int) (r : Bool) (w : World) (hr0 : Kd.C (Kd.int .u8) w A0 l0.length l0) (hc0 : l0.length ≤ c0) (hr1 : Kd.C (Kd.int .u8) w A1 l1.length l1) (hc1 : l1.length ≤ c1) (h : bytes_Equal.f l0 l1 = some r) :
 Calls Tryd.prog 29 #[.slice A0 l0.length c0, .slice A1 l1.length c1] w fun e w' => e = .returned (.bool r) ∧ Drawn0 w w' := by
 have HR0 := Aside0.mk hr0
 have HC0 := Aside0.mk hc0
 clear hr0 hc0
 have HR1 := Aside0.mk hr1
 have HC1 := Aside0.mk hc1
 clear hr1 hc1
 have H : (some ((strOfNums l0).toList == (strOfNums l1).toList)) = some r := h
 clear h
 obtain rfl := Option.some.inj H
 have hcv3 := Kd.C_string (P := Tryd.prog) (A := A0) (c := c0) Tryd.underlying34 Tryd.underlying5 Tryd.underlying9 HR0.out
 have hcv4 := Kd.C_string (P := Tryd.prog) (A := A1) (c := c1) Tryd.underlying34 Tryd.underlying5 Tryd.underlying9 HR1.out
 go_enter Tryd.func29, Tryd.ntmps29
 go_wp2
 go_ret
 exact ⟨rs_, dr_⟩
def script_Same_1.f (a0_0 : Int) (a0_1 : Int) (l0_2 : List Int) (a1_0 : Int) (a1_1 : Int) (l1_2 : List Int) : Option (Bool) := if a0_0 = a1_0 then (if a0_1 = a1_1 then ((bytes_Equal.f l0_2 l1_2).bind fun t195 => (some t195)) else (some false)) else (some false)
theorem script_Same_1.calls (a0_0 : Int) (a0_1 : Int) (A0_2 : Option Addr) (c0_2 : Nat) (l0_2 : List Int) (a1_0 : Int) (a1_1 : Int) (A1_2 : Option Addr) (c1_2 : Nat) (l1_2 : List Int) (r : Bool) (w : World) (hr0_2 : Kd.C (Kd.int .u8) w A0_2 l0_2.length l0_2) (hc0_2 : l0_2.length ≤ c0_2) (hr1_2 : Kd.C (Kd.int .u8) w A1_2 l1_2.length l1_2) (hc1_2 : l1_2.length ≤ c1_2) (h : script_Same_1.f a0_0 a0_1 l0_2 a1_0 a1_1 l1_2 = some r) :
 Calls Tryd.prog 28 #[.agg #[.int .i64 a0_0, .int .i64 a0_1, .slice A0_2 l0_2.length c0_2], .agg #[.int .i64 a1_0, .int .i64 a1_1, .slice A1_2 l1_2.length c1_2]] w fun e w' => e = .returned (.bool r) ∧ Below w.heap.size w w' := by
 have hu36 := Tryd.underlying36
 have HR0_2 := Aside0.mk hr0_2
 have HC0_2 := Aside0.mk hc0_2
 clear hr0_2 hc0_2
 have HR1_2 := Aside0.mk hr1_2
 have HC1_2 := Aside0.mk hc1_2
 clear hr1_2 hc1_2
 have HB := Aside0.mk (Below.refl w.heap.size w)
 have H : (if a0_0 = a1_0 then (if a0_1 = a1_1 then ((bytes_Equal.f l0_2 l1_2).bind fun t195 => (some t195)) else (some false)) else (some false)) = some r := h
 clear h
 by_cases c3 : a0_0 = a1_0
 ·
  rw [if_pos c3] at H
  have c3b0 : (a0_0 == a1_0) = true := beq_iff_eq.mpr c3
  have c3b1 : (a0_0 != a1_0) = false := bne_eq_false_iff_eq.mpr c3
  clear c3
  by_cases c4 : a0_1 = a1_1
  ·
   rw [if_pos c4] at H
   have c4b0 : (a0_1 == a1_1) = true := beq_iff_eq.mpr c4
   have c4b1 : (a0_1 != a1_1) = false := bne_eq_false_iff_eq.mpr c4
   clear c4
   obtain ⟨t195, A5, H⟩ := bs H
   try dsimp only at H
   obtain rfl := Option.some.inj H
   go_enter Tryd.func28, Tryd.ntmps28
   go_wp2_with (first | ((with_reducible refine gate_dst (N := 2) rfl ?_); refine bx (N := 2) #[.int .i64 a0_0, .int .i64 a0_1, .slice A0_2 l0_2.length c0_2] 36 ?_; intro gb193 hg w6 hbox hb; have BK193 := Aside0.mk (hbox); have GW193 := gw hg (uW HB.out); have GE193 := GW193; replace HB := cW HB hb; clear hb hbox hg) | ((with_reducible refine gate_dst (N := 3) rfl ?_); refine bx (N := 3) #[.int .i64 a1_0, .int .i64 a1_1, .slice A1_2 l1_2.length c1_2] 36 ?_; intro gb194 hg w7 hbox hb; have BK194 := Aside0.mk (hbox); have GW194 := gw hg bl; have GE194 := GW194; replace HB := Aside0.mk (below_step bl hb); have NB193_194 := Aside0.mk ((by rw [hg]; exact Nat.ne_of_lt (blk_lt (g := gb193) (o := .cells #[.int .i64 a0_0, .int .i64 a0_1, .slice A0_2 l0_2.length c0_2] 36 (0, 0)) (uB BK193.out)) : gb193 ≠ gb194)); have NB194_193 := Aside0.mk ((by rw [hg]; exact Nat.ne_of_gt (blk_lt (g := gb193) (o := .cells #[.int .i64 a0_0, .int .i64 a0_1, .slice A0_2 l0_2.length c0_2] 36 (0, 0)) (uB BK193.out)) : gb194 ≠ gb193)); replace BK193 := cB BK193 hb; clear hb hbox hg; have hnb8 := NB193_194.out; have hnc8 := NB194_193.out; obtain ⟨hcz9_0, hcz9_1, hcz9_2, hfz9_0, hfz9_1, hfz9_2⟩ := z3 BK193; obtain ⟨hcz10_0, hcz10_1, hcz10_2, hfz10_0, hfz10_1, hfz10_2⟩ := z3 BK194) | (go_at_call 29; (with_reducible refine (bytes_Equal.calls _ _ l0_2 _ _ l1_2 t195 _ ?side1 ?side2 ?side3 ?side4 A5.out).mono ?_); (case side1 => exact uC <| (Kd.C_below HR0_2.out HB.out)); (case side2 => exact HC0_2.out); (case side3 => exact uC <| (Kd.C_below HR1_2.out HB.out)); (case side4 => exact HC1_2.out); rintro e w' ⟨rfl, ⟨nd, rfl⟩⟩))
   go_ret
   exact ⟨re_, bl⟩
  ·
   rw [if_neg c4] at H
   have c4b0 : (a0_1 == a1_1) = false := beq_eq_false_iff_ne.mpr c4
   have c4b1 : (a0_1 != a1_1) = true := bne_iff_ne.mpr c4
   obtain rfl := Option.some.inj H
   go_enter Tryd.func28, Tryd.ntmps28
   go_wp2_with (first | ((with_reducible refine gate_dst (N := 2) rfl ?_); refine bx (N := 2) #[.int .i64 a0_0, .int .i64 a0_1, .slice A0_2 l0_2.length c0_2] 36 ?_; intro gb193 hg w11 hbox hb; have BK193 := Aside0.mk (hbox); have GW193 := gw hg (uW HB.out); have GE193 := GW193; replace HB := cW HB hb; clear hb hbox hg) | ((with_reducible refine gate_dst (N := 3) rfl ?_); refine bx (N := 3) #[.int .i64 a1_0, .int .i64 a1_1, .slice A1_2 l1_2.length c1_2] 36 ?_; intro gb194 hg w12 hbox hb; have BK194 := Aside0.mk (hbox); have GW194 := gw hg bl; have GE194 := GW194; replace HB := Aside0.mk (below_step bl hb); have NB193_194 := Aside0.mk ((by rw [hg]; exact Nat.ne_of_lt (blk_lt (g := gb193) (o := .cells #[.int .i64 a0_0, .int .i64 a0_1, .slice A0_2 l0_2.length c0_2] 36 (0, 0)) (uB BK193.out)) : gb193 ≠ gb194)); have NB194_193 := Aside0.mk ((by rw [hg]; exact Nat.ne_of_gt (blk_lt (g := gb193) (o := .cells #[.int .i64 a0_0, .int .i64 a0_1, .slice A0_2 l0_2.length c0_2] 36 (0, 0)) (uB BK193.out)) : gb194 ≠ gb193)); replace BK193 := cB BK193 hb; clear hb hbox hg; have hnb13 := NB193_194.out; have hnc13 := NB194_193.out; obtain ⟨hcz14_0, hcz14_1, hcz14_2, hfz14_0, hfz14_1, hfz14_2⟩ := z3 BK193; obtain ⟨hcz15_0, hcz15_1, hcz15_2, hfz15_0, hfz15_1, hfz15_2⟩ := z3 BK194))
   go_ret
   exact ⟨re_, bl⟩
 ·
  rw [if_neg c3] at H
  have c3b0 : (a0_0 == a1_0) = false := beq_eq_false_iff_ne.mpr c3
  have c3b1 : (a0_0 != a1_0) = true := bne_iff_ne.mpr c3
  obtain rfl := Option.some.inj H
  go_enter Tryd.func28, Tryd.ntmps28
  go_wp2_with (first | ((with_reducible refine gate_dst (N := 2) rfl ?_); refine bx (N := 2) #[.int .i64 a0_0, .int .i64 a0_1, .slice A0_2 l0_2.length c0_2] 36 ?_; intro gb193 hg w16 hbox hb; have BK193 := Aside0.mk (hbox); have GW193 := gw hg (uW HB.out); have GE193 := GW193; replace HB := cW HB hb; clear hb hbox hg) | ((with_reducible refine gate_dst (N := 3) rfl ?_); refine bx (N := 3) #[.int .i64 a1_0, .int .i64 a1_1, .slice A1_2 l1_2.length c1_2] 36 ?_; intro gb194 hg w17 hbox hb; have BK194 := Aside0.mk (hbox); have GW194 := gw hg bl; have GE194 := GW194; replace HB := Aside0.mk (below_step bl hb); have NB193_194 := Aside0.mk ((by rw [hg]; exact Nat.ne_of_lt (blk_lt (g := gb193) (o := .cells #[.int .i64 a0_0, .int .i64 a0_1, .slice A0_2 l0_2.length c0_2] 36 (0, 0)) (uB BK193.out)) : gb193 ≠ gb194)); have NB194_193 := Aside0.mk ((by rw [hg]; exact Nat.ne_of_gt (blk_lt (g := gb193) (o := .cells #[.int .i64 a0_0, .int .i64 a0_1, .slice A0_2 l0_2.length c0_2] 36 (0, 0)) (uB BK193.out)) : gb194 ≠ gb193)); replace BK193 := cB BK193 hb; clear hb hbox hg; have hnb18 := NB193_194.out; have hnc18 := NB194_193.out; obtain ⟨hcz19_0, hcz19_1, hcz19_2, hfz19_0, hfz19_1, hfz19_2⟩ := z3 BK193; obtain ⟨hcz20_0, hcz20_1, hcz20_2, hfz20_0, hfz20_1, hfz20_2⟩ := z3 BK194))
  go_ret
  exact ⟨re_, bl⟩
end Go.Proofs.YtkplklfmhieoaaaDoor.X
