/- Printed by a program of this session's own: what functions of the program compute, and that the machine computes it. No condition of its own. -/
import Derived.Test.YteckidchnicjeaaGreatDoorM3
import Derived.Test.YteckidchnicjeaaGreatDoorM4
import Derived.Test.YteckidchnicjeaaGreatDoorM5
import Derived.Test.YteckidchnicjeaaGreatDoorM6
namespace Go.Proofs.YteckidchnicjeaaGreatDoor.X
open Go.RowKit Go.Proofs.YteckidchnicjeaaGreatDoorW.PrintWords Go.Proofs.YteckidchnicjeaaGreatDoorW.PrintLast Go.Proofs.YteckidchnicjeaaGreatDoorW.PrintMore
attribute [local go_sem] max2_int min2_int max_two min_two max_three min_three max_four min_four
set_option linter.unusedVariables false
set_option linter.unusedSimpArgs false
set_option maxHeartbeats 8000000
set_option maxRecDepth 100000
def row_Parse.l0 : Nat → List (S60) → List ByteArray → Int → Int → Option ((List (S60)) × Int)
 | 0, _, _, _, _ => none
 | k + 1, x2, x11, x12, x13 => if x13 < x12 then (if 0 ≤ x13 then (if x13 < (x11.length : Int) then ((row_one.f k (rdOf ByteArray.empty x11 x13)).bind fun bt308 => (if bt308.2.2.2.2 = 0 then (if x2.length < 3518437208883 then (row_Parse.l0 k (x2 ++ [(⟨bt308.1, bt308.2.1, (⟨bt308.2.2.1, bt308.2.2.2.1⟩ : S58)⟩ : S60)]) x11 x12 (wrap64 (x13 + 1))) else (none)) else (some (([] : List (S60)), bt308.2.2.2.2)))) else (none)) else (none)) else ((row_rise.f k x2).bind fun t317 => (if t317 = true then (some (x2, 0)) else (some (([] : List (S60)), 9))))
def row_Parse.f (k : Nat) (a0 : ByteArray) : Option ((List (S60)) × Int) := if a0.toList = ([45] : List UInt8) then (some (([] : List (S60)), 0)) else ((word_Split.f k a0 59).bind fun t304 => (row_Parse.l0 k ([] : List (S60)) t304 (t304.length : Int) 0))
theorem row_Parse.mono_l : ∀ k, (∀ y0 y1 y2 y3, LeC (row_Parse.l0 k y0 y1 y2 y3) (row_Parse.l0 (k + 1) y0 y1 y2 y3))
 | 0 => fun _ _ _ _ => ⟨fun r h => by simp [row_Parse.l0] at h⟩
 | k + 1 => by have ih0 := row_Parse.mono_l k; exact fun _ _ _ _ => by unfold row_Parse.l0; exact lm
theorem row_Parse.mono : ∀ a0 k, LeO (row_Parse.f k a0) (row_Parse.f (k + 1) a0) := by
 intro a0 k
 have ih0 := row_Parse.mono_l k
 unfold row_Parse.f
 exact lo
instance row_Parse.mI {a0 k} : LeC (row_Parse.f k a0) (row_Parse.f (k + 1) a0) := ⟨row_Parse.mono _ _⟩
theorem row_Parse.calls (k : Nat) (a0 : ByteArray) (r1 : List (S60)) (r2 : Int) (w : World) (hL : LD w) (h : row_Parse.f k a0 = some (r1, r2)) :
 Calls Tryz.prog 50 #[.string a0] w fun e w' => ∃ v0_ : Value, e = .returned (.tuple #[v0_, .int .i64 r2]) ∧ Kd.R k60 60 w' w.heap.size (fun _ => True) v0_ r1 ∧ Below w.heap.size w w' := by
 have HL0 := Aside0.mk hL
 clear hL
 have hu60 := Tryz.underlying60
 have HB := Aside0.mk (Below.refl w.heap.size w)
 have H : (if a0.toList = ([45] : List UInt8) then (some (([] : List (S60)), 0)) else ((word_Split.f k a0 59).bind fun t304 => (row_Parse.l0 k ([] : List (S60)) t304 (t304.length : Int) 0))) = some (r1, r2) := h
 clear h
 by_cases c2 : a0.toList = ([45] : List UInt8)
 ·
  rw [if_pos c2] at H
  have c2b0 : (a0.toList == ([45] : List UInt8)) = true := beq_iff_eq.mpr c2
  have c2b1 : (a0.toList != ([45] : List UInt8)) = false := bne_eq_false_iff_eq.mpr c2
  clear c2
  simp only [Option.some.injEq, Prod.mk.injEq] at H
  obtain ⟨rfl, rfl⟩ := H
  go_enter Tryz.func50, Tryz.ntmps50
  go_wp2
  go_ret2
  exact ⟨_, re_, nl_, uW HB.out⟩
 ·
  rw [if_neg c2] at H
  have c2b0 : (a0.toList == ([45] : List UInt8)) = false := beq_eq_false_iff_ne.mpr c2
  have c2b1 : (a0.toList != ([45] : List UInt8)) = true := bne_iff_ne.mpr c2
  obtain ⟨t304, A3, H⟩ := bs H
  try dsimp only at H
  have H' := Aside0.mk H
  clear H
  go_enter Tryz.func50, Tryz.ntmps50
  go_wp2_with (first | (refine gL (some 11) rfl Tryz.func67 #[.string a0, .int .u8 59] ?_; (with_reducible refine (word_Split.calls k a0 59 t304 _ A3.out).mono ?_); rintro e w4 ⟨v305, rfl, ho0, hb⟩; refine ⟨_, rfl, ?_⟩; have HO306 := Aside0.mk (Kd.R_lower ho0 (below_size (uW HB.out))); replace HB := cW HB hb; (try clear hb); (try clear ho0); obtain ⟨Ao5, co5, eo5⟩ := Kd.R_slice HO306.out; subst eo5))
  (try simp only [Act.put, List.setIfInBounds_toArray, List.set_cons_zero, List.set_cons_succ])
  go_loopg [2, 13] k (fun kq v2 v13 w' => ∃ (x2_1 : List (S60)) (x13_1 : Int), v13 = .int .i64 x13_1 ∧ Aside0 (row_Parse.l0 kq x2_1 t304 (t304.length : Int) x13_1 = some (r1, r2)) ∧ Aside0 (kq ≤ k) ∧ Aside0 (Kd.R k60 60 w' w.heap.size (fun _ => True) v2 x2_1) ∧ Aside0 (Kd.R Kd.string 9 w' w.heap.size (fun _ => True) (.slice Ao5 t304.length co5) t304) ∧ Aside0 (Below w.heap.size w w'))
  case atStart => exact ⟨(([] : List (S60))), (0), rs_, H', ⟨Nat.le_refl _⟩, ⟨nl_⟩, ⟨uR HO306.out⟩, ⟨uW HB.out⟩⟩
  case round =>
   clear H'
   try clear c2
   try clear c2b0
   try clear c2b1
   obtain ⟨x2_1, x13_1, rfl, HA, HK1, HO_2, HO_11, HB⟩ := hrel
   cases gk with
   | zero => exact absurd HA.out (by simp [row_Parse.l0])
   | succ k1 =>
    have H := HA.out
    clear HA
    simp only [row_Parse.l0] at H
    by_cases c6 : x13_1 < (t304.length : Int)
    ·
     rw [if_pos c6] at H
     have c6b0 : decide (x13_1 < (t304.length : Int)) = true := decide_eq_true c6
     clear c6
     obtain ⟨c7b0, H⟩ := gdd H
     obtain ⟨c8b0, H⟩ := gdd H
     obtain ⟨⟨t308, t309, t310, t311, t312⟩, A9, H⟩ := bs H
     try dsimp only at H
     by_cases c10 : t312 = 0
     ·
      rw [if_pos c10] at H
      have c10b0 : (t312 == 0) = true := beq_iff_eq.mpr c10
      have c10b1 : (t312 != 0) = false := bne_eq_false_iff_eq.mpr c10
      clear c10
      obtain ⟨c11, H⟩ := gd H
      have LMc11 := Aside0.mk c11
      clear c11
      obtain ⟨y314, hy314⟩ : ∃ y_ : List (S60), y_ = (x2_1 ++ [(⟨t308, t309, (⟨t310, t311⟩ : S58)⟩ : S60)]) := ⟨_, rfl⟩
      replace H : (row_Parse.l0 k1 y314 t304 (t304.length : Int) (wrap64 (x13_1 + 1))) = some (r1, r2) := by first | (rw [hy314]; with_reducible exact H) | (have H2_ := (Option.bind_some _ _).symm.trans H; rw [hy314]; with_reducible exact H2_) | (have H2_ := (Option.bind_some _ _).symm.trans H; with_reducible exact H2_) | with_reducible exact H | (rw [hy314]; exact H) | exact H
      have Ny314 := Aside0.mk hy314
      clear hy314
      have H' := Aside0.mk H
      clear H
      have p307 : 0 ≤ (x13_1 : Int) := od
      have q307 : x13_1 < (t304.length : Int) := od
      obtain ⟨ad307, e307, hx307_0⟩ := Kd.at_string (Kd.R_reads' HO_11.out).2.2 x13_1 p307 q307
      cases e307
      replace p307 := eq_true p307
      replace q307 := eq_true q307
      go_wp2_with (first | (refine gL (some 19) rfl Tryz.func69 #[.string (rdOf ByteArray.empty t304 x13_1)] ?_; (with_reducible refine (row_one.calls (hL := ld) k1 (rdOf ByteArray.empty t304 x13_1) t308 t309 t310 t311 t312 _ A9.out).mono ?_); rintro e w12 ⟨rfl, hb⟩; refine ⟨_, rfl, ?_⟩; replace HO_2 := cR HO_2 hb; replace HO_11 := cR HO_11 hb; replace HB := cW HB hb; (try clear hb)) | ((with_reducible refine gate_dst (N := 6) rfl ?_); refine bx (N := 6) #[.int .i64 0, .string (⟨#[]⟩ : ByteArray), .int .i64 0, .bool false] 60 ?_; intro gb313 hg w13 hbox hb; replace HO_2 := Aside0.mk (Kd.R_below (Kd.R_elderB (uR HO_2.out) gb313 (Nat.le_of_eq hg.symm)) hb); replace HO_11 := cR HO_11 hb; have BK313 := Aside0.mk (hbox); have GW313 := gw hg (uW HB.out); have GE313 := GW313; replace HB := cW HB hb; clear hb hbox hg; obtain ⟨hcz14_0, hcz14_1, hcz14_2, hcz14_3, hfz14_0, hfz14_1, hfz14_2, hfz14_3⟩ := z4 BK313) | ((with_reducible refine gate_builtin (b := .append) (xs := #[.tmp 25, .tmp 27]) rfl ?_); at_builtin; refine Kd.R_append k60 (w0 := w) w.heap.size rfl (.tmp 25) (.tmp 27) 31 60 (.agg #[(.int .i64 0), (.string ⟨#[]⟩), (.int .i64 0), (.bool false)]) 40 rfl Tryz.underlying31 info60 rfl (by decide) (by omega) u2 x2_1 (⟨t308, t309, (⟨t310, t311⟩ : S58)⟩ : S60) [.int .i64 t308, .string t309, .int .i64 t310, .bool t311] (fun k_ => k_ ≠ gb313) (fun _ => False) rfl (by first | (go_simp; done) | (go_simp; rfl)) ?aP (fun _ hk => hk.elim) ?aF ?aO ?aB ?aS ?aL ?_; (case aP => exact k60_mkM _ _ _ (⟨t308, t309, (⟨t310, t311⟩ : S58)⟩ : S60)); (case aB => exact bl); (case aF => exact (fun k_ hk => Kd.freshB (g := gb313) (o := .cells #[.int .i64 t308, .string t309, .int .i64 t310, .bool t311] 60 (0, 0)) (fB BK313.out) k_ hk)); (case aO => exact (by exact Kd.R_mono (fR_ (Kd.R_mono HO_2.out (fun k_ hk => (⟨hk, hk.2⟩ : _ ∧ k_ ≠ gb313))) fun _ h => h.2) (fun _ hk => hk.1.2))); (case aS => exact (below_size bl)); (case aL => have := LMc11.out; omega); intro v315 w15 ho hb hg hat; rw [← Ny314.out] at ho; replace HO_11 := Aside0.mk (Kd.R_over' (by exact (Kd.R_mono (fR_ (Kd.R_types HO_11.out BK313.out (by decide)) fun _ h => h.2) (fun _ h_ => h_.1))) (Kd.R_typed (by exact (Kd.R_mono (fR_ (Kd.R_mono HO_2.out (fun k_ hk => (⟨hk, hk.2⟩ : _ ∧ k_ ≠ gb313))) fun _ h => h.2) (fun _ h_ => h_.1)))) (by decide) hg); replace BK313 := Aside0.mk (blk_grown (g := gb313) (o := .cells #[.int .i64 t308, .string t309, .int .i64 t310, .bool t311] 60 (0, 0)) (fB BK313.out) hg (Kd.R_away HO_2.out (fun _ hk => hk.2))); replace HB := Aside0.mk (hb); have HO316 := Aside0.mk (ho); clear HO_2; clear ho hb hg hat))
      go_roundg k1
      case measure => have := HK1.out; omega
      case rel => exact ⟨(y314), (wrap64 (x13_1 + 1)), rs_, H', ⟨by have := HK1.out; omega⟩, ⟨by exact uR <| Kd.R_mono HO316.out (fun _ hk => trivial)⟩, ⟨uR HO_11.out⟩, ⟨bl⟩⟩
     ·
      rw [if_neg c10] at H
      have c10b0 : (t312 == 0) = false := beq_eq_false_iff_ne.mpr c10
      have c10b1 : (t312 != 0) = true := bne_iff_ne.mpr c10
      simp only [Option.some.injEq, Prod.mk.injEq] at H
      obtain ⟨rfl, rfl⟩ := H
      have p307 : 0 ≤ (x13_1 : Int) := od
      have q307 : x13_1 < (t304.length : Int) := od
      obtain ⟨ad307, e307, hx307_0⟩ := Kd.at_string (Kd.R_reads' HO_11.out).2.2 x13_1 p307 q307
      cases e307
      replace p307 := eq_true p307
      replace q307 := eq_true q307
      go_wp2_with (first | (refine gL (some 19) rfl Tryz.func69 #[.string (rdOf ByteArray.empty t304 x13_1)] ?_; (with_reducible refine (row_one.calls (hL := ld) k1 (rdOf ByteArray.empty t304 x13_1) t308 t309 t310 t311 t312 _ A9.out).mono ?_); rintro e w16 ⟨rfl, hb⟩; refine ⟨_, rfl, ?_⟩; replace HO_2 := cR HO_2 hb; replace HO_11 := cR HO_11 hb; replace HB := cW HB hb; (try clear hb)) | ((with_reducible refine gate_dst (N := 6) rfl ?_); refine bx (N := 6) #[.int .i64 0, .string (⟨#[]⟩ : ByteArray), .int .i64 0, .bool false] 60 ?_; intro gb313 hg w17 hbox hb; replace HO_2 := Aside0.mk (Kd.R_below (Kd.R_elderB (uR HO_2.out) gb313 (Nat.le_of_eq hg.symm)) hb); replace HO_11 := cR HO_11 hb; have BK313 := Aside0.mk (hbox); have GW313 := gw hg (uW HB.out); have GE313 := GW313; replace HB := cW HB hb; clear hb hbox hg; obtain ⟨hcz18_0, hcz18_1, hcz18_2, hcz18_3, hfz18_0, hfz18_1, hfz18_2, hfz18_3⟩ := z4 BK313))
      go_ret2
      exact ⟨_, re_, nl_, bl⟩
    ·
     rw [if_neg c6] at H
     have c6b0 : decide (x13_1 < (t304.length : Int)) = false := decide_eq_false c6
     clear c6
     obtain ⟨t317, A19, H⟩ := bs H
     try dsimp only at H
     by_cases c20 : t317 = true
     ·
      subst c20
      rw [if_pos rfl] at H
      simp only [Option.some.injEq, Prod.mk.injEq] at H
      obtain ⟨rfl, rfl⟩ := H
      obtain ⟨Ao21, co21, eo21⟩ := Kd.R_slice HO_2.out
      subst eo21
      go_wp2_with (first | (refine gL (some 31) rfl Tryz.func70 #[.slice Ao21 x2_1.length co21] ?_; (with_reducible refine (row_rise.calls k1 _ _ x2_1 true _ ?side1 ?side2 A19.out).mono ?_); (case side1 => exact uC <| (Kd.R_reads' HO_2.out).2.2); (case side2 => exact (Kd.R_reads' HO_2.out).2.1); rintro e w22 ⟨rfl, hb⟩; refine ⟨_, rfl, ?_⟩; replace HO_2 := cR HO_2 hb; replace HO_11 := cR HO_11 hb; replace HB := cW HB hb; (try clear hb)))
      go_ret2
      exact ⟨_, re_, uR HO_2.out, uW HB.out⟩
     ·
      replace c20 := Bool.eq_false_iff.mpr c20
      subst c20
      rw [if_neg (show ¬ (false = true) by decide)] at H
      simp only [Option.some.injEq, Prod.mk.injEq] at H
      obtain ⟨rfl, rfl⟩ := H
      obtain ⟨Ao23, co23, eo23⟩ := Kd.R_slice HO_2.out
      subst eo23
      go_wp2_with (first | (refine gL (some 31) rfl Tryz.func70 #[.slice Ao23 x2_1.length co23] ?_; (with_reducible refine (row_rise.calls k1 _ _ x2_1 false _ ?side1 ?side2 A19.out).mono ?_); (case side1 => exact uC <| (Kd.R_reads' HO_2.out).2.2); (case side2 => exact (Kd.R_reads' HO_2.out).2.1); rintro e w24 ⟨rfl, hb⟩; refine ⟨_, rfl, ?_⟩; replace HO_2 := cR HO_2 hb; replace HO_11 := cR HO_11 hb; replace HB := cW HB hb; (try clear hb)))
      go_ret2
      exact ⟨_, re_, nl_, uW HB.out⟩
theorem reply_ReadRows.catch (p q : Nat) (er y : Int) (x0 x1 x2 : Value) (w : World) (hp : w.heap[p]? = some (.cells #[x0, x1, x2] 33 (0, 0))) (hq : w.heap[q]? = some (.cells #[.int .i64 y] 22 (0, 0))) :
 CallsD Tryz.prog 49 #[.pointer (some ⟨p, 0, none⟩), .pointer (some ⟨q, 0, none⟩)] (.panicking (wr_ er)) w fun e u' w' =>
  e = .returned (.tuple #[]) ∧ u' = .panicking [{ v := .iface 86 (.agg #[.int .i64 er]), recovered := true }] ∧ ∃ w1, Below w.heap.size w w1 ∧ w' = ((((w1.setCell ⟨p, 0, none⟩ (.int .i64 0)).setCell ⟨p, 1, none⟩ (.int .i64 0)).setCell ⟨p, 2, none⟩ (.slice none 0 0)).setCell ⟨q, 0, none⟩ (.int .i64 er)) := by
 have hne : p ≠ q := blk_ne hp hq (by decide)
 have hu33 := Tryz.underlying33
 have hu36 := Tryz.underlying36
 refine callsD_of_wpS Tryz.func49 rfl fun c₀ cs hu => ?_
 apply wpS_seq
 apply wpS_region
 simp [wpOpsS, go_sem, recoverD, hu, Tryz.ntmps49, Exit.thenS]
 apply wpS_seq
 apply wpS_region
 simp [wpOpsS, go_sem, Exit.thenS]
 refine wpS_cond (t := true) (by simp [Act.eval, Array.replicate]) ?_
 simp only [if_true]
 refine wpS_of_wp ?_
 go_wp2_with (first | (go_at_call 44; (with_reducible refine (reply_caught.calls er _).mono ?_); rintro e w5 ⟨rfl, hb⟩; have hp5 := blk_below hp hb; have hq5 := blk_below hq hb; have hc0 := (blk_cell hp5 0).trans rfl; have hz0 := blk_frozen hp5 0; have hc1 := (blk_cell hp5 1).trans rfl; have hz1 := blk_frozen hp5 1; have hc2 := (blk_cell hp5 2).trans rfl; have hz2 := blk_frozen hp5 2; have hcq := (blk_cell (blk_far (blk_far (blk_far hq5 (p := ⟨p, 0, none⟩) hne.symm (.int .i64 0)) (p := ⟨p, 1, none⟩) hne.symm (.int .i64 0)) (p := ⟨p, 2, none⟩) hne.symm (.slice none 0 0)) 0).trans rfl; have hzq := blk_frozen (blk_far (blk_far (blk_far hq5 (p := ⟨p, 0, none⟩) hne.symm (.int .i64 0)) (p := ⟨p, 1, none⟩) hne.symm (.int .i64 0)) (p := ⟨p, 2, none⟩) hne.symm (.slice none 0 0)) 0))
 cases c₀
 simp_all [bodyPostS, results, Tryz.results49, Exit.thenS]
 exact ⟨w5, hb, rfl⟩
theorem reply_ReadRows.idle (p q : Nat) (w : World) : CallsD Tryz.prog 49 #[.pointer (some ⟨p, 0, none⟩), .pointer (some ⟨q, 0, none⟩)] .returning w fun e u' w' => e = .returned (.tuple #[]) ∧ u' = .returning ∧ w' = w := by
 refine callsD_of_wpS Tryz.func49 rfl fun c₀ cs hu => ?_
 apply wpS_seq
 apply wpS_region
 simp [wpOpsS, go_sem, recoverD, hu, Tryz.ntmps49, Exit.thenS]
 apply wpS_seq
 apply wpS_region
 simp [wpOpsS, go_sem, Exit.thenS]
 refine wpS_cond (t := false) (by simp [Act.eval, Array.replicate]) ?_
 simp only [Bool.false_eq_true, if_false]
 refine wpS_of_wp (wp_skip ?_)
 cases c₀
 simp_all [bodyPostS, results, Tryz.results49, Exit.thenS]
theorem reply_ReadRows.out {w W : World} {p q : Nat} {er y : Int} {x0 x1 x2 t0 t1 t4 t5 t6 t7 t8 t9 t10 t11 t12 t13 t14 t15 t16 t17 t18 t19 t20 t21 t22 t23 t24 t25 t26 t27 t28 : Value} (hp : W.heap[p]? = some (.cells #[x0, x1, x2] 33 (0, 0))) (hq : W.heap[q]? = some (.cells #[.int .i64 y] 22 (0, 0))) (hb : Below w.heap.size w W) (gp : w.heap.size ≤ p) (gq : w.heap.size ≤ q) :
 bodyPostD Tryz.prog Tryz.f24 (fun e w' => ∃ v0_ : Value, e = .returned (.tuple #[.agg #[.int .i64 0, .int .i64 0, v0_], .int .i64 er]) ∧ Kd.R k60 60 w' w.heap.size (fun _ => True) v0_ [] ∧ Below w.heap.size w w') (.panic (wr_ er)) { tmps := #[t0, t1, .pointer (some ⟨p, 0, none⟩), .pointer (some ⟨q, 0, none⟩), t4, t5, t6, t7, t8, t9, t10, t11, t12, t13, t14, t15, t16, t17, t18, t19, t20, t21, t22, t23, t24, t25, t26, t27, t28], defers := [{ target := .fn (.func 49) #[.pointer (some ⟨p, 0, none⟩), .pointer (some ⟨q, 0, none⟩)], args := #[] }] } W := by
 have hne : p ≠ q := blk_ne hp hq (by decide)
 refine leaves_cons (f := 49) (args := #[.pointer (some ⟨p, 0, none⟩), .pointer (some ⟨q, 0, none⟩)]) (by simp) (by simp [go_sem]) ?_
 refine (reply_ReadRows.catch p q er _ _ _ _ _ hp hq).mono ?_
 rintro e u' w'' ⟨rfl, rfl, w6, hb6, rfl⟩
 have cp0 := (blk_cell (blk_far (blk_set (blk_set (blk_set (blk_below hp hb6) 0 (.int .i64 0)) 1 (.int .i64 0)) 2 (.slice none 0 0)) (p := ⟨q, 0, none⟩) hne (.int .i64 er)) 0).trans rfl
 have cp1 := (blk_cell (blk_far (blk_set (blk_set (blk_set (blk_below hp hb6) 0 (.int .i64 0)) 1 (.int .i64 0)) 2 (.slice none 0 0)) (p := ⟨q, 0, none⟩) hne (.int .i64 er)) 1).trans rfl
 have cp2 := (blk_cell (blk_far (blk_set (blk_set (blk_set (blk_below hp hb6) 0 (.int .i64 0)) 1 (.int .i64 0)) 2 (.slice none 0 0)) (p := ⟨q, 0, none⟩) hne (.int .i64 er)) 2).trans rfl
 have cq := (blk_cell (blk_set (blk_far (blk_far (blk_far (blk_below hq hb6) (p := ⟨p, 0, none⟩) hne.symm (.int .i64 0)) (p := ⟨p, 1, none⟩) hne.symm (.int .i64 0)) (p := ⟨p, 2, none⟩) hne.symm (.slice none 0 0)) 0 (.int .i64 er)) 0).trans rfl
 have HB2 := (below_set (j := 0) (v := .int .i64 er) (below_set (j := 2) (v := .slice none 0 0) (below_set (j := 1) (v := .int .i64 0) (below_set (j := 0) (v := .int .i64 0) (below_step hb hb6) gp) gp) gp) gq)
 simp [Leaves, settle, results, Tryz.results24, go_sem, cp0, cp1, cp2, cq, HB2]
 (try exact Kd.R_nil _ _ _ _ _)
def reply_ReadRows.f (k : Nat) (a0 : ByteArray) : Option (Int × Int × (List (S60)) × Int) := (word_Split.f k a0 32).bind fun t => (if (reply_words.g t 2 [rows_] 0).isSome = true then ((sat_Read.f (rdOf ByteArray.empty t 1)).bind fun b => (if b.2 = 0 then (if b.1 < 0 then (some (0, 0, [], 3)) else ((row_Parse.f k (rdOf ByteArray.empty t 2)).bind fun d => (if d.2 = 0 then (some (0, b.1, d.1, 0)) else (some (0, 0, [], d.2))))) else (some (0, 0, [], b.2)))) else (some (0, 0, [], 2)))
theorem reply_ReadRows.mono : ∀ a0 k, LeO (reply_ReadRows.f k a0) (reply_ReadRows.f (k + 1) a0) := by
 intro a0 k
 unfold reply_ReadRows.f
 exact lo
instance reply_ReadRows.mI {a0 k} : LeC (reply_ReadRows.f k a0) (reply_ReadRows.f (k + 1) a0) := ⟨reply_ReadRows.mono _ _⟩
theorem reply_ReadRows.calls (k : Nat) (a0 : ByteArray) (r1 : Int) (r2 : Int) (r3 : List (S60)) (r4 : Int) (w : World) (hL : LD w) (h : reply_ReadRows.f k a0 = some (r1, r2, r3, r4)) :
 Calls Tryz.prog 24 #[.string a0] w fun e w' => ∃ v2_ : Value, e = .returned (.tuple #[.agg #[.int .i64 r1, .int .i64 r2, v2_], .int .i64 r4]) ∧ Kd.R k60 60 w' w.heap.size (fun _ => True) v2_ r3 ∧ Below w.heap.size w w' := by
 unfold reply_ReadRows.f at h
 obtain ⟨t, hs, h⟩ := Option.bind_eq_some_iff.mp h
 have hmf : ∀ (fn : Fn) (first cap : Array Value) (w : World), (Instr.makeFunc fn first cap).run Tryz.prog w = .ok (.func fn first cap) w := fun _ _ _ _ => rfl
 have hu56 := Tryz.underlying56
 have hu33 := Tryz.underlying33
 have hu36 := Tryz.underlying36
 have HB := Aside0.mk (Below.refl w.heap.size w)
 have HH := Aside0.mk h
 clear h
 go_enter_defers Tryz.func24, Tryz.ntmps24
 go_wp2_with (first | ((with_reducible refine gate_dst (N := 2) rfl ?_); refine bx (N := 2) #[.int .i64 0, .int .i64 0, .slice none 0 0] 33 ?_; intro p hp w1 hk1 hb1; have BP := Aside0.mk hk1; have GP := Aside0.mk (show w.heap.size ≤ p by rw [hp]; exact HB.out.size); replace HB := Aside0.mk (below_step HB.out hb1); clear hk1 hp hb1) | ((with_reducible refine gate_dst (N := 3) rfl ?_); refine bx (N := 3) #[.int .i64 0] 22 ?_; intro q hq w2 hk1 hb1; have BQ := Aside0.mk hk1; have GQ := Aside0.mk (show w.heap.size ≤ q by rw [hq]; exact HB.out.size); replace BP := Aside0.mk (blk_below BP.out hb1); replace HB := Aside0.mk (below_step HB.out hb1); clear hk1 hq hb1))
 cases hg : reply_words.g t 2 [rows_] 0 with
 | none =>
  have h := HH.out
  clear HH
  rw [hg, if_neg (by simp)] at h
  injection h with h
  injection h with h1 h
  injection h with h2 h
  injection h with h3 h4
  subst h1 h2 h3 h4
  refine (reply_words.one k a0 2 (by decide) _ t _ hs).mono ?_
  rintro e w5 ⟨ho, hb⟩
  rw [hg] at ho
  have ho2 : e = .panicked (wr_ 2) := ho
  subst ho2
  have hb' := below_step (Below.refl _ _) (below_step (below_alloc (Below.refl _ _) _) hb)
  replace BP := Aside0.mk (blk_below BP.out hb'); replace BQ := Aside0.mk (blk_below BQ.out hb'); replace HB := Aside0.mk (below_step HB.out hb')
  go_wp2_with fail
  exact reply_ReadRows.out BP.out BQ.out HB.out GP.out GQ.out
 | some i =>
  have h := HH.out
  clear HH
  rw [hg, if_pos (show (some i).isSome = true from rfl)] at h
  have HH := Aside0.mk h
  clear h
  refine (reply_words.one k a0 2 (by decide) _ t _ hs).mono ?_
  rintro e w5 ⟨ho, hb⟩
  rw [hg] at ho
  obtain ⟨v1_, rfl, hq⟩ := ho
  have hb' := below_step (Below.refl _ _) (below_step (below_alloc (Below.refl _ _) _) hb)
  replace BP := Aside0.mk (blk_below BP.out hb'); replace BQ := Aside0.mk (blk_below BQ.out hb'); replace HB := Aside0.mk (below_step HB.out hb')
  have hlt := (reply_words.g_some hg).1
  obtain ⟨y, hy⟩ : ∃ y : List ByteArray, y = t.drop 1 := ⟨_, rfl⟩
  have hyl : (y.length : Int) = 2 := by rw [hy, List.length_drop]; omega
  rw [← hy] at hq
  obtain ⟨A5, c5, e5, _⟩ := Kd.Q_slice hq
  subst e5
  have HQ := Aside0.mk hq
  have HY := Aside0.mk hy
  have q0 : ((0 : Int) < (y.length : Int)) = True := eq_true (by omega)
  have qi0 : (0 < y.length) = True := eq_true (by omega)
  have q1 : ((1 : Int) < (y.length : Int)) = True := eq_true (by omega)
  have qi1 : (1 < y.length) = True := eq_true (by omega)
  clear hq hb hb' hy
  have hne := blk_ne BP.out BQ.out (by decide)
  obtain ⟨ad10_, ea10_, hx10_⟩ := Kd.at_string (Kd.Q_reads' HQ.out).2.2 0 (by decide) (by omega)
  cases ea10_
  (try rw [show ((0 : Int)).toNat = 0 from rfl] at hx10_)
  (try rw [Addr.add_zero'] at hx10_)
  rw [HY.out, show rdOf ByteArray.empty (t.drop 1) 0 = rdOf ByteArray.empty t 1 from reply_words.rd1 t 0] at hx10_
  go_wp2_with fail
  have h := HH.out
  clear HH
  obtain ⟨⟨n0, er⟩, hA, h⟩ := Option.bind_eq_some_iff.mp h
  dsimp only at h
  by_cases c : er = 0
  case neg =>
   rw [if_neg c] at h
   injection h with h
   injection h with h1 h
   injection h with h2 h
   injection h with h3 h4
   subst h1 h2 h3 h4
   refine (reply_number.bad1 (rdOf ByteArray.empty t 1) 0 n0 er _ (LD.below hL HB.out) hA c).mono ?_
   rintro e w20 ⟨rfl, hb'⟩
   replace BP := Aside0.mk (blk_below BP.out hb'); replace BQ := Aside0.mk (blk_below BQ.out hb'); replace HQ := Aside0.mk (Kd.Q_below HQ.out hb'); replace HB := Aside0.mk (below_step HB.out hb')
   go_wp2_with fail
   exact reply_ReadRows.out BP.out BQ.out HB.out GP.out GQ.out
  rw [if_pos c] at h
  subst c
  by_cases c : n0 < 0
  case pos =>
   rw [if_pos c] at h
   injection h with h
   injection h with h1 h
   injection h with h2 h
   injection h with h3 h4
   subst h1 h2 h3 h4
   refine (reply_number.bad2 (rdOf ByteArray.empty t 1) 0 n0 _ (LD.below hL HB.out) hA (Or.inl c)).mono ?_
   rintro e w20 ⟨rfl, hb'⟩
   replace BP := Aside0.mk (blk_below BP.out hb'); replace BQ := Aside0.mk (blk_below BQ.out hb'); replace HQ := Aside0.mk (Kd.Q_below HQ.out hb'); replace HB := Aside0.mk (below_step HB.out hb')
   go_wp2_with fail
   exact reply_ReadRows.out BP.out BQ.out HB.out GP.out GQ.out
  rw [if_neg c] at h
  have hn6 := c
  clear c
  have HH := Aside0.mk h
  clear h
  refine (reply_number.good (rdOf ByteArray.empty t 1) 0 n0 _ (LD.below hL HB.out) hA (by omega) (by omega)).mono ?_
  rintro e w20 ⟨rfl, hb'⟩
  replace BP := Aside0.mk (blk_below BP.out hb'); replace BQ := Aside0.mk (blk_below BQ.out hb'); replace HQ := Aside0.mk (Kd.Q_below HQ.out hb'); replace HB := Aside0.mk (below_step HB.out hb')
  clear hb' hA
  have hc1_ := (blk_cell BP.out 1).trans rfl; have hz1_ := blk_frozen BP.out 1; have HN_ := Aside0.mk (show (World.setCell _ ⟨p, 1, none⟩ (.int .i64 n0)).heap[p]? = some (.cells #[.int .i64 0, .int .i64 n0, .slice none 0 0] 33 (0, 0)) from blk_set BP.out 1 (.int .i64 n0)); replace HQ := Aside0.mk (Kd.Q_set HQ.out BP.out (by decide) 1 (.int .i64 n0)); replace BQ := Aside0.mk (blk_far BQ.out (p := ⟨p, 1, none⟩) (hne.symm) (.int .i64 n0)); replace BP := HN_; clear HN_; replace HB := Aside0.mk (below_set (j := 1) (v := .int .i64 n0) HB.out GP.out)
  obtain ⟨ad11_, ea11_, hx11_⟩ := Kd.at_string (Kd.Q_reads' HQ.out).2.2 1 (by decide) (by omega)
  cases ea11_
  simp only [show (1 : Int).toNat = 1 from rfl, Nat.reduceMul, Nat.reduceEqDiff, Go.Addr.add, ↓reduceIte] at hx11_
  rw [HY.out, show rdOf ByteArray.empty (t.drop 1) 1 = rdOf ByteArray.empty t 2 from reply_words.rd1 t 1] at hx11_
  go_wp2_with fail
  have h := HH.out
  clear HH
  obtain ⟨⟨rs, er⟩, hR, h⟩ := Option.bind_eq_some_iff.mp h
  dsimp only at h
  have HH := Aside0.mk h
  clear h
  refine (row_Parse.calls k (rdOf ByteArray.empty t 2) rs er _ (LD.below hL HB.out) hR).mono ?_
  rintro e w7 ⟨v7_, rfl, ho7, hb'⟩
  have ho8 := Kd.R_lower ho7 (below_size HB.out)
  replace BP := Aside0.mk (blk_below BP.out hb'); replace BQ := Aside0.mk (blk_below BQ.out hb'); replace HQ := Aside0.mk (Kd.Q_below HQ.out hb'); replace HB := Aside0.mk (below_step HB.out hb')
  have HO := Aside0.mk ho8
  obtain ⟨A7, c7, e7⟩ := Kd.R_slice ho8
  subst e7
  clear ho7 ho8 hb'
  have hc50_ := (blk_cell BP.out 2).trans rfl; have hz50_ := blk_frozen BP.out 2; have HN_ := Aside0.mk (show (World.setCell _ ⟨p, 2, none⟩ (.slice A7 rs.length c7)).heap[p]? = some (.cells #[.int .i64 0, .int .i64 n0, .slice A7 rs.length c7] 33 (0, 0)) from blk_set BP.out 2 (.slice A7 rs.length c7)); replace HQ := Aside0.mk (Kd.Q_set HQ.out BP.out (by decide) 2 (.slice A7 rs.length c7)); replace HO := Aside0.mk (Kd.R_set HO.out BP.out (by decide) 2 (.slice A7 rs.length c7)); replace BQ := Aside0.mk (blk_far BQ.out (p := ⟨p, 2, none⟩) (hne.symm) (.slice A7 rs.length c7)); replace BP := HN_; clear HN_; replace HB := Aside0.mk (below_set (j := 2) (v := .slice A7 rs.length c7) HB.out GP.out)
  have hc51_ := (blk_cell BQ.out 0).trans rfl; have hz51_ := blk_frozen BQ.out 0; have HN_ := Aside0.mk (show (World.setCell _ ⟨q, 0, none⟩ (.int .i64 er)).heap[q]? = some (.cells #[.int .i64 er] 22 (0, 0)) from blk_set BQ.out 0 (.int .i64 er)); replace HQ := Aside0.mk (Kd.Q_set HQ.out BQ.out (by decide) 0 (.int .i64 er)); replace HO := Aside0.mk (Kd.R_set HO.out BQ.out (by decide) 0 (.int .i64 er)); replace BP := Aside0.mk (blk_far BP.out (p := ⟨q, 0, none⟩) (hne) (.int .i64 er)); replace BQ := HN_; clear HN_; replace HB := Aside0.mk (below_set (j := 0) (v := .int .i64 er) HB.out GQ.out)
  have hl60_ := (blk_cell BQ.out 0).trans rfl
  go_wp2_with fail
  by_cases c : er = 0
  case neg =>
   have h := HH.out
   rw [if_neg c] at h
   injection h with h
   injection h with h1 h
   injection h with h2 h
   injection h with h3 h4
   subst h1 h2 h3 h4
   refine (reply_must.bad er c _).mono ?_
   rintro e w8 ⟨rfl, rfl⟩
   go_wp2_with fail
   exact reply_ReadRows.out BP.out BQ.out HB.out GP.out GQ.out
  subst c
  have h := HH.out
  rw [if_pos rfl] at h
  injection h with h
  injection h with h1 h
  injection h with h2 h
  injection h with h3 h4
  subst h1 h2 h3 h4
  refine (reply_must.good _).mono ?_
  rintro e w8 ⟨rfl, rfl⟩
  have hl61_ := (blk_cell BP.out 0).trans rfl
  have hl62_ := (blk_cell BP.out 1).trans rfl
  have hl63_ := (blk_cell BP.out 2).trans rfl
  have hc70_ := (blk_cell BP.out 0).trans rfl; have hz70_ := blk_frozen BP.out 0; have HN_ := Aside0.mk (show (World.setCell _ ⟨p, 0, none⟩ (.int .i64 0)).heap[p]? = some (.cells #[.int .i64 0, .int .i64 n0, .slice A7 rs.length c7] 33 (0, 0)) from blk_set BP.out 0 (.int .i64 0)); replace HQ := Aside0.mk (Kd.Q_set HQ.out BP.out (by decide) 0 (.int .i64 0)); replace HO := Aside0.mk (Kd.R_set HO.out BP.out (by decide) 0 (.int .i64 0)); replace BQ := Aside0.mk (blk_far BQ.out (p := ⟨p, 0, none⟩) (hne.symm) (.int .i64 0)); replace BP := HN_; clear HN_; replace HB := Aside0.mk (below_set (j := 0) (v := .int .i64 0) HB.out GP.out)
  have hc71_ := (blk_cell BP.out 1).trans rfl; have hz71_ := blk_frozen BP.out 1; have HN_ := Aside0.mk (show (World.setCell _ ⟨p, 1, none⟩ (.int .i64 n0)).heap[p]? = some (.cells #[.int .i64 0, .int .i64 n0, .slice A7 rs.length c7] 33 (0, 0)) from blk_set BP.out 1 (.int .i64 n0)); replace HQ := Aside0.mk (Kd.Q_set HQ.out BP.out (by decide) 1 (.int .i64 n0)); replace HO := Aside0.mk (Kd.R_set HO.out BP.out (by decide) 1 (.int .i64 n0)); replace BQ := Aside0.mk (blk_far BQ.out (p := ⟨p, 1, none⟩) (hne.symm) (.int .i64 n0)); replace BP := HN_; clear HN_; replace HB := Aside0.mk (below_set (j := 1) (v := .int .i64 n0) HB.out GP.out)
  have hc72_ := (blk_cell BP.out 2).trans rfl; have hz72_ := blk_frozen BP.out 2; have HN_ := Aside0.mk (show (World.setCell _ ⟨p, 2, none⟩ (.slice A7 rs.length c7)).heap[p]? = some (.cells #[.int .i64 0, .int .i64 n0, .slice A7 rs.length c7] 33 (0, 0)) from blk_set BP.out 2 (.slice A7 rs.length c7)); replace HQ := Aside0.mk (Kd.Q_set HQ.out BP.out (by decide) 2 (.slice A7 rs.length c7)); replace HO := Aside0.mk (Kd.R_set HO.out BP.out (by decide) 2 (.slice A7 rs.length c7)); replace BQ := Aside0.mk (blk_far BQ.out (p := ⟨p, 2, none⟩) (hne.symm) (.slice A7 rs.length c7)); replace BP := HN_; clear HN_; replace HB := Aside0.mk (below_set (j := 2) (v := .slice A7 rs.length c7) HB.out GP.out)
  have hc80_ := (blk_cell BQ.out 0).trans rfl; have hz80_ := blk_frozen BQ.out 0; have HN_ := Aside0.mk (show (World.setCell _ ⟨q, 0, none⟩ (.int .i64 0)).heap[q]? = some (.cells #[.int .i64 0] 22 (0, 0)) from blk_set BQ.out 0 (.int .i64 0)); replace HQ := Aside0.mk (Kd.Q_set HQ.out BQ.out (by decide) 0 (.int .i64 0)); replace HO := Aside0.mk (Kd.R_set HO.out BQ.out (by decide) 0 (.int .i64 0)); replace BP := Aside0.mk (blk_far BP.out (p := ⟨q, 0, none⟩) (hne) (.int .i64 0)); replace BQ := HN_; clear HN_; replace HB := Aside0.mk (below_set (j := 0) (v := .int .i64 0) HB.out GQ.out)
  go_wp2_with fail
  refine leaves_cons (f := 49) (args := #[.pointer (some ⟨p, 0, none⟩), .pointer (some ⟨q, 0, none⟩)]) (by simp) (by simp [go_sem]) ?_
  refine (reply_ReadRows.idle p q _).mono ?_
  rintro e u' w'' ⟨rfl, rfl, rfl⟩
  have cp0 := (blk_cell BP.out 0).trans rfl
  have cp1 := (blk_cell BP.out 1).trans rfl
  have cp2 := (blk_cell BP.out 2).trans rfl
  have cq := (blk_cell BQ.out 0).trans rfl
  simp [Leaves, settle, results, Tryz.results24, go_sem, cp0, cp1, cp2, cq, HB.out]
  (try exact HO.out)
def stringslite_CutPrefix.f (a0 : ByteArray) (a1 : ByteArray) : Option (ByteArray × Bool) := (stringslite_HasPrefix.f a0 a1).bind fun t318 => (if t318 = true then (if 0 ≤ (a1.size : Int) then (if (a1.size : Int) ≤ (a0.size : Int) then (some (a0.extract ((a1.size : Int) : Int).toNat a0.size, true)) else (none)) else (none)) else (some (a0, false)))
theorem stringslite_CutPrefix.calls (a0 : ByteArray) (a1 : ByteArray) (r1 : ByteArray) (r2 : Bool) (w : World) (h : stringslite_CutPrefix.f a0 a1 = some (r1, r2)) :
 Calls Tryz.prog 113 #[.string a0, .string a1] w fun e w' => e = .returned (.tuple #[.string r1, .bool r2]) ∧ Drawn0 w w' := by
 have H : ((stringslite_HasPrefix.f a0 a1).bind fun t318 => (if t318 = true then (if 0 ≤ (a1.size : Int) then (if (a1.size : Int) ≤ (a0.size : Int) then (some (a0.extract ((a1.size : Int) : Int).toNat a0.size, true)) else (none)) else (none)) else (some (a0, false)))) = some (r1, r2) := h
 clear h
 obtain ⟨t318, A3, H⟩ := bs H
 try dsimp only at H
 by_cases c4 : t318 = true
 ·
  subst c4
  rw [if_pos rfl] at H
  obtain ⟨c5, H⟩ := gd H
  have c5b0 := eq_true c5
  have c5b1 : decide (0 ≤ (a1.size : Int)) = true := decide_eq_true c5
  clear c5
  obtain ⟨c6, H⟩ := gd H
  have c6b0 := eq_true c6
  have c6b1 : decide ((a1.size : Int) ≤ (a0.size : Int)) = true := decide_eq_true c6
  clear c6
  simp only [Option.some.injEq, Prod.mk.injEq] at H
  obtain ⟨rfl, rfl⟩ := H
  go_enter Tryz.func113, Tryz.ntmps113
  go_wp2_with (first | (refine gL (some 8) rfl Tryz.func127 #[.string a0, .string a1] ?_; (with_reducible refine (stringslite_HasPrefix.calls a0 a1 true _ A3.out).mono ?_); rintro e w' ⟨rfl, ⟨nd, rfl⟩⟩; refine ⟨_, rfl, ?_⟩))
  go_ret2
  exact ⟨rs_, dr_⟩
 ·
  replace c4 := Bool.eq_false_iff.mpr c4
  subst c4
  rw [if_neg (show ¬ (false = true) by decide)] at H
  simp only [Option.some.injEq, Prod.mk.injEq] at H
  obtain ⟨rfl, rfl⟩ := H
  go_enter Tryz.func113, Tryz.ntmps113
  go_wp2_with (first | (refine gL (some 8) rfl Tryz.func127 #[.string a0, .string a1] ?_; (with_reducible refine (stringslite_HasPrefix.calls a0 a1 false _ A3.out).mono ?_); rintro e w' ⟨rfl, ⟨nd, rfl⟩⟩; refine ⟨_, rfl, ?_⟩))
  go_ret2
  exact ⟨rs_, dr_⟩
def strings_CutPrefix.f (a0 : ByteArray) (a1 : ByteArray) : Option (ByteArray × Bool) := (stringslite_CutPrefix.f a0 a1).bind fun bt319 => (some (bt319.1, bt319.2))
theorem strings_CutPrefix.calls (a0 : ByteArray) (a1 : ByteArray) (r1 : ByteArray) (r2 : Bool) (w : World) (h : strings_CutPrefix.f a0 a1 = some (r1, r2)) :
 Calls Tryz.prog 90 #[.string a0, .string a1] w fun e w' => e = .returned (.tuple #[.string r1, .bool r2]) ∧ Drawn0 w w' := by
 have H : ((stringslite_CutPrefix.f a0 a1).bind fun bt319 => (some (bt319.1, bt319.2))) = some (r1, r2) := h
 clear h
 obtain ⟨⟨t319, t320⟩, A3, H⟩ := bs H
 try dsimp only at H
 simp only [Option.some.injEq, Prod.mk.injEq] at H
 obtain ⟨rfl, rfl⟩ := H
 go_enter Tryz.func90, Tryz.ntmps90
 go_wp2_with (first | (refine gL (some 8) rfl Tryz.func113 #[.string a0, .string a1] ?_; (with_reducible refine (stringslite_CutPrefix.calls a0 a1 t319 t320 _ A3.out).mono ?_); rintro e w' ⟨rfl, ⟨nd, rfl⟩⟩; refine ⟨_, rfl, ?_⟩))
 go_ret2
 exact ⟨rs_, dr_⟩
theorem eqA58 (d : Nat) (w : World) (x0 y0 : Int) (x1 y1 : Bool) :
 (Op.equalIn (d + 2) 58 (.agg #[.int .i64 x0, .bool x1]) (.agg #[.int .i64 y0, .bool y1])).run Tryz.prog w = .ok (x0 == y0 && (x1 == y1)) w := by
 refine eqA_of Tryz.underlying58 (by kernel_rfl) ?_
 refine eqf_cons (by rfl) (by go_simp; rfl) (by go_simp; rfl) (by go_simp) ?_
 exact eqf_last (by rfl) (by go_simp; rfl) (by go_simp; rfl) (by go_simp)
theorem eqA60 (d : Nat) (w : World) (x0 y0 : Int) (x1 y1 : ByteArray) (x2 y2 : Int) (x3 y3 : Bool) :
 (Op.equalIn (d + 3) 60 (.agg #[.int .i64 x0, .string x1, .int .i64 x2, .bool x3]) (.agg #[.int .i64 y0, .string y1, .int .i64 y2, .bool y3])).run Tryz.prog w = .ok (x0 == y0 && (x1.toList == y1.toList && ((x2 == y2 && (x3 == y3))))) w := by
 refine eqA_of Tryz.underlying60 (by kernel_rfl) ?_
 refine eqf_cons (by rfl) (by go_simp; rfl) (by go_simp; rfl) (by go_simp) ?_
 refine eqf_cons (by rfl) (by go_simp; rfl) (by go_simp; rfl) (by go_simp) ?_
 exact eqf_last (by rfl) (by go_simp) (by go_simp) (eqA58 (d + 0) w _ _ _ _)
theorem eqA78 (d : Nat) (w : World) (x0 y0 : Int) (x1 y1 : ByteArray) (x2 y2 : Int) (x3 y3 : Bool) (x4 y4 : Bool) :
 (Op.equalIn (d + 4) 78 (.agg #[.int .i64 x0, .string x1, .int .i64 x2, .bool x3, .bool x4]) (.agg #[.int .i64 y0, .string y1, .int .i64 y2, .bool y3, .bool y4])).run Tryz.prog w = .ok ((x0 == y0 && (x1.toList == y1.toList && ((x2 == y2 && (x3 == y3))))) && (x4 == y4)) w := by
 refine eqA_of Tryz.underlying78 (by kernel_rfl) ?_
 refine eqf_cons (by rfl) (by go_simp) (by go_simp) (eqA60 (d + 0) w _ _ _ _ _ _ _ _) ?_
 exact eqf_last (by rfl) (by go_simp; rfl) (by go_simp; rfl) (by go_simp)
def diff_leaves.f (k : Nat) (a0 : ByteArray) : Option (Int × ByteArray × Int × Bool × Bool × Int) := (word_Split.f k a0 124).bind fun t322 => (if (t322.length : Int) = 2 then (if 1 < (t322.length : Int) then (if 0 < (t322.length : Int) then ((sat_Read.f (rdOf ByteArray.empty t322 0)).bind fun bt327 => (if bt327.2 = 0 then ((tag_Parse.f k (rdOf ByteArray.empty t322 1)).bind fun bt330 => (if bt330.2 = 0 then ((tag_Text.f k bt330.1).bind fun t334 => (if t334.toList = (rdOf ByteArray.empty t322 1).toList then (some (bt327.1, rdOf ByteArray.empty t322 1, 0, false, true, bt330.2)) else (some (bt327.1, rdOf ByteArray.empty t322 1, 0, false, true, 2)))) else (some (bt327.1, rdOf ByteArray.empty t322 1, 0, false, true, bt330.2)))) else (some (bt327.1, rdOf ByteArray.empty t322 1, 0, false, true, bt327.2)))) else (none)) else (none)) else (some (0, (⟨#[]⟩ : ByteArray), 0, false, false, 2)))
theorem diff_leaves.mono : ∀ a0 k, LeO (diff_leaves.f k a0) (diff_leaves.f (k + 1) a0) := by
 intro a0 k
 unfold diff_leaves.f
 exact lo
instance diff_leaves.mI {a0 k} : LeC (diff_leaves.f k a0) (diff_leaves.f (k + 1) a0) := ⟨diff_leaves.mono _ _⟩
def diff_leaves.T4 : Bool × List (List Nat × List Nat) := (true, [([], []), ([0], [0]), ([1], [1]), ([], []), ([3], [3]), ([0, 1, 2, 3, 4], []), ([5, 0, 1, 2, 3, 4], [5]), ([6, 2, 4, 0, 1, 2, 3, 4], [2, 6])])
def diff_leaves.B4 : List Nat := [0, 1, 3, 0, 8, 31, 63, 127]
theorem diff_leaves.tab4 : rtab .any (opsOf Tryz.f91 4) = diff_leaves.T4 := by kernel_rfl
theorem diff_leaves.bits4 : waitsOk diff_leaves.T4.2 diff_leaves.B4 = true := by kernel_rfl
def diff_leaves.T9 : Bool × List (List Nat × List Nat) := (true, [([], []), ([0], [0]), ([1], [1]), ([2], [2]), ([3, 2, 2], [2, 3]), ([2], [2]), ([5, 2], [2, 5]), ([6, 2], [2, 6]), ([4, 7, 2], [2, 4, 7]), ([2, 8], [2, 8])])
def diff_leaves.B9 : List Nat := [0, 1, 3, 7, 15, 7, 39, 103, 255, 511]
theorem diff_leaves.tab9 : rtab .any (opsOf Tryz.f91 9) = diff_leaves.T9 := by kernel_rfl
theorem diff_leaves.bits9 : waitsOk diff_leaves.T9.2 diff_leaves.B9 = true := by kernel_rfl
theorem diff_leaves.calls (k : Nat) (a0 : ByteArray) (r1 : Int) (r2 : ByteArray) (r3 : Int) (r4 : Bool) (r5 : Bool) (r6 : Int) (w : World) (hL : LD w) (h : diff_leaves.f k a0 = some (r1, r2, r3, r4, r5, r6)) :
 Calls Tryz.prog 91 #[.string a0] w fun e w' => e = .returned (.tuple #[.agg #[.int .i64 r1, .string r2, .int .i64 r3, .bool r4, .bool r5], .int .i64 r6]) ∧ Below w.heap.size w w' := by
 have HL0 := Aside0.mk hL
 clear hL
 have hu78 := Tryz.underlying78
 have HB := Aside0.mk (Below.refl w.heap.size w)
 have H : ((word_Split.f k a0 124).bind fun t322 => (if (t322.length : Int) = 2 then (if 1 < (t322.length : Int) then (if 0 < (t322.length : Int) then ((sat_Read.f (rdOf ByteArray.empty t322 0)).bind fun bt327 => (if bt327.2 = 0 then ((tag_Parse.f k (rdOf ByteArray.empty t322 1)).bind fun bt330 => (if bt330.2 = 0 then ((tag_Text.f k bt330.1).bind fun t334 => (if t334.toList = (rdOf ByteArray.empty t322 1).toList then (some (bt327.1, rdOf ByteArray.empty t322 1, 0, false, true, bt330.2)) else (some (bt327.1, rdOf ByteArray.empty t322 1, 0, false, true, 2)))) else (some (bt327.1, rdOf ByteArray.empty t322 1, 0, false, true, bt330.2)))) else (some (bt327.1, rdOf ByteArray.empty t322 1, 0, false, true, bt327.2)))) else (none)) else (none)) else (some (0, (⟨#[]⟩ : ByteArray), 0, false, false, 2)))) = some (r1, r2, r3, r4, r5, r6) := h
 clear h
 obtain ⟨t322, A2, H⟩ := bs H
 try dsimp only at H
 by_cases c3 : (t322.length : Int) = 2
 ·
  rw [if_pos c3] at H
  have c3b0 : ((t322.length : Int) == 2) = true := beq_iff_eq.mpr c3
  have c3b1 : ((t322.length : Int) != 2) = false := bne_eq_false_iff_eq.mpr c3
  clear c3
  obtain ⟨c4, H⟩ := gd H
  have c4b0 : decide (1 < (t322.length : Int)) = true := decide_eq_true c4
  have c4b1 : decide (1 < t322.length) = true := decide_eq_true (by omega)
  clear c4
  obtain ⟨c5, H⟩ := gd H
  have c5b0 : decide (0 < (t322.length : Int)) = true := decide_eq_true c5
  have c5b1 : decide (0 < t322.length) = true := decide_eq_true (by omega)
  clear c5
  obtain ⟨⟨t327, t328⟩, A6, H⟩ := bs H
  try dsimp only at H
  by_cases c7 : t328 = 0
  ·
   rw [if_pos c7] at H
   have c7b0 : (t328 == 0) = true := beq_iff_eq.mpr c7
   have c7b1 : (t328 != 0) = false := bne_eq_false_iff_eq.mpr c7
   clear c7
   obtain ⟨⟨t330, t331⟩, A8, H⟩ := bs H
   try dsimp only at H
   by_cases c9 : t331 = 0
   ·
    rw [if_pos c9] at H
    have c9b0 : (t331 == 0) = true := beq_iff_eq.mpr c9
    have c9b1 : (t331 != 0) = false := bne_eq_false_iff_eq.mpr c9
    clear c9
    obtain ⟨t334, A10, H⟩ := bs H
    try dsimp only at H
    by_cases c11 : t334.toList = (rdOf ByteArray.empty t322 1).toList
    ·
     rw [if_pos c11] at H
     have c11b0 : (t334.toList == (rdOf ByteArray.empty t322 1).toList) = true := beq_iff_eq.mpr c11
     have c11b1 : (t334.toList != (rdOf ByteArray.empty t322 1).toList) = false := bne_eq_false_iff_eq.mpr c11
     clear c11
     simp only [Option.some.injEq, Prod.mk.injEq] at H
     obtain ⟨rfl, rfl, rfl, rfl, rfl, rfl⟩ := H
     go_enter Tryz.func91, Tryz.ntmps91
     try go_wp2_with (first | ((with_reducible refine gate_dst (N := 2) rfl ?_); refine bx (N := 2) #[.int .i64 0, .string (⟨#[]⟩ : ByteArray), .int .i64 0, .bool false, .bool false] 78 ?_; intro gb321 hg w12 hbox hb; have BK321 := Aside0.mk (hbox); have GW321 := gw hg (uW HB.out); have GE321 := GW321; replace HB := cW HB hb; clear hb hbox hg) | (refine gL (some 7) rfl Tryz.func67 #[.string a0, .int .u8 124] ?_; (with_reducible refine (word_Split.calls k a0 124 t322 _ A2.out).mono ?_); rintro e w13 ⟨v323, rfl, ho0, hb⟩; refine ⟨_, rfl, ?_⟩; have HO324 := Aside0.mk (Kd.R_lower ho0 (below_size bl)); replace BK321 := cB BK321 hb; replace HB := Aside0.mk (below_step bl hb); (try clear hb); (try clear ho0); obtain ⟨Ao14, co14, eo14⟩ := Kd.R_slice HO324.out; subst eo14))
     replace HO324 := Aside0.mk (Kd.R_drew HO324.out)
     replace BK321 := Aside0.mk (blk_drew BK321.out)
     replace HB := Aside0.mk (below_drew1 HB.out)
     have p325 : 0 ≤ (1 : Int) := (by omega)
     have q325 : 1 < (t322.length : Int) := od
     obtain ⟨ad325, e325, hx325_0⟩ := Kd.at_string (Kd.R_reads' HO324.out).2.2 1 p325 q325
     cases e325
     (try simp only [show (1 : Int).toNat = 1 from rfl, Nat.reduceMul, Nat.reduceEqDiff, Go.Addr.add, ↓reduceIte] at hx325_0)
     have qi325 : (1 < t322.length) = True := eq_true (by omega)
     (try rw [show ((1 : Int)).toNat = 1 from rfl] at hx325_0)
     replace p325 := eq_true p325
     replace q325 := eq_true q325
     refine start_ (n := 8) (S := fun w' => w'.cell? ⟨ad325.block, ad325.off + 1, none⟩ = some (.string (rdOf ByteArray.empty t322 1))) (ds := []) _ (by kernel_rfl) rfl rfl (hx325_0) (fun hHeld => ?_); refine with_tabW diff_leaves.tab4 diff_leaves.bits4 (fun HT_ HW_ => ?_)
     generalize w13.drew = w15 at HO324 BK321 HB hx325_0 hHeld ⊢
     refine p1 0 (some 12) ?_
     refine p1 1 (some 13) ?_
     refine p1 3 (some 15) ?_
     refine t1 2 (some 14) rfl rfl hHeld (Or.inl ⟨by rfl, by intro w' s0; go_simp; with_reducible rfl⟩) ?_
     refine o1 4 none rfl rfl (fun K hK => ?_)
     have hs16 : w15.cell? ⟨gb321, 4, none⟩ = some (.bool false) := (blk_cell BK321.out 4).trans rfl
     have hfs16 := blk_frozen BK321.out 4
     refine skip_ (w1 := ?_) (by rfl) rfl ?_ ?_
     rotate_left
     ·
      go_simp
      rfl
     refine hK.out _ _ (((cell_far (p := ⟨gb321, _, none⟩) (nn (Kd.own_blk (Kd.R_ne HO324.out BK321.out (by decide)))) _).trans (hHeld))) (fun hHeld => ?_)
     clear hK K
     refine p1 5 (some 16) ?_
     refine p1 6 (some 17) ?_
     refine o1 7 none rfl rfl (fun K hK => ?_)
     have hs17 : w15.cell? ⟨gb321, 1, none⟩ = some (.string (⟨#[]⟩ : ByteArray)) := (blk_cell BK321.out 1).trans rfl
     have hfs17 := blk_frozen BK321.out 1
     refine skip_ (w1 := ?_) (by rfl) rfl ?_ ?_
     rotate_left
     ·
      go_simp
      rfl
     refine hK.out _ _ (((cell_far (p := ⟨gb321, _, none⟩) (nn (Kd.own_blk (Kd.R_ne HO324.out BK321.out (by decide)))) _).trans (hHeld))) (fun hHeld => ?_)
     clear hK K
     refine done_ (done_of HT_.out (by kernel_rfl)) ?_
     have p326 : 0 ≤ (0 : Int) := (by omega)
     have q326 : 0 < (t322.length : Int) := od
     obtain ⟨ad326, e326, hx326_0⟩ := Kd.at_string (Kd.R_reads' HO324.out).2.2 0 p326 q326
     obtain rfl : ad325 = ad326 := (by injection e326)
     have qi326 : (0 < t322.length) = True := eq_true (by omega)
     (try rw [show ((0 : Int)).toNat = 0 from rfl] at hx326_0)
     (try rw [Addr.add_zero'] at hx326_0)
     have hn326_0 : ad325.block ≠ gb321 := Kd.own_blk (Kd.R_ne HO324.out BK321.out (by decide))
     have hn326_1 : ad325.block ≠ gb321 := Kd.own_blk (Kd.R_ne HO324.out BK321.out (by decide))
     replace hx326_0 := (cell_far (p := ⟨gb321, 4, none⟩) (by first | (rw [add_block]; exact hn326_0) | (show (Addr.add _ _).block ≠ _; rw [add_block]; exact hn326_0) | exact hn326_0) (.bool true)).trans hx326_0
     replace hx326_0 := (cell_far (p := ⟨gb321, 1, none⟩) (by first | (rw [add_block]; exact hn326_1) | (show (Addr.add _ _).block ≠ _; rw [add_block]; exact hn326_1) | exact hn326_1) (.string (rdOf ByteArray.empty t322 1))).trans hx326_0
     clear hn326_0
     clear hn326_1
     replace p326 := eq_true p326
     replace q326 := eq_true q326
     try go_wp2_with (first | (refine gL (some 22) rfl Tryz.func68 #[.string (rdOf ByteArray.empty t322 0)] ?_; (with_reducible refine (sat_Read.calls (hL := ld) (rdOf ByteArray.empty t322 0) t327 t328 _ A6.out).mono ?_); rintro e w18 ⟨rfl, hb⟩; refine ⟨_, rfl, ?_⟩; replace HO324 := fcR HO324 BK321 hb; replace BK321 := fcB BK321 hb; replace HB := Aside0.mk (below_step bl hb); (try clear hb); obtain ⟨hcz19_0, hcz19_1, hcz19_2, hcz19_3, hcz19_4, hfz19_0, hfz19_1, hfz19_2, hfz19_3, hfz19_4⟩ := z5 BK321; have p329 : 0 ≤ (1 : Int) := (by omega); have q329 : 1 < (t322.length : Int) := od; obtain ⟨ad329, e329, hx329_0⟩ := Kd.at_string (Kd.R_reads' HO324.out).2.2 1 p329 q329; obtain rfl : ad325 = ad329 := (by injection e329); (try simp only [show (1 : Int).toNat = 1 from rfl, Nat.reduceMul, Nat.reduceEqDiff, Go.Addr.add, ↓reduceIte] at hx329_0); have qi329 : (1 < t322.length) = True := eq_true (by omega); (try rw [show ((1 : Int)).toNat = 1 from rfl] at hx329_0); have hn329_0 : ad325.block ≠ gb321 := Kd.own_blk (Kd.R_ne HO324.out BK321.out (by decide)); replace hx329_0 := (cell_far (p := ⟨gb321, 0, none⟩) (nn hn329_0) (.int .i64 t327)).trans hx329_0; clear hn329_0; replace p329 := eq_true p329; replace q329 := eq_true q329) | (refine gL (some 35) rfl Tryz.func108 #[.string (rdOf ByteArray.empty t322 1)] ?_; (with_reducible refine (tag_Parse.calls (hL := ld) k (rdOf ByteArray.empty t322 1) t330 t331 _ A8.out).mono ?_); rintro e w20 ⟨v332, rfl, ho0, hb⟩; refine ⟨_, rfl, ?_⟩; replace HO324 := fcR HO324 BK321 hb; have HO333 := Aside0.mk (Kd.R_lower ho0 (below_size bl)); replace BK321 := fcB BK321 hb; replace HB := Aside0.mk (below_step bl hb); (try clear hb); (try clear ho0)))
     replace HO324 := Aside0.mk (Kd.R_drew HO324.out)
     replace HO333 := Aside0.mk (Kd.R_drew HO333.out)
     replace BK321 := Aside0.mk (blk_drew BK321.out)
     replace HB := Aside0.mk (below_drew1 HB.out)
     have p335 : 0 ≤ (1 : Int) := (by omega)
     have q335 : 1 < (t322.length : Int) := od
     obtain ⟨ad335, e335, hx335_0⟩ := Kd.at_string (Kd.R_reads' HO324.out).2.2 1 p335 q335
     obtain rfl : ad325 = ad335 := (by injection e335)
     (try simp only [show (1 : Int).toNat = 1 from rfl, Nat.reduceMul, Nat.reduceEqDiff, Go.Addr.add, ↓reduceIte] at hx335_0)
     have qi335 : (1 < t322.length) = True := eq_true (by omega)
     (try rw [show ((1 : Int)).toNat = 1 from rfl] at hx335_0)
     replace p335 := eq_true p335
     replace q335 := eq_true q335
     obtain ⟨Ao22, co22, eo22⟩ := Kd.R_slice HO333.out
     (first | subst eo22 | (injection eo22 with f1_ f2_ f3_; have f4_ := f1_.symm; have f5_ := f3_.symm; clear f1_ f2_ f3_; subst f4_; subst f5_))
     refine start_ (n := 10) (S := fun w' => w'.cell? ⟨ad325.block, ad325.off + 1, none⟩ = some (.string (rdOf ByteArray.empty t322 1))) (ds := []) _ (by kernel_rfl) rfl rfl (hx335_0) (fun hHeld => ?_); refine with_tabW diff_leaves.tab9 diff_leaves.bits9 (fun HT_ HW_ => ?_)
     generalize w20.drew = w21 at HO324 HO333 BK321 HB hx335_0 hHeld ⊢
     refine p1 0 (some 38) ?_
     refine p1 1 (some 39) ?_
     refine p1 2 (some 40) ?_
     refine p1 3 (some 41) ?_
     refine p1 5 (some 43) ?_
     refine p1 6 (some 44) ?_
     refine t1 7 (some 45) rfl rfl hHeld (Or.inl ⟨by rfl, by intro w' s0; go_simp; with_reducible rfl⟩) ?_
     refine o1 4 (some 42) rfl rfl (fun K hK => ?_)
     refine gS Tryz.func109 #[.slice Ao22 t330.length co22] ?_
     with_reducible refine (tag_Text.calls k _ _ t330 t334 _ ?side1 ?side2 A10.out).mono ?_
     (case side1 => exact uC <| (Kd.R_reads' HO333.out).2.2)
     (case side2 => exact (Kd.R_reads' HO333.out).2.1)
     rintro e w23 ⟨rfl, hb⟩
     have HS0_ := (hb.cell (World.block_lt_of_cell? _ _ (hHeld))).trans (hHeld)
     refine ⟨_, rfl, ?_⟩
     replace HO324 := cR HO324 hb
     replace HO333 := cR HO333 hb
     replace BK321 := cB BK321 hb
     replace HB := Aside0.mk (below_step bl hb)
     (try clear hb)
     refine hK.out _ _ (HS0_) (fun hHeld => ?_)
     clear hK K
     refine norm_ (a' := ?_) ?_ ?_
     rotate_left
     ·
      show Act.put _ (some 42) _ = _
      simp only [Act.put, List.setIfInBounds_toArray, List.set_cons_zero, List.set_cons_succ, i64_w, i32_w]
      rfl
     refine p1 8 (some 46) ?_
     refine p1 9 (some 47) ?_
     refine done_ (done_of HT_.out (by kernel_rfl)) ?_
     obtain ⟨hcz24_0, hcz24_1, hcz24_2, hcz24_3, hcz24_4, hfz24_0, hfz24_1, hfz24_2, hfz24_3, hfz24_4⟩ := z5 BK321
     try go_wp2_with (first | ((with_reducible refine gate_store (t := 78) (p := 2) rfl ?_); refine store_event (t := 78) (p := 2) (v := ?vo_w25) (w1 := (((((w23.setCell ⟨gb321, 0, none⟩ (.int .i64 t327)).setCell ⟨gb321, 1, none⟩ (.string (rdOf ByteArray.empty t322 1))).setCell ⟨gb321, 2, none⟩ (.int .i64 0)).setCell ⟨gb321, 3, none⟩ (.bool false)).setCell ⟨gb321, 4, none⟩ (.bool true))) ?hg ?ho ?hn ?hr ?_; (case ho => rfl); (case hg => rfl); (case hn => rfl); (case hr => first | (go_simp; done) | (go_simp; rfl)); intro w25 hw; replace HO324 := fgR (ok' := fun _ => True) hw HO324 BK321 fun _ _ => trivial; replace HO333 := fgR (ok' := fun _ => True) hw HO333 BK321 fun _ _ => trivial; replace HB : Aside0 (Below w.heap.size w w25) := fgW hw bl; replace BK321 := fgB hw BK321; clear hw))
     refine bodyPost_ret (results_ct rfl _ _ gb321 78 #[.int .i64 t327, .string (rdOf ByteArray.empty t322 1), .int .i64 0, .bool false, .bool true] (0, 0) _ rfl (uB BK321.out) Tryz.underlying78 rfl (by kernel_rfl)) rfl ?_
     exact ⟨re_, bl⟩
    ·
     rw [if_neg c11] at H
     have c11b0 : (t334.toList == (rdOf ByteArray.empty t322 1).toList) = false := beq_eq_false_iff_ne.mpr c11
     have c11b1 : (t334.toList != (rdOf ByteArray.empty t322 1).toList) = true := bne_iff_ne.mpr c11
     simp only [Option.some.injEq, Prod.mk.injEq] at H
     obtain ⟨rfl, rfl, rfl, rfl, rfl, rfl⟩ := H
     go_enter Tryz.func91, Tryz.ntmps91
     try go_wp2_with (first | ((with_reducible refine gate_dst (N := 2) rfl ?_); refine bx (N := 2) #[.int .i64 0, .string (⟨#[]⟩ : ByteArray), .int .i64 0, .bool false, .bool false] 78 ?_; intro gb321 hg w26 hbox hb; have BK321 := Aside0.mk (hbox); have GW321 := gw hg (uW HB.out); have GE321 := GW321; replace HB := cW HB hb; clear hb hbox hg) | (refine gL (some 7) rfl Tryz.func67 #[.string a0, .int .u8 124] ?_; (with_reducible refine (word_Split.calls k a0 124 t322 _ A2.out).mono ?_); rintro e w27 ⟨v323, rfl, ho0, hb⟩; refine ⟨_, rfl, ?_⟩; have HO324 := Aside0.mk (Kd.R_lower ho0 (below_size bl)); replace BK321 := cB BK321 hb; replace HB := Aside0.mk (below_step bl hb); (try clear hb); (try clear ho0); obtain ⟨Ao28, co28, eo28⟩ := Kd.R_slice HO324.out; subst eo28))
     replace HO324 := Aside0.mk (Kd.R_drew HO324.out)
     replace BK321 := Aside0.mk (blk_drew BK321.out)
     replace HB := Aside0.mk (below_drew1 HB.out)
     have p325 : 0 ≤ (1 : Int) := (by omega)
     have q325 : 1 < (t322.length : Int) := od
     obtain ⟨ad325, e325, hx325_0⟩ := Kd.at_string (Kd.R_reads' HO324.out).2.2 1 p325 q325
     cases e325
     (try simp only [show (1 : Int).toNat = 1 from rfl, Nat.reduceMul, Nat.reduceEqDiff, Go.Addr.add, ↓reduceIte] at hx325_0)
     have qi325 : (1 < t322.length) = True := eq_true (by omega)
     (try rw [show ((1 : Int)).toNat = 1 from rfl] at hx325_0)
     replace p325 := eq_true p325
     replace q325 := eq_true q325
     refine start_ (n := 8) (S := fun w' => w'.cell? ⟨ad325.block, ad325.off + 1, none⟩ = some (.string (rdOf ByteArray.empty t322 1))) (ds := []) _ (by kernel_rfl) rfl rfl (hx325_0) (fun hHeld => ?_); refine with_tabW diff_leaves.tab4 diff_leaves.bits4 (fun HT_ HW_ => ?_)
     generalize w27.drew = w29 at HO324 BK321 HB hx325_0 hHeld ⊢
     refine p1 0 (some 12) ?_
     refine p1 1 (some 13) ?_
     refine p1 3 (some 15) ?_
     refine t1 2 (some 14) rfl rfl hHeld (Or.inl ⟨by rfl, by intro w' s0; go_simp; with_reducible rfl⟩) ?_
     refine o1 4 none rfl rfl (fun K hK => ?_)
     have hs30 : w29.cell? ⟨gb321, 4, none⟩ = some (.bool false) := (blk_cell BK321.out 4).trans rfl
     have hfs30 := blk_frozen BK321.out 4
     refine skip_ (w1 := ?_) (by rfl) rfl ?_ ?_
     rotate_left
     ·
      go_simp
      rfl
     refine hK.out _ _ (((cell_far (p := ⟨gb321, _, none⟩) (nn (Kd.own_blk (Kd.R_ne HO324.out BK321.out (by decide)))) _).trans (hHeld))) (fun hHeld => ?_)
     clear hK K
     refine p1 5 (some 16) ?_
     refine p1 6 (some 17) ?_
     refine o1 7 none rfl rfl (fun K hK => ?_)
     have hs31 : w29.cell? ⟨gb321, 1, none⟩ = some (.string (⟨#[]⟩ : ByteArray)) := (blk_cell BK321.out 1).trans rfl
     have hfs31 := blk_frozen BK321.out 1
     refine skip_ (w1 := ?_) (by rfl) rfl ?_ ?_
     rotate_left
     ·
      go_simp
      rfl
     refine hK.out _ _ (((cell_far (p := ⟨gb321, _, none⟩) (nn (Kd.own_blk (Kd.R_ne HO324.out BK321.out (by decide)))) _).trans (hHeld))) (fun hHeld => ?_)
     clear hK K
     refine done_ (done_of HT_.out (by kernel_rfl)) ?_
     have p326 : 0 ≤ (0 : Int) := (by omega)
     have q326 : 0 < (t322.length : Int) := od
     obtain ⟨ad326, e326, hx326_0⟩ := Kd.at_string (Kd.R_reads' HO324.out).2.2 0 p326 q326
     obtain rfl : ad325 = ad326 := (by injection e326)
     have qi326 : (0 < t322.length) = True := eq_true (by omega)
     (try rw [show ((0 : Int)).toNat = 0 from rfl] at hx326_0)
     (try rw [Addr.add_zero'] at hx326_0)
     have hn326_0 : ad325.block ≠ gb321 := Kd.own_blk (Kd.R_ne HO324.out BK321.out (by decide))
     have hn326_1 : ad325.block ≠ gb321 := Kd.own_blk (Kd.R_ne HO324.out BK321.out (by decide))
     replace hx326_0 := (cell_far (p := ⟨gb321, 4, none⟩) (by first | (rw [add_block]; exact hn326_0) | (show (Addr.add _ _).block ≠ _; rw [add_block]; exact hn326_0) | exact hn326_0) (.bool true)).trans hx326_0
     replace hx326_0 := (cell_far (p := ⟨gb321, 1, none⟩) (by first | (rw [add_block]; exact hn326_1) | (show (Addr.add _ _).block ≠ _; rw [add_block]; exact hn326_1) | exact hn326_1) (.string (rdOf ByteArray.empty t322 1))).trans hx326_0
     clear hn326_0
     clear hn326_1
     replace p326 := eq_true p326
     replace q326 := eq_true q326
     try go_wp2_with (first | (refine gL (some 22) rfl Tryz.func68 #[.string (rdOf ByteArray.empty t322 0)] ?_; (with_reducible refine (sat_Read.calls (hL := ld) (rdOf ByteArray.empty t322 0) t327 t328 _ A6.out).mono ?_); rintro e w32 ⟨rfl, hb⟩; refine ⟨_, rfl, ?_⟩; replace HO324 := fcR HO324 BK321 hb; replace BK321 := fcB BK321 hb; replace HB := Aside0.mk (below_step bl hb); (try clear hb); obtain ⟨hcz33_0, hcz33_1, hcz33_2, hcz33_3, hcz33_4, hfz33_0, hfz33_1, hfz33_2, hfz33_3, hfz33_4⟩ := z5 BK321; have p329 : 0 ≤ (1 : Int) := (by omega); have q329 : 1 < (t322.length : Int) := od; obtain ⟨ad329, e329, hx329_0⟩ := Kd.at_string (Kd.R_reads' HO324.out).2.2 1 p329 q329; obtain rfl : ad325 = ad329 := (by injection e329); (try simp only [show (1 : Int).toNat = 1 from rfl, Nat.reduceMul, Nat.reduceEqDiff, Go.Addr.add, ↓reduceIte] at hx329_0); have qi329 : (1 < t322.length) = True := eq_true (by omega); (try rw [show ((1 : Int)).toNat = 1 from rfl] at hx329_0); have hn329_0 : ad325.block ≠ gb321 := Kd.own_blk (Kd.R_ne HO324.out BK321.out (by decide)); replace hx329_0 := (cell_far (p := ⟨gb321, 0, none⟩) (nn hn329_0) (.int .i64 t327)).trans hx329_0; clear hn329_0; replace p329 := eq_true p329; replace q329 := eq_true q329) | (refine gL (some 35) rfl Tryz.func108 #[.string (rdOf ByteArray.empty t322 1)] ?_; (with_reducible refine (tag_Parse.calls (hL := ld) k (rdOf ByteArray.empty t322 1) t330 t331 _ A8.out).mono ?_); rintro e w34 ⟨v332, rfl, ho0, hb⟩; refine ⟨_, rfl, ?_⟩; replace HO324 := fcR HO324 BK321 hb; have HO333 := Aside0.mk (Kd.R_lower ho0 (below_size bl)); replace BK321 := fcB BK321 hb; replace HB := Aside0.mk (below_step bl hb); (try clear hb); (try clear ho0)))
     replace HO324 := Aside0.mk (Kd.R_drew HO324.out)
     replace HO333 := Aside0.mk (Kd.R_drew HO333.out)
     replace BK321 := Aside0.mk (blk_drew BK321.out)
     replace HB := Aside0.mk (below_drew1 HB.out)
     have p335 : 0 ≤ (1 : Int) := (by omega)
     have q335 : 1 < (t322.length : Int) := od
     obtain ⟨ad335, e335, hx335_0⟩ := Kd.at_string (Kd.R_reads' HO324.out).2.2 1 p335 q335
     obtain rfl : ad325 = ad335 := (by injection e335)
     (try simp only [show (1 : Int).toNat = 1 from rfl, Nat.reduceMul, Nat.reduceEqDiff, Go.Addr.add, ↓reduceIte] at hx335_0)
     have qi335 : (1 < t322.length) = True := eq_true (by omega)
     (try rw [show ((1 : Int)).toNat = 1 from rfl] at hx335_0)
     replace p335 := eq_true p335
     replace q335 := eq_true q335
     obtain ⟨Ao36, co36, eo36⟩ := Kd.R_slice HO333.out
     (first | subst eo36 | (injection eo36 with f1_ f2_ f3_; have f4_ := f1_.symm; have f5_ := f3_.symm; clear f1_ f2_ f3_; subst f4_; subst f5_))
     refine start_ (n := 10) (S := fun w' => w'.cell? ⟨ad325.block, ad325.off + 1, none⟩ = some (.string (rdOf ByteArray.empty t322 1))) (ds := []) _ (by kernel_rfl) rfl rfl (hx335_0) (fun hHeld => ?_); refine with_tabW diff_leaves.tab9 diff_leaves.bits9 (fun HT_ HW_ => ?_)
     generalize w34.drew = w35 at HO324 HO333 BK321 HB hx335_0 hHeld ⊢
     refine p1 0 (some 38) ?_
     refine p1 1 (some 39) ?_
     refine p1 2 (some 40) ?_
     refine p1 3 (some 41) ?_
     refine p1 5 (some 43) ?_
     refine p1 6 (some 44) ?_
     refine t1 7 (some 45) rfl rfl hHeld (Or.inl ⟨by rfl, by intro w' s0; go_simp; with_reducible rfl⟩) ?_
     refine o1 4 (some 42) rfl rfl (fun K hK => ?_)
     refine gS Tryz.func109 #[.slice Ao36 t330.length co36] ?_
     with_reducible refine (tag_Text.calls k _ _ t330 t334 _ ?side1 ?side2 A10.out).mono ?_
     (case side1 => exact uC <| (Kd.R_reads' HO333.out).2.2)
     (case side2 => exact (Kd.R_reads' HO333.out).2.1)
     rintro e w37 ⟨rfl, hb⟩
     have HS0_ := (hb.cell (World.block_lt_of_cell? _ _ (hHeld))).trans (hHeld)
     refine ⟨_, rfl, ?_⟩
     replace HO324 := cR HO324 hb
     replace HO333 := cR HO333 hb
     replace BK321 := cB BK321 hb
     replace HB := Aside0.mk (below_step bl hb)
     (try clear hb)
     refine hK.out _ _ (HS0_) (fun hHeld => ?_)
     clear hK K
     refine norm_ (a' := ?_) ?_ ?_
     rotate_left
     ·
      show Act.put _ (some 42) _ = _
      simp only [Act.put, List.setIfInBounds_toArray, List.set_cons_zero, List.set_cons_succ, i64_w, i32_w]
      rfl
     refine p1 8 (some 46) ?_
     refine p1 9 (some 47) ?_
     refine done_ (done_of HT_.out (by kernel_rfl)) ?_
     obtain ⟨hcz38_0, hcz38_1, hcz38_2, hcz38_3, hcz38_4, hfz38_0, hfz38_1, hfz38_2, hfz38_3, hfz38_4⟩ := z5 BK321
     try go_wp2_with (first | ((with_reducible refine gate_store (t := 78) (p := 2) rfl ?_); refine store_event (t := 78) (p := 2) (v := ?vo_w39) (w1 := (((((w37.setCell ⟨gb321, 0, none⟩ (.int .i64 t327)).setCell ⟨gb321, 1, none⟩ (.string (rdOf ByteArray.empty t322 1))).setCell ⟨gb321, 2, none⟩ (.int .i64 0)).setCell ⟨gb321, 3, none⟩ (.bool false)).setCell ⟨gb321, 4, none⟩ (.bool true))) ?hg ?ho ?hn ?hr ?_; (case ho => rfl); (case hg => rfl); (case hn => rfl); (case hr => first | (go_simp; done) | (go_simp; rfl)); intro w39 hw; replace HO324 := fgR (ok' := fun _ => True) hw HO324 BK321 fun _ _ => trivial; replace HO333 := fgR (ok' := fun _ => True) hw HO333 BK321 fun _ _ => trivial; replace HB : Aside0 (Below w.heap.size w w39) := fgW hw bl; replace BK321 := fgB hw BK321; clear hw))
     refine bodyPost_ret (results_ct rfl _ _ gb321 78 #[.int .i64 t327, .string (rdOf ByteArray.empty t322 1), .int .i64 0, .bool false, .bool true] (0, 0) _ rfl (uB BK321.out) Tryz.underlying78 rfl (by kernel_rfl)) rfl ?_
     exact ⟨re_, bl⟩
   ·
    rw [if_neg c9] at H
    have c9b0 : (t331 == 0) = false := beq_eq_false_iff_ne.mpr c9
    have c9b1 : (t331 != 0) = true := bne_iff_ne.mpr c9
    simp only [Option.some.injEq, Prod.mk.injEq] at H
    obtain ⟨rfl, rfl, rfl, rfl, rfl, rfl⟩ := H
    go_enter Tryz.func91, Tryz.ntmps91
    try go_wp2_with (first | ((with_reducible refine gate_dst (N := 2) rfl ?_); refine bx (N := 2) #[.int .i64 0, .string (⟨#[]⟩ : ByteArray), .int .i64 0, .bool false, .bool false] 78 ?_; intro gb321 hg w40 hbox hb; have BK321 := Aside0.mk (hbox); have GW321 := gw hg (uW HB.out); have GE321 := GW321; replace HB := cW HB hb; clear hb hbox hg) | (refine gL (some 7) rfl Tryz.func67 #[.string a0, .int .u8 124] ?_; (with_reducible refine (word_Split.calls k a0 124 t322 _ A2.out).mono ?_); rintro e w41 ⟨v323, rfl, ho0, hb⟩; refine ⟨_, rfl, ?_⟩; have HO324 := Aside0.mk (Kd.R_lower ho0 (below_size bl)); replace BK321 := cB BK321 hb; replace HB := Aside0.mk (below_step bl hb); (try clear hb); (try clear ho0); obtain ⟨Ao42, co42, eo42⟩ := Kd.R_slice HO324.out; subst eo42))
    replace HO324 := Aside0.mk (Kd.R_drew HO324.out)
    replace BK321 := Aside0.mk (blk_drew BK321.out)
    replace HB := Aside0.mk (below_drew1 HB.out)
    have p325 : 0 ≤ (1 : Int) := (by omega)
    have q325 : 1 < (t322.length : Int) := od
    obtain ⟨ad325, e325, hx325_0⟩ := Kd.at_string (Kd.R_reads' HO324.out).2.2 1 p325 q325
    cases e325
    (try simp only [show (1 : Int).toNat = 1 from rfl, Nat.reduceMul, Nat.reduceEqDiff, Go.Addr.add, ↓reduceIte] at hx325_0)
    have qi325 : (1 < t322.length) = True := eq_true (by omega)
    (try rw [show ((1 : Int)).toNat = 1 from rfl] at hx325_0)
    replace p325 := eq_true p325
    replace q325 := eq_true q325
    refine start_ (n := 8) (S := fun w' => w'.cell? ⟨ad325.block, ad325.off + 1, none⟩ = some (.string (rdOf ByteArray.empty t322 1))) (ds := []) _ (by kernel_rfl) rfl rfl (hx325_0) (fun hHeld => ?_); refine with_tabW diff_leaves.tab4 diff_leaves.bits4 (fun HT_ HW_ => ?_)
    generalize w41.drew = w43 at HO324 BK321 HB hx325_0 hHeld ⊢
    refine p1 0 (some 12) ?_
    refine p1 1 (some 13) ?_
    refine p1 3 (some 15) ?_
    refine t1 2 (some 14) rfl rfl hHeld (Or.inl ⟨by rfl, by intro w' s0; go_simp; with_reducible rfl⟩) ?_
    refine o1 4 none rfl rfl (fun K hK => ?_)
    have hs44 : w43.cell? ⟨gb321, 4, none⟩ = some (.bool false) := (blk_cell BK321.out 4).trans rfl
    have hfs44 := blk_frozen BK321.out 4
    refine skip_ (w1 := ?_) (by rfl) rfl ?_ ?_
    rotate_left
    ·
     go_simp
     rfl
    refine hK.out _ _ (((cell_far (p := ⟨gb321, _, none⟩) (nn (Kd.own_blk (Kd.R_ne HO324.out BK321.out (by decide)))) _).trans (hHeld))) (fun hHeld => ?_)
    clear hK K
    refine p1 5 (some 16) ?_
    refine p1 6 (some 17) ?_
    refine o1 7 none rfl rfl (fun K hK => ?_)
    have hs45 : w43.cell? ⟨gb321, 1, none⟩ = some (.string (⟨#[]⟩ : ByteArray)) := (blk_cell BK321.out 1).trans rfl
    have hfs45 := blk_frozen BK321.out 1
    refine skip_ (w1 := ?_) (by rfl) rfl ?_ ?_
    rotate_left
    ·
     go_simp
     rfl
    refine hK.out _ _ (((cell_far (p := ⟨gb321, _, none⟩) (nn (Kd.own_blk (Kd.R_ne HO324.out BK321.out (by decide)))) _).trans (hHeld))) (fun hHeld => ?_)
    clear hK K
    refine done_ (done_of HT_.out (by kernel_rfl)) ?_
    have p326 : 0 ≤ (0 : Int) := (by omega)
    have q326 : 0 < (t322.length : Int) := od
    obtain ⟨ad326, e326, hx326_0⟩ := Kd.at_string (Kd.R_reads' HO324.out).2.2 0 p326 q326
    obtain rfl : ad325 = ad326 := (by injection e326)
    have qi326 : (0 < t322.length) = True := eq_true (by omega)
    (try rw [show ((0 : Int)).toNat = 0 from rfl] at hx326_0)
    (try rw [Addr.add_zero'] at hx326_0)
    have hn326_0 : ad325.block ≠ gb321 := Kd.own_blk (Kd.R_ne HO324.out BK321.out (by decide))
    have hn326_1 : ad325.block ≠ gb321 := Kd.own_blk (Kd.R_ne HO324.out BK321.out (by decide))
    replace hx326_0 := (cell_far (p := ⟨gb321, 4, none⟩) (by first | (rw [add_block]; exact hn326_0) | (show (Addr.add _ _).block ≠ _; rw [add_block]; exact hn326_0) | exact hn326_0) (.bool true)).trans hx326_0
    replace hx326_0 := (cell_far (p := ⟨gb321, 1, none⟩) (by first | (rw [add_block]; exact hn326_1) | (show (Addr.add _ _).block ≠ _; rw [add_block]; exact hn326_1) | exact hn326_1) (.string (rdOf ByteArray.empty t322 1))).trans hx326_0
    clear hn326_0
    clear hn326_1
    replace p326 := eq_true p326
    replace q326 := eq_true q326
    try go_wp2_with (first | (refine gL (some 22) rfl Tryz.func68 #[.string (rdOf ByteArray.empty t322 0)] ?_; (with_reducible refine (sat_Read.calls (hL := ld) (rdOf ByteArray.empty t322 0) t327 t328 _ A6.out).mono ?_); rintro e w46 ⟨rfl, hb⟩; refine ⟨_, rfl, ?_⟩; replace HO324 := fcR HO324 BK321 hb; replace BK321 := fcB BK321 hb; replace HB := Aside0.mk (below_step bl hb); (try clear hb); obtain ⟨hcz47_0, hcz47_1, hcz47_2, hcz47_3, hcz47_4, hfz47_0, hfz47_1, hfz47_2, hfz47_3, hfz47_4⟩ := z5 BK321; have p329 : 0 ≤ (1 : Int) := (by omega); have q329 : 1 < (t322.length : Int) := od; obtain ⟨ad329, e329, hx329_0⟩ := Kd.at_string (Kd.R_reads' HO324.out).2.2 1 p329 q329; obtain rfl : ad325 = ad329 := (by injection e329); (try simp only [show (1 : Int).toNat = 1 from rfl, Nat.reduceMul, Nat.reduceEqDiff, Go.Addr.add, ↓reduceIte] at hx329_0); have qi329 : (1 < t322.length) = True := eq_true (by omega); (try rw [show ((1 : Int)).toNat = 1 from rfl] at hx329_0); have hn329_0 : ad325.block ≠ gb321 := Kd.own_blk (Kd.R_ne HO324.out BK321.out (by decide)); replace hx329_0 := (cell_far (p := ⟨gb321, 0, none⟩) (nn hn329_0) (.int .i64 t327)).trans hx329_0; clear hn329_0; replace p329 := eq_true p329; replace q329 := eq_true q329) | (refine gL (some 35) rfl Tryz.func108 #[.string (rdOf ByteArray.empty t322 1)] ?_; (with_reducible refine (tag_Parse.calls (hL := ld) k (rdOf ByteArray.empty t322 1) t330 t331 _ A8.out).mono ?_); rintro e w48 ⟨v332, rfl, ho0, hb⟩; refine ⟨_, rfl, ?_⟩; replace HO324 := fcR HO324 BK321 hb; have HO333 := Aside0.mk (Kd.R_lower ho0 (below_size bl)); replace BK321 := fcB BK321 hb; replace HB := Aside0.mk (below_step bl hb); (try clear hb); (try clear ho0)))
    replace HO324 := Aside0.mk (Kd.R_drew HO324.out)
    replace HO333 := Aside0.mk (Kd.R_drew HO333.out)
    replace BK321 := Aside0.mk (blk_drew BK321.out)
    replace HB := Aside0.mk (below_drew1 HB.out)
    refine start_ (n := 10) (S := fun w' => True) (ds := []) _ (by kernel_rfl) rfl rfl trivial (fun hHeld => ?_); refine with_tabW diff_leaves.tab9 diff_leaves.bits9 (fun HT_ HW_ => ?_)
    generalize w48.drew = w49 at HO324 HO333 BK321 HB hHeld ⊢
    refine p1 0 (some 38) ?_
    refine p1 1 (some 39) ?_
    refine p1 2 (some 40) ?_
    refine p2 3 (some 41) ?_
    refine p2 4 (some 42) ?_
    refine p2 5 (some 43) ?_
    refine p2 6 (some 44) ?_
    refine p2 7 (some 45) ?_
    refine p2 8 (some 46) ?_
    refine p1 9 (some 47) ?_
    refine done_ (done_of HT_.out (by kernel_rfl)) ?_
    obtain ⟨hcz50_0, hcz50_1, hcz50_2, hcz50_3, hcz50_4, hfz50_0, hfz50_1, hfz50_2, hfz50_3, hfz50_4⟩ := z5 BK321
    try go_wp2_with (first | ((with_reducible refine gate_store (t := 78) (p := 2) rfl ?_); refine store_event (t := 78) (p := 2) (v := ?vo_w51) (w1 := (((((w49.setCell ⟨gb321, 0, none⟩ (.int .i64 t327)).setCell ⟨gb321, 1, none⟩ (.string (rdOf ByteArray.empty t322 1))).setCell ⟨gb321, 2, none⟩ (.int .i64 0)).setCell ⟨gb321, 3, none⟩ (.bool false)).setCell ⟨gb321, 4, none⟩ (.bool true))) ?hg ?ho ?hn ?hr ?_; (case ho => rfl); (case hg => rfl); (case hn => rfl); (case hr => first | (go_simp; done) | (go_simp; rfl)); intro w51 hw; replace HO324 := fgR (ok' := fun _ => True) hw HO324 BK321 fun _ _ => trivial; replace HO333 := fgR (ok' := fun _ => True) hw HO333 BK321 fun _ _ => trivial; replace HB : Aside0 (Below w.heap.size w w51) := fgW hw bl; replace BK321 := fgB hw BK321; clear hw))
    refine bodyPost_ret (results_ct rfl _ _ gb321 78 #[.int .i64 t327, .string (rdOf ByteArray.empty t322 1), .int .i64 0, .bool false, .bool true] (0, 0) _ rfl (uB BK321.out) Tryz.underlying78 rfl (by kernel_rfl)) rfl ?_
    exact ⟨re_, bl⟩
  ·
   rw [if_neg c7] at H
   have c7b0 : (t328 == 0) = false := beq_eq_false_iff_ne.mpr c7
   have c7b1 : (t328 != 0) = true := bne_iff_ne.mpr c7
   simp only [Option.some.injEq, Prod.mk.injEq] at H
   obtain ⟨rfl, rfl, rfl, rfl, rfl, rfl⟩ := H
   go_enter Tryz.func91, Tryz.ntmps91
   try go_wp2_with (first | ((with_reducible refine gate_dst (N := 2) rfl ?_); refine bx (N := 2) #[.int .i64 0, .string (⟨#[]⟩ : ByteArray), .int .i64 0, .bool false, .bool false] 78 ?_; intro gb321 hg w52 hbox hb; have BK321 := Aside0.mk (hbox); have GW321 := gw hg (uW HB.out); have GE321 := GW321; replace HB := cW HB hb; clear hb hbox hg) | (refine gL (some 7) rfl Tryz.func67 #[.string a0, .int .u8 124] ?_; (with_reducible refine (word_Split.calls k a0 124 t322 _ A2.out).mono ?_); rintro e w53 ⟨v323, rfl, ho0, hb⟩; refine ⟨_, rfl, ?_⟩; have HO324 := Aside0.mk (Kd.R_lower ho0 (below_size bl)); replace BK321 := cB BK321 hb; replace HB := Aside0.mk (below_step bl hb); (try clear hb); (try clear ho0); obtain ⟨Ao54, co54, eo54⟩ := Kd.R_slice HO324.out; subst eo54))
   replace HO324 := Aside0.mk (Kd.R_drew HO324.out)
   replace BK321 := Aside0.mk (blk_drew BK321.out)
   replace HB := Aside0.mk (below_drew1 HB.out)
   have p325 : 0 ≤ (1 : Int) := (by omega)
   have q325 : 1 < (t322.length : Int) := od
   obtain ⟨ad325, e325, hx325_0⟩ := Kd.at_string (Kd.R_reads' HO324.out).2.2 1 p325 q325
   cases e325
   (try simp only [show (1 : Int).toNat = 1 from rfl, Nat.reduceMul, Nat.reduceEqDiff, Go.Addr.add, ↓reduceIte] at hx325_0)
   have qi325 : (1 < t322.length) = True := eq_true (by omega)
   (try rw [show ((1 : Int)).toNat = 1 from rfl] at hx325_0)
   replace p325 := eq_true p325
   replace q325 := eq_true q325
   refine start_ (n := 8) (S := fun w' => w'.cell? ⟨ad325.block, ad325.off + 1, none⟩ = some (.string (rdOf ByteArray.empty t322 1))) (ds := []) _ (by kernel_rfl) rfl rfl (hx325_0) (fun hHeld => ?_); refine with_tabW diff_leaves.tab4 diff_leaves.bits4 (fun HT_ HW_ => ?_)
   generalize w53.drew = w55 at HO324 BK321 HB hx325_0 hHeld ⊢
   refine p1 0 (some 12) ?_
   refine p1 1 (some 13) ?_
   refine p1 3 (some 15) ?_
   refine t1 2 (some 14) rfl rfl hHeld (Or.inl ⟨by rfl, by intro w' s0; go_simp; with_reducible rfl⟩) ?_
   refine o1 4 none rfl rfl (fun K hK => ?_)
   have hs56 : w55.cell? ⟨gb321, 4, none⟩ = some (.bool false) := (blk_cell BK321.out 4).trans rfl
   have hfs56 := blk_frozen BK321.out 4
   refine skip_ (w1 := ?_) (by rfl) rfl ?_ ?_
   rotate_left
   ·
    go_simp
    rfl
   refine hK.out _ _ (((cell_far (p := ⟨gb321, _, none⟩) (nn (Kd.own_blk (Kd.R_ne HO324.out BK321.out (by decide)))) _).trans (hHeld))) (fun hHeld => ?_)
   clear hK K
   refine p1 5 (some 16) ?_
   refine p1 6 (some 17) ?_
   refine o1 7 none rfl rfl (fun K hK => ?_)
   have hs57 : w55.cell? ⟨gb321, 1, none⟩ = some (.string (⟨#[]⟩ : ByteArray)) := (blk_cell BK321.out 1).trans rfl
   have hfs57 := blk_frozen BK321.out 1
   refine skip_ (w1 := ?_) (by rfl) rfl ?_ ?_
   rotate_left
   ·
    go_simp
    rfl
   refine hK.out _ _ (((cell_far (p := ⟨gb321, _, none⟩) (nn (Kd.own_blk (Kd.R_ne HO324.out BK321.out (by decide)))) _).trans (hHeld))) (fun hHeld => ?_)
   clear hK K
   refine done_ (done_of HT_.out (by kernel_rfl)) ?_
   have p326 : 0 ≤ (0 : Int) := (by omega)
   have q326 : 0 < (t322.length : Int) := od
   obtain ⟨ad326, e326, hx326_0⟩ := Kd.at_string (Kd.R_reads' HO324.out).2.2 0 p326 q326
   obtain rfl : ad325 = ad326 := (by injection e326)
   have qi326 : (0 < t322.length) = True := eq_true (by omega)
   (try rw [show ((0 : Int)).toNat = 0 from rfl] at hx326_0)
   (try rw [Addr.add_zero'] at hx326_0)
   have hn326_0 : ad325.block ≠ gb321 := Kd.own_blk (Kd.R_ne HO324.out BK321.out (by decide))
   have hn326_1 : ad325.block ≠ gb321 := Kd.own_blk (Kd.R_ne HO324.out BK321.out (by decide))
   replace hx326_0 := (cell_far (p := ⟨gb321, 4, none⟩) (by first | (rw [add_block]; exact hn326_0) | (show (Addr.add _ _).block ≠ _; rw [add_block]; exact hn326_0) | exact hn326_0) (.bool true)).trans hx326_0
   replace hx326_0 := (cell_far (p := ⟨gb321, 1, none⟩) (by first | (rw [add_block]; exact hn326_1) | (show (Addr.add _ _).block ≠ _; rw [add_block]; exact hn326_1) | exact hn326_1) (.string (rdOf ByteArray.empty t322 1))).trans hx326_0
   clear hn326_0
   clear hn326_1
   replace p326 := eq_true p326
   replace q326 := eq_true q326
   try go_wp2_with (first | (refine gL (some 22) rfl Tryz.func68 #[.string (rdOf ByteArray.empty t322 0)] ?_; (with_reducible refine (sat_Read.calls (hL := ld) (rdOf ByteArray.empty t322 0) t327 t328 _ A6.out).mono ?_); rintro e w58 ⟨rfl, hb⟩; refine ⟨_, rfl, ?_⟩; replace HO324 := fcR HO324 BK321 hb; replace BK321 := fcB BK321 hb; replace HB := Aside0.mk (below_step bl hb); (try clear hb); obtain ⟨hcz59_0, hcz59_1, hcz59_2, hcz59_3, hcz59_4, hfz59_0, hfz59_1, hfz59_2, hfz59_3, hfz59_4⟩ := z5 BK321) | ((with_reducible refine gate_store (t := 78) (p := 2) rfl ?_); refine store_event (t := 78) (p := 2) (v := ?vo_w60) (w1 := ((((((w58.setCell ⟨gb321, 0, none⟩ (.int .i64 t327)).setCell ⟨gb321, 0, none⟩ (.int .i64 t327)).setCell ⟨gb321, 1, none⟩ (.string (rdOf ByteArray.empty t322 1))).setCell ⟨gb321, 2, none⟩ (.int .i64 0)).setCell ⟨gb321, 3, none⟩ (.bool false)).setCell ⟨gb321, 4, none⟩ (.bool true))) ?hg ?ho ?hn ?hr ?_; (case ho => rfl); (case hg => rfl); (case hn => rfl); (case hr => first | (go_simp; done) | (go_simp; rfl)); intro w60 hw; replace HO324 := fgR (ok' := fun _ => True) hw HO324 BK321 fun _ _ => trivial; replace HB : Aside0 (Below w.heap.size w w60) := fgW hw bl; replace BK321 := fgB hw BK321; clear hw))
   refine bodyPost_ret (results_ct rfl _ _ gb321 78 #[.int .i64 t327, .string (rdOf ByteArray.empty t322 1), .int .i64 0, .bool false, .bool true] (0, 0) _ rfl (uB BK321.out) Tryz.underlying78 rfl (by kernel_rfl)) rfl ?_
   exact ⟨re_, bl⟩
 ·
  rw [if_neg c3] at H
  have c3b0 : ((t322.length : Int) == 2) = false := beq_eq_false_iff_ne.mpr c3
  have c3b1 : ((t322.length : Int) != 2) = true := bne_iff_ne.mpr c3
  simp only [Option.some.injEq, Prod.mk.injEq] at H
  obtain ⟨rfl, rfl, rfl, rfl, rfl, rfl⟩ := H
  go_enter Tryz.func91, Tryz.ntmps91
  go_wp2_with (first | ((with_reducible refine gate_dst (N := 2) rfl ?_); refine bx (N := 2) #[.int .i64 0, .string (⟨#[]⟩ : ByteArray), .int .i64 0, .bool false, .bool false] 78 ?_; intro gb321 hg w61 hbox hb; have BK321 := Aside0.mk (hbox); have GW321 := gw hg (uW HB.out); have GE321 := GW321; replace HB := cW HB hb; clear hb hbox hg) | (refine gL (some 7) rfl Tryz.func67 #[.string a0, .int .u8 124] ?_; (with_reducible refine (word_Split.calls k a0 124 t322 _ A2.out).mono ?_); rintro e w62 ⟨v323, rfl, ho0, hb⟩; refine ⟨_, rfl, ?_⟩; have HO324 := Aside0.mk (Kd.R_lower ho0 (below_size bl)); replace BK321 := cB BK321 hb; replace HB := Aside0.mk (below_step bl hb); (try clear hb); (try clear ho0); obtain ⟨Ao63, co63, eo63⟩ := Kd.R_slice HO324.out; subst eo63; obtain ⟨hcz64_0, hcz64_1, hcz64_2, hcz64_3, hcz64_4, hfz64_0, hfz64_1, hfz64_2, hfz64_3, hfz64_4⟩ := z5 BK321) | ((with_reducible refine gate_store (t := 78) (p := 2) rfl ?_); refine store_event (t := 78) (p := 2) (v := ?vo_w65) (w1 := (((((w62.setCell ⟨gb321, 0, none⟩ (.int .i64 0)).setCell ⟨gb321, 1, none⟩ (.string (⟨#[]⟩ : ByteArray))).setCell ⟨gb321, 2, none⟩ (.int .i64 0)).setCell ⟨gb321, 3, none⟩ (.bool false)).setCell ⟨gb321, 4, none⟩ (.bool false))) ?hg ?ho ?hn ?hr ?_; (case ho => rfl); (case hg => rfl); (case hn => rfl); (case hr => first | (go_simp; done) | (go_simp; rfl)); intro w65 hw; replace HO324 := fgR (ok' := fun _ => True) hw HO324 BK321 fun _ _ => trivial; replace HB : Aside0 (Below w.heap.size w w65) := fgW hw bl; replace BK321 := fgB hw BK321; clear hw))
  refine bodyPost_ret (results_ct rfl _ _ gb321 78 #[.int .i64 0, .string (⟨#[]⟩ : ByteArray), .int .i64 0, .bool false, .bool false] (0, 0) _ rfl (uB BK321.out) Tryz.underlying78 rfl (by kernel_rfl)) rfl ?_
  exact ⟨re_, bl⟩
def diff_one.f (k : Nat) (a0 : ByteArray) : Option (Int × ByteArray × Int × Bool × Bool × Int) := (strings_CutPrefix.f a0 (⟨#[33]⟩ : ByteArray)).bind fun bt337 => (if bt337.2 = true then ((diff_leaves.f k bt337.1).bind fun bt339 => (some (bt339.1, bt339.2.1, bt339.2.2.1, bt339.2.2.2.1, bt339.2.2.2.2.1, bt339.2.2.2.2.2))) else ((row_Parse.f k a0).bind fun bt345 => (if bt345.2 = 0 then (if (bt345.1.length : Int) = 0 then (some (0, (⟨#[]⟩ : ByteArray), 0, false, false, 2)) else (if 0 < (bt345.1.length : Int) then (some ((rd_T60 bt345.1 0).f0, (rd_T60 bt345.1 0).f1, (rd_T60 bt345.1 0).f2.f0, (rd_T60 bt345.1 0).f2.f1, false, 0)) else (none))) else (some (0, (⟨#[]⟩ : ByteArray), 0, false, false, bt345.2)))))
theorem diff_one.mono : ∀ a0 k, LeO (diff_one.f k a0) (diff_one.f (k + 1) a0) := by
 intro a0 k
 unfold diff_one.f
 exact lo
instance diff_one.mI {a0 k} : LeC (diff_one.f k a0) (diff_one.f (k + 1) a0) := ⟨diff_one.mono _ _⟩
theorem diff_one.calls (k : Nat) (a0 : ByteArray) (r1 : Int) (r2 : ByteArray) (r3 : Int) (r4 : Bool) (r5 : Bool) (r6 : Int) (w : World) (hL : LD w) (h : diff_one.f k a0 = some (r1, r2, r3, r4, r5, r6)) :
 Calls Tryz.prog 72 #[.string a0] w fun e w' => e = .returned (.tuple #[.agg #[.int .i64 r1, .string r2, .int .i64 r3, .bool r4, .bool r5], .int .i64 r6]) ∧ Below w.heap.size w w' := by
 have HL0 := Aside0.mk hL
 clear hL
 have hu78 := Tryz.underlying78
 have hu60 := Tryz.underlying60
 have HB := Aside0.mk (Below.refl w.heap.size w)
 have H : ((strings_CutPrefix.f a0 (⟨#[33]⟩ : ByteArray)).bind fun bt337 => (if bt337.2 = true then ((diff_leaves.f k bt337.1).bind fun bt339 => (some (bt339.1, bt339.2.1, bt339.2.2.1, bt339.2.2.2.1, bt339.2.2.2.2.1, bt339.2.2.2.2.2))) else ((row_Parse.f k a0).bind fun bt345 => (if bt345.2 = 0 then (if (bt345.1.length : Int) = 0 then (some (0, (⟨#[]⟩ : ByteArray), 0, false, false, 2)) else (if 0 < (bt345.1.length : Int) then (some ((rd_T60 bt345.1 0).f0, (rd_T60 bt345.1 0).f1, (rd_T60 bt345.1 0).f2.f0, (rd_T60 bt345.1 0).f2.f1, false, 0)) else (none))) else (some (0, (⟨#[]⟩ : ByteArray), 0, false, false, bt345.2)))))) = some (r1, r2, r3, r4, r5, r6) := h
 clear h
 obtain ⟨⟨t337, t338⟩, A2, H⟩ := bs H
 try dsimp only at H
 by_cases c3 : t338 = true
 ·
  subst c3
  rw [if_pos rfl] at H
  obtain ⟨⟨t339, t340, t341, t342, t343, t344⟩, A4, H⟩ := bs H
  try dsimp only at H
  simp only [Option.some.injEq, Prod.mk.injEq] at H
  obtain ⟨rfl, rfl, rfl, rfl, rfl, rfl⟩ := H
  go_enter Tryz.func72, Tryz.ntmps72
  go_wp2_with (first | ((with_reducible refine gate_dst (N := 2) rfl ?_); refine bx (N := 2) #[.int .i64 0, .string (⟨#[]⟩ : ByteArray), .int .i64 0, .bool false, .bool false] 78 ?_; intro gb336 hg w5 hbox hb; have BK336 := Aside0.mk (hbox); have GW336 := gw hg (uW HB.out); have GE336 := GW336; replace HB := cW HB hb; clear hb hbox hg) | (refine gL (some 10) rfl Tryz.func90 #[.string a0, .string (⟨#[33]⟩ : ByteArray)] ?_; (with_reducible refine (strings_CutPrefix.calls a0 (⟨#[33]⟩ : ByteArray) t337 true _ A2.out).mono ?_); rintro e w' ⟨rfl, ⟨nd, rfl⟩⟩; refine ⟨_, rfl, ?_⟩; (try (rw [drewN_self w5]; generalize hq_ : World.drewN w5 _ = w5; have n0_ : Aside0 (w5.heap[gb336]? = some (.cells #[.int .i64 0, .string (⟨#[]⟩ : ByteArray), .int .i64 0, .bool false, .bool false] 78 (0, 0))) := ⟨by rw [← hq_]; exact (uB BK336.out)⟩; have n1_ : Aside0 (Below w.heap.size w w5) := ⟨by rw [← hq_]; exact bl⟩; clear BK336 HB hq_; have BK336 := n0_; have HB := n1_; clear n0_ n1_))) | (refine gL (some 15) rfl Tryz.func91 #[.string t337] ?_; (with_reducible refine (diff_leaves.calls (hL := ld) k t337 t339 t340 t341 t342 t343 t344 _ A4.out).mono ?_); rintro e w6 ⟨rfl, hb⟩; refine ⟨_, rfl, ?_⟩; replace BK336 := cB BK336 hb; replace HB := Aside0.mk (below_step bl hb); (try clear hb); obtain ⟨hcz7_0, hcz7_1, hcz7_2, hcz7_3, hcz7_4, hfz7_0, hfz7_1, hfz7_2, hfz7_3, hfz7_4⟩ := z5 BK336) | ((with_reducible refine gate_store (t := 78) (p := 2) rfl ?_); refine store_event (t := 78) (p := 2) (v := ?vo_w8) (w1 := (((((w6.setCell ⟨gb336, 0, none⟩ (.int .i64 t339)).setCell ⟨gb336, 1, none⟩ (.string t340)).setCell ⟨gb336, 2, none⟩ (.int .i64 t341)).setCell ⟨gb336, 3, none⟩ (.bool t342)).setCell ⟨gb336, 4, none⟩ (.bool t343))) ?hg ?ho ?hn ?hr ?_; (case ho => rfl); (case hg => rfl); (case hn => rfl); (case hr => first | (go_simp; done) | (go_simp; rfl)); intro w8 hw; replace HB : Aside0 (Below w.heap.size w w8) := fgW hw bl; replace BK336 := fgB hw BK336; clear hw))
  refine bodyPost_ret (results_ct rfl _ _ gb336 78 #[.int .i64 t339, .string t340, .int .i64 t341, .bool t342, .bool t343] (0, 0) _ rfl (uB BK336.out) Tryz.underlying78 rfl (by kernel_rfl)) rfl ?_
  exact ⟨re_, bl⟩
 ·
  replace c3 := Bool.eq_false_iff.mpr c3
  subst c3
  rw [if_neg (show ¬ (false = true) by decide)] at H
  obtain ⟨⟨t345, t346⟩, A9, H⟩ := bs H
  try dsimp only at H
  by_cases c10 : t346 = 0
  ·
   rw [if_pos c10] at H
   have c10b0 : (t346 == 0) = true := beq_iff_eq.mpr c10
   have c10b1 : (t346 != 0) = false := bne_eq_false_iff_eq.mpr c10
   clear c10
   by_cases c11 : (t345.length : Int) = 0
   ·
    rw [if_pos c11] at H
    have c11b0 : ((t345.length : Int) == 0) = true := beq_iff_eq.mpr c11
    have c11b1 : ((t345.length : Int) != 0) = false := bne_eq_false_iff_eq.mpr c11
    clear c11
    simp only [Option.some.injEq, Prod.mk.injEq] at H
    obtain ⟨rfl, rfl, rfl, rfl, rfl, rfl⟩ := H
    go_enter Tryz.func72, Tryz.ntmps72
    go_wp2_with (first | ((with_reducible refine gate_dst (N := 2) rfl ?_); refine bx (N := 2) #[.int .i64 0, .string (⟨#[]⟩ : ByteArray), .int .i64 0, .bool false, .bool false] 78 ?_; intro gb336 hg w12 hbox hb; have BK336 := Aside0.mk (hbox); have GW336 := gw hg (uW HB.out); have GE336 := GW336; replace HB := cW HB hb; clear hb hbox hg) | (refine gL (some 10) rfl Tryz.func90 #[.string a0, .string (⟨#[33]⟩ : ByteArray)] ?_; (with_reducible refine (strings_CutPrefix.calls a0 (⟨#[33]⟩ : ByteArray) t337 false _ A2.out).mono ?_); rintro e w' ⟨rfl, ⟨nd, rfl⟩⟩; refine ⟨_, rfl, ?_⟩; (try (rw [drewN_self w12]; generalize hq_ : World.drewN w12 _ = w12; have n0_ : Aside0 (w12.heap[gb336]? = some (.cells #[.int .i64 0, .string (⟨#[]⟩ : ByteArray), .int .i64 0, .bool false, .bool false] 78 (0, 0))) := ⟨by rw [← hq_]; exact (uB BK336.out)⟩; have n1_ : Aside0 (Below w.heap.size w w12) := ⟨by rw [← hq_]; exact bl⟩; clear BK336 HB hq_; have BK336 := n0_; have HB := n1_; clear n0_ n1_))) | (refine gL (some 20) rfl Tryz.func50 #[.string a0] ?_; (with_reducible refine (row_Parse.calls (hL := ld) k a0 t345 t346 _ A9.out).mono ?_); rintro e w13 ⟨v347, rfl, ho0, hb⟩; refine ⟨_, rfl, ?_⟩; have HO348 := Aside0.mk (Kd.R_lower ho0 (below_size bl)); replace BK336 := cB BK336 hb; replace HB := Aside0.mk (below_step bl hb); (try clear hb); (try clear ho0); obtain ⟨Ao14, co14, eo14⟩ := Kd.R_slice HO348.out; subst eo14; obtain ⟨hcz15_0, hcz15_1, hcz15_2, hcz15_3, hcz15_4, hfz15_0, hfz15_1, hfz15_2, hfz15_3, hfz15_4⟩ := z5 BK336) | ((with_reducible refine gate_store (t := 78) (p := 2) rfl ?_); refine store_event (t := 78) (p := 2) (v := ?vo_w16) (w1 := (((((w13.setCell ⟨gb336, 0, none⟩ (.int .i64 0)).setCell ⟨gb336, 1, none⟩ (.string (⟨#[]⟩ : ByteArray))).setCell ⟨gb336, 2, none⟩ (.int .i64 0)).setCell ⟨gb336, 3, none⟩ (.bool false)).setCell ⟨gb336, 4, none⟩ (.bool false))) ?hg ?ho ?hn ?hr ?_; (case ho => rfl); (case hg => rfl); (case hn => rfl); (case hr => first | (go_simp; done) | (go_simp; rfl)); intro w16 hw; replace HO348 := fgR (ok' := fun _ => True) hw HO348 BK336 fun _ _ => trivial; replace HB : Aside0 (Below w.heap.size w w16) := fgW hw bl; replace BK336 := fgB hw BK336; clear hw))
    refine bodyPost_ret (results_ct rfl _ _ gb336 78 #[.int .i64 0, .string (⟨#[]⟩ : ByteArray), .int .i64 0, .bool false, .bool false] (0, 0) _ rfl (uB BK336.out) Tryz.underlying78 rfl (by kernel_rfl)) rfl ?_
    exact ⟨re_, bl⟩
   ·
    rw [if_neg c11] at H
    have c11b0 : ((t345.length : Int) == 0) = false := beq_eq_false_iff_ne.mpr c11
    have c11b1 : ((t345.length : Int) != 0) = true := bne_iff_ne.mpr c11
    have c11b2 : ¬ (t345 = []) := fun h_ => c11 (by rw [h_]; rfl)
    obtain ⟨c17, H⟩ := gd H
    have c17b0 : decide (0 < (t345.length : Int)) = true := decide_eq_true c17
    have c17b1 : decide (0 < t345.length) = true := decide_eq_true (by omega)
    clear c17
    simp only [Option.some.injEq, Prod.mk.injEq] at H
    obtain ⟨rfl, rfl, rfl, rfl, rfl, rfl⟩ := H
    go_enter Tryz.func72, Tryz.ntmps72
    go_wp2_with (first | ((with_reducible refine gate_dst (N := 2) rfl ?_); refine bx (N := 2) #[.int .i64 0, .string (⟨#[]⟩ : ByteArray), .int .i64 0, .bool false, .bool false] 78 ?_; intro gb336 hg w18 hbox hb; have BK336 := Aside0.mk (hbox); have GW336 := gw hg (uW HB.out); have GE336 := GW336; replace HB := cW HB hb; clear hb hbox hg) | (refine gL (some 10) rfl Tryz.func90 #[.string a0, .string (⟨#[33]⟩ : ByteArray)] ?_; (with_reducible refine (strings_CutPrefix.calls a0 (⟨#[33]⟩ : ByteArray) t337 false _ A2.out).mono ?_); rintro e w' ⟨rfl, ⟨nd, rfl⟩⟩; refine ⟨_, rfl, ?_⟩; (try (rw [drewN_self w18]; generalize hq_ : World.drewN w18 _ = w18; have n0_ : Aside0 (w18.heap[gb336]? = some (.cells #[.int .i64 0, .string (⟨#[]⟩ : ByteArray), .int .i64 0, .bool false, .bool false] 78 (0, 0))) := ⟨by rw [← hq_]; exact (uB BK336.out)⟩; have n1_ : Aside0 (Below w.heap.size w w18) := ⟨by rw [← hq_]; exact bl⟩; clear BK336 HB hq_; have BK336 := n0_; have HB := n1_; clear n0_ n1_))) | (refine gL (some 20) rfl Tryz.func50 #[.string a0] ?_; (with_reducible refine (row_Parse.calls (hL := ld) k a0 t345 t346 _ A9.out).mono ?_); rintro e w19 ⟨v347, rfl, ho0, hb⟩; refine ⟨_, rfl, ?_⟩; have HO348 := Aside0.mk (Kd.R_lower ho0 (below_size bl)); replace BK336 := cB BK336 hb; replace HB := Aside0.mk (below_step bl hb); (try clear hb); (try clear ho0); obtain ⟨Ao20, co20, eo20⟩ := Kd.R_slice HO348.out; subst eo20; have p349 : 0 ≤ (0 : Int) := (by omega); have q349 : 0 < (t345.length : Int) := od; obtain ⟨ad349, e349, hx349_0, hx349_1, hx349_2, hx349_3⟩ := at_T60 (Kd.R_reads' HO348.out).2.2 0 p349 q349; cases e349; have qi349 : (0 < t345.length) = True := eq_true (by omega); (try rw [show ((0 : Int)).toNat = 0 from rfl] at hx349_0); (try rw [show 0 * 4 = 0 from rfl] at hx349_0); (try rw [Addr.add_zero'] at hx349_0); (try rw [show ((0 : Int)).toNat = 0 from rfl] at hx349_1); (try rw [show 0 * 4 = 0 from rfl] at hx349_1); (try rw [Addr.add_zero'] at hx349_1); (try rw [show ((0 : Int)).toNat = 0 from rfl] at hx349_2); (try rw [show 0 * 4 = 0 from rfl] at hx349_2); (try rw [Addr.add_zero'] at hx349_2); (try rw [show ((0 : Int)).toNat = 0 from rfl] at hx349_3); (try rw [show 0 * 4 = 0 from rfl] at hx349_3); (try rw [Addr.add_zero'] at hx349_3); replace p349 := eq_true p349; replace q349 := eq_true q349; obtain ⟨hcz21_0, hcz21_1, hcz21_2, hcz21_3, hcz21_4, hfz21_0, hfz21_1, hfz21_2, hfz21_3, hfz21_4⟩ := z5 BK336) | ((with_reducible refine gate_store (t := 78) (p := 2) rfl ?_); refine store_event (t := 78) (p := 2) (v := ?vo_w22) (w1 := (((((w19.setCell ⟨gb336, 0, none⟩ (.int .i64 ((rd_T60 t345 0).f0))).setCell ⟨gb336, 1, none⟩ (.string ((rd_T60 t345 0).f1))).setCell ⟨gb336, 2, none⟩ (.int .i64 ((rd_T60 t345 0).f2.f0))).setCell ⟨gb336, 3, none⟩ (.bool ((rd_T60 t345 0).f2.f1))).setCell ⟨gb336, 4, none⟩ (.bool false))) ?hg ?ho ?hn ?hr ?_; (case ho => rfl); (case hg => rfl); (case hn => rfl); (case hr => first | (go_simp; done) | (go_simp; rfl)); intro w22 hw; replace HO348 := fgR (ok' := fun _ => True) hw HO348 BK336 fun _ _ => trivial; replace HB : Aside0 (Below w.heap.size w w22) := fgW hw bl; replace BK336 := fgB hw BK336; clear hw))
    refine bodyPost_ret (results_ct rfl _ _ gb336 78 #[.int .i64 ((rd_T60 t345 0).f0), .string ((rd_T60 t345 0).f1), .int .i64 ((rd_T60 t345 0).f2.f0), .bool ((rd_T60 t345 0).f2.f1), .bool false] (0, 0) _ rfl (uB BK336.out) Tryz.underlying78 rfl (by kernel_rfl)) rfl ?_
    exact ⟨re_, bl⟩
  ·
   rw [if_neg c10] at H
   have c10b0 : (t346 == 0) = false := beq_eq_false_iff_ne.mpr c10
   have c10b1 : (t346 != 0) = true := bne_iff_ne.mpr c10
   simp only [Option.some.injEq, Prod.mk.injEq] at H
   obtain ⟨rfl, rfl, rfl, rfl, rfl, rfl⟩ := H
   go_enter Tryz.func72, Tryz.ntmps72
   go_wp2_with (first | ((with_reducible refine gate_dst (N := 2) rfl ?_); refine bx (N := 2) #[.int .i64 0, .string (⟨#[]⟩ : ByteArray), .int .i64 0, .bool false, .bool false] 78 ?_; intro gb336 hg w23 hbox hb; have BK336 := Aside0.mk (hbox); have GW336 := gw hg (uW HB.out); have GE336 := GW336; replace HB := cW HB hb; clear hb hbox hg) | (refine gL (some 10) rfl Tryz.func90 #[.string a0, .string (⟨#[33]⟩ : ByteArray)] ?_; (with_reducible refine (strings_CutPrefix.calls a0 (⟨#[33]⟩ : ByteArray) t337 false _ A2.out).mono ?_); rintro e w' ⟨rfl, ⟨nd, rfl⟩⟩; refine ⟨_, rfl, ?_⟩; (try (rw [drewN_self w23]; generalize hq_ : World.drewN w23 _ = w23; have n0_ : Aside0 (w23.heap[gb336]? = some (.cells #[.int .i64 0, .string (⟨#[]⟩ : ByteArray), .int .i64 0, .bool false, .bool false] 78 (0, 0))) := ⟨by rw [← hq_]; exact (uB BK336.out)⟩; have n1_ : Aside0 (Below w.heap.size w w23) := ⟨by rw [← hq_]; exact bl⟩; clear BK336 HB hq_; have BK336 := n0_; have HB := n1_; clear n0_ n1_))) | (refine gL (some 20) rfl Tryz.func50 #[.string a0] ?_; (with_reducible refine (row_Parse.calls (hL := ld) k a0 t345 t346 _ A9.out).mono ?_); rintro e w24 ⟨v347, rfl, ho0, hb⟩; refine ⟨_, rfl, ?_⟩; have HO348 := Aside0.mk (Kd.R_lower ho0 (below_size bl)); replace BK336 := cB BK336 hb; replace HB := Aside0.mk (below_step bl hb); (try clear hb); (try clear ho0); obtain ⟨hcz25_0, hcz25_1, hcz25_2, hcz25_3, hcz25_4, hfz25_0, hfz25_1, hfz25_2, hfz25_3, hfz25_4⟩ := z5 BK336) | ((with_reducible refine gate_store (t := 78) (p := 2) rfl ?_); refine store_event (t := 78) (p := 2) (v := ?vo_w26) (w1 := (((((w24.setCell ⟨gb336, 0, none⟩ (.int .i64 0)).setCell ⟨gb336, 1, none⟩ (.string (⟨#[]⟩ : ByteArray))).setCell ⟨gb336, 2, none⟩ (.int .i64 0)).setCell ⟨gb336, 3, none⟩ (.bool false)).setCell ⟨gb336, 4, none⟩ (.bool false))) ?hg ?ho ?hn ?hr ?_; (case ho => rfl); (case hg => rfl); (case hn => rfl); (case hr => first | (go_simp; done) | (go_simp; rfl)); intro w26 hw; replace HO348 := fgR (ok' := fun _ => True) hw HO348 BK336 fun _ _ => trivial; replace HB : Aside0 (Below w.heap.size w w26) := fgW hw bl; replace BK336 := fgB hw BK336; clear hw))
   refine bodyPost_ret (results_ct rfl _ _ gb336 78 #[.int .i64 0, .string (⟨#[]⟩ : ByteArray), .int .i64 0, .bool false, .bool false] (0, 0) _ rfl (uB BK336.out) Tryz.underlying78 rfl (by kernel_rfl)) rfl ?_
   exact ⟨re_, bl⟩
def diff_gone.f (a0_0 : Int) (a0_1 : ByteArray) (a0_2 : Int) (a0_3 : Bool) : Option (Int × ByteArray × Int × Bool × Bool) := some (a0_0, a0_1, 0, false, true)
theorem diff_gone.calls (a0_0 : Int) (a0_1 : ByteArray) (a0_2 : Int) (a0_3 : Bool) (r1 : Int) (r2 : ByteArray) (r3 : Int) (r4 : Bool) (r5 : Bool) (w : World) (h : diff_gone.f a0_0 a0_1 a0_2 a0_3 = some (r1, r2, r3, r4, r5)) :
 Calls Tryz.prog 92 #[.agg #[.int .i64 a0_0, .string a0_1, .int .i64 a0_2, .bool a0_3]] w fun e w' => e = .returned (.agg #[.int .i64 r1, .string r2, .int .i64 r3, .bool r4, .bool r5]) ∧ Below w.heap.size w w' := by
 have hu60 := Tryz.underlying60
 have hu78 := Tryz.underlying78
 have HB := Aside0.mk (Below.refl w.heap.size w)
 have H : (some (a0_0, a0_1, 0, false, true)) = some (r1, r2, r3, r4, r5) := h
 clear h
 simp only [Option.some.injEq, Prod.mk.injEq] at H
 obtain ⟨rfl, rfl, rfl, rfl, rfl⟩ := H
 go_enter Tryz.func92, Tryz.ntmps92
 go_wp2_with (first | ((with_reducible refine gate_dst (N := 1) rfl ?_); refine bx (N := 1) #[.int .i64 a0_0, .string a0_1, .int .i64 a0_2, .bool a0_3] 60 ?_; intro gb350 hg w2 hbox hb; have BK350 := Aside0.mk (hbox); have GW350 := gw hg (uW HB.out); have GE350 := GW350; replace HB := cW HB hb; clear hb hbox hg) | ((with_reducible refine gate_dst (N := 2) rfl ?_); refine bx (N := 2) #[.int .i64 0, .string (⟨#[]⟩ : ByteArray), .int .i64 0, .bool false, .bool false] 78 ?_; intro gb351 hg w3 hbox hb; have BK351 := Aside0.mk (hbox); have GW351 := gw hg bl; have GE351 := GW351; replace HB := Aside0.mk (below_step bl hb); have NB350_351 := nl BK350 hg; have NB351_350 := nr BK350 hg; replace BK350 := cB BK350 hb; clear hb hbox hg; have hnb4 := NB350_351.out; have hnc4 := NB351_350.out; obtain ⟨hcz5_0, hcz5_1, hcz5_2, hcz5_3, hfz5_0, hfz5_1, hfz5_2, hfz5_3⟩ := z4 BK350; obtain ⟨hcz6_0, hcz6_1, hcz6_2, hcz6_3, hcz6_4, hfz6_0, hfz6_1, hfz6_2, hfz6_3, hfz6_4⟩ := z5 BK351) | ((with_reducible refine gate_store (t := 78) (p := 2) rfl ?_); refine store_event (t := 78) (p := 2) (v := ?vo_w7) (w1 := (((((w3.setCell ⟨gb351, 0, none⟩ (.int .i64 a0_0)).setCell ⟨gb351, 1, none⟩ (.string a0_1)).setCell ⟨gb351, 2, none⟩ (.int .i64 0)).setCell ⟨gb351, 3, none⟩ (.bool false)).setCell ⟨gb351, 4, none⟩ (.bool true))) ?hg ?ho ?hn ?hr ?_; (case ho => rfl); (case hg => rfl); (case hn => rfl); (case hr => first | (go_simp; done) | (go_simp; rfl)); intro w7 hw; replace BK350 := fgF hw BK350 NB350_351; replace HB : Aside0 (Below w.heap.size w w7) := fgW hw bl; replace BK351 := fgB hw BK351; clear hw))
 refine bodyPost_ret (results_cell_row rfl _ _ gb351 78 #[.int .i64 a0_0, .string a0_1, .int .i64 0, .bool false, .bool true] (0, 0) _ rfl (uB BK351.out) Tryz.underlying78 rfl (by kernel_rfl)) rfl ?_
 exact ⟨re_, bl⟩
def api_Row_146.Fn (g : Nat) (lb : Array Value) (p : S60 → Bool) (l : List (S60)) (w : World) : Prop :=
 ∀ (W : World) (x : S60), x ∈ l → Below w.heap.size w W → Calls Tryz.prog g (#[.agg #[.int .i64 x.f0, .string x.f1, .int .i64 x.f2.f0, .bool x.f2.f1]] ++ lb) W fun e w' => e = .returned (.bool (p x)) ∧ Below W.heap.size W w'
def api_Row_146.idx (p : S60 → Bool) : List (S60) → Nat → Int
 | [], _ => -1
 | x :: l, i => if p x = true then (i : Int) else api_Row_146.idx p l (i + 1)
theorem api_Row_146.idx_miss {p : S60 → Bool} : ∀ {l : List (S60)} {i : Nat}, api_Row_146.idx p l i = -1 ∨ (i : Int) ≤ api_Row_146.idx p l i
 | [], _ => .inl rfl
 | x :: l, i => by
  unfold api_Row_146.idx
  split
  ·
   exact .inr (Int.le_refl _)
  ·
   rcases api_Row_146.idx_miss (p := p) (l := l) (i := i + 1) with h | h
   ·
    exact .inl h
   ·
    exact .inr (by omega)
theorem api_Row_146.idx_any (p : S60 → Bool) : ∀ (l : List (S60)) (i : Nat), decide (0 ≤ api_Row_146.idx p l i) = l.any p
 | [], _ => rfl
 | x :: l, i => by
  unfold api_Row_146.idx
  by_cases h : p x = true
  ·
   rw [if_pos h, List.any_cons, h, Bool.true_or]
   exact decide_eq_true (by omega)
  ·
   rw [if_neg h, api_Row_146.idx_any p l (i + 1), List.any_cons, Bool.eq_false_iff.2 h, Bool.false_or]
set_option maxHeartbeats 2000000 in
theorem api_Row_146.calls (g : Nat) (lb : Array Value) (eg : ∀ args w, (callFunc g args).run Tryz.prog w = .ok (.enter g args) w) (p : S60 → Bool) (A0 : Option Addr) (c0 : Nat) (l0 : List (S60)) (w : World) (hr0 : Kd.C k60 w A0 l0.length l0) (hp : api_Row_146.Fn g lb p l0 w) :
 Calls Tryz.prog 146 #[.slice A0 l0.length c0, .func (.func g) #[] lb] w fun e w' => e = .returned (.int .i64 (api_Row_146.idx p l0 0)) ∧ Below w.heap.size w w' := by
 have hu60 := Tryz.underlying60
 have HR0 := Aside0.mk hr0
 have HP := Aside0.mk hp
 have HL := Aside0.mk hr0.2.1
 clear hr0 hp
 go_enter Tryz.func146, Tryz.ntmps146
 go_wp2
 go_loopg [5, 8] l0.length (fun gg _ v8 wr => ∃ x : Int, v8 = .int .i64 x ∧ Aside0 (0 ≤ x) ∧ Aside0 (x ≤ (l0.length : Int)) ∧ Aside0 ((l0.length : Int) - x ≤ gg) ∧ Aside0 (api_Row_146.idx p l0 0 = api_Row_146.idx p (l0.drop x.toNat) x.toNat) ∧ Aside0 (Below w.heap.size w wr))
 case atStart => exact ⟨0, rfl, ⟨by omega⟩, ⟨by omega⟩, ⟨by omega⟩, ⟨rfl⟩, ⟨Below.refl _ _⟩⟩
 case round =>
  obtain ⟨x, rfl, H0, H1, HG, HI, HB⟩ := hrel
  by_cases hlt : x < (l0.length : Int)
  ·
   have p101 : 0 ≤ x := H0.out
   obtain ⟨ad101, e101, hx101_0, hx101_1, hx101_2, hx101_3⟩ := at_T60 HR0.out x p101 hlt
   cases e101
   have hy101_0 := kc HB hx101_0
   clear hx101_0
   have hy101_1 := kc HB hx101_1
   clear hx101_1
   have hy101_2 := kc HB hx101_2
   clear hx101_2
   have hy101_3 := kc HB hx101_3
   clear hx101_3
   have HN : Aside0 (x.toNat < l0.length) := ⟨by omega⟩
   have hget : rd_T60 l0 x = l0[x.toNat]'HN.out := by
    show l0.getD x.toNat _ = _
    rw [List.getD_eq_getElem?_getD, List.getElem?_eq_getElem HN.out, Option.getD_some]
   have hcall := HP.out wr (rd_T60 l0 x) (by rw [hget]; exact List.getElem_mem HN.out) HB.out
   have HGE := Aside0.mk hget
   clear hget
   have c1b0 : decide (x < (l0.length : Int)) = true := decide_eq_true hlt
   have pi101 : (0 ≤ (x : Int)) = True := eq_true p101
   have qi101 : (x < (l0.length : Int)) = True := eq_true hlt
   have HLT := Aside0.mk hlt
   clear hlt p101
   cases hq : p (rd_T60 l0 x) with
   | true =>
    rw [hq] at hcall
    have HQ := Aside0.mk hq
    clear hq
    go_wp2_with (go_at_fn g; refine hcall.mono ?_; rintro e w' ⟨rfl, hb'⟩)
    go_ret
    refine ⟨?_, HB.out.trans (hb'.mono HB.out.size)⟩
    rw [HI.out, List.drop_eq_getElem_cons HN.out]
    unfold api_Row_146.idx
    rw [if_pos (by rw [← HGE.out]; exact HQ.out), Int.toNat_of_nonneg H0.out]
    rfl
   | false =>
    rw [hq] at hcall
    have HQ := Aside0.mk hq
    clear hq
    go_wp2_with (go_at_fn g; refine hcall.mono ?_; rintro e w' ⟨rfl, hb'⟩)
    have hw : wrap64 (x + 1) = x + 1 := by have := HLT.out; have := HL.out; have := H0.out; unfold wrap64; omega
    (try rw [hw])
    clear hw
    go_roundg (l0.length - (x.toNat + 1))
    case measure => have := HLT.out; have := HG.out; have := H0.out; omega
    case rel =>
     refine ⟨x + 1, by first | rfl | (have := HLT.out; have := HL.out; have := H0.out; simp; unfold wrap64; omega), ⟨by have := H0.out; omega⟩, ⟨by have := HLT.out; omega⟩, ⟨by have := HLT.out; have := H0.out; omega⟩, ⟨?_⟩, ⟨HB.out.trans (hb'.mono HB.out.size)⟩⟩
     rw [HI.out, List.drop_eq_getElem_cons HN.out, show (x + 1).toNat = x.toNat + 1 from by have := H0.out; omega]
     conv => lhs; unfold api_Row_146.idx
     rw [if_neg (by rw [← HGE.out, HQ.out]; simp)]
  ·
   have hx : x = (l0.length : Int) := by have := H1.out; omega
   have c1b0 : decide (x < (l0.length : Int)) = false := decide_eq_false hlt
   clear hlt
   have HX := Aside0.mk hx
   clear hx
   go_wp2
   go_ret
   refine ⟨?_, HB.out⟩
   rw [HI.out, HX.out, Int.toNat_natCast, List.drop_of_length_le (Nat.le_refl _)]
   rfl
set_option maxHeartbeats 2000000 in
theorem api_Row_114.calls (g : Nat) (lb : Array Value) (eg : ∀ args w, (callFunc g args).run Tryz.prog w = .ok (.enter g args) w) (p : S60 → Bool) (A0 : Option Addr) (c0 : Nat) (l0 : List (S60)) (w : World) (hr0 : Kd.C k60 w A0 l0.length l0) (hp : api_Row_146.Fn g lb p l0 w) :
 Calls Tryz.prog 114 #[.slice A0 l0.length c0, .func (.func g) #[] lb] w fun e w' => e = .returned (.bool (l0.any p)) ∧ Below w.heap.size w w' := by
 have hcall := fun W => api_Row_146.calls g lb eg p A0 c0 l0 W
 rw [← api_Row_146.idx_any p l0 0]
 generalize api_Row_146.idx p l0 0 = r at hcall ⊢
 go_enter Tryz.func114, Tryz.ntmps114
 go_wp2_with (go_at_call 146; refine (hcall _ hr0 hp).mono ?_; rintro e w' ⟨rfl, hb'⟩)
 go_ret
 exact ⟨rfl, hb'⟩
def row_Right_1.f (k : Nat) (a0_0 : Int) (a0_1 : ByteArray) (a0_2 : Int) (a0_3 : Bool) : Option (Bool) := (row_group.f k a0_1).bind fun t353 => (some (t353 != 0))
theorem row_Right_1.mono : ∀ a0 a1 a2 a3 k, LeO (row_Right_1.f k a0 a1 a2 a3) (row_Right_1.f (k + 1) a0 a1 a2 a3) := by
 intro a0 a1 a2 a3 k
 unfold row_Right_1.f
 exact lo
instance row_Right_1.mI {a0 a1 a2 a3 k} : LeC (row_Right_1.f k a0 a1 a2 a3) (row_Right_1.f (k + 1) a0 a1 a2 a3) := ⟨row_Right_1.mono _ _ _ _ _⟩
theorem row_Right_1.calls (k : Nat) (a0_0 : Int) (a0_1 : ByteArray) (a0_2 : Int) (a0_3 : Bool) (r : Bool) (w : World) (hL : LD w) (h : row_Right_1.f k a0_0 a0_1 a0_2 a0_3 = some r) :
 Calls Tryz.prog 115 #[.agg #[.int .i64 a0_0, .string a0_1, .int .i64 a0_2, .bool a0_3]] w fun e w' => e = .returned (.bool r) ∧ Below w.heap.size w w' := by
 have HL0 := Aside0.mk hL
 clear hL
 have hu60 := Tryz.underlying60
 have HB := Aside0.mk (Below.refl w.heap.size w)
 have H : ((row_group.f k a0_1).bind fun t353 => (some (t353 != 0))) = some r := h
 clear h
 obtain ⟨t353, A2, H⟩ := bs H
 try dsimp only at H
 obtain rfl := Option.some.inj H
 go_enter Tryz.func115, Tryz.ntmps115
 go_wp2_with (first | ((with_reducible refine gate_dst (N := 1) rfl ?_); refine bx (N := 1) #[.int .i64 a0_0, .string a0_1, .int .i64 a0_2, .bool a0_3] 60 ?_; intro gb352 hg w3 hbox hb; have BK352 := Aside0.mk (hbox); have GW352 := gw hg (uW HB.out); have GE352 := GW352; replace HB := cW HB hb; clear hb hbox hg; obtain ⟨hcz4_0, hcz4_1, hcz4_2, hcz4_3, hfz4_0, hfz4_1, hfz4_2, hfz4_3⟩ := z4 BK352) | (refine gL (some 5) rfl Tryz.func86 #[.string a0_1] ?_; (with_reducible refine (row_group.calls (hL := ld) k a0_1 t353 _ A2.out).mono ?_); rintro e w5 ⟨rfl, hb⟩; refine ⟨_, rfl, ?_⟩; replace BK352 := cB BK352 hb; replace HB := Aside0.mk (below_step bl hb); (try clear hb)))
 go_ret
 exact ⟨re_, bl⟩
theorem api_Row_with_115_146.goesV_ {P : Program} {ops : Array Oper} {Q : Exit → Act → World → Prop} {oi : Oper} {N : Option Tmp} {a : Act} {w : World} {K : Act → World → Prop} {f : FuncId} {fn : Func} {cal : Operand} {as_ : Array Operand} {ts : Array TypeId} (hf : P.funcs[f]? = some fn) (hname : (fn.name == "runtime.NumGoroutine") = false) (hb : fn.body.isSome = true) (args : Array Value)
 (hw : Region.wanted oi (yielded ops a.tmps) = true) (hN : oi.dst = N) (hop : oi.op = .call { callee := .value cal, args := as_, argTypes := ts }) (hev : a.eval cal = .func (.func f) #[] #[]) (hargs : as_.map a.eval = args)
 (h : Calls P f args w fun e w' => ∃ v, e = .returned v ∧ K (a.put N v) w') : if Region.wanted oi (yielded ops a.tmps) = true then Oper.wp P oi a w K Q else K (a.put N undef) w := by
 refine call_ f args hw hN ?_ h
 have he := enters_ hf hname hb args w
 unfold execOp
 simp [hop, resolve, Deferred.ofValue, invoke, hev, hargs, he]
theorem api_Row_with_115_146.goesVL_ {P : Program} {ops : Array Oper} {Q : Exit → Act → World → Prop} {rest : List Oper} {oi : Oper} {a : Act} {w : World} (N : Option Tmp) (hd : oi.dst = N) (hg : oi.guard = none) {f : FuncId} {fn : Func} {cal : Operand} {as_ : Array Operand} {ts : Array TypeId} (hf : P.funcs[f]? = some fn) (hname : (fn.name == "runtime.NumGoroutine") = false) (hb : fn.body.isSome = true) (args : Array Value)
 (hop : oi.op = .call { callee := .value cal, args := as_, argTypes := ts }) (hev : a.eval cal = .func (.func f) #[] #[]) (hargs : as_.map a.eval = args)
 (h : Calls P f args w fun e w' => ∃ v, e = .returned v ∧ wpList P ops Q rest (a.put N v) w') : wpList P ops Q (oi :: rest) a w := by
 refine wpList_plain hg fun K hK => ?_
 have he := enters_ hf hname hb args w
 have hrun : (execOp a.eval oi).run P w = .ok (.enter f args) w := by
  unfold execOp
  simp [hop, resolve, Deferred.ofValue, invoke, hev, hargs, he]
 unfold Oper.wp
 rw [hrun, Oper.upon_enter]
 refine h.mono fun e w'' hh => ?_
 obtain ⟨v, rfl, hk⟩ := hh
 subst hd
 exact hK _ _ hk
def api_Row_with_115_146.l0 : Nat → List (S60) → Int → Int → Option (Int)
 | 0, _, _, _ => none
 | k + 1, x0, x7, x8 => if x8 < x7 then (if 0 ≤ x8 then (if x8 < (x0.length : Int) then ((row_Right_1.f k ((rd_T60 x0 x8).f0) ((rd_T60 x0 x8).f1) ((rd_T60 x0 x8).f2.f0) ((rd_T60 x0 x8).f2.f1)).bind fun t355 => (if t355 = true then (some x8) else (api_Row_with_115_146.l0 k x0 x7 (wrap64 (x8 + 1))))) else (none)) else (none)) else (some (-1))
def api_Row_with_115_146.f (k : Nat) (l0 : List (S60)) : Option (Int) := api_Row_with_115_146.l0 k l0 (l0.length : Int) 0
theorem api_Row_with_115_146.mono_l : ∀ k, (∀ y0 y1 y2, LeC (api_Row_with_115_146.l0 k y0 y1 y2) (api_Row_with_115_146.l0 (k + 1) y0 y1 y2))
 | 0 => fun _ _ _ => ⟨fun r h => by simp [api_Row_with_115_146.l0] at h⟩
 | k + 1 => by have ih0 := api_Row_with_115_146.mono_l k; exact fun _ _ _ => by unfold api_Row_with_115_146.l0; exact lm
theorem api_Row_with_115_146.mono : ∀ a0 k, LeO (api_Row_with_115_146.f k a0) (api_Row_with_115_146.f (k + 1) a0) := by
 intro a0 k
 have ih0 := api_Row_with_115_146.mono_l k
 unfold api_Row_with_115_146.f
 exact lo
instance api_Row_with_115_146.mI {a0 k} : LeC (api_Row_with_115_146.f k a0) (api_Row_with_115_146.f (k + 1) a0) := ⟨api_Row_with_115_146.mono _ _⟩
theorem api_Row_with_115_146.calls (k : Nat) (A0 : Option Addr) (c0 : Nat) (l0 : List (S60)) (r : Int) (w : World) (hr0 : Kd.C k60 w A0 l0.length l0) (hc0 : l0.length ≤ c0) (hL : LD w) (h : api_Row_with_115_146.f k l0 = some r) :
 Calls Tryz.prog 146 #[.slice A0 l0.length c0, .func (.func 115) #[] #[]] w fun e w' => e = .returned (.int .i64 r) ∧ Below w.heap.size w w' := by
 have HL0 := Aside0.mk hL
 clear hL
 have hu60 := Tryz.underlying60
 have HR0 := Aside0.mk hr0
 have HC0 := Aside0.mk hc0
 clear hr0 hc0
 have HB := Aside0.mk (Below.refl w.heap.size w)
 have H : (api_Row_with_115_146.l0 k l0 (l0.length : Int) 0) = some r := h
 clear h
 have H' := Aside0.mk H
 clear H
 have eg115 : ∀ args w, (callFunc 115 args).run Tryz.prog w = .ok (.enter 115 args) w := enters_of Tryz.func115 (by kernel_rfl) rfl
 go_enter Tryz.func146, Tryz.ntmps146
 go_wp2
 go_loopg [8] k (fun kq v8 w' => ∃ (x8_1 : Int), v8 = .int .i64 x8_1 ∧ Aside0 (api_Row_with_115_146.l0 kq l0 (l0.length : Int) x8_1 = some r) ∧ Aside0 (kq ≤ k) ∧ Aside0 (Below w.heap.size w w'))
 case atStart => exact ⟨(0), rs_, H', ⟨Nat.le_refl _⟩, ⟨uW HB.out⟩⟩
 case round =>
  clear H'
  obtain ⟨x8_1, rfl, HA, HK1, HB⟩ := hrel
  cases gk with
  | zero => exact absurd HA.out (by simp [api_Row_with_115_146.l0])
  | succ k1 =>
   have H := HA.out
   clear HA
   simp only [api_Row_with_115_146.l0] at H
   by_cases c2 : x8_1 < (l0.length : Int)
   ·
    rw [if_pos c2] at H
    have c2b0 : decide (x8_1 < (l0.length : Int)) = true := decide_eq_true c2
    clear c2
    obtain ⟨c3b0, H⟩ := gdd H
    obtain ⟨c4b0, H⟩ := gdd H
    obtain ⟨t355, A5, H⟩ := bs H
    try dsimp only at H
    by_cases c6 : t355 = true
    ·
     subst c6
     rw [if_pos rfl] at H
     obtain rfl := Option.some.inj H
     have p354 : 0 ≤ (x8_1 : Int) := od
     have q354 : x8_1 < (l0.length : Int) := od
     obtain ⟨ad354, e354, hx354_0, hx354_1, hx354_2, hx354_3⟩ := at_T60 HR0.out x8_1 p354 q354
     cases e354
     replace hx354_0 := kc HB hx354_0
     replace hx354_1 := kc HB hx354_1
     replace hx354_2 := kc HB hx354_2
     replace hx354_3 := kc HB hx354_3
     replace p354 := eq_true p354
     replace q354 := eq_true q354
     go_wp2_with (first | (refine api_Row_with_115_146.goesVL_ (some 16) rfl rfl Tryz.func115 (by kernel_rfl) rfl #[.agg #[.int .i64 ((rd_T60 l0 x8_1).f0), .string ((rd_T60 l0 x8_1).f1), .int .i64 ((rd_T60 l0 x8_1).f2.f0), .bool ((rd_T60 l0 x8_1).f2.f1)]] rfl (by rfl) (by (try simp only [List.map_toArray, List.map_cons, List.map_nil]); first | done | rfl | (simp only [List.length_drop, List.length_take]; rfl)) ?_; (with_reducible refine (row_Right_1.calls (hL := ld) k1 ((rd_T60 l0 x8_1).f0) ((rd_T60 l0 x8_1).f1) ((rd_T60 l0 x8_1).f2.f0) ((rd_T60 l0 x8_1).f2.f1) true _ A5.out).mono ?_); rintro e w7 ⟨rfl, hb⟩; refine ⟨_, rfl, ?_⟩; replace HB := cW HB hb; (try clear hb)))
     go_ret
     exact ⟨re_, uW HB.out⟩
    ·
     replace c6 := Bool.eq_false_iff.mpr c6
     subst c6
     rw [if_neg (show ¬ (false = true) by decide)] at H
     have H' := Aside0.mk H
     clear H
     have p354 : 0 ≤ (x8_1 : Int) := od
     have q354 : x8_1 < (l0.length : Int) := od
     obtain ⟨ad354, e354, hx354_0, hx354_1, hx354_2, hx354_3⟩ := at_T60 HR0.out x8_1 p354 q354
     cases e354
     replace hx354_0 := kc HB hx354_0
     replace hx354_1 := kc HB hx354_1
     replace hx354_2 := kc HB hx354_2
     replace hx354_3 := kc HB hx354_3
     replace p354 := eq_true p354
     replace q354 := eq_true q354
     go_wp2_with (first | (refine api_Row_with_115_146.goesVL_ (some 16) rfl rfl Tryz.func115 (by kernel_rfl) rfl #[.agg #[.int .i64 ((rd_T60 l0 x8_1).f0), .string ((rd_T60 l0 x8_1).f1), .int .i64 ((rd_T60 l0 x8_1).f2.f0), .bool ((rd_T60 l0 x8_1).f2.f1)]] rfl (by rfl) (by (try simp only [List.map_toArray, List.map_cons, List.map_nil]); first | done | rfl | (simp only [List.length_drop, List.length_take]; rfl)) ?_; (with_reducible refine (row_Right_1.calls (hL := ld) k1 ((rd_T60 l0 x8_1).f0) ((rd_T60 l0 x8_1).f1) ((rd_T60 l0 x8_1).f2.f0) ((rd_T60 l0 x8_1).f2.f1) false _ A5.out).mono ?_); rintro e w8 ⟨rfl, hb⟩; refine ⟨_, rfl, ?_⟩; replace HB := cW HB hb; (try clear hb)))
     go_roundg k1
     case measure => have := HK1.out; omega
     case rel => exact ⟨(wrap64 (x8_1 + 1)), rs_, H', ⟨by have := HK1.out; omega⟩, ⟨uW HB.out⟩⟩
   ·
    rw [if_neg c2] at H
    have c2b0 : decide (x8_1 < (l0.length : Int)) = false := decide_eq_false c2
    clear c2
    obtain rfl := Option.some.inj H
    go_wp2
    go_ret
    exact ⟨re_, uW HB.out⟩
def api_Row_with_115_114.f (k : Nat) (l0 : List (S60)) : Option (Bool) := (api_Row_with_115_146.f k l0).bind fun t356 => (some (decide (t356 ≥ 0)))
theorem api_Row_with_115_114.mono : ∀ a0 k, LeO (api_Row_with_115_114.f k a0) (api_Row_with_115_114.f (k + 1) a0) := by
 intro a0 k
 unfold api_Row_with_115_114.f
 exact lo
instance api_Row_with_115_114.mI {a0 k} : LeC (api_Row_with_115_114.f k a0) (api_Row_with_115_114.f (k + 1) a0) := ⟨api_Row_with_115_114.mono _ _⟩
theorem api_Row_with_115_114.calls (k : Nat) (A0 : Option Addr) (c0 : Nat) (l0 : List (S60)) (r : Bool) (w : World) (hr0 : Kd.C k60 w A0 l0.length l0) (hc0 : l0.length ≤ c0) (hL : LD w) (h : api_Row_with_115_114.f k l0 = some r) :
 Calls Tryz.prog 114 #[.slice A0 l0.length c0, .func (.func 115) #[] #[]] w fun e w' => e = .returned (.bool r) ∧ Below w.heap.size w w' := by
 have HL0 := Aside0.mk hL
 clear hL
 have HR0 := Aside0.mk hr0
 have HC0 := Aside0.mk hc0
 clear hr0 hc0
 have HB := Aside0.mk (Below.refl w.heap.size w)
 have H : ((api_Row_with_115_146.f k l0).bind fun t356 => (some (decide (t356 ≥ 0)))) = some r := h
 clear h
 obtain ⟨t356, A2, H⟩ := bs H
 try dsimp only at H
 obtain rfl := Option.some.inj H
 go_enter Tryz.func114, Tryz.ntmps114
 go_wp2_with (first | (refine gL (some 7) rfl Tryz.func146 #[.slice A0 l0.length c0, (.func (.func 115) #[] #[])] ?_; (with_reducible refine (api_Row_with_115_146.calls (hL := ld) k _ _ l0 t356 _ ?side1 ?side2 A2.out).mono ?_); (case side1 => exact uC <| HR0.out); (case side2 => exact HC0.out); rintro e w3 ⟨rfl, hb⟩; refine ⟨_, rfl, ?_⟩; replace HB := cW HB hb; (try clear hb)))
 go_ret
 exact ⟨re_, uW HB.out⟩
def row_Right.f (k : Nat) (l0 : List (S60)) : Option (Bool) := (row_rise.f k l0).bind fun t357 => (if t357 = true then ((api_Row_with_115_114.f k l0).bind fun t358 => (some (!t358))) else (some false))
theorem row_Right.mono : ∀ a0 k, LeO (row_Right.f k a0) (row_Right.f (k + 1) a0) := by
 intro a0 k
 unfold row_Right.f
 exact lo
instance row_Right.mI {a0 k} : LeC (row_Right.f k a0) (row_Right.f (k + 1) a0) := ⟨row_Right.mono _ _⟩
theorem row_Right.calls (k : Nat) (A0 : Option Addr) (c0 : Nat) (l0 : List (S60)) (r : Bool) (w : World) (hr0 : Kd.C k60 w A0 l0.length l0) (hc0 : l0.length ≤ c0) (hL : LD w) (h : row_Right.f k l0 = some r) :
 Calls Tryz.prog 93 #[.slice A0 l0.length c0] w fun e w' => e = .returned (.bool r) ∧ Below w.heap.size w w' := by
 have HL0 := Aside0.mk hL
 clear hL
 have HR0 := Aside0.mk hr0
 have HC0 := Aside0.mk hc0
 clear hr0 hc0
 have HB := Aside0.mk (Below.refl w.heap.size w)
 have H : ((row_rise.f k l0).bind fun t357 => (if t357 = true then ((api_Row_with_115_114.f k l0).bind fun t358 => (some (!t358))) else (some false))) = some r := h
 clear h
 obtain ⟨t357, A2, H⟩ := bs H
 try dsimp only at H
 by_cases c3 : t357 = true
 ·
  subst c3
  rw [if_pos rfl] at H
  obtain ⟨t358, A4, H⟩ := bs H
  try dsimp only at H
  obtain rfl := Option.some.inj H
  go_enter Tryz.func93, Tryz.ntmps93
  go_wp2_with (first | (refine gL (some 4) rfl Tryz.func70 #[.slice A0 l0.length c0] ?_; (with_reducible refine (row_rise.calls k _ _ l0 true _ ?side1 ?side2 A2.out).mono ?_); (case side1 => exact uC <| HR0.out); (case side2 => exact HC0.out); rintro e w5 ⟨rfl, hb⟩; refine ⟨_, rfl, ?_⟩; replace HB := cW HB hb; (try clear hb)) | (go_at_call 114; (with_reducible refine (api_Row_with_115_114.calls (hL := ld) k _ _ l0 t358 _ ?side1 ?side2 A4.out).mono ?_); (case side1 => exact uC <| (Kd.C_below HR0.out HB.out)); (case side2 => exact HC0.out); rintro e w6 ⟨rfl, hb⟩; replace HB := cW HB hb; (try clear hb)))
  go_ret
  exact ⟨re_, uW HB.out⟩
 ·
  replace c3 := Bool.eq_false_iff.mpr c3
  subst c3
  rw [if_neg (show ¬ (false = true) by decide)] at H
  obtain rfl := Option.some.inj H
  go_enter Tryz.func93, Tryz.ntmps93
  go_wp2_with (first | (refine gL (some 4) rfl Tryz.func70 #[.slice A0 l0.length c0] ?_; (with_reducible refine (row_rise.calls k _ _ l0 false _ ?side1 ?side2 A2.out).mono ?_); (case side1 => exact uC <| HR0.out); (case side2 => exact HC0.out); rintro e w7 ⟨rfl, hb⟩; refine ⟨_, rfl, ?_⟩; replace HB := cW HB hb; (try clear hb)))
  go_ret
  exact ⟨re_, uW HB.out⟩
end Go.Proofs.YteckidchnicjeaaGreatDoor.X
