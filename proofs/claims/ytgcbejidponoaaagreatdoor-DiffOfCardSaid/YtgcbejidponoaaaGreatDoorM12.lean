/- Printed by a program of this session's own: what functions of the program compute, and that the machine computes it. No condition of its own. -/
import Derived.Test.YtgcbejidponoaaaGreatDoorM3
import Derived.Test.YtgcbejidponoaaaGreatDoorM11
import Derived.Test.YtgcbejidponoaaaGreatDoorM4
namespace Go.Proofs.YtgcbejidponoaaaGreatDoor.X
open Go.RowKit Go.Proofs.YtgcbejidponoaaaGreatDoorW.PrintWords Go.Proofs.YtgcbejidponoaaaGreatDoorW.PrintLast Go.Proofs.YtgcbejidponoaaaGreatDoorW.PrintMore
attribute [local go_sem] max2_int min2_int max_two min_two max_three min_three max_four min_four
set_option linter.unusedVariables false
set_option linter.unusedSimpArgs false
set_option maxHeartbeats 8000000
set_option maxRecDepth 100000
def ebbtideref09_into.l0 : Nat → List (S48) → Int → Int → ByteArray → Int → Bool → Bool → Option ((List (S48)))
 | 0, _, _, _, _, _, _, _ => none
 | k + 1, x0, x5, x591000, x591001, x591002, x591003, x591004 => if x5 < (x0.length : Int) then (if 0 ≤ x5 then ((ebbtideref08_Before.f ((rd_T48 x0 x5).f0.f0) ((rd_T48 x0 x5).f0.f1) ((rd_T48 x0 x5).f0.f2.f0) ((rd_T48 x0 x5).f0.f2.f1) x591000 x591001 x591002 x591003).bind fun t592 => (if t592 = true then (ebbtideref09_into.l0 k x0 (wrap64 (x5 + 1)) x591000 x591001 x591002 x591003 x591004) else ((some (([] : List (S48)) : List (S48))).bind fun y593 => (if x5 ≤ (x0.length : Int) then ((some (x0.drop (x5 : Int).toNat : List (S48))).bind fun y596 => (if y593.length + y596.length < 2932031007402 then ((some (y593 ++ y596 : List (S48))).bind fun y600 => ((some (x0.take (x5 : Int).toNat : List (S48))).bind fun y603 => (if y603.length < 2932031007402 then ((some (y603 ++ [(⟨(⟨x591000, x591001, (⟨x591002, x591003⟩ : S43)⟩ : S45), x591004⟩ : S48)] : List (S48))).bind fun y606 => (if y606.length + y600.length < 2932031007402 then (some (y606 ++ y600)) else (none))) else (none)))) else (none))) else (none))))) else (none)) else ((some (([] : List (S48)) : List (S48))).bind fun y612 => (if 0 ≤ x5 then (if x5 ≤ (x0.length : Int) then ((some (x0.drop (x5 : Int).toNat : List (S48))).bind fun y615 => (if y612.length + y615.length < 2932031007402 then ((some (y612 ++ y615 : List (S48))).bind fun y619 => ((some (x0.take (x5 : Int).toNat : List (S48))).bind fun y622 => (if y622.length < 2932031007402 then ((some (y622 ++ [(⟨(⟨x591000, x591001, (⟨x591002, x591003⟩ : S43)⟩ : S45), x591004⟩ : S48)] : List (S48))).bind fun y625 => (if y625.length + y619.length < 2932031007402 then (some (y625 ++ y619)) else (none))) else (none)))) else (none))) else (none)) else (none)))
def ebbtideref09_into.f (k : Nat) (l0 : List (S48)) (a1_0 : Int) (a1_1 : ByteArray) (a1_2 : Int) (a1_3 : Bool) (a1_4 : Bool) : Option ((List (S48))) := ebbtideref09_into.l0 k l0 0 a1_0 a1_1 a1_2 a1_3 a1_4
theorem ebbtideref09_into.mono_l : ∀ k, (∀ y0 y1 y2 y3 y4 y5 y6, LeC (ebbtideref09_into.l0 k y0 y1 y2 y3 y4 y5 y6) (ebbtideref09_into.l0 (k + 1) y0 y1 y2 y3 y4 y5 y6))
 | 0 => fun _ _ _ _ _ _ _ => ⟨fun r h => by simp [ebbtideref09_into.l0] at h⟩
 | k + 1 => by have ih0 := ebbtideref09_into.mono_l k; exact fun _ _ _ _ _ _ _ => by unfold ebbtideref09_into.l0; exact lm
theorem ebbtideref09_into.mono : ∀ a0 a1 a2 a3 a4 a5 k, LeO (ebbtideref09_into.f k a0 a1 a2 a3 a4 a5) (ebbtideref09_into.f (k + 1) a0 a1 a2 a3 a4 a5) := by
 intro a0 a1 a2 a3 a4 a5 k
 have ih0 := ebbtideref09_into.mono_l k
 unfold ebbtideref09_into.f
 exact lo
instance ebbtideref09_into.mI {a0 a1 a2 a3 a4 a5 k} : LeC (ebbtideref09_into.f k a0 a1 a2 a3 a4 a5) (ebbtideref09_into.f (k + 1) a0 a1 a2 a3 a4 a5) := ⟨ebbtideref09_into.mono _ _ _ _ _ _ _⟩
def ebbtideref09_into.T2 : Bool × List (List Nat × List Nat) := (true, [([], []), ([], []), ([1], [1]), ([0, 2], [0, 2]), ([3], [3]), ([4], [4]), ([4], [4]), ([5, 6, 4], [4, 5, 6]), ([7, 4], [4, 7]), ([8, 4], [4, 8]), ([4], [4]), ([10, 4], [4, 10]), ([9, 11, 4, 4], [4, 9, 11]), ([4, 12], [4, 12])])
def ebbtideref09_into.B2 : List Nat := [0, 0, 2, 7, 15, 31, 31, 127, 255, 511, 31, 1055, 4095, 8191]
theorem ebbtideref09_into.tab2 : rtab .any (opsOf Tryz.f29 2) = ebbtideref09_into.T2 := by kernel_rfl
theorem ebbtideref09_into.bits2 : waitsOk ebbtideref09_into.T2.2 ebbtideref09_into.B2 = true := by kernel_rfl
def ebbtideref09_into.T5 : Bool × List (List Nat × List Nat) := (true, [([], []), ([], []), ([0, 1], [0, 1]), ([], []), ([3], [3]), ([2, 4], [2, 4]), ([], []), ([5, 6, 5], [5, 6]), ([7, 7, 0, 1, 2, 3, 4, 5, 6, 7], [7])])
def ebbtideref09_into.B5 : List Nat := [0, 0, 3, 0, 8, 31, 0, 127, 255]
theorem ebbtideref09_into.tab5 : rtab .any (opsOf Tryz.f29 5) = ebbtideref09_into.T5 := by kernel_rfl
theorem ebbtideref09_into.bits5 : waitsOk ebbtideref09_into.T5.2 ebbtideref09_into.B5 = true := by kernel_rfl
theorem ebbtideref09_into.calls (k : Nat) (P0_ : Nat → Prop) (u9000_ : Value) (l0 : List (S48)) (a1_0 : Int) (a1_1 : ByteArray) (a1_2 : Int) (a1_3 : Bool) (a1_4 : Bool) (r : List (S48)) (w0 w : World) (hB : Below w0.heap.size w0 w) (ho0 : Kd.R k48 48 w w0.heap.size P0_ u9000_ l0) (h : ebbtideref09_into.f k l0 a1_0 a1_1 a1_2 a1_3 a1_4 = some r) :
 Calls Tryz.prog 29 #[u9000_, .agg #[.int .i64 a1_0, .string a1_1, .int .i64 a1_2, .bool a1_3, .bool a1_4]] w fun e w' => ∃ v0_ : Value, e = .returned (v0_) ∧ Kd.R k48 48 w' w0.heap.size (fun k_ => (P0_ k_ ∨ w.heap.size ≤ k_)) v0_ r ∧ Below w0.heap.size w0 w' ∧ Kept w w' (fun k_ => P0_ k_) := by
 have hu48 := Tryz.underlying48
 have hu45 := Tryz.underlying45
 have HO0 := Aside0.mk (show Kd.R k48 48 w w0.heap.size (fun k_ => (P0_ k_ ∨ w.heap.size ≤ k_)) u9000_ l0 from Kd.R_mono ho0 (fun k_ hk => (.inl hk)))
 have HK := Aside0.mk (Kept.refl w (fun k_ => P0_ k_))
 have HW0 := Aside0.mk hB.size
 have HB := Aside0.mk hB
 clear hB
 have H : (ebbtideref09_into.l0 k l0 0 a1_0 a1_1 a1_2 a1_3 a1_4) = some r := h
 clear h
 have H' := Aside0.mk H
 clear H
 go_enter Tryz.func29, Tryz.ntmps29
 go_wp2_with (first | ((with_reducible refine gate_dst (N := 3) rfl ?_); refine bx (N := 3) #[.int .i64 a1_0, .string a1_1, .int .i64 a1_2, .bool a1_3, .bool a1_4] 48 ?_; intro gb590 hg w3 hbox hb; replace HO0 := Aside0.mk (Kd.R_below (Kd.R_elderB (uR HO0.out) gb590 (Nat.le_of_eq hg.symm)) hb); have BK590 := Aside0.mk (hbox); have GW590 := Aside0.mk ((by rw [hg]; exact (by first | exact HK.out.1 | exact (show Kept w _ (fun k_ => P0_ k_) from by repeat (first | (with_reducible first | exact HK.out | apply Kept.alloc | apply Kept.drewN | apply Kept.drew) | exact HK.out)).1) : w.heap.size ≤ gb590)); replace HK := Aside0.mk (Kept.below (S := (fun k_ => P0_ k_)) (by repeat (first | (with_reducible first | exact HK.out | apply Kept.alloc | apply Kept.drewN | apply Kept.drew) | exact HK.out)) hb); have GE590 := Aside0.mk ((by rw [hg]; exact (below_size (uW HB.out)) : w0.heap.size ≤ gb590)); replace HB := cW HB hb; clear hb hbox hg))
 go_loopg [5] k (fun kq v5 w' => ∃ (x5_1 : Int), v5 = .int .i64 x5_1 ∧ Aside0 (ebbtideref09_into.l0 kq l0 x5_1 a1_0 a1_1 a1_2 a1_3 a1_4 = some r) ∧ Aside0 (kq ≤ k) ∧ Aside0 (Kd.R k48 48 w' w0.heap.size (fun k_ => (P0_ k_ ∨ w.heap.size ≤ k_) ∧ k_ ≠ gb590) u9000_ l0) ∧ Aside0 (w'.heap[gb590]? = some (.cells #[.int .i64 a1_0, .string a1_1, .int .i64 a1_2, .bool a1_3, .bool a1_4] 48 (0, 0))) ∧ Aside0 (Kept w w' (fun k_ => P0_ k_)) ∧ Aside0 (Below w0.heap.size w0 w'))
 case atStart => exact ⟨(0), rs_, H', ⟨Nat.le_refl _⟩, ⟨uR HO0.out⟩, ⟨uB BK590.out⟩, ⟨by repeat (first | (with_reducible first | exact HK.out | apply Kept.alloc | apply Kept.drewN | apply Kept.drew | refine Kept.setCell ?_ (.inr GW590.out) _) | exact HK.out)⟩, ⟨bl⟩⟩
 case round =>
  clear H'
  try clear c2
  try clear p2
  obtain ⟨x5_1, rfl, HA, HK1, HO_0, BK590, HK, HB⟩ := hrel
  cases gk with
  | zero => exact absurd HA.out (by simp [ebbtideref09_into.l0])
  | succ k1 =>
   have H := HA.out
   clear HA
   simp only [ebbtideref09_into.l0] at H
   by_cases c4 : x5_1 < (l0.length : Int)
   ·
    rw [if_pos c4] at H
    have c4b0 : decide (x5_1 < (l0.length : Int)) = true := decide_eq_true c4
    clear c4
    obtain ⟨c5b0, H⟩ := gdd H
    obtain ⟨t592, A6, H⟩ := bs H
    try dsimp only at H
    by_cases c7 : t592 = true
    ·
     subst c7
     rw [if_pos rfl] at H
     have H' := Aside0.mk H
     clear H
     try go_wp2
     have n0_ := Aside0.mk (Kd.R_drew HO_0.out)
     have n1_ := Aside0.mk (blk_drew BK590.out)
     have n2_ := Aside0.mk (Kept.drew HK.out)
     have n3_ := Aside0.mk (below_drew1 HB.out)
     clear HO_0
     clear BK590
     clear HK
     clear HB
     have HO_0 := n0_
     have BK590 := n1_
     have HK := n2_
     have HB := n3_
     clear n0_ n1_ n2_ n3_
     obtain ⟨Ao9, co9, eo9⟩ := Kd.R_slice HO_0.out
     (first | subst eo9 | (injection eo9 with f1_ f2_ f3_; have f4_ := f1_.symm; have f5_ := f3_.symm; clear f1_ f2_ f3_; subst f4_; subst f5_))
     have p591 : 0 ≤ (x5_1 : Int) := od
     have q591 : x5_1 < (l0.length : Int) := od
     obtain ⟨ad591, e591, hx591_0, hx591_1, hx591_2, hx591_3, hx591_4⟩ := at_T48 (Kd.R_reads' HO_0.out).2.2 x5_1 p591 q591
     cases e591
     replace p591 := eq_true p591
     replace q591 := eq_true q591
     refine start_ (n := 14) (S := fun w' => w'.cell? ⟨gb590, 0, none⟩ = some (.int .i64 a1_0) ∧ w'.cell? ⟨gb590, 1, none⟩ = some (.string a1_1) ∧ w'.cell? ⟨gb590, 2, none⟩ = some (.int .i64 a1_2) ∧ w'.cell? ⟨gb590, 3, none⟩ = some (.bool a1_3) ∧ w'.cell? ⟨gb590, 4, none⟩ = some (.bool a1_4) ∧ w'.cell? (ad591.add ((x5_1).toNat * 5)) = some (.int .i64 ((rd_T48 l0 x5_1).f0.f0)) ∧ w'.cell? ⟨(ad591.add ((x5_1).toNat * 5)).block, (ad591.add ((x5_1).toNat * 5)).off + 1, none⟩ = some (.string ((rd_T48 l0 x5_1).f0.f1)) ∧ w'.cell? ⟨(ad591.add ((x5_1).toNat * 5)).block, (ad591.add ((x5_1).toNat * 5)).off + 2, none⟩ = some (.int .i64 ((rd_T48 l0 x5_1).f0.f2.f0)) ∧ w'.cell? ⟨(ad591.add ((x5_1).toNat * 5)).block, (ad591.add ((x5_1).toNat * 5)).off + 3, none⟩ = some (.bool ((rd_T48 l0 x5_1).f0.f2.f1)) ∧ w'.cell? ⟨(ad591.add ((x5_1).toNat * 5)).block, (ad591.add ((x5_1).toNat * 5)).off + 4, none⟩ = some (.bool ((rd_T48 l0 x5_1).f1))) (ds := []) #[false, false, false, false, false, false, false, false, false, false, false, false, false, false] (by kernel_rfl) rfl rfl ⟨(blk_cell BK590.out 0).trans rfl, (blk_cell BK590.out 1).trans rfl, (blk_cell BK590.out 2).trans rfl, (blk_cell BK590.out 3).trans rfl, (blk_cell BK590.out 4).trans rfl, hx591_0, hx591_1, hx591_2, hx591_3, hx591_4⟩ (fun hHeld => ?_); refine with_tabW ebbtideref09_into.tab2 ebbtideref09_into.bits2 (fun HT_ HW_ => ?_)
     generalize wr.drew = w8 at HO_0 BK590 HK HB hx591_0 hx591_1 hx591_2 hx591_3 hx591_4 hHeld ⊢
     refine p1 0 (some 7) ?_
     refine p1 1 (some 8) ?_
     refine p1 2 (some 9) ?_
     refine p1 3 (some 10) ?_
     refine p1 4 (some 11) ?_
     refine p1 5 (some 12) ?_
     refine p1 6 (some 13) ?_
     refine p1 7 (some 14) ?_
     refine p1 8 (some 15) ?_
     refine p1 10 (some 17) ?_
     refine t1 9 (some 16) rfl rfl hHeld (Or.inl ⟨by rfl, by rintro w' ⟨s0, s1, s2, s3, s4, s5, s6, s7, s8, s9⟩; go_simp; with_reducible rfl⟩) ?_
     refine t1 11 (some 18) rfl rfl hHeld (Or.inl ⟨by rfl, by rintro w' ⟨s0, s1, s2, s3, s4, s5, s6, s7, s8, s9⟩; go_simp; with_reducible rfl⟩) ?_
     refine one_ (i := 12) (N := some 19) #[true, true, true, true, true, true, true, true, true, true, true, true, true, false] rfl rfl (one_of HT_.out (by kernel_rfl)) (by decide) (fun K hK => ?_)
     refine goes_ Tryz.func37 (by kernel_rfl) rfl #[.agg #[.int .i64 ((rd_T48 l0 x5_1).f0.f0), .string ((rd_T48 l0 x5_1).f0.f1), .int .i64 ((rd_T48 l0 x5_1).f0.f2.f0), .bool ((rd_T48 l0 x5_1).f0.f2.f1)], .agg #[.int .i64 a1_0, .string a1_1, .int .i64 a1_2, .bool a1_3]] (by rfl) rfl rfl (by (try simp only [List.map_toArray, List.map_cons, List.map_nil]); first | done | rfl | (simp only [List.length_drop, List.length_take]; rfl)) ?_
     with_reducible refine (ebbtideref08_Before.calls ((rd_T48 l0 x5_1).f0.f0) ((rd_T48 l0 x5_1).f0.f1) ((rd_T48 l0 x5_1).f0.f2.f0) ((rd_T48 l0 x5_1).f0.f2.f1) a1_0 a1_1 a1_2 a1_3 true _ A6.out).mono ?_
     rintro e w10 ⟨rfl, hb⟩
     have HS5_ := (hb.cell (World.block_lt_of_cell? _ _ (hHeld.2.2.2.2.2.1))).trans (hHeld.2.2.2.2.2.1)
     have HS6_ := (hb.cell (World.block_lt_of_cell? _ _ (hHeld.2.2.2.2.2.2.1))).trans (hHeld.2.2.2.2.2.2.1)
     have HS7_ := (hb.cell (World.block_lt_of_cell? _ _ (hHeld.2.2.2.2.2.2.2.1))).trans (hHeld.2.2.2.2.2.2.2.1)
     have HS8_ := (hb.cell (World.block_lt_of_cell? _ _ (hHeld.2.2.2.2.2.2.2.2.1))).trans (hHeld.2.2.2.2.2.2.2.2.1)
     have HS9_ := (hb.cell (World.block_lt_of_cell? _ _ (hHeld.2.2.2.2.2.2.2.2.2))).trans (hHeld.2.2.2.2.2.2.2.2.2)
     refine ⟨_, rfl, ?_⟩
     have n0_ := cR HO_0 hb
     have n1_ := cB BK590 hb
     have n2_ := Aside0.mk (Kept.below (S := (fun k_ => P0_ k_)) (by repeat (first | (with_reducible first | exact HK.out | apply Kept.alloc | apply Kept.drewN | apply Kept.drew | refine Kept.setCell ?_ (.inr GW590.out) _) | exact HK.out)) hb)
     have n3_ := Aside0.mk (below_step bl hb)
     clear HO_0
     clear BK590
     clear HK
     clear HB
     have HO_0 := n0_
     have BK590 := n1_
     have HK := n2_
     have HB := n3_
     clear n0_ n1_ n2_ n3_
     (try clear hb)
     (try clear hb2)
     (try clear hk)
     (try clear hi)
     refine hK.out _ _ ⟨(blk_cell BK590.out 0).trans rfl, (blk_cell BK590.out 1).trans rfl, (blk_cell BK590.out 2).trans rfl, (blk_cell BK590.out 3).trans rfl, (blk_cell BK590.out 4).trans rfl, HS5_, HS6_, HS7_, HS8_, HS9_⟩ (fun hHeld => ?_)
     clear hK K
     refine norm_ (a' := ?_) ?_ ?_
     rotate_left
     ·
      show Act.put _ (some 19) _ = _
      simp only [Act.put, List.setIfInBounds_toArray, List.set_cons_zero, List.set_cons_succ, i64_w, i32_w]
      rfl
     refine p1 13 (some 20) ?_
     refine done_ (done_of HT_.out (by kernel_rfl)) ?_
     try go_wp2
     go_roundg k1
     case measure => have := HK1.out; omega
     case rel => exact ⟨(wrap64 (x5_1 + 1)), rs_, H', ⟨by have := HK1.out; omega⟩, ⟨uR HO_0.out⟩, ⟨uB BK590.out⟩, ⟨by repeat (first | (with_reducible first | exact HK.out | apply Kept.alloc | apply Kept.drewN | apply Kept.drew | refine Kept.setCell ?_ (.inr GW590.out) _) | exact HK.out)⟩, ⟨bl⟩⟩
    ·
     replace c7 := Bool.eq_false_iff.mpr c7
     subst c7
     rw [if_neg (show ¬ (false = true) by decide)] at H
     obtain ⟨y593, Ny593, H⟩ := ys H
     try dsimp only at H
     have c11b0 := eq_true (od : 0 ≤ x5_1)
     obtain ⟨c12, H⟩ := gd H
     have c12b0 := eq_true c12
     have c12b1 : decide (x5_1 ≤ (l0.length : Int)) = true := decide_eq_true c12
     clear c12
     obtain ⟨y596, Ny596, H⟩ := ys H
     try dsimp only at H
     obtain ⟨c13, H⟩ := gd H
     have LMc13 := Aside0.mk c13
     clear c13
     obtain ⟨y600, Ny600, H⟩ := ys H
     try dsimp only at H
     have c14b0 := eq_true (od : x5_1 ≤ (l0.length : Int))
     obtain ⟨y603, Ny603, H⟩ := ys H
     try dsimp only at H
     obtain ⟨c15, H⟩ := gd H
     have LMc15 := Aside0.mk c15
     clear c15
     obtain ⟨y606, Ny606, H⟩ := ys H
     try dsimp only at H
     obtain ⟨c16, H⟩ := gd H
     have LMc16 := Aside0.mk c16
     clear c16
     obtain ⟨y609, hy609⟩ : ∃ y_ : List (S48), y_ = (y606 ++ y600) := ⟨_, rfl⟩
     replace H : (some y609) = some r := by first | (rw [hy609]; with_reducible exact H) | (have H2_ := (Option.bind_some _ _).symm.trans H; rw [hy609]; with_reducible exact H2_) | (have H2_ := (Option.bind_some _ _).symm.trans H; with_reducible exact H2_) | with_reducible exact H | (rw [hy609]; exact H) | exact H
     have Ny609 := Aside0.mk hy609
     clear hy609
     obtain rfl := Option.some.inj H
     try go_wp2
     have n0_ := Aside0.mk (Kd.R_drew HO_0.out)
     have n1_ := Aside0.mk (blk_drew BK590.out)
     have n2_ := Aside0.mk (Kept.drew HK.out)
     have n3_ := Aside0.mk (below_drew1 HB.out)
     clear HO_0
     clear BK590
     clear HK
     clear HB
     have HO_0 := n0_
     have BK590 := n1_
     have HK := n2_
     have HB := n3_
     clear n0_ n1_ n2_ n3_
     obtain ⟨Ao18, co18, eo18⟩ := Kd.R_slice HO_0.out
     (first | subst eo18 | (injection eo18 with f1_ f2_ f3_; have f4_ := f1_.symm; have f5_ := f3_.symm; clear f1_ f2_ f3_; subst f4_; subst f5_))
     have p591 : 0 ≤ (x5_1 : Int) := od
     have q591 : x5_1 < (l0.length : Int) := od
     obtain ⟨ad591, e591, hx591_0, hx591_1, hx591_2, hx591_3, hx591_4⟩ := at_T48 (Kd.R_reads' HO_0.out).2.2 x5_1 p591 q591
     cases e591
     replace p591 := eq_true p591
     replace q591 := eq_true q591
     refine start_ (n := 14) (S := fun w' => w'.cell? ⟨gb590, 0, none⟩ = some (.int .i64 a1_0) ∧ w'.cell? ⟨gb590, 1, none⟩ = some (.string a1_1) ∧ w'.cell? ⟨gb590, 2, none⟩ = some (.int .i64 a1_2) ∧ w'.cell? ⟨gb590, 3, none⟩ = some (.bool a1_3) ∧ w'.cell? ⟨gb590, 4, none⟩ = some (.bool a1_4) ∧ w'.cell? (ad591.add ((x5_1).toNat * 5)) = some (.int .i64 ((rd_T48 l0 x5_1).f0.f0)) ∧ w'.cell? ⟨(ad591.add ((x5_1).toNat * 5)).block, (ad591.add ((x5_1).toNat * 5)).off + 1, none⟩ = some (.string ((rd_T48 l0 x5_1).f0.f1)) ∧ w'.cell? ⟨(ad591.add ((x5_1).toNat * 5)).block, (ad591.add ((x5_1).toNat * 5)).off + 2, none⟩ = some (.int .i64 ((rd_T48 l0 x5_1).f0.f2.f0)) ∧ w'.cell? ⟨(ad591.add ((x5_1).toNat * 5)).block, (ad591.add ((x5_1).toNat * 5)).off + 3, none⟩ = some (.bool ((rd_T48 l0 x5_1).f0.f2.f1)) ∧ w'.cell? ⟨(ad591.add ((x5_1).toNat * 5)).block, (ad591.add ((x5_1).toNat * 5)).off + 4, none⟩ = some (.bool ((rd_T48 l0 x5_1).f1))) (ds := []) #[false, false, false, false, false, false, false, false, false, false, false, false, false, false] (by kernel_rfl) rfl rfl ⟨(blk_cell BK590.out 0).trans rfl, (blk_cell BK590.out 1).trans rfl, (blk_cell BK590.out 2).trans rfl, (blk_cell BK590.out 3).trans rfl, (blk_cell BK590.out 4).trans rfl, hx591_0, hx591_1, hx591_2, hx591_3, hx591_4⟩ (fun hHeld => ?_); refine with_tabW ebbtideref09_into.tab2 ebbtideref09_into.bits2 (fun HT_ HW_ => ?_)
     generalize wr.drew = w17 at HO_0 BK590 HK HB hx591_0 hx591_1 hx591_2 hx591_3 hx591_4 hHeld ⊢
     refine p1 0 (some 7) ?_
     refine p1 1 (some 8) ?_
     refine p1 2 (some 9) ?_
     refine p1 3 (some 10) ?_
     refine p1 4 (some 11) ?_
     refine p1 5 (some 12) ?_
     refine p1 6 (some 13) ?_
     refine p1 7 (some 14) ?_
     refine p1 8 (some 15) ?_
     refine p1 10 (some 17) ?_
     refine t1 9 (some 16) rfl rfl hHeld (Or.inl ⟨by rfl, by rintro w' ⟨s0, s1, s2, s3, s4, s5, s6, s7, s8, s9⟩; go_simp; with_reducible rfl⟩) ?_
     refine t1 11 (some 18) rfl rfl hHeld (Or.inl ⟨by rfl, by rintro w' ⟨s0, s1, s2, s3, s4, s5, s6, s7, s8, s9⟩; go_simp; with_reducible rfl⟩) ?_
     refine one_ (i := 12) (N := some 19) #[true, true, true, true, true, true, true, true, true, true, true, true, true, false] rfl rfl (one_of HT_.out (by kernel_rfl)) (by decide) (fun K hK => ?_)
     refine goes_ Tryz.func37 (by kernel_rfl) rfl #[.agg #[.int .i64 ((rd_T48 l0 x5_1).f0.f0), .string ((rd_T48 l0 x5_1).f0.f1), .int .i64 ((rd_T48 l0 x5_1).f0.f2.f0), .bool ((rd_T48 l0 x5_1).f0.f2.f1)], .agg #[.int .i64 a1_0, .string a1_1, .int .i64 a1_2, .bool a1_3]] (by rfl) rfl rfl (by (try simp only [List.map_toArray, List.map_cons, List.map_nil]); first | done | rfl | (simp only [List.length_drop, List.length_take]; rfl)) ?_
     with_reducible refine (ebbtideref08_Before.calls ((rd_T48 l0 x5_1).f0.f0) ((rd_T48 l0 x5_1).f0.f1) ((rd_T48 l0 x5_1).f0.f2.f0) ((rd_T48 l0 x5_1).f0.f2.f1) a1_0 a1_1 a1_2 a1_3 false _ A6.out).mono ?_
     rintro e w19 ⟨rfl, hb⟩
     have HS5_ := (hb.cell (World.block_lt_of_cell? _ _ (hHeld.2.2.2.2.2.1))).trans (hHeld.2.2.2.2.2.1)
     have HS6_ := (hb.cell (World.block_lt_of_cell? _ _ (hHeld.2.2.2.2.2.2.1))).trans (hHeld.2.2.2.2.2.2.1)
     have HS7_ := (hb.cell (World.block_lt_of_cell? _ _ (hHeld.2.2.2.2.2.2.2.1))).trans (hHeld.2.2.2.2.2.2.2.1)
     have HS8_ := (hb.cell (World.block_lt_of_cell? _ _ (hHeld.2.2.2.2.2.2.2.2.1))).trans (hHeld.2.2.2.2.2.2.2.2.1)
     have HS9_ := (hb.cell (World.block_lt_of_cell? _ _ (hHeld.2.2.2.2.2.2.2.2.2))).trans (hHeld.2.2.2.2.2.2.2.2.2)
     refine ⟨_, rfl, ?_⟩
     have n0_ := cR HO_0 hb
     have n1_ := cB BK590 hb
     have n2_ := Aside0.mk (Kept.below (S := (fun k_ => P0_ k_)) (by repeat (first | (with_reducible first | exact HK.out | apply Kept.alloc | apply Kept.drewN | apply Kept.drew | refine Kept.setCell ?_ (.inr GW590.out) _) | exact HK.out)) hb)
     have n3_ := Aside0.mk (below_step bl hb)
     clear HO_0
     clear BK590
     clear HK
     clear HB
     have HO_0 := n0_
     have BK590 := n1_
     have HK := n2_
     have HB := n3_
     clear n0_ n1_ n2_ n3_
     (try clear hb)
     (try clear hb2)
     (try clear hk)
     (try clear hi)
     refine hK.out _ _ ⟨(blk_cell BK590.out 0).trans rfl, (blk_cell BK590.out 1).trans rfl, (blk_cell BK590.out 2).trans rfl, (blk_cell BK590.out 3).trans rfl, (blk_cell BK590.out 4).trans rfl, HS5_, HS6_, HS7_, HS8_, HS9_⟩ (fun hHeld => ?_)
     clear hK K
     refine norm_ (a' := ?_) ?_ ?_
     rotate_left
     ·
      show Act.put _ (some 19) _ = _
      simp only [Act.put, List.setIfInBounds_toArray, List.set_cons_zero, List.set_cons_succ, i64_w, i32_w]
      rfl
     refine p1 13 (some 20) ?_
     refine done_ (done_of HT_.out (by kernel_rfl)) ?_
     try go_wp2_with (first | ((with_reducible refine gate_dst (N := 23) rfl ?_); refine Kd.R_lit k48 _ 48 ?hg (N := 23) ?hd (xs := ([] : List (S48))) (inner := []) (ok := fun _ => True) (okp := fun _ => True) ?hr ?hp (fun _ hk => hk) trivial (Below.refl _ _) (Nat.le_refl _) (by simp) ?_; (case hd => rfl); (case hg => rfl); (case hr => first | (go_simp; done) | (go_simp; rfl)); (case hp => exact (Reps.none _ _)); intro v594 w20 ho21 hb hg_ hnew_; clear hg_ hnew_; (first | rw [← Ny593.out] at ho21 | (simp only [Int.reduceToNat] at ho21; rw [← Ny593.out] at ho21)); have HO595 := Aside0.mk (Kd.R_lower (Kd.R_newB (Kd.R_new' (Kd.R_newM (M := fun k_ => (P0_ k_ ∨ w.heap.size ≤ k_)) ho21 (by first | exact HK.out.1 | exact (show Kept w _ (fun k_ => P0_ k_) from by repeat (first | (with_reducible first | exact HK.out | apply Kept.alloc | apply Kept.drewN | apply Kept.drew | refine Kept.setCell ?_ (.inr GW590.out) _) | exact HK.out)).1) (fun k_ h_ => .inr h_)) (Kd.R_lt (uR HO_0.out))) (g := gb590) (o := .cells #[.int .i64 a1_0, .string a1_1, .int .i64 a1_2, .bool a1_3, .bool a1_4] 48 (0, 0)) (uB BK590.out)) (below_size bl)); replace HO_0 := Aside0.mk (Kd.R_elder' (uR HO_0.out) (Kd.R_base ho21) hb); replace BK590 := cB BK590 hb; replace HK := Aside0.mk (Kept.below (S := (fun k_ => P0_ k_)) (by repeat (first | (with_reducible first | exact HK.out | apply Kept.alloc | apply Kept.drewN | apply Kept.drew | refine Kept.setCell ?_ (.inr GW590.out) _) | exact HK.out)) hb); replace HB := Aside0.mk (below_step bl hb); clear hb ho21; have q22 : (x5_1 : Int) ≤ ((l0.length : Int) : Int) := od; obtain ⟨i022, hi022, _, hsz22, _⟩ := info_parts info48; have hroom22 : l0.length ≤ co18 := (Kd.R_reads' HO_0.out).2.1; have hC22 : Kd.C k48 _ (some ad591) l0.length l0 := (Kd.R_reads' HO_0.out).2.2; have q022 : (0 : Int) ≤ (x5_1 : Int) := od; have hcut22 := cut_from (P := Tryz.prog) 25 48 .i64 Tryz.underlying25 hi022 5 hsz22 (some ad591) l0.length co18 x5_1 q022 q22; have hr22 := Kd.C_drop (m := (x5_1 : Int).toNat) (c := co18) hC22 (by omega) hroom22; obtain ⟨A22, hA22⟩ : ∃ A1, A1 = (if co18 = (x5_1 : Int).toNat then (some ad591) else ((some ad591) : Option Addr).map (·.add ((x5_1 : Int).toNat * 5))) := ⟨_, rfl⟩; obtain ⟨c22, hc22⟩ : ∃ c1, c1 = co18 - (x5_1 : Int).toNat := ⟨_, rfl⟩; have hy22 : y596.length = l0.length - (x5_1 : Int).toNat := (by rw [Ny596.out, List.length_drop] <;> omega); rw [show (l0).drop (x5_1 : Int).toNat = y596 from Ny596.out.symm] at hr22; replace hr22 : Kd.C k48 _ A22 y596.length y596 := (by rw [hA22]; exact hr22); rw [← hy22, ← hA22, ← hc22] at hcut22; have HR599 := Aside0.mk hr22; have HC599 := Aside0.mk (show y596.length ≤ c22 from by rw [hy22, hc22]; exact Nat.sub_le_sub_right hroom22 _); clear hr22 hC22 hroom22 hi022 hsz22 hc22; have KY22 := Aside0.mk hy22; have KA22 := Aside0.mk hA22; clear hy22 hA22; have KL22 := Aside0.mk (show (x5_1 : Int).toNat ≤ l0.length from by omega); replace q22 := eq_true q22) | ((with_reducible refine gate_builtin (b := .append) (xs := #[.tmp 23, .tmp 26]) rfl ?_); at_builtin; refine Kd.R_append_rows k48 (w0 := w0) w0.heap.size rfl (.tmp 23) (.tmp 26) 25 48 (.agg #[(.int .i64 0), (.string ⟨#[]⟩), (.int .i64 0), (.bool false), (.bool false)]) 48 rfl Tryz.underlying25 info48 rfl (by decide) (by omega) v594 y593 y596 _ _ _ (fun k_ => (P0_ k_ ∨ w.heap.size ≤ k_) ∧ some k_ ≠ (.slice (some ad591) l0.length co18 : Value).ownBlock ∧ k_ ≠ gb590) (fun _ => False) rfl rfl ?aO ?aR (fun _ _ h => h) (fun _ h => h.elim) ?aF ?aB ?aS ?aL ?_; (case aR => repeat (first | exact (by repeat (first | (with_reducible exact HR599.out) | (with_reducible refine Kd.C_alloc ?_ _) | (with_reducible refine Kd.C_drewN ?_ _) | (with_reducible refine Kd.C_drew ?_) | exact HR599.out)) | (with_reducible refine Kd.C_alloc ?_ _) | (with_reducible refine Kd.C_drewN ?_ _) | (with_reducible refine Kd.C_drew ?_))); (case aB => exact bl); (case aF => exact (fun k_ hk => ⟨(.inr (Nat.le_trans (by first | exact HK.out.1 | exact (show Kept w _ (fun k_ => P0_ k_) from by repeat (first | (with_reducible first | exact HK.out | apply Kept.alloc | apply Kept.drewN | apply Kept.drew | refine Kept.setCell ?_ (.inr GW590.out) _) | exact HK.out)).1) hk)), Kd.fresh' (Kd.R_lt (uR HO_0.out)) k_ hk, Kd.freshB (g := gb590) (o := .cells #[.int .i64 a1_0, .string a1_1, .int .i64 a1_2, .bool a1_3, .bool a1_4] 48 (0, 0)) (uB BK590.out) k_ hk⟩)); (case aO => exact (by exact uR <| Kd.R_mono HO595.out (fun _ hk => ⟨hk.1.1.1, ⟨hk.1.2, hk.2⟩⟩))); (case aS => exact (below_size bl)); (case aL => have := LMc13.out; omega); intro v601 w23 ho hb hg hat; rw [← Ny600.out] at ho; replace BK590 := Aside0.mk (blk_grown (g := gb590) (o := .cells #[.int .i64 a1_0, .string a1_1, .int .i64 a1_2, .bool a1_3, .bool a1_4] 48 (0, 0)) (uB BK590.out) hg (Kd.R_away HO595.out (fun _ hk => hk.2))); replace HB := Aside0.mk (hb); replace HK := Aside0.mk (Kept.of_grown (S := (fun k_ => P0_ k_)) hg (by repeat (first | (with_reducible first | exact HK.out | apply Kept.alloc | apply Kept.drewN | apply Kept.drew | refine Kept.setCell ?_ (.inr GW590.out) _) | exact HK.out)) (fun k_ e_ => (HO595.out.1 k_ e_).1.1.1)); replace HR599 := Aside0.mk ((show Kd.C k48 w23 A22 y596.length y596 from by rw [Ny596.out, KA22.out]; exact Kd.C_drop (m := (x5_1 : Int).toNat) (c := co18) ((Kd.R_reads' (Kd.R_after (ok := (fun k_ => (P0_ k_ ∨ w.heap.size ≤ k_) ∧ k_ ≠ gb590)) (uR HO_0.out) hg hat)).2.2) KL22.out ((Kd.R_reads' (Kd.R_after (ok := (fun k_ => (P0_ k_ ∨ w.heap.size ≤ k_) ∧ k_ ≠ gb590)) (uR HO_0.out) hg hat)).2.1))); replace HO_0 := Aside0.mk (Kd.R_after (ok := (fun k_ => (P0_ k_ ∨ w.heap.size ≤ k_) ∧ k_ ≠ gb590)) (uR HO_0.out) hg hat); have HO602 := Aside0.mk (ho); clear HO595; clear ho hb hg hat))
     have n0_ := Aside0.mk (Kd.R_drew HO_0.out)
     have n1_ := Aside0.mk (Kd.R_drew HO602.out)
     have n2_ := Aside0.mk (blk_drew BK590.out)
     have n3_ := Aside0.mk (Kd.C_drew HR599.out)
     have n4_ := Aside0.mk (Kept.drew HK.out)
     have n5_ := Aside0.mk (below_drew1 HB.out)
     clear HO_0
     clear HO602
     clear BK590
     clear HR599
     clear HK
     clear HB
     have HO_0 := n0_
     have HO602 := n1_
     have BK590 := n2_
     have HR599 := n3_
     have HK := n4_
     have HB := n5_
     clear n0_ n1_ n2_ n3_ n4_ n5_
     have q25 : (x5_1 : Int) ≤ ((l0.length : Int) : Int) := od
     obtain ⟨i025, hi025, _, hsz25, _⟩ := info_parts info48
     have hcut25 := cut_to (P := Tryz.prog) 25 48 .i64 Tryz.underlying25 hi025 (some ad591) l0.length co18 x5_1 (od) q25 (Kd.R_reads' HO_0.out).2.1
     have hr25 := Kd.R_take (m := (x5_1 : Int).toNat) HO_0.out (by omega)
     have hy25 : y603.length = (x5_1 : Int).toNat := (by rw [Ny603.out, List.length_take]; omega)
     rw [← Ny603.out] at hr25
     rw [← hy25] at hr25 hcut25
     clear hy25 hi025 hsz25 HO_0
     have HO605 := Aside0.mk hr25
     clear hr25
     replace q25 := eq_true q25
     refine start_ (n := 9) (S := fun w' => w'.cell? ⟨gb590, 0, none⟩ = some (.int .i64 a1_0) ∧ w'.cell? ⟨gb590, 1, none⟩ = some (.string a1_1) ∧ w'.cell? ⟨gb590, 2, none⟩ = some (.int .i64 a1_2) ∧ w'.cell? ⟨gb590, 3, none⟩ = some (.bool a1_3) ∧ w'.cell? ⟨gb590, 4, none⟩ = some (.bool a1_4)) (ds := []) #[false, false, false, false, false, false, false, false, false] (by kernel_rfl) rfl rfl ⟨(blk_cell BK590.out 0).trans rfl, (blk_cell BK590.out 1).trans rfl, (blk_cell BK590.out 2).trans rfl, (blk_cell BK590.out 3).trans rfl, (blk_cell BK590.out 4).trans rfl⟩ (fun hHeld => ?_); refine with_tabW ebbtideref09_into.tab5 ebbtideref09_into.bits5 (fun HT_ HW_ => ?_)
     generalize w23.drew = w24 at HO602 BK590 HR599 HK HB HO605 hHeld ⊢
     refine p1 0 (some 28) ?_
     refine p1 1 (some 29) ?_
     refine p1 2 (some 30) ?_
     refine p1 6 (some 34) ?_
     refine t1 3 (some 31) rfl rfl hHeld (Or.inl ⟨by rfl, by rintro w' ⟨s0, s1, s2, s3, s4⟩; go_simp; with_reducible rfl⟩) ?_
     refine one_ (i := 4) (N := some 32) #[true, true, true, true, true, false, true, false, false] rfl rfl (one_of HT_.out (by kernel_rfl)) (by decide) (fun K hK => ?_)
     refine value_ (w1 := ?_) (v := ?_) (by rfl) rfl ?_ ?_
     rotate_left 2
     ·
      go_simp
      constructor
      ·
       rfl
      ·
       rfl
     refine hK.out _ _ ⟨(blk_cell (blk_alloc BK590.out _) 0).trans rfl, (blk_cell (blk_alloc BK590.out _) 1).trans rfl, (blk_cell (blk_alloc BK590.out _) 2).trans rfl, (blk_cell (blk_alloc BK590.out _) 3).trans rfl, (blk_cell (blk_alloc BK590.out _) 4).trans rfl⟩ (fun hHeld => ?_)
     clear hK K
     refine norm_ (a' := ?_) ?_ ?_
     rotate_left
     ·
      show Act.put _ (some 32) _ = _
      simp only [Act.put, List.setIfInBounds_toArray, List.set_cons_zero, List.set_cons_succ, i64_w, i32_w]
      rfl
     refine one_ (i := 5) (N := some 33) #[true, true, true, true, true, true, true, false, false] rfl rfl (one_of HT_.out (by kernel_rfl)) (by decide) (fun K hK => ?_)
     refine Kd.R_append_step k48 (w0 := w0) w0.heap.size (by rfl) (.tmp 30) (.tmp 32) 25 48 (.agg #[(.int .i64 0), (.string ⟨#[]⟩), (.int .i64 0), (.bool false), (.bool false)]) 48 rfl Tryz.underlying25 info48 rfl (by decide) (by omega) (.slice (some ad591) y603.length co18) y603 (⟨(⟨a1_0, a1_1, (⟨a1_2, a1_3⟩ : S43)⟩ : S45), a1_4⟩ : S48) [.int .i64 a1_0, .string a1_1, .int .i64 a1_2, .bool a1_3, .bool a1_4] (fun k_ => (P0_ k_ ∨ w.heap.size ≤ k_) ∧ some k_ ≠ (v601 : Value).ownBlock ∧ k_ ≠ gb590) (fun _ => False) rfl rfl ?aP (fun _ hk => hk.elim) ?aF ?aO ?aB ?aS ?aL ?_
     (case aP => exact k48_mkM _ _ _ (⟨(⟨a1_0, a1_1, (⟨a1_2, a1_3⟩ : S43)⟩ : S45), a1_4⟩ : S48))
     (case aB => exact bl)
     (case aF => exact (fun k_ hk => ⟨(.inr (Nat.le_trans (by first | exact HK.out.1 | exact (show Kept w _ (fun k_ => P0_ k_) from by repeat (first | (with_reducible first | exact HK.out | apply Kept.alloc | apply Kept.drewN | apply Kept.drew | refine Kept.setCell ?_ (.inr GW590.out) _) | exact HK.out)).1) hk)), Kd.fresh' (Kd.R_lt (uR HO602.out)) k_ hk, Kd.freshB (g := gb590) (o := .cells #[.int .i64 a1_0, .string a1_1, .int .i64 a1_2, .bool a1_3, .bool a1_4] 48 (0, 0)) (uB BK590.out) k_ hk⟩))
     (case aO => exact (by exact uR <| Kd.R_mono HO605.out (fun _ hk => ⟨hk.1.1, ⟨hk.2, hk.1.2⟩⟩)))
     (case aS => exact (below_size bl))
     (case aL => have := LMc15.out; omega)
     intro v607 w26 ho hb hg hat
     rw [← Ny606.out] at ho
     have n0_ := Aside0.mk (blk_grown (g := gb590) (o := .cells #[.int .i64 a1_0, .string a1_1, .int .i64 a1_2, .bool a1_3, .bool a1_4] 48 (0, 0)) (uB BK590.out) hg (Kd.R_away HO605.out (fun _ hk => hk.1.2)))
     have n1_ := Aside0.mk (Kd.R_after (ok := (fun k_ => (P0_ k_ ∨ w.heap.size ≤ k_) ∧ k_ ≠ gb590)) (by exact uR <| Kd.R_mono HO602.out (fun _ hk => ⟨⟨hk.1, hk.2.2⟩, hk.2.1⟩)) hg hat)
     have n2_ := Aside0.mk (hb)
     have n3_ := Aside0.mk (Kept.of_grown (S := (fun k_ => P0_ k_)) hg (by repeat (first | (with_reducible first | exact HK.out | apply Kept.alloc | apply Kept.drewN | apply Kept.drew | refine Kept.setCell ?_ (.inr GW590.out) _) | exact HK.out)) (fun k_ e_ => (HO605.out.1 k_ e_).1.1))
     have n4_ := Aside0.mk (ho)
     clear BK590
     clear HO602
     clear HB
     clear HK
     clear HO605
     have BK590 := n0_
     have HO602 := n1_
     have HB := n2_
     have HK := n3_
     have HO608 := n4_
     clear n0_ n1_ n2_ n3_ n4_
     clear ho hb hg hat
     obtain ⟨Ao28, co28, eo28⟩ := Kd.R_slice HO602.out
     (first | subst eo28 | (injection eo28 with f1_ f2_ f3_; have f4_ := f1_.symm; have f5_ := f3_.symm; clear f1_ f2_ f3_; subst f4_; subst f5_))
     refine hK.out _ _ ⟨(blk_cell BK590.out 0).trans rfl, (blk_cell BK590.out 1).trans rfl, (blk_cell BK590.out 2).trans rfl, (blk_cell BK590.out 3).trans rfl, (blk_cell BK590.out 4).trans rfl⟩ (fun hHeld => ?_)
     clear hK K
     refine norm_ (a' := ?_) ?_ ?_
     rotate_left
     ·
      show Act.put _ (some 33) _ = _
      simp only [Act.put, List.setIfInBounds_toArray, List.set_cons_zero, List.set_cons_succ, i64_w, i32_w]
      rfl
     refine one_ (i := 7) (N := some 35) #[true, true, true, true, true, true, true, true, false] rfl rfl (one_of HT_.out (by kernel_rfl)) (by decide) (fun K hK => ?_)
     refine Kd.R_append_rows_step k48 (w0 := w0) w0.heap.size (by rfl) (.tmp 33) (.tmp 34) 25 48 (.agg #[(.int .i64 0), (.string ⟨#[]⟩), (.int .i64 0), (.bool false), (.bool false)]) 48 rfl Tryz.underlying25 info48 rfl (by decide) (by omega) v607 y606 y600 _ _ _ (fun k_ => (P0_ k_ ∨ w.heap.size ≤ k_) ∧ some k_ ≠ (.slice Ao28 y600.length co28 : Value).ownBlock ∧ k_ ≠ gb590) (fun _ => False) rfl rfl ?aO ?aR (fun _ _ h => h) (fun _ h => h.elim) ?aF ?aB ?aS ?aL ?_
     (case aR => exact uC <| (Kd.R_reads' HO602.out).2.2)
     (case aB => exact bl)
     (case aF => exact (fun k_ hk => ⟨(.inr (Nat.le_trans (by first | exact HK.out.1 | exact (show Kept w _ (fun k_ => P0_ k_) from by repeat (first | (with_reducible first | exact HK.out | apply Kept.alloc | apply Kept.drewN | apply Kept.drew | refine Kept.setCell ?_ (.inr GW590.out) _) | exact HK.out)).1) hk)), Kd.fresh' (Kd.R_lt (uR HO602.out)) k_ hk, Kd.freshB (g := gb590) (o := .cells #[.int .i64 a1_0, .string a1_1, .int .i64 a1_2, .bool a1_3, .bool a1_4] 48 (0, 0)) (uB BK590.out) k_ hk⟩))
     (case aO => exact (uR HO608.out))
     (case aS => exact (below_size bl))
     (case aL => have := LMc16.out; omega)
     intro v610 w27 ho hb hg hat
     rw [← Ny609.out] at ho
     have n0_ := Aside0.mk (blk_grown (g := gb590) (o := .cells #[.int .i64 a1_0, .string a1_1, .int .i64 a1_2, .bool a1_3, .bool a1_4] 48 (0, 0)) (uB BK590.out) hg (Kd.R_away HO608.out (fun _ hk => hk.2.2)))
     have n1_ := Aside0.mk (Kd.R_after (ok := (fun k_ => (P0_ k_ ∨ w.heap.size ≤ k_) ∧ k_ ≠ gb590)) (uR HO602.out) hg hat)
     have n2_ := Aside0.mk (hb)
     have n3_ := Aside0.mk (Kept.of_grown (S := (fun k_ => P0_ k_)) hg (by repeat (first | (with_reducible first | exact HK.out | apply Kept.alloc | apply Kept.drewN | apply Kept.drew | refine Kept.setCell ?_ (.inr GW590.out) _) | exact HK.out)) (fun k_ e_ => (HO608.out.1 k_ e_).1))
     have n4_ := Aside0.mk (ho)
     clear BK590
     clear HO602
     clear HB
     clear HK
     clear HO608
     have BK590 := n0_
     have HO602 := n1_
     have HB := n2_
     have HK := n3_
     have HO611 := n4_
     clear n0_ n1_ n2_ n3_ n4_
     clear ho hb hg hat
     refine hK.out _ _ ⟨(blk_cell BK590.out 0).trans rfl, (blk_cell BK590.out 1).trans rfl, (blk_cell BK590.out 2).trans rfl, (blk_cell BK590.out 3).trans rfl, (blk_cell BK590.out 4).trans rfl⟩ (fun hHeld => ?_)
     clear hK K
     refine norm_ (a' := ?_) ?_ ?_
     rotate_left
     ·
      show Act.put _ (some 35) _ = _
      simp only [Act.put, List.setIfInBounds_toArray, List.set_cons_zero, List.set_cons_succ, i64_w, i32_w]
      rfl
     refine p1 8 (some 4) ?_
     refine done_ (done_of HT_.out (by kernel_rfl)) ?_
     try go_wp2
     go_ret
     exact ⟨_, re_, by exact uR <| Kd.R_mono HO611.out (fun _ hk => hk.1), bl, by repeat (first | (with_reducible first | exact HK.out | apply Kept.alloc | apply Kept.drewN | apply Kept.drew | refine Kept.setCell ?_ (.inr GW590.out) _) | exact HK.out)⟩
   ·
    rw [if_neg c4] at H
    have c4b0 : decide (x5_1 < (l0.length : Int)) = false := decide_eq_false c4
    clear c4
    obtain ⟨y612, Ny612, H⟩ := ys H
    try dsimp only at H
    by_cases c29 : 0 ≤ x5_1
    ·
     rw [if_pos c29] at H
     have c29b0 := eq_true c29
     have c29b1 : decide (0 ≤ x5_1) = true := decide_eq_true c29
     clear c29
     obtain ⟨c30, H⟩ := gd H
     have c30b0 := eq_true c30
     have c30b1 : decide (x5_1 ≤ (l0.length : Int)) = true := decide_eq_true c30
     clear c30
     obtain ⟨y615, Ny615, H⟩ := ys H
     try dsimp only at H
     obtain ⟨c31, H⟩ := gd H
     have LMc31 := Aside0.mk c31
     clear c31
     obtain ⟨y619, Ny619, H⟩ := ys H
     try dsimp only at H
     have c32b0 := eq_true (od : x5_1 ≤ (l0.length : Int))
     obtain ⟨y622, Ny622, H⟩ := ys H
     try dsimp only at H
     obtain ⟨c33, H⟩ := gd H
     have LMc33 := Aside0.mk c33
     clear c33
     obtain ⟨y625, Ny625, H⟩ := ys H
     try dsimp only at H
     obtain ⟨c34, H⟩ := gd H
     have LMc34 := Aside0.mk c34
     clear c34
     obtain ⟨y628, hy628⟩ : ∃ y_ : List (S48), y_ = (y625 ++ y619) := ⟨_, rfl⟩
     replace H : (some y628) = some r := by first | (rw [hy628]; with_reducible exact H) | (have H2_ := (Option.bind_some _ _).symm.trans H; rw [hy628]; with_reducible exact H2_) | (have H2_ := (Option.bind_some _ _).symm.trans H; with_reducible exact H2_) | with_reducible exact H | (rw [hy628]; exact H) | exact H
     have Ny628 := Aside0.mk hy628
     clear hy628
     obtain rfl := Option.some.inj H
     try go_wp2
     have n0_ := Aside0.mk (Kd.R_drew HO_0.out)
     have n1_ := Aside0.mk (blk_drew BK590.out)
     have n2_ := Aside0.mk (Kept.drew HK.out)
     have n3_ := Aside0.mk (below_drew1 HB.out)
     clear HO_0
     clear BK590
     clear HK
     clear HB
     have HO_0 := n0_
     have BK590 := n1_
     have HK := n2_
     have HB := n3_
     clear n0_ n1_ n2_ n3_
     obtain ⟨Ao36, co36, eo36⟩ := Kd.R_slice HO_0.out
     (first | subst eo36 | (injection eo36 with f1_ f2_ f3_; have f4_ := f1_.symm; have f5_ := f3_.symm; clear f1_ f2_ f3_; subst f4_; subst f5_))
     refine start_ (n := 14) (S := fun w' => True) (ds := []) #[false, false, false, false, false, false, false, false, false, false, false, false, false, false] (by kernel_rfl) rfl rfl trivial (fun hHeld => ?_); refine with_tabW ebbtideref09_into.tab2 ebbtideref09_into.bits2 (fun HT_ HW_ => ?_)
     generalize wr.drew = w35 at HO_0 BK590 HK HB hHeld ⊢
     refine p1 0 (some 7) ?_
     refine p1 1 (some 8) ?_
     refine p1 2 (some 9) ?_
     refine p1 3 (some 10) ?_
     refine p1 4 (some 11) ?_
     refine p2 5 (some 12) ?_
     refine p2 6 (some 13) ?_
     refine p2 7 (some 14) ?_
     refine p2 8 (some 15) ?_
     refine p2 9 (some 16) ?_
     refine p2 10 (some 17) ?_
     refine p2 11 (some 18) ?_
     refine p2 12 (some 19) ?_
     refine p1 13 (some 20) ?_
     refine done_ (done_of HT_.out (by kernel_rfl)) ?_
     try go_wp2_with (first | ((with_reducible refine gate_dst (N := 23) rfl ?_); refine Kd.R_lit k48 _ 48 ?hg (N := 23) ?hd (xs := ([] : List (S48))) (inner := []) (ok := fun _ => True) (okp := fun _ => True) ?hr ?hp (fun _ hk => hk) trivial (Below.refl _ _) (Nat.le_refl _) (by simp) ?_; (case hd => rfl); (case hg => rfl); (case hr => first | (go_simp; done) | (go_simp; rfl)); (case hp => exact (Reps.none _ _)); intro v613 w37 ho38 hb hg_ hnew_; clear hg_ hnew_; (first | rw [← Ny612.out] at ho38 | (simp only [Int.reduceToNat] at ho38; rw [← Ny612.out] at ho38)); have HO614 := Aside0.mk (Kd.R_lower (Kd.R_newB (Kd.R_new' (Kd.R_newM (M := fun k_ => (P0_ k_ ∨ w.heap.size ≤ k_)) ho38 (by first | exact HK.out.1 | exact (show Kept w _ (fun k_ => P0_ k_) from by repeat (first | (with_reducible first | exact HK.out | apply Kept.alloc | apply Kept.drewN | apply Kept.drew | refine Kept.setCell ?_ (.inr GW590.out) _) | exact HK.out)).1) (fun k_ h_ => .inr h_)) (Kd.R_lt (uR HO_0.out))) (g := gb590) (o := .cells #[.int .i64 a1_0, .string a1_1, .int .i64 a1_2, .bool a1_3, .bool a1_4] 48 (0, 0)) (uB BK590.out)) (below_size bl)); replace HO_0 := Aside0.mk (Kd.R_elder' (uR HO_0.out) (Kd.R_base ho38) hb); replace BK590 := cB BK590 hb; replace HK := Aside0.mk (Kept.below (S := (fun k_ => P0_ k_)) (by repeat (first | (with_reducible first | exact HK.out | apply Kept.alloc | apply Kept.drewN | apply Kept.drew | refine Kept.setCell ?_ (.inr GW590.out) _) | exact HK.out)) hb); replace HB := Aside0.mk (below_step bl hb); clear hb ho38; have q39 : (x5_1 : Int) ≤ ((l0.length : Int) : Int) := od; obtain ⟨i039, hi039, _, hsz39, _⟩ := info_parts info48; have hroom39 : l0.length ≤ co36 := (Kd.R_reads' HO_0.out).2.1; have hC39 : Kd.C k48 _ Ao36 l0.length l0 := (Kd.R_reads' HO_0.out).2.2; have q039 : (0 : Int) ≤ (x5_1 : Int) := od; have hcut39 := cut_from (P := Tryz.prog) 25 48 .i64 Tryz.underlying25 hi039 5 hsz39 Ao36 l0.length co36 x5_1 q039 q39; have hr39 := Kd.C_drop (m := (x5_1 : Int).toNat) (c := co36) hC39 (by omega) hroom39; obtain ⟨A39, hA39⟩ : ∃ A1, A1 = (if co36 = (x5_1 : Int).toNat then Ao36 else (Ao36 : Option Addr).map (·.add ((x5_1 : Int).toNat * 5))) := ⟨_, rfl⟩; obtain ⟨c39, hc39⟩ : ∃ c1, c1 = co36 - (x5_1 : Int).toNat := ⟨_, rfl⟩; have hy39 : y615.length = l0.length - (x5_1 : Int).toNat := (by rw [Ny615.out, List.length_drop] <;> omega); rw [show (l0).drop (x5_1 : Int).toNat = y615 from Ny615.out.symm] at hr39; replace hr39 : Kd.C k48 _ A39 y615.length y615 := (by rw [hA39]; exact hr39); rw [← hy39, ← hA39, ← hc39] at hcut39; have HR618 := Aside0.mk hr39; have HC618 := Aside0.mk (show y615.length ≤ c39 from by rw [hy39, hc39]; exact Nat.sub_le_sub_right hroom39 _); clear hr39 hC39 hroom39 hi039 hsz39 hc39; have KY39 := Aside0.mk hy39; have KA39 := Aside0.mk hA39; clear hy39 hA39; have KL39 := Aside0.mk (show (x5_1 : Int).toNat ≤ l0.length from by omega); replace q39 := eq_true q39) | ((with_reducible refine gate_builtin (b := .append) (xs := #[.tmp 23, .tmp 26]) rfl ?_); at_builtin; refine Kd.R_append_rows k48 (w0 := w0) w0.heap.size rfl (.tmp 23) (.tmp 26) 25 48 (.agg #[(.int .i64 0), (.string ⟨#[]⟩), (.int .i64 0), (.bool false), (.bool false)]) 48 rfl Tryz.underlying25 info48 rfl (by decide) (by omega) v613 y612 y615 _ _ _ (fun k_ => (P0_ k_ ∨ w.heap.size ≤ k_) ∧ some k_ ≠ (.slice Ao36 l0.length co36 : Value).ownBlock ∧ k_ ≠ gb590) (fun _ => False) rfl rfl ?aO ?aR (fun _ _ h => h) (fun _ h => h.elim) ?aF ?aB ?aS ?aL ?_; (case aR => repeat (first | exact (by repeat (first | (with_reducible exact HR618.out) | (with_reducible refine Kd.C_alloc ?_ _) | (with_reducible refine Kd.C_drewN ?_ _) | (with_reducible refine Kd.C_drew ?_) | exact HR618.out)) | (with_reducible refine Kd.C_alloc ?_ _) | (with_reducible refine Kd.C_drewN ?_ _) | (with_reducible refine Kd.C_drew ?_))); (case aB => exact bl); (case aF => exact (fun k_ hk => ⟨(.inr (Nat.le_trans (by first | exact HK.out.1 | exact (show Kept w _ (fun k_ => P0_ k_) from by repeat (first | (with_reducible first | exact HK.out | apply Kept.alloc | apply Kept.drewN | apply Kept.drew | refine Kept.setCell ?_ (.inr GW590.out) _) | exact HK.out)).1) hk)), Kd.fresh' (Kd.R_lt (uR HO_0.out)) k_ hk, Kd.freshB (g := gb590) (o := .cells #[.int .i64 a1_0, .string a1_1, .int .i64 a1_2, .bool a1_3, .bool a1_4] 48 (0, 0)) (uB BK590.out) k_ hk⟩)); (case aO => exact (by exact uR <| Kd.R_mono HO614.out (fun _ hk => ⟨hk.1.1.1, ⟨hk.1.2, hk.2⟩⟩))); (case aS => exact (below_size bl)); (case aL => have := LMc31.out; omega); intro v620 w40 ho hb hg hat; rw [← Ny619.out] at ho; replace BK590 := Aside0.mk (blk_grown (g := gb590) (o := .cells #[.int .i64 a1_0, .string a1_1, .int .i64 a1_2, .bool a1_3, .bool a1_4] 48 (0, 0)) (uB BK590.out) hg (Kd.R_away HO614.out (fun _ hk => hk.2))); replace HB := Aside0.mk (hb); replace HK := Aside0.mk (Kept.of_grown (S := (fun k_ => P0_ k_)) hg (by repeat (first | (with_reducible first | exact HK.out | apply Kept.alloc | apply Kept.drewN | apply Kept.drew | refine Kept.setCell ?_ (.inr GW590.out) _) | exact HK.out)) (fun k_ e_ => (HO614.out.1 k_ e_).1.1.1)); replace HR618 := Aside0.mk ((show Kd.C k48 w40 A39 y615.length y615 from by rw [Ny615.out, KA39.out]; exact Kd.C_drop (m := (x5_1 : Int).toNat) (c := co36) ((Kd.R_reads' (Kd.R_after (ok := (fun k_ => (P0_ k_ ∨ w.heap.size ≤ k_) ∧ k_ ≠ gb590)) (uR HO_0.out) hg hat)).2.2) KL39.out ((Kd.R_reads' (Kd.R_after (ok := (fun k_ => (P0_ k_ ∨ w.heap.size ≤ k_) ∧ k_ ≠ gb590)) (uR HO_0.out) hg hat)).2.1))); replace HO_0 := Aside0.mk (Kd.R_after (ok := (fun k_ => (P0_ k_ ∨ w.heap.size ≤ k_) ∧ k_ ≠ gb590)) (uR HO_0.out) hg hat); have HO621 := Aside0.mk (ho); clear HO614; clear ho hb hg hat))
     have n0_ := Aside0.mk (Kd.R_drew HO_0.out)
     have n1_ := Aside0.mk (Kd.R_drew HO621.out)
     have n2_ := Aside0.mk (blk_drew BK590.out)
     have n3_ := Aside0.mk (Kd.C_drew HR618.out)
     have n4_ := Aside0.mk (Kept.drew HK.out)
     have n5_ := Aside0.mk (below_drew1 HB.out)
     clear HO_0
     clear HO621
     clear BK590
     clear HR618
     clear HK
     clear HB
     have HO_0 := n0_
     have HO621 := n1_
     have BK590 := n2_
     have HR618 := n3_
     have HK := n4_
     have HB := n5_
     clear n0_ n1_ n2_ n3_ n4_ n5_
     have q42 : (x5_1 : Int) ≤ ((l0.length : Int) : Int) := od
     obtain ⟨i042, hi042, _, hsz42, _⟩ := info_parts info48
     have hcut42 := cut_to (P := Tryz.prog) 25 48 .i64 Tryz.underlying25 hi042 Ao36 l0.length co36 x5_1 (od) q42 (Kd.R_reads' HO_0.out).2.1
     have hr42 := Kd.R_take (m := (x5_1 : Int).toNat) HO_0.out (by omega)
     have hy42 : y622.length = (x5_1 : Int).toNat := (by rw [Ny622.out, List.length_take]; omega)
     rw [← Ny622.out] at hr42
     rw [← hy42] at hr42 hcut42
     clear hy42 hi042 hsz42 HO_0
     have HO624 := Aside0.mk hr42
     clear hr42
     replace q42 := eq_true q42
     refine start_ (n := 9) (S := fun w' => w'.cell? ⟨gb590, 0, none⟩ = some (.int .i64 a1_0) ∧ w'.cell? ⟨gb590, 1, none⟩ = some (.string a1_1) ∧ w'.cell? ⟨gb590, 2, none⟩ = some (.int .i64 a1_2) ∧ w'.cell? ⟨gb590, 3, none⟩ = some (.bool a1_3) ∧ w'.cell? ⟨gb590, 4, none⟩ = some (.bool a1_4)) (ds := []) #[false, false, false, false, false, false, false, false, false] (by kernel_rfl) rfl rfl ⟨(blk_cell BK590.out 0).trans rfl, (blk_cell BK590.out 1).trans rfl, (blk_cell BK590.out 2).trans rfl, (blk_cell BK590.out 3).trans rfl, (blk_cell BK590.out 4).trans rfl⟩ (fun hHeld => ?_); refine with_tabW ebbtideref09_into.tab5 ebbtideref09_into.bits5 (fun HT_ HW_ => ?_)
     generalize w40.drew = w41 at HO621 BK590 HR618 HK HB HO624 hHeld ⊢
     refine p1 0 (some 28) ?_
     refine p1 1 (some 29) ?_
     refine p1 2 (some 30) ?_
     refine p1 6 (some 34) ?_
     refine t1 3 (some 31) rfl rfl hHeld (Or.inl ⟨by rfl, by rintro w' ⟨s0, s1, s2, s3, s4⟩; go_simp; with_reducible rfl⟩) ?_
     refine one_ (i := 4) (N := some 32) #[true, true, true, true, true, false, true, false, false] rfl rfl (one_of HT_.out (by kernel_rfl)) (by decide) (fun K hK => ?_)
     refine value_ (w1 := ?_) (v := ?_) (by rfl) rfl ?_ ?_
     rotate_left 2
     ·
      go_simp
      constructor
      ·
       rfl
      ·
       rfl
     refine hK.out _ _ ⟨(blk_cell (blk_alloc BK590.out _) 0).trans rfl, (blk_cell (blk_alloc BK590.out _) 1).trans rfl, (blk_cell (blk_alloc BK590.out _) 2).trans rfl, (blk_cell (blk_alloc BK590.out _) 3).trans rfl, (blk_cell (blk_alloc BK590.out _) 4).trans rfl⟩ (fun hHeld => ?_)
     clear hK K
     refine norm_ (a' := ?_) ?_ ?_
     rotate_left
     ·
      show Act.put _ (some 32) _ = _
      simp only [Act.put, List.setIfInBounds_toArray, List.set_cons_zero, List.set_cons_succ, i64_w, i32_w]
      rfl
     refine one_ (i := 5) (N := some 33) #[true, true, true, true, true, true, true, false, false] rfl rfl (one_of HT_.out (by kernel_rfl)) (by decide) (fun K hK => ?_)
     refine Kd.R_append_step k48 (w0 := w0) w0.heap.size (by rfl) (.tmp 30) (.tmp 32) 25 48 (.agg #[(.int .i64 0), (.string ⟨#[]⟩), (.int .i64 0), (.bool false), (.bool false)]) 48 rfl Tryz.underlying25 info48 rfl (by decide) (by omega) (.slice Ao36 y622.length co36) y622 (⟨(⟨a1_0, a1_1, (⟨a1_2, a1_3⟩ : S43)⟩ : S45), a1_4⟩ : S48) [.int .i64 a1_0, .string a1_1, .int .i64 a1_2, .bool a1_3, .bool a1_4] (fun k_ => (P0_ k_ ∨ w.heap.size ≤ k_) ∧ some k_ ≠ (v620 : Value).ownBlock ∧ k_ ≠ gb590) (fun _ => False) rfl rfl ?aP (fun _ hk => hk.elim) ?aF ?aO ?aB ?aS ?aL ?_
     (case aP => exact k48_mkM _ _ _ (⟨(⟨a1_0, a1_1, (⟨a1_2, a1_3⟩ : S43)⟩ : S45), a1_4⟩ : S48))
     (case aB => exact bl)
     (case aF => exact (fun k_ hk => ⟨(.inr (Nat.le_trans (by first | exact HK.out.1 | exact (show Kept w _ (fun k_ => P0_ k_) from by repeat (first | (with_reducible first | exact HK.out | apply Kept.alloc | apply Kept.drewN | apply Kept.drew | refine Kept.setCell ?_ (.inr GW590.out) _) | exact HK.out)).1) hk)), Kd.fresh' (Kd.R_lt (uR HO621.out)) k_ hk, Kd.freshB (g := gb590) (o := .cells #[.int .i64 a1_0, .string a1_1, .int .i64 a1_2, .bool a1_3, .bool a1_4] 48 (0, 0)) (uB BK590.out) k_ hk⟩))
     (case aO => exact (by exact uR <| Kd.R_mono HO624.out (fun _ hk => ⟨hk.1.1, ⟨hk.2, hk.1.2⟩⟩)))
     (case aS => exact (below_size bl))
     (case aL => have := LMc33.out; omega)
     intro v626 w43 ho hb hg hat
     rw [← Ny625.out] at ho
     have n0_ := Aside0.mk (blk_grown (g := gb590) (o := .cells #[.int .i64 a1_0, .string a1_1, .int .i64 a1_2, .bool a1_3, .bool a1_4] 48 (0, 0)) (uB BK590.out) hg (Kd.R_away HO624.out (fun _ hk => hk.1.2)))
     have n1_ := Aside0.mk (Kd.R_after (ok := (fun k_ => (P0_ k_ ∨ w.heap.size ≤ k_) ∧ k_ ≠ gb590)) (by exact uR <| Kd.R_mono HO621.out (fun _ hk => ⟨⟨hk.1, hk.2.2⟩, (by have h_ := hk.2.1; first | exact h_ | (cases Ao36 <;> exact h_))⟩)) hg hat)
     have n2_ := Aside0.mk (hb)
     have n3_ := Aside0.mk (Kept.of_grown (S := (fun k_ => P0_ k_)) hg (by repeat (first | (with_reducible first | exact HK.out | apply Kept.alloc | apply Kept.drewN | apply Kept.drew | refine Kept.setCell ?_ (.inr GW590.out) _) | exact HK.out)) (fun k_ e_ => (HO624.out.1 k_ e_).1.1))
     have n4_ := Aside0.mk (ho)
     clear BK590
     clear HO621
     clear HB
     clear HK
     clear HO624
     have BK590 := n0_
     have HO621 := n1_
     have HB := n2_
     have HK := n3_
     have HO627 := n4_
     clear n0_ n1_ n2_ n3_ n4_
     clear ho hb hg hat
     obtain ⟨Ao45, co45, eo45⟩ := Kd.R_slice HO621.out
     (first | subst eo45 | (injection eo45 with f1_ f2_ f3_; have f4_ := f1_.symm; have f5_ := f3_.symm; clear f1_ f2_ f3_; subst f4_; subst f5_))
     refine hK.out _ _ ⟨(blk_cell BK590.out 0).trans rfl, (blk_cell BK590.out 1).trans rfl, (blk_cell BK590.out 2).trans rfl, (blk_cell BK590.out 3).trans rfl, (blk_cell BK590.out 4).trans rfl⟩ (fun hHeld => ?_)
     clear hK K
     refine norm_ (a' := ?_) ?_ ?_
     rotate_left
     ·
      show Act.put _ (some 33) _ = _
      simp only [Act.put, List.setIfInBounds_toArray, List.set_cons_zero, List.set_cons_succ, i64_w, i32_w]
      rfl
     refine one_ (i := 7) (N := some 35) #[true, true, true, true, true, true, true, true, false] rfl rfl (one_of HT_.out (by kernel_rfl)) (by decide) (fun K hK => ?_)
     refine Kd.R_append_rows_step k48 (w0 := w0) w0.heap.size (by rfl) (.tmp 33) (.tmp 34) 25 48 (.agg #[(.int .i64 0), (.string ⟨#[]⟩), (.int .i64 0), (.bool false), (.bool false)]) 48 rfl Tryz.underlying25 info48 rfl (by decide) (by omega) v626 y625 y619 _ _ _ (fun k_ => (P0_ k_ ∨ w.heap.size ≤ k_) ∧ some k_ ≠ (.slice Ao45 y619.length co45 : Value).ownBlock ∧ k_ ≠ gb590) (fun _ => False) rfl rfl ?aO ?aR (fun _ _ h => h) (fun _ h => h.elim) ?aF ?aB ?aS ?aL ?_
     (case aR => exact uC <| (Kd.R_reads' HO621.out).2.2)
     (case aB => exact bl)
     (case aF => exact (fun k_ hk => ⟨(.inr (Nat.le_trans (by first | exact HK.out.1 | exact (show Kept w _ (fun k_ => P0_ k_) from by repeat (first | (with_reducible first | exact HK.out | apply Kept.alloc | apply Kept.drewN | apply Kept.drew | refine Kept.setCell ?_ (.inr GW590.out) _) | exact HK.out)).1) hk)), Kd.fresh' (Kd.R_lt (uR HO621.out)) k_ hk, Kd.freshB (g := gb590) (o := .cells #[.int .i64 a1_0, .string a1_1, .int .i64 a1_2, .bool a1_3, .bool a1_4] 48 (0, 0)) (uB BK590.out) k_ hk⟩))
     (case aO => exact (uR HO627.out))
     (case aS => exact (below_size bl))
     (case aL => have := LMc34.out; omega)
     intro v629 w44 ho hb hg hat
     rw [← Ny628.out] at ho
     have n0_ := Aside0.mk (blk_grown (g := gb590) (o := .cells #[.int .i64 a1_0, .string a1_1, .int .i64 a1_2, .bool a1_3, .bool a1_4] 48 (0, 0)) (uB BK590.out) hg (Kd.R_away HO627.out (fun _ hk => hk.2.2)))
     have n1_ := Aside0.mk (Kd.R_after (ok := (fun k_ => (P0_ k_ ∨ w.heap.size ≤ k_) ∧ k_ ≠ gb590)) (uR HO621.out) hg hat)
     have n2_ := Aside0.mk (hb)
     have n3_ := Aside0.mk (Kept.of_grown (S := (fun k_ => P0_ k_)) hg (by repeat (first | (with_reducible first | exact HK.out | apply Kept.alloc | apply Kept.drewN | apply Kept.drew | refine Kept.setCell ?_ (.inr GW590.out) _) | exact HK.out)) (fun k_ e_ => (HO627.out.1 k_ e_).1))
     have n4_ := Aside0.mk (ho)
     clear BK590
     clear HO621
     clear HB
     clear HK
     clear HO627
     have BK590 := n0_
     have HO621 := n1_
     have HB := n2_
     have HK := n3_
     have HO630 := n4_
     clear n0_ n1_ n2_ n3_ n4_
     clear ho hb hg hat
     refine hK.out _ _ ⟨(blk_cell BK590.out 0).trans rfl, (blk_cell BK590.out 1).trans rfl, (blk_cell BK590.out 2).trans rfl, (blk_cell BK590.out 3).trans rfl, (blk_cell BK590.out 4).trans rfl⟩ (fun hHeld => ?_)
     clear hK K
     refine norm_ (a' := ?_) ?_ ?_
     rotate_left
     ·
      show Act.put _ (some 35) _ = _
      simp only [Act.put, List.setIfInBounds_toArray, List.set_cons_zero, List.set_cons_succ, i64_w, i32_w]
      rfl
     refine p1 8 (some 4) ?_
     refine done_ (done_of HT_.out (by kernel_rfl)) ?_
     try go_wp2
     go_ret
     exact ⟨_, re_, by exact uR <| Kd.R_mono HO630.out (fun _ hk => hk.1), bl, by repeat (first | (with_reducible first | exact HK.out | apply Kept.alloc | apply Kept.drewN | apply Kept.drew | refine Kept.setCell ?_ (.inr GW590.out) _) | exact HK.out)⟩
    ·
     rw [if_neg c29] at H
     exact absurd H (by simp)
attribute [local go_sem high] eqA43
mutual
def ebbtideref09_Of.j0 : Nat → List (S45) → List (S45) → Bool → Option ((List (S48)) × Int)
 | 0, _, _, _ => none
 | k + 1, x0, x1, x17 => if x17 = true then (some (([] : List (S48)), 9)) else (ebbtideref09_Of.l0 k x0 x1 ([] : List (S48)) 0)
def ebbtideref09_Of.l0 : Nat → List (S45) → List (S45) → List (S48) → Int → Option ((List (S48)) × Int)
 | 0, _, _, _, _ => none
 | k + 1, x0, x1, x6, x7 => if x7 < (x0.length : Int) then (if 0 ≤ x7 then ((ebbtideref09_find.f k x1 ((rd_T45 x0 x7).f0) ((rd_T45 x0 x7).f1) ((rd_T45 x0 x7).f2.f0) ((rd_T45 x0 x7).f2.f1)).bind fun t634 => (if t634 < 0 then ((ebbtideref09_into.f k x6 ((rd_T45 x0 x7).f0) ((rd_T45 x0 x7).f1) 0 false true).bind fun t637 => (ebbtideref09_Of.l0 k x0 x1 t637 (wrap64 (x7 + 1)))) else (ebbtideref09_Of.l0 k x0 x1 x6 (wrap64 (x7 + 1))))) else (none)) else (ebbtideref09_Of.l1 k x0 x1 x6 0)
def ebbtideref09_Of.l1 : Nat → List (S45) → List (S45) → List (S48) → Int → Option ((List (S48)) × Int)
 | 0, _, _, _, _ => none
 | k + 1, x0, x1, x6, x8 => if x8 < (x1.length : Int) then (if 0 ≤ x8 then ((ebbtideref09_find.f k x0 ((rd_T45 x1 x8).f0) ((rd_T45 x1 x8).f1) ((rd_T45 x1 x8).f2.f0) ((rd_T45 x1 x8).f2.f1)).bind fun t641 => (if t641 < 0 then ((ebbtideref09_into.f k x6 ((rd_T45 x1 x8).f0) ((rd_T45 x1 x8).f1) ((rd_T45 x1 x8).f2.f0) ((rd_T45 x1 x8).f2.f1) false).bind fun t643 => (ebbtideref09_Of.l1 k x0 x1 t643 (wrap64 (x8 + 1)))) else (if 0 ≤ t641 then (if t641 < (x0.length : Int) then (if (!(((rd_T45 x0 t641).f2.f0) == ((rd_T45 x1 x8).f2.f0)) || (!(((rd_T45 x0 t641).f2.f1) == ((rd_T45 x1 x8).f2.f1)))) = true then ((ebbtideref09_into.f k x6 ((rd_T45 x1 x8).f0) ((rd_T45 x1 x8).f1) ((rd_T45 x1 x8).f2.f0) ((rd_T45 x1 x8).f2.f1) false).bind fun t649 => (ebbtideref09_Of.l1 k x0 x1 t649 (wrap64 (x8 + 1)))) else (ebbtideref09_Of.l1 k x0 x1 x6 (wrap64 (x8 + 1)))) else (none)) else (none)))) else (none)) else (some (x6, 0))
end
def ebbtideref09_Of.f (k : Nat) (l0 : List (S45)) (l1 : List (S45)) : Option ((List (S48)) × Int) := (ebbtideref08_Right.f k l0).bind fun t631 => (if t631 = true then ((ebbtideref08_Right.f k l1).bind fun t632 => (ebbtideref09_Of.j0 k l0 l1 (!t632))) else (ebbtideref09_Of.j0 k l0 l1 true))
theorem ebbtideref09_Of.mono_l : ∀ k, (∀ y0 y1 y2, LeC (ebbtideref09_Of.j0 k y0 y1 y2) (ebbtideref09_Of.j0 (k + 1) y0 y1 y2)) ∧ (∀ y0 y1 y2 y3, LeC (ebbtideref09_Of.l0 k y0 y1 y2 y3) (ebbtideref09_Of.l0 (k + 1) y0 y1 y2 y3)) ∧ (∀ y0 y1 y2 y3, LeC (ebbtideref09_Of.l1 k y0 y1 y2 y3) (ebbtideref09_Of.l1 (k + 1) y0 y1 y2 y3))
 | 0 => ⟨fun _ _ _ => ⟨fun r h => by simp [ebbtideref09_Of.j0] at h⟩, fun _ _ _ _ => ⟨fun r h => by simp [ebbtideref09_Of.l0] at h⟩, fun _ _ _ _ => ⟨fun r h => by simp [ebbtideref09_Of.l1] at h⟩⟩
 | k + 1 => by obtain ⟨ih0, ih1, ih2⟩ := ebbtideref09_Of.mono_l k; exact ⟨fun _ _ _ => by unfold ebbtideref09_Of.j0; exact lm, fun _ _ _ _ => by unfold ebbtideref09_Of.l0; exact lm, fun _ _ _ _ => by unfold ebbtideref09_Of.l1; exact lm⟩
theorem ebbtideref09_Of.mono : ∀ a0 a1 k, LeO (ebbtideref09_Of.f k a0 a1) (ebbtideref09_Of.f (k + 1) a0 a1) := by
 intro a0 a1 k
 obtain ⟨ih0, ih1, ih2⟩ := ebbtideref09_Of.mono_l k
 unfold ebbtideref09_Of.f
 exact lo
instance ebbtideref09_Of.mI {a0 a1 k} : LeC (ebbtideref09_Of.f k a0 a1) (ebbtideref09_Of.f (k + 1) a0 a1) := ⟨ebbtideref09_Of.mono _ _ _⟩
def ebbtideref09_Of.T8 : Bool × List (List Nat × List Nat) := (true, [([], []), ([], []), ([], []), ([1, 2], [1, 2]), ([3], [3]), ([4], [4]), ([], []), ([], []), ([6, 7], [6, 7]), ([8], [8]), ([9], [9]), ([5, 10], [5, 10]), ([11], [11]), ([0, 12], [0, 12]), ([13, 13, 0, 1, 2, 3, 4, 5, 6, 7, 8, 9, 10, 11, 12, 13], [0, 13])])
def ebbtideref09_Of.B8 : List Nat := [0, 0, 0, 6, 14, 30, 0, 0, 192, 448, 960, 2046, 4094, 8191, 16383]
theorem ebbtideref09_Of.tab8 : rtab .any (opsOf Tryz.f11 8) = ebbtideref09_Of.T8 := by kernel_rfl
theorem ebbtideref09_Of.bits8 : waitsOk ebbtideref09_Of.T8.2 ebbtideref09_Of.B8 = true := by kernel_rfl
def ebbtideref09_Of.T13 : Bool × List (List Nat × List Nat) := (true, [([], []), ([0], [0]), ([1], [1]), ([2], [2]), ([2], [2]), ([3, 4, 2], [2, 3, 4]), ([5, 2], [2, 5]), ([6, 2], [2, 6]), ([2], [2]), ([2], [2]), ([8, 9, 2], [2, 8, 9]), ([10, 2], [2, 10]), ([11, 2], [2, 11]), ([7, 12, 2], [2, 7, 12]), ([2, 13], [2, 13])])
def ebbtideref09_Of.B13 : List Nat := [0, 1, 3, 7, 7, 31, 63, 127, 7, 7, 775, 1799, 3847, 8191, 16383]
theorem ebbtideref09_Of.tab13 : rtab .any (opsOf Tryz.f11 13) = ebbtideref09_Of.T13 := by kernel_rfl
theorem ebbtideref09_Of.bits13 : waitsOk ebbtideref09_Of.T13.2 ebbtideref09_Of.B13 = true := by kernel_rfl
theorem ebbtideref09_Of.calls (k : Nat) (A0 : Option Addr) (c0 : Nat) (l0 : List (S45)) (A1 : Option Addr) (c1 : Nat) (l1 : List (S45)) (r1 : List (S48)) (r2 : Int) (w : World) (hr0 : Kd.C k45 w A0 l0.length l0) (hc0 : l0.length ≤ c0) (hr1 : Kd.C k45 w A1 l1.length l1) (hc1 : l1.length ≤ c1) (h : ebbtideref09_Of.f k l0 l1 = some (r1, r2)) :
 Calls Tryz.prog 11 #[.slice A0 l0.length c0, .slice A1 l1.length c1] w fun e w' => ∃ v0_ : Value, e = .returned (.tuple #[v0_, .int .i64 r2]) ∧ Kd.R k48 48 w' w.heap.size (fun _ => True) v0_ r1 ∧ Below w.heap.size w w' := by
 have hu45 := Tryz.underlying45
 have hu48 := Tryz.underlying48
 have hu43 := Tryz.underlying43
 have HR0 := Aside0.mk hr0
 have HC0 := Aside0.mk hc0
 clear hr0 hc0
 have HR1 := Aside0.mk hr1
 have HC1 := Aside0.mk hc1
 clear hr1 hc1
 have HB := Aside0.mk (Below.refl w.heap.size w)
 have H : ((ebbtideref08_Right.f k l0).bind fun t631 => (if t631 = true then ((ebbtideref08_Right.f k l1).bind fun t632 => (ebbtideref09_Of.j0 k l0 l1 (!t632))) else (ebbtideref09_Of.j0 k l0 l1 true))) = some (r1, r2) := h
 clear h
 have HC3 := Aside0.mk H
 clear H
 go_enter Tryz.func11, Tryz.ntmps11
 go_upto_region 1 with (fail)
 go_cut [17] (fun v17 wc => ∃ (kq : Nat) (x17_2 : Bool), v17 = .bool x17_2 ∧ Aside0 (ebbtideref09_Of.j0 kq l0 l1 x17_2 = some (r1, r2)) ∧ Aside0 (kq ≤ k) ∧ Aside0 (Below w.heap.size w wc))
 case first =>
  have H := HC3.out
  clear HC3
  obtain ⟨t631, A4, H⟩ := bs H
  try dsimp only at H
  by_cases c5 : t631 = true
  ·
   subst c5
   rw [if_pos rfl] at H
   obtain ⟨t632, A6, H⟩ := bs H
   try dsimp only at H
   have H' := Aside0.mk H
   clear H
   go_wp2_with (first | (refine gL (some 11) rfl Tryz.func27 #[.slice A0 l0.length c0] ?_; (with_reducible refine (ebbtideref08_Right.calls k _ _ l0 true _ ?side1 ?side2 A4.out).mono ?_); (case side1 => exact uC <| (Kd.C_below HR0.out HB.out)); (case side2 => exact HC0.out); rintro e w7 ⟨rfl, hb⟩; refine ⟨_, rfl, ?_⟩; replace HB := cW HB hb; (try clear hb)) | (go_at_call 27; (with_reducible refine (ebbtideref08_Right.calls k _ _ l1 t632 _ ?side1 ?side2 A6.out).mono ?_); (case side1 => exact uC <| (Kd.C_below HR1.out HB.out)); (case side2 => exact HC1.out); rintro e w8 ⟨rfl, hb⟩; replace HB := cW HB hb; (try clear hb)))
   go_meet
   case rel => exact ⟨_, (!t632), rs_, H', ⟨by first | omega | exact Nat.le_refl _⟩, ⟨uW HB.out⟩⟩
  ·
   replace c5 := Bool.eq_false_iff.mpr c5
   subst c5
   rw [if_neg (show ¬ (false = true) by decide)] at H
   have H' := Aside0.mk H
   clear H
   go_wp2_with (first | (refine gL (some 11) rfl Tryz.func27 #[.slice A0 l0.length c0] ?_; (with_reducible refine (ebbtideref08_Right.calls k _ _ l0 false _ ?side1 ?side2 A4.out).mono ?_); (case side1 => exact uC <| (Kd.C_below HR0.out HB.out)); (case side2 => exact HC0.out); rintro e w9 ⟨rfl, hb⟩; refine ⟨_, rfl, ?_⟩; replace HB := cW HB hb; (try clear hb)))
   go_meet
   case rel => exact ⟨_, (true), rs_, H', ⟨by first | omega | exact Nat.le_refl _⟩, ⟨uW HB.out⟩⟩
 case rest =>
  clear HC3
  try clear c1
  try clear c2
  try clear p2
  try clear c5
  obtain ⟨kq, x17_2, rfl, HA, HJ2, HB⟩ := hcut
  cases kq with
  | zero => exact absurd HA.out (by simp [ebbtideref09_Of.j0])
  | succ kj2 =>
   have H := HA.out
   clear HA
   simp only [ebbtideref09_Of.j0] at H
   by_cases c10 : x17_2 = true
   ·
    subst c10
    rw [if_pos rfl] at H
    simp only [Option.some.injEq, Prod.mk.injEq] at H
    obtain ⟨rfl, rfl⟩ := H
    go_wp2
    go_ret2
    exact ⟨_, re_, nl_, uW HB.out⟩
   ·
    replace c10 := Bool.eq_false_iff.mpr c10
    subst c10
    rw [if_neg (show ¬ (false = true) by decide)] at H
    have H' := Aside0.mk H
    clear H
    go_wp2
    go_loopg [6, 7] kj2 (fun kq v6 v7 w' => ∃ (x6_2 : List (S48)) (x7_2 : Int), v7 = .int .i64 x7_2 ∧ Aside0 (ebbtideref09_Of.l0 kq l0 l1 x6_2 x7_2 = some (r1, r2)) ∧ Aside0 (kq ≤ kj2) ∧ Aside0 (Kd.R k48 48 w' w.heap.size (fun _ => True) v6 x6_2) ∧ Aside0 (Below w.heap.size w w'))
    case atStart => exact ⟨(([] : List (S48))), (0), rs_, H', ⟨Nat.le_refl _⟩, ⟨nl_⟩, ⟨uW HB.out⟩⟩
    case round =>
     clear H'
     try clear c1
     try clear c2
     try clear p2
     try clear c5
     try clear c10
     try clear p2
     obtain ⟨x6_2, x7_2, rfl, HA, HK2, HO_6, HB⟩ := hrel
     cases gk with
     | zero => exact absurd HA.out (by simp [ebbtideref09_Of.l0])
     | succ k2 =>
      have H := HA.out
      clear HA
      simp only [ebbtideref09_Of.l0] at H
      by_cases c11 : x7_2 < (l0.length : Int)
      ·
       rw [if_pos c11] at H
       have c11b0 : decide (x7_2 < (l0.length : Int)) = true := decide_eq_true c11
       clear c11
       obtain ⟨c12b0, H⟩ := gdd H
       obtain ⟨t634, A13, H⟩ := bs H
       try dsimp only at H
       by_cases c14 : t634 < 0
       ·
        rw [if_pos c14] at H
        have c14b0 : decide (t634 < 0) = true := decide_eq_true c14
        clear c14
        obtain ⟨t637, A15, H⟩ := bs H
        try dsimp only at H
        have H' := Aside0.mk H
        clear H
        have p633 : 0 ≤ (x7_2 : Int) := od
        have q633 : x7_2 < (l0.length : Int) := od
        obtain ⟨ad633, e633, hx633_0, hx633_1, hx633_2, hx633_3⟩ := at_T45 HR0.out x7_2 p633 q633
        cases e633
        replace hx633_0 := kc HB hx633_0
        replace hx633_1 := kc HB hx633_1
        replace hx633_2 := kc HB hx633_2
        replace hx633_3 := kc HB hx633_3
        replace p633 := eq_true p633
        replace q633 := eq_true q633
        try go_wp2_with (first | (refine gL (some 29) rfl Tryz.func28 #[.slice A1 l1.length c1, .agg #[.int .i64 ((rd_T45 l0 x7_2).f0), .string ((rd_T45 l0 x7_2).f1), .int .i64 ((rd_T45 l0 x7_2).f2.f0), .bool ((rd_T45 l0 x7_2).f2.f1)]] ?_; (with_reducible refine (ebbtideref09_find.calls k2 _ _ l1 ((rd_T45 l0 x7_2).f0) ((rd_T45 l0 x7_2).f1) ((rd_T45 l0 x7_2).f2.f0) ((rd_T45 l0 x7_2).f2.f1) t634 _ ?side1 ?side2 A13.out).mono ?_); (case side1 => exact uC <| (Kd.C_below HR1.out HB.out)); (case side2 => exact HC1.out); rintro e w16 ⟨rfl, hb⟩; refine ⟨_, rfl, ?_⟩; replace HO_6 := cR HO_6 hb; replace HB := cW HB hb; (try clear hb)))
        have n0_ := Aside0.mk (Kd.R_drew HO_6.out)
        have n1_ := Aside0.mk (below_drew1 HB.out)
        clear HO_6
        clear HB
        have HO_6 := n0_
        have HB := n1_
        clear n0_ n1_
        have p635 : 0 ≤ (x7_2 : Int) := od
        have q635 : x7_2 < (l0.length : Int) := od
        obtain ⟨ad635, e635, hx635_0, hx635_1, hx635_2, hx635_3⟩ := at_T45 HR0.out x7_2 p635 q635
        have hw635_3 := hx635_3
        have hw635_2 := hx635_2
        have hw635_1 := hx635_1
        have hw635_0 := hx635_0
        obtain rfl : ad633 = ad635 := (by injection e635)
        replace hx635_0 := kc HB hx635_0
        replace hx635_1 := kc HB hx635_1
        replace hx635_2 := kc HB hx635_2
        replace hx635_3 := kc HB hx635_3
        replace p635 := eq_true p635
        replace q635 := eq_true q635
        have p636 : 0 ≤ (x7_2 : Int) := od
        have q636 : x7_2 < (l0.length : Int) := od
        obtain ⟨ad636, e636, hx636_0, hx636_1, hx636_2, hx636_3⟩ := at_T45 HR0.out x7_2 p636 q636
        have hw636_3 := hx636_3
        have hw636_2 := hx636_2
        have hw636_1 := hx636_1
        have hw636_0 := hx636_0
        obtain rfl : ad633 = ad636 := (by injection e636)
        replace hx636_0 := kc HB hx636_0
        replace hx636_1 := kc HB hx636_1
        replace hx636_2 := kc HB hx636_2
        replace hx636_3 := kc HB hx636_3
        replace p636 := eq_true p636
        replace q636 := eq_true q636
        obtain ⟨Ao18, co18, eo18⟩ := Kd.R_slice HO_6.out
        (first | subst eo18 | (injection eo18 with f1_ f2_ f3_; have f4_ := f1_.symm; have f5_ := f3_.symm; clear f1_ f2_ f3_; subst f4_; subst f5_))
        refine start_ (n := 15) (S := fun w' => w'.cell? (ad633.add ((x7_2).toNat * 4)) = some (.int .i64 ((rd_T45 l0 x7_2).f0)) ∧ w'.cell? ⟨(ad633.add ((x7_2).toNat * 4)).block, (ad633.add ((x7_2).toNat * 4)).off + 1, none⟩ = some (.string ((rd_T45 l0 x7_2).f1)) ∧ w'.cell? ⟨(ad633.add ((x7_2).toNat * 4)).block, (ad633.add ((x7_2).toNat * 4)).off + 2, none⟩ = some (.int .i64 ((rd_T45 l0 x7_2).f2.f0)) ∧ w'.cell? ⟨(ad633.add ((x7_2).toNat * 4)).block, (ad633.add ((x7_2).toNat * 4)).off + 3, none⟩ = some (.bool ((rd_T45 l0 x7_2).f2.f1)) ∧ w'.cell? (ad633.add ((x7_2).toNat * 4)) = some (.int .i64 ((rd_T45 l0 x7_2).f0)) ∧ w'.cell? ⟨(ad633.add ((x7_2).toNat * 4)).block, (ad633.add ((x7_2).toNat * 4)).off + 1, none⟩ = some (.string ((rd_T45 l0 x7_2).f1)) ∧ w'.cell? ⟨(ad633.add ((x7_2).toNat * 4)).block, (ad633.add ((x7_2).toNat * 4)).off + 2, none⟩ = some (.int .i64 ((rd_T45 l0 x7_2).f2.f0)) ∧ w'.cell? ⟨(ad633.add ((x7_2).toNat * 4)).block, (ad633.add ((x7_2).toNat * 4)).off + 3, none⟩ = some (.bool ((rd_T45 l0 x7_2).f2.f1))) (ds := []) #[false, false, false, false, false, false, false, false, false, false, false, false, false, false, false] (by kernel_rfl) rfl rfl ⟨(kc HB hw635_0), (kc HB hw635_1), (kc HB hw635_2), (kc HB hw635_3), (kc HB hw636_0), (kc HB hw636_1), (kc HB hw636_2), (kc HB hw636_3)⟩ (fun hHeld => ?_); refine with_tabW ebbtideref09_Of.tab8 ebbtideref09_Of.bits8 (fun HT_ HW_ => ?_)
        generalize w16.drew = w17 at HO_6 HB hx635_0 hx635_1 hx635_2 hx635_3 hx636_0 hx636_1 hx636_2 hx636_3 hHeld ⊢
        refine p1 0 (some 31) ?_
        refine p1 1 (some 32) ?_
        refine p1 2 (some 33) ?_
        refine p1 3 (some 34) ?_
        refine p1 4 (some 35) ?_
        refine p1 6 (some 37) ?_
        refine p1 7 (some 38) ?_
        refine p1 8 (some 39) ?_
        refine p1 9 (some 40) ?_
        refine t1 5 (some 36) rfl rfl hHeld (Or.inl ⟨by rfl, by rintro w' ⟨s0, s1, s2, s3, s4, s5, s6, s7⟩; go_simp; with_reducible rfl⟩) ?_
        refine t1 10 (some 41) rfl rfl hHeld (Or.inl ⟨by rfl, by rintro w' ⟨s0, s1, s2, s3, s4, s5, s6, s7⟩; go_simp; with_reducible rfl⟩) ?_
        refine p1 11 (some 42) ?_
        refine p1 12 (some 43) ?_
        refine one_ (i := 13) (N := some 44) #[true, true, true, true, true, true, true, true, true, true, true, true, true, true, false] rfl rfl (one_of HT_.out (by kernel_rfl)) (by decide) (fun K hK => ?_)
        refine goes_ Tryz.func29 (by kernel_rfl) rfl #[.slice Ao18 x6_2.length co18, .agg #[.int .i64 ((rd_T45 l0 x7_2).f0), .string ((rd_T45 l0 x7_2).f1), .int .i64 0, .bool false, .bool true]] (by rfl) rfl rfl (by (try simp only [List.map_toArray, List.map_cons, List.map_nil]); first | done | rfl | (simp only [List.length_drop, List.length_take]; rfl)) ?_
        with_reducible refine (ebbtideref09_into.calls k2 (fun k_ => some k_ = (.slice Ao18 x6_2.length co18 : Value).ownBlock) (.slice Ao18 x6_2.length co18) x6_2 ((rd_T45 l0 x7_2).f0) ((rd_T45 l0 x7_2).f1) 0 false true t637 w _ ?side1 ?side2 A15.out).mono ?_
        (case side1 => repeat (first | (with_reducible first | exact HB.out | apply below_alloc | apply pw_below_drewN | apply below_drew1) | exact HB.out))
        (case side2 => exact Kd.R_tight rfl HO_6.out)
        rintro e w19 ⟨v638, rfl, ho0, hb, hkp⟩
        refine ⟨_, rfl, ?_⟩
        have n0_ := Aside0.mk (Kd.R_mono (ok' := fun k_ => True) ho0 (fun k_ hk_ => trivial))
        have n1_ := Aside0.mk (hb)
        clear HB
        clear HO_6
        have HO639 := n0_
        have HB := n1_
        clear n0_ n1_
        (try clear hb)
        (try clear hkp)
        (try clear ho0)
        refine hK.out _ _ ⟨(kc HB hw635_0), (kc HB hw635_1), (kc HB hw635_2), (kc HB hw635_3), (kc HB hw636_0), (kc HB hw636_1), (kc HB hw636_2), (kc HB hw636_3)⟩ (fun hHeld => ?_)
        clear hK K
        refine norm_ (a' := ?_) ?_ ?_
        rotate_left
        ·
         show Act.put _ (some 44) _ = _
         simp only [Act.put, List.setIfInBounds_toArray, List.set_cons_zero, List.set_cons_succ, i64_w, i32_w]
         rfl
        refine p1 14 (some 6) ?_
        refine done_ (done_of HT_.out (by kernel_rfl)) ?_
        try go_wp2
        go_roundg k2
        case measure => have := HJ2.out; have := HK2.out; omega
        case rel => exact ⟨(t637), (wrap64 (x7_2 + 1)), rs_, H', ⟨by have := HJ2.out; have := HK2.out; omega⟩, ⟨uR HO639.out⟩, ⟨uW HB.out⟩⟩
       ·
        rw [if_neg c14] at H
        have c14b0 : decide (t634 < 0) = false := decide_eq_false c14
        clear c14
        have H' := Aside0.mk H
        clear H
        have p633 : 0 ≤ (x7_2 : Int) := od
        have q633 : x7_2 < (l0.length : Int) := od
        obtain ⟨ad633, e633, hx633_0, hx633_1, hx633_2, hx633_3⟩ := at_T45 HR0.out x7_2 p633 q633
        cases e633
        replace hx633_0 := kc HB hx633_0
        replace hx633_1 := kc HB hx633_1
        replace hx633_2 := kc HB hx633_2
        replace hx633_3 := kc HB hx633_3
        replace p633 := eq_true p633
        replace q633 := eq_true q633
        go_wp2_with (first | (refine gL (some 29) rfl Tryz.func28 #[.slice A1 l1.length c1, .agg #[.int .i64 ((rd_T45 l0 x7_2).f0), .string ((rd_T45 l0 x7_2).f1), .int .i64 ((rd_T45 l0 x7_2).f2.f0), .bool ((rd_T45 l0 x7_2).f2.f1)]] ?_; (with_reducible refine (ebbtideref09_find.calls k2 _ _ l1 ((rd_T45 l0 x7_2).f0) ((rd_T45 l0 x7_2).f1) ((rd_T45 l0 x7_2).f2.f0) ((rd_T45 l0 x7_2).f2.f1) t634 _ ?side1 ?side2 A13.out).mono ?_); (case side1 => exact uC <| (Kd.C_below HR1.out HB.out)); (case side2 => exact HC1.out); rintro e w20 ⟨rfl, hb⟩; refine ⟨_, rfl, ?_⟩; replace HO_6 := cR HO_6 hb; replace HB := cW HB hb; (try clear hb)))
        go_roundg k2
        case measure => have := HJ2.out; have := HK2.out; omega
        case rel => exact ⟨(x6_2), (wrap64 (x7_2 + 1)), rs_, H', ⟨by have := HJ2.out; have := HK2.out; omega⟩, ⟨uR HO_6.out⟩, ⟨uW HB.out⟩⟩
      ·
       rw [if_neg c11] at H
       have c11b0 : decide (x7_2 < (l0.length : Int)) = false := decide_eq_false c11
       clear c11
       have H' := Aside0.mk H
       clear H
       go_wp2
       go_loopg [6, 8] k2 (fun kq v6 v8 w' => ∃ (x6_3 : List (S48)) (x8_3 : Int), v8 = .int .i64 x8_3 ∧ Aside0 (ebbtideref09_Of.l1 kq l0 l1 x6_3 x8_3 = some (r1, r2)) ∧ Aside0 (kq ≤ k2) ∧ Aside0 (Kd.R k48 48 w' w.heap.size (fun _ => True) v6 x6_3) ∧ Aside0 (Below w.heap.size w w'))
       case atStart => exact ⟨(x6_2), (0), rs_, H', ⟨Nat.le_refl _⟩, ⟨uR HO_6.out⟩, ⟨uW HB.out⟩⟩
       case round =>
        clear H'
        try clear c1
        try clear c2
        try clear p2
        try clear c5
        try clear p6
        try clear q6
        try clear hx6
        try clear c10
        try clear c11
        try clear c11b0
        try clear c12
        try clear c12b0
        try clear c14
        try clear c14b0
        try clear hx633_0
        try clear hx633_1
        try clear hx633_2
        try clear hx633_3
        try clear hx635_0
        try clear hx635_1
        try clear hx635_2
        try clear hx635_3
        try clear hx636_0
        try clear hx636_1
        try clear hx636_2
        try clear hx636_3
        try clear p2
        try clear p633
        try clear p635
        try clear p636
        try clear q633
        try clear q635
        try clear q636
        obtain ⟨x6_3, x8_3, rfl, HA, HK3, HO_6, HB⟩ := hrel
        cases gk with
        | zero => exact absurd HA.out (by simp [ebbtideref09_Of.l1])
        | succ k3 =>
         have H := HA.out
         clear HA
         simp only [ebbtideref09_Of.l1] at H
         by_cases c21 : x8_3 < (l1.length : Int)
         ·
          rw [if_pos c21] at H
          have c21b0 : decide (x8_3 < (l1.length : Int)) = true := decide_eq_true c21
          clear c21
          obtain ⟨c22b0, H⟩ := gdd H
          obtain ⟨t641, A23, H⟩ := bs H
          try dsimp only at H
          by_cases c24 : t641 < 0
          ·
           rw [if_pos c24] at H
           have c24b0 : decide (t641 < 0) = true := decide_eq_true c24
           clear c24
           obtain ⟨t643, A25, H⟩ := bs H
           try dsimp only at H
           have H' := Aside0.mk H
           clear H
           have p640 : 0 ≤ (x8_3 : Int) := od
           have q640 : x8_3 < (l1.length : Int) := od
           obtain ⟨ad640, e640, hx640_0, hx640_1, hx640_2, hx640_3⟩ := at_T45 HR1.out x8_3 p640 q640
           cases e640
           replace hx640_0 := kc HB hx640_0
           replace hx640_1 := kc HB hx640_1
           replace hx640_2 := kc HB hx640_2
           replace hx640_3 := kc HB hx640_3
           replace p640 := eq_true p640
           replace q640 := eq_true q640
           try go_wp2_with (first | (refine gL (some 56) rfl Tryz.func28 #[.slice A0 l0.length c0, .agg #[.int .i64 ((rd_T45 l1 x8_3).f0), .string ((rd_T45 l1 x8_3).f1), .int .i64 ((rd_T45 l1 x8_3).f2.f0), .bool ((rd_T45 l1 x8_3).f2.f1)]] ?_; (with_reducible refine (ebbtideref09_find.calls k3 _ _ l0 ((rd_T45 l1 x8_3).f0) ((rd_T45 l1 x8_3).f1) ((rd_T45 l1 x8_3).f2.f0) ((rd_T45 l1 x8_3).f2.f1) t641 _ ?side1 ?side2 A23.out).mono ?_); (case side1 => exact uC <| (Kd.C_below HR0.out HB.out)); (case side2 => exact HC0.out); rintro e w26 ⟨rfl, hb⟩; refine ⟨_, rfl, ?_⟩; replace HO_6 := cR HO_6 hb; replace HB := cW HB hb; (try clear hb)))
           have n0_ := Aside0.mk (Kd.R_drew HO_6.out)
           have n1_ := Aside0.mk (below_drew1 HB.out)
           clear HO_6
           clear HB
           have HO_6 := n0_
           have HB := n1_
           clear n0_ n1_
           refine start_ (n := 15) (S := fun w' => True) (ds := []) #[false, false, false, false, false, false, false, false, false, false, false, false, false, false, false] (by kernel_rfl) rfl rfl trivial (fun hHeld => ?_); refine with_tabW ebbtideref09_Of.tab13 ebbtideref09_Of.bits13 (fun HT_ HW_ => ?_)
           generalize w26.drew = w27 at HO_6 HB hHeld ⊢
           refine p1 0 (some 57) ?_
           refine p1 1 (some 58) ?_
           refine p1 2 (some 59) ?_
           refine p2 3 (some 60) ?_
           refine p2 4 (some 61) ?_
           refine p2 5 (some 62) ?_
           refine p2 6 (some 63) ?_
           refine p2 7 (some 64) ?_
           refine p2 8 (some 65) ?_
           refine p2 9 (some 66) ?_
           refine p2 10 (some 67) ?_
           refine p2 11 (some 68) ?_
           refine p2 12 (some 69) ?_
           refine p2 13 (some 70) ?_
           refine p1 14 (some 71) ?_
           refine done_ (done_of HT_.out (by kernel_rfl)) ?_
           have p642 : 0 ≤ (x8_3 : Int) := od
           have q642 : x8_3 < (l1.length : Int) := od
           obtain ⟨ad642, e642, hx642_0, hx642_1, hx642_2, hx642_3⟩ := at_T45 HR1.out x8_3 p642 q642
           obtain rfl : ad640 = ad642 := (by injection e642)
           replace hx642_0 := kc HB hx642_0
           replace hx642_1 := kc HB hx642_1
           replace hx642_2 := kc HB hx642_2
           replace hx642_3 := kc HB hx642_3
           replace p642 := eq_true p642
           replace q642 := eq_true q642
           obtain ⟨Ao28, co28, eo28⟩ := Kd.R_slice HO_6.out
           subst eo28
           try go_wp2_with (first | (refine gL (some 78) rfl Tryz.func29 #[.slice Ao28 x6_3.length co28, .agg #[.int .i64 ((rd_T45 l1 x8_3).f0), .string ((rd_T45 l1 x8_3).f1), .int .i64 ((rd_T45 l1 x8_3).f2.f0), .bool ((rd_T45 l1 x8_3).f2.f1), .bool false]] ?_; (with_reducible refine (ebbtideref09_into.calls k3 (fun k_ => some k_ = (.slice Ao28 x6_3.length co28 : Value).ownBlock) (.slice Ao28 x6_3.length co28) x6_3 ((rd_T45 l1 x8_3).f0) ((rd_T45 l1 x8_3).f1) ((rd_T45 l1 x8_3).f2.f0) ((rd_T45 l1 x8_3).f2.f1) false t643 w _ ?side1 ?side2 A25.out).mono ?_); (case side1 => repeat (first | (with_reducible first | exact HB.out | apply below_alloc | apply pw_below_drewN | apply below_drew1) | exact HB.out)); (case side2 => exact Kd.R_tight rfl HO_6.out); rintro e w29 ⟨v644, rfl, ho0, hb, hkp⟩; refine ⟨_, rfl, ?_⟩; have HO645 := Aside0.mk (Kd.R_mono (ok' := fun k_ => True) ho0 (fun k_ hk_ => trivial)); replace HB := Aside0.mk (hb); clear HO_6; (try clear hb); (try clear hkp); (try clear ho0)))
           go_roundg k3
           case measure => have := HJ2.out; have := HK2.out; have := HK3.out; omega
           case rel => exact ⟨(t643), (wrap64 (x8_3 + 1)), rs_, H', ⟨by have := HJ2.out; have := HK2.out; have := HK3.out; omega⟩, ⟨uR HO645.out⟩, ⟨uW HB.out⟩⟩
          ·
           rw [if_neg c24] at H
           have c24b0 : decide (t641 < 0) = false := decide_eq_false c24
           clear c24
           obtain ⟨c30b0, H⟩ := gdd H
           obtain ⟨c31b0, H⟩ := gdd H
           by_cases c32 : (!(((rd_T45 l0 t641).f2.f0) == ((rd_T45 l1 x8_3).f2.f0)) || (!(((rd_T45 l0 t641).f2.f1) == ((rd_T45 l1 x8_3).f2.f1)))) = true
           ·
            rw [if_pos c32] at H
            have c32b0 : (!(((rd_T45 l0 t641).f2.f0) == ((rd_T45 l1 x8_3).f2.f0)) || (!(((rd_T45 l0 t641).f2.f1) == ((rd_T45 l1 x8_3).f2.f1)))) = true := c32
            clear c32
            obtain ⟨t649, A33, H⟩ := bs H
            try dsimp only at H
            have H' := Aside0.mk H
            clear H
            have p640 : 0 ≤ (x8_3 : Int) := od
            have q640 : x8_3 < (l1.length : Int) := od
            obtain ⟨ad640, e640, hx640_0, hx640_1, hx640_2, hx640_3⟩ := at_T45 HR1.out x8_3 p640 q640
            cases e640
            replace hx640_0 := kc HB hx640_0
            replace hx640_1 := kc HB hx640_1
            replace hx640_2 := kc HB hx640_2
            replace hx640_3 := kc HB hx640_3
            replace p640 := eq_true p640
            replace q640 := eq_true q640
            try go_wp2_with (first | (refine gL (some 56) rfl Tryz.func28 #[.slice A0 l0.length c0, .agg #[.int .i64 ((rd_T45 l1 x8_3).f0), .string ((rd_T45 l1 x8_3).f1), .int .i64 ((rd_T45 l1 x8_3).f2.f0), .bool ((rd_T45 l1 x8_3).f2.f1)]] ?_; (with_reducible refine (ebbtideref09_find.calls k3 _ _ l0 ((rd_T45 l1 x8_3).f0) ((rd_T45 l1 x8_3).f1) ((rd_T45 l1 x8_3).f2.f0) ((rd_T45 l1 x8_3).f2.f1) t641 _ ?side1 ?side2 A23.out).mono ?_); (case side1 => exact uC <| (Kd.C_below HR0.out HB.out)); (case side2 => exact HC0.out); rintro e w34 ⟨rfl, hb⟩; refine ⟨_, rfl, ?_⟩; replace HO_6 := cR HO_6 hb; replace HB := cW HB hb; (try clear hb)))
            have n0_ := Aside0.mk (Kd.R_drew HO_6.out)
            have n1_ := Aside0.mk (below_drew1 HB.out)
            clear HO_6
            clear HB
            have HO_6 := n0_
            have HB := n1_
            clear n0_ n1_
            have p646 : 0 ≤ (t641 : Int) := od
            have q646 : t641 < (l0.length : Int) := od
            obtain ⟨ad646, e646, hx646_0, hx646_1, hx646_2, hx646_3⟩ := at_T45 HR0.out t641 p646 q646
            have hw646_3 := hx646_3
            have hw646_2 := hx646_2
            have hw646_1 := hx646_1
            have hw646_0 := hx646_0
            cases e646
            replace hx646_0 := kc HB hx646_0
            replace hx646_1 := kc HB hx646_1
            replace hx646_2 := kc HB hx646_2
            replace hx646_3 := kc HB hx646_3
            replace p646 := eq_true p646
            replace q646 := eq_true q646
            have p647 : 0 ≤ (x8_3 : Int) := od
            have q647 : x8_3 < (l1.length : Int) := od
            obtain ⟨ad647, e647, hx647_0, hx647_1, hx647_2, hx647_3⟩ := at_T45 HR1.out x8_3 p647 q647
            have hw647_3 := hx647_3
            have hw647_2 := hx647_2
            have hw647_1 := hx647_1
            have hw647_0 := hx647_0
            obtain rfl : ad640 = ad647 := (by injection e647)
            replace hx647_0 := kc HB hx647_0
            replace hx647_1 := kc HB hx647_1
            replace hx647_2 := kc HB hx647_2
            replace hx647_3 := kc HB hx647_3
            replace p647 := eq_true p647
            replace q647 := eq_true q647
            refine start_ (n := 15) (S := fun w' => w'.cell? (ad646.add ((t641).toNat * 4)) = some (.int .i64 ((rd_T45 l0 t641).f0)) ∧ w'.cell? ⟨(ad646.add ((t641).toNat * 4)).block, (ad646.add ((t641).toNat * 4)).off + 1, none⟩ = some (.string ((rd_T45 l0 t641).f1)) ∧ w'.cell? ⟨(ad646.add ((t641).toNat * 4)).block, (ad646.add ((t641).toNat * 4)).off + 2, none⟩ = some (.int .i64 ((rd_T45 l0 t641).f2.f0)) ∧ w'.cell? ⟨(ad646.add ((t641).toNat * 4)).block, (ad646.add ((t641).toNat * 4)).off + 3, none⟩ = some (.bool ((rd_T45 l0 t641).f2.f1)) ∧ w'.cell? (ad640.add ((x8_3).toNat * 4)) = some (.int .i64 ((rd_T45 l1 x8_3).f0)) ∧ w'.cell? ⟨(ad640.add ((x8_3).toNat * 4)).block, (ad640.add ((x8_3).toNat * 4)).off + 1, none⟩ = some (.string ((rd_T45 l1 x8_3).f1)) ∧ w'.cell? ⟨(ad640.add ((x8_3).toNat * 4)).block, (ad640.add ((x8_3).toNat * 4)).off + 2, none⟩ = some (.int .i64 ((rd_T45 l1 x8_3).f2.f0)) ∧ w'.cell? ⟨(ad640.add ((x8_3).toNat * 4)).block, (ad640.add ((x8_3).toNat * 4)).off + 3, none⟩ = some (.bool ((rd_T45 l1 x8_3).f2.f1))) (ds := []) #[false, false, false, false, false, false, false, false, false, false, false, false, false, false, false] (by kernel_rfl) rfl rfl ⟨(kc HB hw646_0), (kc HB hw646_1), (kc HB hw646_2), (kc HB hw646_3), (kc HB hw647_0), (kc HB hw647_1), (kc HB hw647_2), (kc HB hw647_3)⟩ (fun hHeld => ?_); refine with_tabW ebbtideref09_Of.tab13 ebbtideref09_Of.bits13 (fun HT_ HW_ => ?_)
            generalize w34.drew = w35 at HO_6 HB hx646_0 hx646_1 hx646_2 hx646_3 hx647_0 hx647_1 hx647_2 hx647_3 hHeld ⊢
            refine p1 0 (some 57) ?_
            refine p1 1 (some 58) ?_
            refine p1 2 (some 59) ?_
            refine p1 3 (some 60) ?_
            refine p1 4 (some 61) ?_
            refine p1 5 (some 62) ?_
            refine p1 6 (some 63) ?_
            refine p1 8 (some 65) ?_
            refine p1 9 (some 66) ?_
            refine p1 10 (some 67) ?_
            refine p1 11 (some 68) ?_
            refine t1 7 (some 64) rfl rfl hHeld (Or.inl ⟨by rfl, by rintro w' ⟨s0, s1, s2, s3, s4, s5, s6, s7⟩; go_simp; with_reducible rfl⟩) ?_
            refine t1 12 (some 69) rfl rfl hHeld (Or.inl ⟨by rfl, by rintro w' ⟨s0, s1, s2, s3, s4, s5, s6, s7⟩; go_simp; with_reducible rfl⟩) ?_
            refine p1 13 (some 70) ?_
            refine p1 14 (some 71) ?_
            refine done_ (done_of HT_.out (by kernel_rfl)) ?_
            have p648 : 0 ≤ (x8_3 : Int) := od
            have q648 : x8_3 < (l1.length : Int) := od
            obtain ⟨ad648, e648, hx648_0, hx648_1, hx648_2, hx648_3⟩ := at_T45 HR1.out x8_3 p648 q648
            obtain rfl : ad640 = ad648 := (by injection e648)
            replace hx648_0 := kc HB hx648_0
            replace hx648_1 := kc HB hx648_1
            replace hx648_2 := kc HB hx648_2
            replace hx648_3 := kc HB hx648_3
            replace p648 := eq_true p648
            replace q648 := eq_true q648
            obtain ⟨Ao36, co36, eo36⟩ := Kd.R_slice HO_6.out
            subst eo36
            try go_wp2_with (first | (refine gL (some 78) rfl Tryz.func29 #[.slice Ao36 x6_3.length co36, .agg #[.int .i64 ((rd_T45 l1 x8_3).f0), .string ((rd_T45 l1 x8_3).f1), .int .i64 ((rd_T45 l1 x8_3).f2.f0), .bool ((rd_T45 l1 x8_3).f2.f1), .bool false]] ?_; (with_reducible refine (ebbtideref09_into.calls k3 (fun k_ => some k_ = (.slice Ao36 x6_3.length co36 : Value).ownBlock) (.slice Ao36 x6_3.length co36) x6_3 ((rd_T45 l1 x8_3).f0) ((rd_T45 l1 x8_3).f1) ((rd_T45 l1 x8_3).f2.f0) ((rd_T45 l1 x8_3).f2.f1) false t649 w _ ?side1 ?side2 A33.out).mono ?_); (case side1 => repeat (first | (with_reducible first | exact HB.out | apply below_alloc | apply pw_below_drewN | apply below_drew1) | exact HB.out)); (case side2 => exact Kd.R_tight rfl HO_6.out); rintro e w37 ⟨v650, rfl, ho0, hb, hkp⟩; refine ⟨_, rfl, ?_⟩; have HO651 := Aside0.mk (Kd.R_mono (ok' := fun k_ => True) ho0 (fun k_ hk_ => trivial)); replace HB := Aside0.mk (hb); clear HO_6; (try clear hb); (try clear hkp); (try clear ho0)))
            go_roundg k3
            case measure => have := HJ2.out; have := HK2.out; have := HK3.out; omega
            case rel => exact ⟨(t649), (wrap64 (x8_3 + 1)), rs_, H', ⟨by have := HJ2.out; have := HK2.out; have := HK3.out; omega⟩, ⟨uR HO651.out⟩, ⟨uW HB.out⟩⟩
           ·
            rw [if_neg c32] at H
            have c32b0 : (!(((rd_T45 l0 t641).f2.f0) == ((rd_T45 l1 x8_3).f2.f0)) || (!(((rd_T45 l0 t641).f2.f1) == ((rd_T45 l1 x8_3).f2.f1)))) = false := by simpa using c32
            clear c32
            have H' := Aside0.mk H
            clear H
            have p640 : 0 ≤ (x8_3 : Int) := od
            have q640 : x8_3 < (l1.length : Int) := od
            obtain ⟨ad640, e640, hx640_0, hx640_1, hx640_2, hx640_3⟩ := at_T45 HR1.out x8_3 p640 q640
            cases e640
            replace hx640_0 := kc HB hx640_0
            replace hx640_1 := kc HB hx640_1
            replace hx640_2 := kc HB hx640_2
            replace hx640_3 := kc HB hx640_3
            replace p640 := eq_true p640
            replace q640 := eq_true q640
            try go_wp2_with (first | (refine gL (some 56) rfl Tryz.func28 #[.slice A0 l0.length c0, .agg #[.int .i64 ((rd_T45 l1 x8_3).f0), .string ((rd_T45 l1 x8_3).f1), .int .i64 ((rd_T45 l1 x8_3).f2.f0), .bool ((rd_T45 l1 x8_3).f2.f1)]] ?_; (with_reducible refine (ebbtideref09_find.calls k3 _ _ l0 ((rd_T45 l1 x8_3).f0) ((rd_T45 l1 x8_3).f1) ((rd_T45 l1 x8_3).f2.f0) ((rd_T45 l1 x8_3).f2.f1) t641 _ ?side1 ?side2 A23.out).mono ?_); (case side1 => exact uC <| (Kd.C_below HR0.out HB.out)); (case side2 => exact HC0.out); rintro e w38 ⟨rfl, hb⟩; refine ⟨_, rfl, ?_⟩; replace HO_6 := cR HO_6 hb; replace HB := cW HB hb; (try clear hb)))
            have n0_ := Aside0.mk (Kd.R_drew HO_6.out)
            have n1_ := Aside0.mk (below_drew1 HB.out)
            clear HO_6
            clear HB
            have HO_6 := n0_
            have HB := n1_
            clear n0_ n1_
            have p646 : 0 ≤ (t641 : Int) := od
            have q646 : t641 < (l0.length : Int) := od
            obtain ⟨ad646, e646, hx646_0, hx646_1, hx646_2, hx646_3⟩ := at_T45 HR0.out t641 p646 q646
            have hw646_3 := hx646_3
            have hw646_2 := hx646_2
            have hw646_1 := hx646_1
            have hw646_0 := hx646_0
            cases e646
            replace hx646_0 := kc HB hx646_0
            replace hx646_1 := kc HB hx646_1
            replace hx646_2 := kc HB hx646_2
            replace hx646_3 := kc HB hx646_3
            replace p646 := eq_true p646
            replace q646 := eq_true q646
            have p647 : 0 ≤ (x8_3 : Int) := od
            have q647 : x8_3 < (l1.length : Int) := od
            obtain ⟨ad647, e647, hx647_0, hx647_1, hx647_2, hx647_3⟩ := at_T45 HR1.out x8_3 p647 q647
            have hw647_3 := hx647_3
            have hw647_2 := hx647_2
            have hw647_1 := hx647_1
            have hw647_0 := hx647_0
            obtain rfl : ad640 = ad647 := (by injection e647)
            replace hx647_0 := kc HB hx647_0
            replace hx647_1 := kc HB hx647_1
            replace hx647_2 := kc HB hx647_2
            replace hx647_3 := kc HB hx647_3
            replace p647 := eq_true p647
            replace q647 := eq_true q647
            refine start_ (n := 15) (S := fun w' => w'.cell? (ad646.add ((t641).toNat * 4)) = some (.int .i64 ((rd_T45 l0 t641).f0)) ∧ w'.cell? ⟨(ad646.add ((t641).toNat * 4)).block, (ad646.add ((t641).toNat * 4)).off + 1, none⟩ = some (.string ((rd_T45 l0 t641).f1)) ∧ w'.cell? ⟨(ad646.add ((t641).toNat * 4)).block, (ad646.add ((t641).toNat * 4)).off + 2, none⟩ = some (.int .i64 ((rd_T45 l0 t641).f2.f0)) ∧ w'.cell? ⟨(ad646.add ((t641).toNat * 4)).block, (ad646.add ((t641).toNat * 4)).off + 3, none⟩ = some (.bool ((rd_T45 l0 t641).f2.f1)) ∧ w'.cell? (ad640.add ((x8_3).toNat * 4)) = some (.int .i64 ((rd_T45 l1 x8_3).f0)) ∧ w'.cell? ⟨(ad640.add ((x8_3).toNat * 4)).block, (ad640.add ((x8_3).toNat * 4)).off + 1, none⟩ = some (.string ((rd_T45 l1 x8_3).f1)) ∧ w'.cell? ⟨(ad640.add ((x8_3).toNat * 4)).block, (ad640.add ((x8_3).toNat * 4)).off + 2, none⟩ = some (.int .i64 ((rd_T45 l1 x8_3).f2.f0)) ∧ w'.cell? ⟨(ad640.add ((x8_3).toNat * 4)).block, (ad640.add ((x8_3).toNat * 4)).off + 3, none⟩ = some (.bool ((rd_T45 l1 x8_3).f2.f1))) (ds := []) #[false, false, false, false, false, false, false, false, false, false, false, false, false, false, false] (by kernel_rfl) rfl rfl ⟨(kc HB hw646_0), (kc HB hw646_1), (kc HB hw646_2), (kc HB hw646_3), (kc HB hw647_0), (kc HB hw647_1), (kc HB hw647_2), (kc HB hw647_3)⟩ (fun hHeld => ?_); refine with_tabW ebbtideref09_Of.tab13 ebbtideref09_Of.bits13 (fun HT_ HW_ => ?_)
            generalize w38.drew = w39 at HO_6 HB hx646_0 hx646_1 hx646_2 hx646_3 hx647_0 hx647_1 hx647_2 hx647_3 hHeld ⊢
            refine p1 0 (some 57) ?_
            refine p1 1 (some 58) ?_
            refine p1 2 (some 59) ?_
            refine p1 3 (some 60) ?_
            refine p1 4 (some 61) ?_
            refine p1 5 (some 62) ?_
            refine p1 6 (some 63) ?_
            refine p1 8 (some 65) ?_
            refine p1 9 (some 66) ?_
            refine p1 10 (some 67) ?_
            refine p1 11 (some 68) ?_
            refine t1 7 (some 64) rfl rfl hHeld (Or.inl ⟨by rfl, by rintro w' ⟨s0, s1, s2, s3, s4, s5, s6, s7⟩; go_simp; with_reducible rfl⟩) ?_
            refine t1 12 (some 69) rfl rfl hHeld (Or.inl ⟨by rfl, by rintro w' ⟨s0, s1, s2, s3, s4, s5, s6, s7⟩; go_simp; with_reducible rfl⟩) ?_
            refine p1 13 (some 70) ?_
            refine p1 14 (some 71) ?_
            refine done_ (done_of HT_.out (by kernel_rfl)) ?_
            try go_wp2
            go_roundg k3
            case measure => have := HJ2.out; have := HK2.out; have := HK3.out; omega
            case rel => exact ⟨(x6_3), (wrap64 (x8_3 + 1)), rs_, H', ⟨by have := HJ2.out; have := HK2.out; have := HK3.out; omega⟩, ⟨uR HO_6.out⟩, ⟨uW HB.out⟩⟩
         ·
          rw [if_neg c21] at H
          have c21b0 : decide (x8_3 < (l1.length : Int)) = false := decide_eq_false c21
          clear c21
          simp only [Option.some.injEq, Prod.mk.injEq] at H
          obtain ⟨rfl, rfl⟩ := H
          go_wp2
          go_ret2
          exact ⟨_, re_, uR HO_6.out, uW HB.out⟩
end Go.Proofs.YtgcbejidponoaaaGreatDoor.X
