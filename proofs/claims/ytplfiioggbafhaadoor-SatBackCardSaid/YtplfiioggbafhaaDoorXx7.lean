/- Printed by a program of this session's own: what functions of the program compute, and that the machine computes it. -/
import Derived.Test.YtplfiioggbafhaaDoorXx0
import Derived.Test.YtplfiioggbafhaaDoorXx1
import Derived.Test.YtplfiioggbafhaaDoorXx2
import Derived.Test.YtplfiioggbafhaaDoorXx3
import Derived.Test.YtplfiioggbafhaaDoorXx4
import Derived.Test.YtplfiioggbafhaaDoorXx5
import Derived.Test.YtplfiioggbafhaaDoorXx6
namespace Go.Proofs.YtplfiioggbafhaaDoor.X
open Go.RowKit Go.Proofs.YtplfiioggbafhaaDoorW.PrintWords Go.Proofs.YtplfiioggbafhaaDoorW.PrintLast Go.Proofs.YtplfiioggbafhaaDoorW.PrintMore
attribute [local go_sem] max2_int min2_int max_two min_two max_three min_three max_four min_four   -- for this text's walks alone
set_option linter.unusedVariables false
set_option linter.unusedSimpArgs false

attribute [local go_sem high] eqA23
/-! ### ebbtidelaw01_SatAdds: function 3 -/
def ebbtidelaw01_SatAdds.f (k : Nat) (a0_0 : Int) (a0_1 : Bool) (a1_0 : Int) (a1_1 : Bool) (a2 : Int) : Option (Bool) := (ebbtidelaw01_alive.f k).bind fun t169 => (if t169 = true then ((sat_Add.f k a0_0 a0_1 a1_0 a1_1).bind fun bt170 => ((ebbtideref01_Add.f k a0_0 a0_1 a1_0 a1_1).bind fun bt172 => (if (bt170.1 == bt172.1 && (bt170.2 == bt172.2)) = true then ((sat_Of.f a2).bind fun bt174 => (if (bt174.1 == a2 && (!bt174.2)) = true then ((sat_Total.f k (([(⟨a0_0, a0_1⟩ : S23), (⟨a1_0, a1_1⟩ : S23)] : List (S23)))).bind fun bt179 => ((ebbtideref01_Total.f k (([(⟨a0_0, a0_1⟩ : S23), (⟨a1_0, a1_1⟩ : S23)] : List (S23)))).bind fun bt184 => (some (bt179.1 == bt184.1 && (bt179.2 == bt184.2))))) else (none))) else (none)))) else (none))
theorem ebbtidelaw01_SatAdds.mono : ∀ a0 a1 a2 a3 a4 k, LeO (ebbtidelaw01_SatAdds.f k a0 a1 a2 a3 a4) (ebbtidelaw01_SatAdds.f (k + 1) a0 a1 a2 a3 a4) := by
  intro a0 a1 a2 a3 a4 k
  unfold ebbtidelaw01_SatAdds.f
  repeat' first
      | (with_reducible exact ebbtidelaw01_alive.mono _)
      | (with_reducible exact ebbtideref01_Add.mono _ _ _ _ _)
      | (with_reducible exact ebbtideref01_Total.mono _ _)
      | (with_reducible exact sat_Add.mono _ _ _ _ _)
      | (with_reducible exact sat_Total.mono _ _)
      | (with_reducible exact LeO.refl _)
      | (with_reducible exact LeO.none _)
      | (with_reducible refine LeO.ite ?_ ?_)
      | (with_reducible refine LeO.bind ?_ (fun _ => ?_))
      | exact ebbtidelaw01_alive.mono _
      | exact ebbtideref01_Add.mono _ _ _ _ _
      | exact ebbtideref01_Total.mono _ _
      | exact sat_Add.mono _ _ _ _ _
      | exact sat_Total.mono _ _
      | exact LeO.none _
      | refine LeO.ite ?_ ?_
      | refine LeO.bind ?_ (fun _ => ?_)
def ebbtidelaw01_SatAdds.T3 : Bool × List (List Nat × List Nat) := (true, [([], []), ([], []), ([0, 1], [0, 1]), ([], []), ([], []), ([3, 4, 2], [3, 4]), ([2, 5], [2, 5]), ([6, 5], [6]), ([7], [7]), ([8, 7, 7], [7, 8]), ([7], [7]), ([10, 7], [7, 10]), ([9, 11, 7], [7, 9, 11]), ([7, 12], [7, 12]), ([13, 9], [13]), ([14], [14]), ([14], [14]), ([15, 16, 14], [14, 15, 16]), ([17, 14, 14], [14, 17]), ([14], [14]), ([14], [14]), ([19, 20, 14], [14, 19, 20]), ([21, 18, 14], [14, 21]), ([18, 22, 14], [14, 18, 22]), ([14, 23], [14, 23]), ([24, 22, 0, 1, 2, 3, 4, 5, 6, 7, 8, 9, 10, 11, 12, 13, 14, 15, 16, 17, 18, 19, 20, 21, 22, 23, 24], [24])])
def ebbtidelaw01_SatAdds.B3 : List Nat := [0, 0, 3, 0, 0, 31, 63, 127, 255, 511, 255, 1279, 4095, 8191, 16383, 32767, 32767, 131071, 262143, 32767, 32767, 1605631, 4194303, 8388607, 16777215, 33554431]
theorem ebbtidelaw01_SatAdds.tab3 : rtab .any (opsOf Tryd.f3 3) = ebbtidelaw01_SatAdds.T3 := by kernel_rfl
theorem ebbtidelaw01_SatAdds.bits3 : waitsOk ebbtidelaw01_SatAdds.T3.2 ebbtidelaw01_SatAdds.B3 = true := by kernel_rfl
set_option maxHeartbeats 8000000 in
set_option maxRecDepth 100000 in
theorem ebbtidelaw01_SatAdds.calls (k : Nat) (a0_0 : Int) (a0_1 : Bool) (a1_0 : Int) (a1_1 : Bool) (a2 : Int) (r : Bool) (w : World) (hL : LD w) (h : ebbtidelaw01_SatAdds.f k a0_0 a0_1 a1_0 a1_1 a2 = some r) :
    Calls Tryd.prog 3 #[.agg #[.int .i64 a0_0, .bool a0_1], .agg #[.int .i64 a1_0, .bool a1_1], .int .i64 a2] w fun e w' => e = .returned (.bool r) ∧ Below w.heap.size w w' := by
  have HL0 := Aside0.mk hL
  clear hL
  have hu23 := Tryd.underlying23
  have HB := Aside0.mk (Below.refl w.heap.size w)
  have H : ((ebbtidelaw01_alive.f k).bind fun t169 => (if t169 = true then ((sat_Add.f k a0_0 a0_1 a1_0 a1_1).bind fun bt170 => ((ebbtideref01_Add.f k a0_0 a0_1 a1_0 a1_1).bind fun bt172 => (if (bt170.1 == bt172.1 && (bt170.2 == bt172.2)) = true then ((sat_Of.f a2).bind fun bt174 => (if (bt174.1 == a2 && (!bt174.2)) = true then ((sat_Total.f k (([(⟨a0_0, a0_1⟩ : S23), (⟨a1_0, a1_1⟩ : S23)] : List (S23)))).bind fun bt179 => ((ebbtideref01_Total.f k (([(⟨a0_0, a0_1⟩ : S23), (⟨a1_0, a1_1⟩ : S23)] : List (S23)))).bind fun bt184 => (some (bt179.1 == bt184.1 && (bt179.2 == bt184.2))))) else (none))) else (none)))) else (none))) = some r := h
  clear h
  replace H := Option.bind_eq_some_iff.mp H
  obtain ⟨t169, A40, H⟩ := H
  replace H : (if t169 = true then ((sat_Add.f k a0_0 a0_1 a1_0 a1_1).bind fun bt170 => ((ebbtideref01_Add.f k a0_0 a0_1 a1_0 a1_1).bind fun bt172 => (if (bt170.1 == bt172.1 && (bt170.2 == bt172.2)) = true then ((sat_Of.f a2).bind fun bt174 => (if (bt174.1 == a2 && (!bt174.2)) = true then ((sat_Total.f k (([(⟨a0_0, a0_1⟩ : S23), (⟨a1_0, a1_1⟩ : S23)] : List (S23)))).bind fun bt179 => ((ebbtideref01_Total.f k (([(⟨a0_0, a0_1⟩ : S23), (⟨a1_0, a1_1⟩ : S23)] : List (S23)))).bind fun bt184 => (some (bt179.1 == bt184.1 && (bt179.2 == bt184.2))))) else (none))) else (none)))) else (none)) = some r := H
  have A4 := Aside0.mk A40
  clear A40
  by_cases c5 : t169 = true
  · subst c5
    have H1 : ((sat_Add.f k a0_0 a0_1 a1_0 a1_1).bind fun bt170 => ((ebbtideref01_Add.f k a0_0 a0_1 a1_0 a1_1).bind fun bt172 => (if (bt170.1 == bt172.1 && (bt170.2 == bt172.2)) = true then ((sat_Of.f a2).bind fun bt174 => (if (bt174.1 == a2 && (!bt174.2)) = true then ((sat_Total.f k (([(⟨a0_0, a0_1⟩ : S23), (⟨a1_0, a1_1⟩ : S23)] : List (S23)))).bind fun bt179 => ((ebbtideref01_Total.f k (([(⟨a0_0, a0_1⟩ : S23), (⟨a1_0, a1_1⟩ : S23)] : List (S23)))).bind fun bt184 => (some (bt179.1 == bt184.1 && (bt179.2 == bt184.2))))) else (none))) else (none)))) = some r := by rw [if_pos rfl] at H; exact H
    clear H
    have H := H1
    clear H1
    replace H := Option.bind_eq_some_iff.mp H
    obtain ⟨⟨t170, t171⟩, A60, H⟩ := H
    replace H : ((ebbtideref01_Add.f k a0_0 a0_1 a1_0 a1_1).bind fun bt172 => (if (t170 == bt172.1 && (t171 == bt172.2)) = true then ((sat_Of.f a2).bind fun bt174 => (if (bt174.1 == a2 && (!bt174.2)) = true then ((sat_Total.f k (([(⟨a0_0, a0_1⟩ : S23), (⟨a1_0, a1_1⟩ : S23)] : List (S23)))).bind fun bt179 => ((ebbtideref01_Total.f k (([(⟨a0_0, a0_1⟩ : S23), (⟨a1_0, a1_1⟩ : S23)] : List (S23)))).bind fun bt184 => (some (bt179.1 == bt184.1 && (bt179.2 == bt184.2))))) else (none))) else (none))) = some r := H
    have A6 := Aside0.mk A60
    clear A60
    replace H := Option.bind_eq_some_iff.mp H
    obtain ⟨⟨t172, t173⟩, A70, H⟩ := H
    replace H : (if (t170 == t172 && (t171 == t173)) = true then ((sat_Of.f a2).bind fun bt174 => (if (bt174.1 == a2 && (!bt174.2)) = true then ((sat_Total.f k (([(⟨a0_0, a0_1⟩ : S23), (⟨a1_0, a1_1⟩ : S23)] : List (S23)))).bind fun bt179 => ((ebbtideref01_Total.f k (([(⟨a0_0, a0_1⟩ : S23), (⟨a1_0, a1_1⟩ : S23)] : List (S23)))).bind fun bt184 => (some (bt179.1 == bt184.1 && (bt179.2 == bt184.2))))) else (none))) else (none)) = some r := H
    have A7 := Aside0.mk A70
    clear A70
    by_cases c8 : (t170 == t172 && (t171 == t173)) = true
    · rw [if_pos c8] at H
      have c8b0 : (t170 == t172 && (t171 == t173)) = true := c8
      (try (have c8b1 : decide (t170 = t172 && (t171 == t173)) = true := by simpa using c8))
      (try (have c8b2 : (t170 == t172 && (t171 == t173)) = true := by simpa using c8))
      clear c8
      replace H := Option.bind_eq_some_iff.mp H
      obtain ⟨⟨t174, t175⟩, A90, H⟩ := H
      replace H : (if (t174 == a2 && (!t175)) = true then ((sat_Total.f k (([(⟨a0_0, a0_1⟩ : S23), (⟨a1_0, a1_1⟩ : S23)] : List (S23)))).bind fun bt179 => ((ebbtideref01_Total.f k (([(⟨a0_0, a0_1⟩ : S23), (⟨a1_0, a1_1⟩ : S23)] : List (S23)))).bind fun bt184 => (some (bt179.1 == bt184.1 && (bt179.2 == bt184.2))))) else (none)) = some r := H
      have A9 := Aside0.mk A90
      clear A90
      by_cases c10 : (t174 == a2 && (!t175)) = true
      · rw [if_pos c10] at H
        have c10b0 : (t174 == a2 && (!t175)) = true := c10
        (try (have c10b1 : decide (t174 = a2 && (!t175)) = true := by simpa using c10))
        (try (have c10b2 : (t174 == a2 && (!t175)) = true := by simpa using c10))
        clear c10
        obtain ⟨y176, hy176⟩ : ∃ y_ : List (S23), y_ = (([(⟨a0_0, a0_1⟩ : S23), (⟨a1_0, a1_1⟩ : S23)] : List (S23))) := ⟨_, rfl⟩
        replace H : ((sat_Total.f k y176).bind fun bt179 => ((ebbtideref01_Total.f k (([(⟨a0_0, a0_1⟩ : S23), (⟨a1_0, a1_1⟩ : S23)] : List (S23)))).bind fun bt184 => (some (bt179.1 == bt184.1 && (bt179.2 == bt184.2))))) = some r := by first | (rw [hy176]; with_reducible exact H) | (have H2_ := (Option.bind_some _ _).symm.trans H; rw [hy176]; with_reducible exact H2_) | (have H2_ := (Option.bind_some _ _).symm.trans H; with_reducible exact H2_) | with_reducible exact H | (rw [hy176]; exact H) | exact H
        have Ny176 := Aside0.mk hy176
        clear hy176
        replace H := Option.bind_eq_some_iff.mp H
        obtain ⟨⟨t179, t180⟩, A110, H⟩ := H
        replace H : ((ebbtideref01_Total.f k (([(⟨a0_0, a0_1⟩ : S23), (⟨a1_0, a1_1⟩ : S23)] : List (S23)))).bind fun bt184 => (some (t179 == bt184.1 && (t180 == bt184.2)))) = some r := H
        have A11 := Aside0.mk A110
        clear A110
        obtain ⟨y181, hy181⟩ : ∃ y_ : List (S23), y_ = (([(⟨a0_0, a0_1⟩ : S23), (⟨a1_0, a1_1⟩ : S23)] : List (S23))) := ⟨_, rfl⟩
        replace H : ((ebbtideref01_Total.f k y181).bind fun bt184 => (some (t179 == bt184.1 && (t180 == bt184.2)))) = some r := by first | (rw [hy181]; with_reducible exact H) | (have H2_ := (Option.bind_some _ _).symm.trans H; rw [hy181]; with_reducible exact H2_) | (have H2_ := (Option.bind_some _ _).symm.trans H; with_reducible exact H2_) | with_reducible exact H | (rw [hy181]; exact H) | exact H
        have Ny181 := Aside0.mk hy181
        clear hy181
        replace H := Option.bind_eq_some_iff.mp H
        obtain ⟨⟨t184, t185⟩, A120, H⟩ := H
        replace H : (some (t179 == t184 && (t180 == t185))) = some r := H
        have A12 := Aside0.mk A120
        clear A120
        obtain rfl := Option.some.inj H
        go_enter Tryd.func3, Tryd.ntmps3
        try go_wp2_with (first | ((with_reducible refine gate_dst (N := 3) rfl ?_); (try (refine gate_guard (by rfl) ?_; dsimp only)); refine box_event ?hg (N := 3) ?hd (cs := #[.int .i64 a0_0, .bool a0_1]) (t := 23) ?hr ?_; (case hd => rfl); (case hg => rfl); (case hr => first | (go_simp; done) | (go_simp; rfl)); intro gb167 hg w13 hbox hb; have n0_ := Aside0.mk (below_step (by repeat (first | (with_reducible first | exact HB.out | apply below_alloc | apply pw_below_drewN | apply below_drew1) | exact HB.out)) hb); have n1_ := Aside0.mk (hbox); have n2_ := Aside0.mk ((by rw [hg]; exact (below_size (by repeat (first | (with_reducible first | exact HB.out | apply below_alloc | apply pw_below_drewN | apply below_drew1) | exact HB.out))) : w.heap.size ≤ gb167)); have n3_ := Aside0.mk ((by rw [hg]; exact (below_size (by repeat (first | (with_reducible first | exact HB.out | apply below_alloc | apply pw_below_drewN | apply below_drew1) | exact HB.out))) : w.heap.size ≤ gb167)); clear HB; have HB := n0_; have BK167 := n1_; have GW167 := n2_; have GE167 := n3_; clear n0_ n1_ n2_ n3_; clear hb hbox hg) | ((with_reducible refine gate_dst (N := 4) rfl ?_); (try (refine gate_guard (by rfl) ?_; dsimp only)); refine box_event ?hg (N := 4) ?hd (cs := #[.int .i64 a1_0, .bool a1_1]) (t := 23) ?hr ?_; (case hd => rfl); (case hg => rfl); (case hr => first | (go_simp; done) | (go_simp; rfl)); intro gb168 hg w14 hbox hb; have n0_ := Aside0.mk (blk_below (g := gb167) (o := .cells #[.int .i64 a0_0, .bool a0_1] 23 (0, 0)) (by (with_reducible repeat (first | refine blk_drewN ?_ _ | refine blk_drew ?_ | refine blk_alloc ?_ _)); exact BK167.out) hb); have n1_ := Aside0.mk (below_step (by repeat (first | (with_reducible first | exact HB.out | apply below_alloc | apply pw_below_drewN | apply below_drew1 | refine below_set ?_ GE167.out) | exact HB.out)) hb); have n2_ := Aside0.mk (hbox); have n3_ := Aside0.mk ((by rw [hg]; exact (below_size (by repeat (first | (with_reducible first | exact HB.out | apply below_alloc | apply pw_below_drewN | apply below_drew1 | refine below_set ?_ GE167.out) | exact HB.out))) : w.heap.size ≤ gb168)); have n4_ := Aside0.mk ((by rw [hg]; exact (below_size (by repeat (first | (with_reducible first | exact HB.out | apply below_alloc | apply pw_below_drewN | apply below_drew1 | refine below_set ?_ GE167.out) | exact HB.out))) : w.heap.size ≤ gb168)); have n5_ := Aside0.mk ((by rw [hg]; exact Nat.ne_of_lt (blk_lt (g := gb167) (o := .cells #[.int .i64 a0_0, .bool a0_1] 23 (0, 0)) (by (with_reducible repeat (first | refine blk_drewN ?_ _ | refine blk_drew ?_ | refine blk_alloc ?_ _)); exact BK167.out)) : gb167 ≠ gb168)); have n6_ := Aside0.mk ((by rw [hg]; exact Nat.ne_of_gt (blk_lt (g := gb167) (o := .cells #[.int .i64 a0_0, .bool a0_1] 23 (0, 0)) (by (with_reducible repeat (first | refine blk_drewN ?_ _ | refine blk_drew ?_ | refine blk_alloc ?_ _)); exact BK167.out)) : gb168 ≠ gb167)); clear BK167; clear HB; have BK167 := n0_; have HB := n1_; have BK168 := n2_; have GW168 := n3_; have GE168 := n4_; have NB167_168 := n5_; have NB168_167 := n6_; clear n0_ n1_ n2_ n3_ n4_ n5_ n6_; clear hb hbox hg) | ((with_reducible refine gate_callee (f := 8) rfl ?_); refine goesL_ (some 7) rfl rfl Tryd.func8 (by kernel_rfl) rfl #[] rfl (by (try simp only [List.map_toArray, List.map_cons, List.map_nil]); first | done | rfl | (simp only [List.length_drop, List.length_take]; rfl)) ?_; (with_reducible refine (ebbtidelaw01_alive.calls (hL := (by first | exact HL0.out | exact LD.below HL0.out (by repeat (first | (with_reducible first | exact HB.out | apply below_alloc | apply pw_below_drewN | apply below_drew1 | refine below_set ?_ GE167.out | refine below_set ?_ GE168.out) | exact HB.out)))) k  true _ A4.out).mono ?_); rintro e w15 ⟨rfl, hb⟩; refine ⟨_, rfl, ?_⟩; have n0_ := Aside0.mk (blk_below (g := gb167) (o := .cells #[.int .i64 a0_0, .bool a0_1] 23 (0, 0)) (by (with_reducible repeat (first | refine blk_drewN ?_ _ | refine blk_drew ?_ | refine blk_alloc ?_ _)); exact BK167.out) hb); have n1_ := Aside0.mk (blk_below (g := gb168) (o := .cells #[.int .i64 a1_0, .bool a1_1] 23 (0, 0)) (by (with_reducible repeat (first | refine blk_drewN ?_ _ | refine blk_drew ?_ | refine blk_alloc ?_ _)); exact BK168.out) hb); have n2_ := Aside0.mk (below_step (by repeat (first | (with_reducible first | exact HB.out | apply below_alloc | apply pw_below_drewN | apply below_drew1 | refine below_set ?_ GE167.out | refine below_set ?_ GE168.out) | exact HB.out)) hb); clear BK167; clear BK168; clear HB; have BK167 := n0_; have BK168 := n1_; have HB := n2_; clear n0_ n1_ n2_; (try clear hb); (try clear hb2); (try clear hk); (try clear hi)))
        have n0_ := Aside0.mk (blk_drew BK167.out)
        have n1_ := Aside0.mk (blk_drew BK168.out)
        have n2_ := Aside0.mk (below_drew1 HB.out)
        clear BK167
        clear BK168
        clear HB
        have BK167 := n0_
        have BK168 := n1_
        have HB := n2_
        clear n0_ n1_ n2_
        refine start_ (n := 26) (S := fun w' => True) (ds := []) #[false, false, false, false, false, false, false, false, false, false, false, false, false, false, false, false, false, false, false, false, false, false, false, false, false, false] (by kernel_rfl) rfl rfl trivial (fun hHeld => ?_); refine with_tabW ebbtidelaw01_SatAdds.tab3 ebbtidelaw01_SatAdds.bits3 (fun HT_ HW_ => ?_)
        generalize w15.drew = w16 at BK167 BK168 HB hHeld ⊢
        refine inv_at [0, 1, 2, 3, 4, 5, 6, 7, 8, 9, 10, 11, 12, 13, 14, 15, 16, 17, 18, 19, 20, 21, 22, 23, 24, 25] (fun a0_ b a w' => ∃ (v177 : Value) (v182 : Value), a = putSel a0_ b [(0, 9, .agg #[.int .i64 a0_0, .bool a0_1]), (1, 10, .agg #[.int .i64 a1_0, .bool a1_1]), (2, 11, .agg #[.int .i64 t170, .bool t171]), (3, 12, .agg #[.int .i64 a0_0, .bool a0_1]), (4, 13, .agg #[.int .i64 a1_0, .bool a1_1]), (5, 14, .agg #[.int .i64 t172, .bool t173]), (6, 15, .bool (t170 == t172 && (t171 == t173))), (7, 16, .bool (t170 == t172 && (t171 == t173))), (8, 17, .int .i64 a2), (9, 18, .agg #[.int .i64 t174, .bool t175]), (10, 19, .int .i64 a2), (11, 20, .agg #[.int .i64 a2, .bool false]), (12, 21, .bool (t174 == a2 && (!t175))), (13, 22, .bool (t174 == a2 && (!t175))), (14, 23, .bool (t174 == a2 && (!t175))), (15, 24, .agg #[.int .i64 a0_0, .bool a0_1]), (16, 25, .agg #[.int .i64 a1_0, .bool a1_1]), (17, 26, v177), (18, 27, .agg #[.int .i64 t179, .bool t180]), (19, 28, .agg #[.int .i64 a0_0, .bool a0_1]), (20, 29, .agg #[.int .i64 a1_0, .bool a1_1]), (21, 30, v182), (22, 31, .agg #[.int .i64 t184, .bool t185]), (23, 32, .bool (t179 == t184 && (t180 == t185))), (24, 33, .bool (t179 == t184 && (t180 == t185))), (25, 6, .bool (t179 == t184 && (t180 == t185)))] ∧ (w'.heap[gb167]? = some (.cells #[.int .i64 a0_0, .bool a0_1] 23 (0, 0))) ∧ (w'.heap[gb168]? = some (.cells #[.int .i64 a1_0, .bool a1_1] 23 (0, 0))) ∧ (Below w.heap.size w w') ∧ (b 17 = true → Kd.R k23 23 w' w.heap.size (fun k_ => k_ ≠ gb167 ∧ k_ ≠ gb168) v177 y176) ∧ (b 21 = true → Kd.R k23 23 w' w.heap.size (fun k_ => k_ ≠ gb167 ∧ k_ ≠ gb168) v182 y181)) HT_.out HW_.out (by kernel_rfl) (by kernel_rfl) ?_ ?_ ?_
        · exact ⟨.bool false, .bool false, by simp only [putSel, Bool.false_eq_true, if_false], BK167.out, BK168.out, HB.out, fun h_ => absurd h_ (by decide), fun h_ => absurd h_ (by decide)⟩
        · skip
          clear BK167 BK168 HB
          refine steps_cons ?_ ?_
          · rintro b a w' ⟨v177, v182, ha, Q_BK167, Q_BK168, Q_HB, Q_HO178, Q_HO183⟩ hb_ hon hoff
            refine ⟨_, rfl, fun K hK => ?_⟩
            have e3 : a.tmps[3]? = some (.pointer (some ⟨gb167, 0, none⟩)) := by rw [ha]; exact (putSel_off rfl).trans rfl
            replace ha := Aside0.mk ha
            have BK167 := Aside0.mk Q_BK167
            have BK168 := Aside0.mk Q_BK168
            have HB := Aside0.mk Q_HB
            have hc0_ : w'.cell? ⟨gb167, 0, none⟩ = some (.int .i64 a0_0) := (blk_cell BK167.out 0).trans rfl
            have hc1_ : w'.cell? ⟨gb167, 1, none⟩ = some (.bool a0_1) := (blk_cell BK167.out 1).trans rfl
            refine value_ (w1 := w') (v := .agg #[.int .i64 a0_0, .bool a0_1]) (by rfl) rfl ?_ ?_
            · go_simp
              (try simp only [i64_w])
              try rfl
            refine hK.out _ _ ⟨v177, v182, (by rw [ha.out]; exact putSel_upk 0 hb_ rfl rfl rfl), Q_BK167, Q_BK168, Q_HB, fun h0_ => absurd ((hoff 17 (by kernel_rfl)).symm.trans h0_) (by decide), fun h0_ => absurd ((hoff 21 (by kernel_rfl)).symm.trans h0_) (by decide)⟩
          refine steps_cons ?_ ?_
          · rintro b a w' ⟨v177, v182, ha, Q_BK167, Q_BK168, Q_HB, Q_HO178, Q_HO183⟩ hb_ hon hoff
            refine ⟨_, rfl, fun K hK => ?_⟩
            have e4 : a.tmps[4]? = some (.pointer (some ⟨gb168, 0, none⟩)) := by rw [ha]; exact (putSel_off rfl).trans rfl
            replace ha := Aside0.mk ha
            have BK167 := Aside0.mk Q_BK167
            have BK168 := Aside0.mk Q_BK168
            have HB := Aside0.mk Q_HB
            have hc0_ : w'.cell? ⟨gb168, 0, none⟩ = some (.int .i64 a1_0) := (blk_cell BK168.out 0).trans rfl
            have hc1_ : w'.cell? ⟨gb168, 1, none⟩ = some (.bool a1_1) := (blk_cell BK168.out 1).trans rfl
            refine value_ (w1 := w') (v := .agg #[.int .i64 a1_0, .bool a1_1]) (by rfl) rfl ?_ ?_
            · go_simp
              (try simp only [i64_w])
              try rfl
            refine hK.out _ _ ⟨v177, v182, (by rw [ha.out]; exact putSel_upk 1 hb_ rfl rfl rfl), Q_BK167, Q_BK168, Q_HB, fun h0_ => absurd ((hoff 17 (by kernel_rfl)).symm.trans h0_) (by decide), fun h0_ => absurd ((hoff 21 (by kernel_rfl)).symm.trans h0_) (by decide)⟩
          refine steps_cons ?_ ?_
          · rintro b a w' ⟨v177, v182, ha, Q_BK167, Q_BK168, Q_HB, Q_HO178, Q_HO183⟩ hb_ hon hoff
            refine ⟨_, rfl, fun K hK => ?_⟩
            have e9 : a.tmps[9]? = some (.agg #[.int .i64 a0_0, .bool a0_1]) := by rw [ha]; exact putSel_on (e := (0, 9, .agg #[.int .i64 a0_0, .bool a0_1])) 0 rfl rfl (hon 0 (by kernel_rfl)) rfl
            have e10 : a.tmps[10]? = some (.agg #[.int .i64 a1_0, .bool a1_1]) := by rw [ha]; exact putSel_on (e := (1, 10, .agg #[.int .i64 a1_0, .bool a1_1])) 1 rfl rfl (hon 1 (by kernel_rfl)) rfl
            replace ha := Aside0.mk ha
            have BK167 := Aside0.mk Q_BK167
            have BK168 := Aside0.mk Q_BK168
            have HB := Aside0.mk Q_HB
            refine goes_ Tryd.func9 (by kernel_rfl) rfl #[.agg #[.int .i64 a0_0, .bool a0_1], .agg #[.int .i64 a1_0, .bool a1_1]] (by first | rfl | exact wanted_on rfl rfl rfl (e9.trans (by first | rfl | (simp [*]; done))) | exact wanted_on rfl rfl rfl (e10.trans (by first | rfl | (simp [*]; done)))) rfl rfl (by first | (simp only [List.map_toArray, List.map_cons, List.map_nil, Act.eval, Array.getD_eq_getD_getElem?, Option.getD_some, e9, e10]; done) | (simp only [List.map_toArray, List.map_cons, List.map_nil, Act.eval, Array.getD_eq_getD_getElem?, Option.getD_some, e9, e10]; rfl)) ?_
            with_reducible refine (sat_Add.calls k a0_0 a0_1 a1_0 a1_1 t170 t171 _ A6.out).mono ?_
            rintro e w17 ⟨rfl, hb⟩
            refine ⟨_, rfl, ?_⟩
            have n0_ := Aside0.mk (blk_below (g := gb167) (o := .cells #[.int .i64 a0_0, .bool a0_1] 23 (0, 0)) (by (with_reducible repeat (first | refine blk_drewN ?_ _ | refine blk_drew ?_ | refine blk_alloc ?_ _)); exact BK167.out) hb)
            have n1_ := Aside0.mk (blk_below (g := gb168) (o := .cells #[.int .i64 a1_0, .bool a1_1] 23 (0, 0)) (by (with_reducible repeat (first | refine blk_drewN ?_ _ | refine blk_drew ?_ | refine blk_alloc ?_ _)); exact BK168.out) hb)
            have n2_ := Aside0.mk (below_step (by repeat (first | (with_reducible first | exact HB.out | apply below_alloc | apply pw_below_drewN | apply below_drew1 | refine below_set ?_ GE167.out | refine below_set ?_ GE168.out) | exact HB.out)) hb)
            clear BK167
            clear BK168
            clear HB
            have BK167 := n0_
            have BK168 := n1_
            have HB := n2_
            clear n0_ n1_ n2_
            (try clear hb)
            (try clear hb2)
            (try clear hk)
            (try clear hi)
            refine hK.out _ _ ⟨v177, v182, (by rw [ha.out]; exact putSel_upk 2 hb_ rfl rfl rfl), (by (with_reducible repeat (first | refine blk_drewN ?_ _ | refine blk_drew ?_ | refine blk_alloc ?_ _)); exact BK167.out), (by (with_reducible repeat (first | refine blk_drewN ?_ _ | refine blk_drew ?_ | refine blk_alloc ?_ _)); exact BK168.out), (by repeat (first | (with_reducible first | exact HB.out | apply below_alloc | apply pw_below_drewN | apply below_drew1 | refine below_set ?_ GE167.out | refine below_set ?_ GE168.out) | exact HB.out)), fun h0_ => absurd ((hoff 17 (by kernel_rfl)).symm.trans h0_) (by decide), fun h0_ => absurd ((hoff 21 (by kernel_rfl)).symm.trans h0_) (by decide)⟩
          refine steps_cons ?_ ?_
          · rintro b a w' ⟨v177, v182, ha, Q_BK167, Q_BK168, Q_HB, Q_HO178, Q_HO183⟩ hb_ hon hoff
            refine ⟨_, rfl, fun K hK => ?_⟩
            have e3 : a.tmps[3]? = some (.pointer (some ⟨gb167, 0, none⟩)) := by rw [ha]; exact (putSel_off rfl).trans rfl
            replace ha := Aside0.mk ha
            have BK167 := Aside0.mk Q_BK167
            have BK168 := Aside0.mk Q_BK168
            have HB := Aside0.mk Q_HB
            have hc0_ : w'.cell? ⟨gb167, 0, none⟩ = some (.int .i64 a0_0) := (blk_cell BK167.out 0).trans rfl
            have hc1_ : w'.cell? ⟨gb167, 1, none⟩ = some (.bool a0_1) := (blk_cell BK167.out 1).trans rfl
            refine value_ (w1 := w') (v := .agg #[.int .i64 a0_0, .bool a0_1]) (by rfl) rfl ?_ ?_
            · go_simp
              (try simp only [i64_w])
              try rfl
            refine hK.out _ _ ⟨v177, v182, (by rw [ha.out]; exact putSel_upk 3 hb_ rfl rfl rfl), Q_BK167, Q_BK168, Q_HB, fun h0_ => absurd ((hoff 17 (by kernel_rfl)).symm.trans h0_) (by decide), fun h0_ => absurd ((hoff 21 (by kernel_rfl)).symm.trans h0_) (by decide)⟩
          refine steps_cons ?_ ?_
          · rintro b a w' ⟨v177, v182, ha, Q_BK167, Q_BK168, Q_HB, Q_HO178, Q_HO183⟩ hb_ hon hoff
            refine ⟨_, rfl, fun K hK => ?_⟩
            have e4 : a.tmps[4]? = some (.pointer (some ⟨gb168, 0, none⟩)) := by rw [ha]; exact (putSel_off rfl).trans rfl
            replace ha := Aside0.mk ha
            have BK167 := Aside0.mk Q_BK167
            have BK168 := Aside0.mk Q_BK168
            have HB := Aside0.mk Q_HB
            have hc0_ : w'.cell? ⟨gb168, 0, none⟩ = some (.int .i64 a1_0) := (blk_cell BK168.out 0).trans rfl
            have hc1_ : w'.cell? ⟨gb168, 1, none⟩ = some (.bool a1_1) := (blk_cell BK168.out 1).trans rfl
            refine value_ (w1 := w') (v := .agg #[.int .i64 a1_0, .bool a1_1]) (by rfl) rfl ?_ ?_
            · go_simp
              (try simp only [i64_w])
              try rfl
            refine hK.out _ _ ⟨v177, v182, (by rw [ha.out]; exact putSel_upk 4 hb_ rfl rfl rfl), Q_BK167, Q_BK168, Q_HB, fun h0_ => absurd ((hoff 17 (by kernel_rfl)).symm.trans h0_) (by decide), fun h0_ => absurd ((hoff 21 (by kernel_rfl)).symm.trans h0_) (by decide)⟩
          refine steps_cons ?_ ?_
          · rintro b a w' ⟨v177, v182, ha, Q_BK167, Q_BK168, Q_HB, Q_HO178, Q_HO183⟩ hb_ hon hoff
            refine ⟨_, rfl, fun K hK => ?_⟩
            have e12 : a.tmps[12]? = some (.agg #[.int .i64 a0_0, .bool a0_1]) := by rw [ha]; exact putSel_on (e := (3, 12, .agg #[.int .i64 a0_0, .bool a0_1])) 3 rfl rfl (hon 3 (by kernel_rfl)) rfl
            have e13 : a.tmps[13]? = some (.agg #[.int .i64 a1_0, .bool a1_1]) := by rw [ha]; exact putSel_on (e := (4, 13, .agg #[.int .i64 a1_0, .bool a1_1])) 4 rfl rfl (hon 4 (by kernel_rfl)) rfl
            replace ha := Aside0.mk ha
            have BK167 := Aside0.mk Q_BK167
            have BK168 := Aside0.mk Q_BK168
            have HB := Aside0.mk Q_HB
            refine goes_ Tryd.func10 (by kernel_rfl) rfl #[.agg #[.int .i64 a0_0, .bool a0_1], .agg #[.int .i64 a1_0, .bool a1_1]] (by first | rfl | exact wanted_on rfl rfl rfl (e12.trans (by first | rfl | (simp [*]; done))) | exact wanted_on rfl rfl rfl (e13.trans (by first | rfl | (simp [*]; done)))) rfl rfl (by first | (simp only [List.map_toArray, List.map_cons, List.map_nil, Act.eval, Array.getD_eq_getD_getElem?, Option.getD_some, e12, e13]; done) | (simp only [List.map_toArray, List.map_cons, List.map_nil, Act.eval, Array.getD_eq_getD_getElem?, Option.getD_some, e12, e13]; rfl)) ?_
            with_reducible refine (ebbtideref01_Add.calls k a0_0 a0_1 a1_0 a1_1 t172 t173 _ A7.out).mono ?_
            rintro e w19 ⟨rfl, hb⟩
            refine ⟨_, rfl, ?_⟩
            have n0_ := Aside0.mk (blk_below (g := gb167) (o := .cells #[.int .i64 a0_0, .bool a0_1] 23 (0, 0)) (by (with_reducible repeat (first | refine blk_drewN ?_ _ | refine blk_drew ?_ | refine blk_alloc ?_ _)); exact BK167.out) hb)
            have n1_ := Aside0.mk (blk_below (g := gb168) (o := .cells #[.int .i64 a1_0, .bool a1_1] 23 (0, 0)) (by (with_reducible repeat (first | refine blk_drewN ?_ _ | refine blk_drew ?_ | refine blk_alloc ?_ _)); exact BK168.out) hb)
            have n2_ := Aside0.mk (below_step (by repeat (first | (with_reducible first | exact HB.out | apply below_alloc | apply pw_below_drewN | apply below_drew1 | refine below_set ?_ GE167.out | refine below_set ?_ GE168.out) | exact HB.out)) hb)
            clear BK167
            clear BK168
            clear HB
            have BK167 := n0_
            have BK168 := n1_
            have HB := n2_
            clear n0_ n1_ n2_
            (try clear hb)
            (try clear hb2)
            (try clear hk)
            (try clear hi)
            refine hK.out _ _ ⟨v177, v182, (by rw [ha.out]; exact putSel_upk 5 hb_ rfl rfl rfl), (by (with_reducible repeat (first | refine blk_drewN ?_ _ | refine blk_drew ?_ | refine blk_alloc ?_ _)); exact BK167.out), (by (with_reducible repeat (first | refine blk_drewN ?_ _ | refine blk_drew ?_ | refine blk_alloc ?_ _)); exact BK168.out), (by repeat (first | (with_reducible first | exact HB.out | apply below_alloc | apply pw_below_drewN | apply below_drew1 | refine below_set ?_ GE167.out | refine below_set ?_ GE168.out) | exact HB.out)), fun h0_ => absurd ((hoff 17 (by kernel_rfl)).symm.trans h0_) (by decide), fun h0_ => absurd ((hoff 21 (by kernel_rfl)).symm.trans h0_) (by decide)⟩
          refine steps_cons ?_ ?_
          · rintro b a w' ⟨v177, v182, ha, Q_BK167, Q_BK168, Q_HB, Q_HO178, Q_HO183⟩ hb_ hon hoff
            refine ⟨_, rfl, fun K hK => ?_⟩
            have e11 : a.tmps[11]? = some (.agg #[.int .i64 t170, .bool t171]) := by rw [ha]; exact putSel_on (e := (2, 11, .agg #[.int .i64 t170, .bool t171])) 2 rfl rfl (hon 2 (by kernel_rfl)) rfl
            have e14 : a.tmps[14]? = some (.agg #[.int .i64 t172, .bool t173]) := by rw [ha]; exact putSel_on (e := (5, 14, .agg #[.int .i64 t172, .bool t173])) 5 rfl rfl (hon 5 (by kernel_rfl)) rfl
            replace ha := Aside0.mk ha
            have BK167 := Aside0.mk Q_BK167
            have BK168 := Aside0.mk Q_BK168
            have HB := Aside0.mk Q_HB
            refine value_ (w1 := w') (v := .bool (t170 == t172 && (t171 == t173))) (by rfl) rfl ?_ ?_
            · go_simp
              (try simp only [i64_w])
              try rfl
            refine hK.out _ _ ⟨v177, v182, (by rw [ha.out]; exact putSel_upk 6 hb_ rfl rfl rfl), Q_BK167, Q_BK168, Q_HB, fun h0_ => absurd ((hoff 17 (by kernel_rfl)).symm.trans h0_) (by decide), fun h0_ => absurd ((hoff 21 (by kernel_rfl)).symm.trans h0_) (by decide)⟩
          refine steps_cons ?_ ?_
          · rintro b a w' ⟨v177, v182, ha, Q_BK167, Q_BK168, Q_HB, Q_HO178, Q_HO183⟩ hb_ hon hoff
            refine ⟨_, rfl, fun K hK => ?_⟩
            have e15 : a.tmps[15]? = some (.bool (t170 == t172 && (t171 == t173))) := by rw [ha]; exact putSel_on (e := (6, 15, .bool (t170 == t172 && (t171 == t173)))) 6 rfl rfl (hon 6 (by kernel_rfl)) rfl
            replace ha := Aside0.mk ha
            have BK167 := Aside0.mk Q_BK167
            have BK168 := Aside0.mk Q_BK168
            have HB := Aside0.mk Q_HB
            refine value_ (w1 := w') (v := .bool (t170 == t172 && (t171 == t173))) (by rfl) rfl ?_ ?_
            · go_simp
              (try simp only [i64_w])
              try rfl
            refine hK.out _ _ ⟨v177, v182, (by rw [ha.out]; exact putSel_upk 7 hb_ rfl rfl rfl), Q_BK167, Q_BK168, Q_HB, fun h0_ => absurd ((hoff 17 (by kernel_rfl)).symm.trans h0_) (by decide), fun h0_ => absurd ((hoff 21 (by kernel_rfl)).symm.trans h0_) (by decide)⟩
          refine steps_cons ?_ ?_
          · rintro b a w' ⟨v177, v182, ha, Q_BK167, Q_BK168, Q_HB, Q_HO178, Q_HO183⟩ hb_ hon hoff
            refine ⟨_, rfl, fun K hK => ?_⟩
            have e2 : a.tmps[2]? = some (.int .i64 a2) := by rw [ha]; exact (putSel_off rfl).trans rfl
            have e16 : a.tmps[16]? = some (.bool (t170 == t172 && (t171 == t173))) := by rw [ha]; exact putSel_on (e := (7, 16, .bool (t170 == t172 && (t171 == t173)))) 7 rfl rfl (hon 7 (by kernel_rfl)) rfl
            replace ha := Aside0.mk ha
            have BK167 := Aside0.mk Q_BK167
            have BK168 := Aside0.mk Q_BK168
            have HB := Aside0.mk Q_HB
            refine value_ (w1 := w') (v := .int .i64 a2) (wanted_on rfl rfl rfl (e16.trans (by first | rfl | (simp [*]; done)))) rfl ?_ ?_
            · go_simp
              (try simp only [i64_w])
              try rfl
            refine hK.out _ _ ⟨v177, v182, (by rw [ha.out]; exact putSel_upk 8 hb_ rfl rfl rfl), Q_BK167, Q_BK168, Q_HB, fun h0_ => absurd ((hoff 17 (by kernel_rfl)).symm.trans h0_) (by decide), fun h0_ => absurd ((hoff 21 (by kernel_rfl)).symm.trans h0_) (by decide)⟩
          refine steps_cons ?_ ?_
          · rintro b a w' ⟨v177, v182, ha, Q_BK167, Q_BK168, Q_HB, Q_HO178, Q_HO183⟩ hb_ hon hoff
            refine ⟨_, rfl, fun K hK => ?_⟩
            have e17 : a.tmps[17]? = some (.int .i64 a2) := by rw [ha]; exact putSel_on (e := (8, 17, .int .i64 a2)) 8 rfl rfl (hon 8 (by kernel_rfl)) rfl
            have e16 : a.tmps[16]? = some (.bool (t170 == t172 && (t171 == t173))) := by rw [ha]; exact putSel_on (e := (7, 16, .bool (t170 == t172 && (t171 == t173)))) 7 rfl rfl (hon 7 (by kernel_rfl)) rfl
            replace ha := Aside0.mk ha
            have BK167 := Aside0.mk Q_BK167
            have BK168 := Aside0.mk Q_BK168
            have HB := Aside0.mk Q_HB
            refine goes_ Tryd.func11 (by kernel_rfl) rfl #[.int .i64 a2] (by first | rfl | exact wanted_on rfl rfl rfl (e17.trans (by first | rfl | (simp [*]; done))) | exact wanted_on rfl rfl rfl (e16.trans (by first | rfl | (simp [*]; done)))) rfl rfl (by first | (simp only [List.map_toArray, List.map_cons, List.map_nil, Act.eval, Array.getD_eq_getD_getElem?, Option.getD_some, e17, e16]; done) | (simp only [List.map_toArray, List.map_cons, List.map_nil, Act.eval, Array.getD_eq_getD_getElem?, Option.getD_some, e17, e16]; rfl)) ?_
            with_reducible refine (sat_Of.calls a2 t174 t175 _ A9.out).mono ?_
            rintro e w20 ⟨rfl, hb⟩
            refine ⟨_, rfl, ?_⟩
            have n0_ := Aside0.mk (blk_below (g := gb167) (o := .cells #[.int .i64 a0_0, .bool a0_1] 23 (0, 0)) (by (with_reducible repeat (first | refine blk_drewN ?_ _ | refine blk_drew ?_ | refine blk_alloc ?_ _)); exact BK167.out) hb)
            have n1_ := Aside0.mk (blk_below (g := gb168) (o := .cells #[.int .i64 a1_0, .bool a1_1] 23 (0, 0)) (by (with_reducible repeat (first | refine blk_drewN ?_ _ | refine blk_drew ?_ | refine blk_alloc ?_ _)); exact BK168.out) hb)
            have n2_ := Aside0.mk (below_step (by repeat (first | (with_reducible first | exact HB.out | apply below_alloc | apply pw_below_drewN | apply below_drew1 | refine below_set ?_ GE167.out | refine below_set ?_ GE168.out) | exact HB.out)) hb)
            clear BK167
            clear BK168
            clear HB
            have BK167 := n0_
            have BK168 := n1_
            have HB := n2_
            clear n0_ n1_ n2_
            (try clear hb)
            (try clear hb2)
            (try clear hk)
            (try clear hi)
            refine hK.out _ _ ⟨v177, v182, (by rw [ha.out]; exact putSel_upk 9 hb_ rfl rfl rfl), (by (with_reducible repeat (first | refine blk_drewN ?_ _ | refine blk_drew ?_ | refine blk_alloc ?_ _)); exact BK167.out), (by (with_reducible repeat (first | refine blk_drewN ?_ _ | refine blk_drew ?_ | refine blk_alloc ?_ _)); exact BK168.out), (by repeat (first | (with_reducible first | exact HB.out | apply below_alloc | apply pw_below_drewN | apply below_drew1 | refine below_set ?_ GE167.out | refine below_set ?_ GE168.out) | exact HB.out)), fun h0_ => absurd ((hoff 17 (by kernel_rfl)).symm.trans h0_) (by decide), fun h0_ => absurd ((hoff 21 (by kernel_rfl)).symm.trans h0_) (by decide)⟩
          refine steps_cons ?_ ?_
          · rintro b a w' ⟨v177, v182, ha, Q_BK167, Q_BK168, Q_HB, Q_HO178, Q_HO183⟩ hb_ hon hoff
            refine ⟨_, rfl, fun K hK => ?_⟩
            have e2 : a.tmps[2]? = some (.int .i64 a2) := by rw [ha]; exact (putSel_off rfl).trans rfl
            have e16 : a.tmps[16]? = some (.bool (t170 == t172 && (t171 == t173))) := by rw [ha]; exact putSel_on (e := (7, 16, .bool (t170 == t172 && (t171 == t173)))) 7 rfl rfl (hon 7 (by kernel_rfl)) rfl
            replace ha := Aside0.mk ha
            have BK167 := Aside0.mk Q_BK167
            have BK168 := Aside0.mk Q_BK168
            have HB := Aside0.mk Q_HB
            refine value_ (w1 := w') (v := .int .i64 a2) (wanted_on rfl rfl rfl (e16.trans (by first | rfl | (simp [*]; done)))) rfl ?_ ?_
            · go_simp
              (try simp only [i64_w])
              try rfl
            refine hK.out _ _ ⟨v177, v182, (by rw [ha.out]; exact putSel_upk 10 hb_ rfl rfl rfl), Q_BK167, Q_BK168, Q_HB, fun h0_ => absurd ((hoff 17 (by kernel_rfl)).symm.trans h0_) (by decide), fun h0_ => absurd ((hoff 21 (by kernel_rfl)).symm.trans h0_) (by decide)⟩
          refine steps_cons ?_ ?_
          · rintro b a w' ⟨v177, v182, ha, Q_BK167, Q_BK168, Q_HB, Q_HO178, Q_HO183⟩ hb_ hon hoff
            refine ⟨_, rfl, fun K hK => ?_⟩
            have e19 : a.tmps[19]? = some (.int .i64 a2) := by rw [ha]; exact putSel_on (e := (10, 19, .int .i64 a2)) 10 rfl rfl (hon 10 (by kernel_rfl)) rfl
            have e16 : a.tmps[16]? = some (.bool (t170 == t172 && (t171 == t173))) := by rw [ha]; exact putSel_on (e := (7, 16, .bool (t170 == t172 && (t171 == t173)))) 7 rfl rfl (hon 7 (by kernel_rfl)) rfl
            replace ha := Aside0.mk ha
            have BK167 := Aside0.mk Q_BK167
            have BK168 := Aside0.mk Q_BK168
            have HB := Aside0.mk Q_HB
            refine value_ (w1 := w') (v := .agg #[.int .i64 a2, .bool false]) (wanted_on rfl rfl rfl (e16.trans (by first | rfl | (simp [*]; done)))) rfl ?_ ?_
            · go_simp
              (try simp only [i64_w])
              try rfl
            refine hK.out _ _ ⟨v177, v182, (by rw [ha.out]; exact putSel_upk 11 hb_ rfl rfl rfl), Q_BK167, Q_BK168, Q_HB, fun h0_ => absurd ((hoff 17 (by kernel_rfl)).symm.trans h0_) (by decide), fun h0_ => absurd ((hoff 21 (by kernel_rfl)).symm.trans h0_) (by decide)⟩
          refine steps_cons ?_ ?_
          · rintro b a w' ⟨v177, v182, ha, Q_BK167, Q_BK168, Q_HB, Q_HO178, Q_HO183⟩ hb_ hon hoff
            refine ⟨_, rfl, fun K hK => ?_⟩
            have e18 : a.tmps[18]? = some (.agg #[.int .i64 t174, .bool t175]) := by rw [ha]; exact putSel_on (e := (9, 18, .agg #[.int .i64 t174, .bool t175])) 9 rfl rfl (hon 9 (by kernel_rfl)) rfl
            have e20 : a.tmps[20]? = some (.agg #[.int .i64 a2, .bool false]) := by rw [ha]; exact putSel_on (e := (11, 20, .agg #[.int .i64 a2, .bool false])) 11 rfl rfl (hon 11 (by kernel_rfl)) rfl
            have e16 : a.tmps[16]? = some (.bool (t170 == t172 && (t171 == t173))) := by rw [ha]; exact putSel_on (e := (7, 16, .bool (t170 == t172 && (t171 == t173)))) 7 rfl rfl (hon 7 (by kernel_rfl)) rfl
            replace ha := Aside0.mk ha
            have BK167 := Aside0.mk Q_BK167
            have BK168 := Aside0.mk Q_BK168
            have HB := Aside0.mk Q_HB
            refine value_ (w1 := w') (v := .bool (t174 == a2 && (!t175))) (wanted_on rfl rfl rfl (e16.trans (by first | rfl | (simp [*]; done)))) rfl ?_ ?_
            · go_simp
              (try simp only [i64_w])
              try rfl
            refine hK.out _ _ ⟨v177, v182, (by rw [ha.out]; exact putSel_upk 12 hb_ rfl rfl rfl), Q_BK167, Q_BK168, Q_HB, fun h0_ => absurd ((hoff 17 (by kernel_rfl)).symm.trans h0_) (by decide), fun h0_ => absurd ((hoff 21 (by kernel_rfl)).symm.trans h0_) (by decide)⟩
          refine steps_cons ?_ ?_
          · rintro b a w' ⟨v177, v182, ha, Q_BK167, Q_BK168, Q_HB, Q_HO178, Q_HO183⟩ hb_ hon hoff
            refine ⟨_, rfl, fun K hK => ?_⟩
            have e16 : a.tmps[16]? = some (.bool (t170 == t172 && (t171 == t173))) := by rw [ha]; exact putSel_on (e := (7, 16, .bool (t170 == t172 && (t171 == t173)))) 7 rfl rfl (hon 7 (by kernel_rfl)) rfl
            have e21 : a.tmps[21]? = some (.bool (t174 == a2 && (!t175))) := by rw [ha]; exact putSel_on (e := (12, 21, .bool (t174 == a2 && (!t175)))) 12 rfl rfl (hon 12 (by kernel_rfl)) rfl
            replace ha := Aside0.mk ha
            have BK167 := Aside0.mk Q_BK167
            have BK168 := Aside0.mk Q_BK168
            have HB := Aside0.mk Q_HB
            refine value_ (w1 := w') (v := .bool (t174 == a2 && (!t175))) (by rfl) rfl ?_ ?_
            · go_simp
              (try simp only [i64_w])
              try rfl
            refine hK.out _ _ ⟨v177, v182, (by rw [ha.out]; exact putSel_upk 13 hb_ rfl rfl rfl), Q_BK167, Q_BK168, Q_HB, fun h0_ => absurd ((hoff 17 (by kernel_rfl)).symm.trans h0_) (by decide), fun h0_ => absurd ((hoff 21 (by kernel_rfl)).symm.trans h0_) (by decide)⟩
          refine steps_cons ?_ ?_
          · rintro b a w' ⟨v177, v182, ha, Q_BK167, Q_BK168, Q_HB, Q_HO178, Q_HO183⟩ hb_ hon hoff
            refine ⟨_, rfl, fun K hK => ?_⟩
            have e22 : a.tmps[22]? = some (.bool (t174 == a2 && (!t175))) := by rw [ha]; exact putSel_on (e := (13, 22, .bool (t174 == a2 && (!t175)))) 13 rfl rfl (hon 13 (by kernel_rfl)) rfl
            replace ha := Aside0.mk ha
            have BK167 := Aside0.mk Q_BK167
            have BK168 := Aside0.mk Q_BK168
            have HB := Aside0.mk Q_HB
            refine value_ (w1 := w') (v := .bool (t174 == a2 && (!t175))) (by rfl) rfl ?_ ?_
            · go_simp
              (try simp only [i64_w])
              try rfl
            refine hK.out _ _ ⟨v177, v182, (by rw [ha.out]; exact putSel_upk 14 hb_ rfl rfl rfl), Q_BK167, Q_BK168, Q_HB, fun h0_ => absurd ((hoff 17 (by kernel_rfl)).symm.trans h0_) (by decide), fun h0_ => absurd ((hoff 21 (by kernel_rfl)).symm.trans h0_) (by decide)⟩
          refine steps_cons ?_ ?_
          · rintro b a w' ⟨v177, v182, ha, Q_BK167, Q_BK168, Q_HB, Q_HO178, Q_HO183⟩ hb_ hon hoff
            refine ⟨_, rfl, fun K hK => ?_⟩
            have e3 : a.tmps[3]? = some (.pointer (some ⟨gb167, 0, none⟩)) := by rw [ha]; exact (putSel_off rfl).trans rfl
            have e23 : a.tmps[23]? = some (.bool (t174 == a2 && (!t175))) := by rw [ha]; exact putSel_on (e := (14, 23, .bool (t174 == a2 && (!t175)))) 14 rfl rfl (hon 14 (by kernel_rfl)) rfl
            replace ha := Aside0.mk ha
            have BK167 := Aside0.mk Q_BK167
            have BK168 := Aside0.mk Q_BK168
            have HB := Aside0.mk Q_HB
            have hc0_ : w'.cell? ⟨gb167, 0, none⟩ = some (.int .i64 a0_0) := (blk_cell BK167.out 0).trans rfl
            have hc1_ : w'.cell? ⟨gb167, 1, none⟩ = some (.bool a0_1) := (blk_cell BK167.out 1).trans rfl
            refine value_ (w1 := w') (v := .agg #[.int .i64 a0_0, .bool a0_1]) (wanted_on rfl rfl rfl (e23.trans (by first | rfl | (simp [*]; done)))) rfl ?_ ?_
            · go_simp
              (try simp only [i64_w])
              try rfl
            refine hK.out _ _ ⟨v177, v182, (by rw [ha.out]; exact putSel_upk 15 hb_ rfl rfl rfl), Q_BK167, Q_BK168, Q_HB, fun h0_ => absurd ((hoff 17 (by kernel_rfl)).symm.trans h0_) (by decide), Q_HO183⟩
          refine steps_cons ?_ ?_
          · rintro b a w' ⟨v177, v182, ha, Q_BK167, Q_BK168, Q_HB, Q_HO178, Q_HO183⟩ hb_ hon hoff
            refine ⟨_, rfl, fun K hK => ?_⟩
            have e4 : a.tmps[4]? = some (.pointer (some ⟨gb168, 0, none⟩)) := by rw [ha]; exact (putSel_off rfl).trans rfl
            have e23 : a.tmps[23]? = some (.bool (t174 == a2 && (!t175))) := by rw [ha]; exact putSel_on (e := (14, 23, .bool (t174 == a2 && (!t175)))) 14 rfl rfl (hon 14 (by kernel_rfl)) rfl
            replace ha := Aside0.mk ha
            have BK167 := Aside0.mk Q_BK167
            have BK168 := Aside0.mk Q_BK168
            have HB := Aside0.mk Q_HB
            have hc0_ : w'.cell? ⟨gb168, 0, none⟩ = some (.int .i64 a1_0) := (blk_cell BK168.out 0).trans rfl
            have hc1_ : w'.cell? ⟨gb168, 1, none⟩ = some (.bool a1_1) := (blk_cell BK168.out 1).trans rfl
            refine value_ (w1 := w') (v := .agg #[.int .i64 a1_0, .bool a1_1]) (wanted_on rfl rfl rfl (e23.trans (by first | rfl | (simp [*]; done)))) rfl ?_ ?_
            · go_simp
              (try simp only [i64_w])
              try rfl
            refine hK.out _ _ ⟨v177, v182, (by rw [ha.out]; exact putSel_upk 16 hb_ rfl rfl rfl), Q_BK167, Q_BK168, Q_HB, fun h0_ => absurd ((hoff 17 (by kernel_rfl)).symm.trans h0_) (by decide), Q_HO183⟩
          refine steps_cons ?_ ?_
          · rintro b a w' ⟨v177, v182, ha, Q_BK167, Q_BK168, Q_HB, Q_HO178, Q_HO183⟩ hb_ hon hoff
            refine ⟨_, rfl, fun K hK => ?_⟩
            have e24 : a.tmps[24]? = some (.agg #[.int .i64 a0_0, .bool a0_1]) := by rw [ha]; exact putSel_on (e := (15, 24, .agg #[.int .i64 a0_0, .bool a0_1])) 15 rfl rfl (hon 15 (by kernel_rfl)) rfl
            have e25 : a.tmps[25]? = some (.agg #[.int .i64 a1_0, .bool a1_1]) := by rw [ha]; exact putSel_on (e := (16, 25, .agg #[.int .i64 a1_0, .bool a1_1])) 16 rfl rfl (hon 16 (by kernel_rfl)) rfl
            have e23 : a.tmps[23]? = some (.bool (t174 == a2 && (!t175))) := by rw [ha]; exact putSel_on (e := (14, 23, .bool (t174 == a2 && (!t175)))) 14 rfl rfl (hon 14 (by kernel_rfl)) rfl
            replace ha := Aside0.mk ha
            have BK167 := Aside0.mk Q_BK167
            have BK168 := Aside0.mk Q_BK168
            have HB := Aside0.mk Q_HB
            refine Kd.R_lit_step k23 _ 23 ?hg (N := 26) ?hd (xs := ([(⟨a0_0, a0_1⟩ : S23), (⟨a1_0, a1_1⟩ : S23)] : List (S23))) (inner := [.int .i64 a0_0, .bool a0_1, .int .i64 a1_0, .bool a1_1]) (ok := fun _ => True) (okp := fun _ => True) ?hr ?hp (fun _ hk => hk) trivial (Below.refl _ _) (Nat.le_refl _) (by simp) ?_; (case hd => rfl); (case hg => first | rfl | exact wanted_on rfl rfl rfl (e23.trans (by first | rfl | (simp [*]; done)))); (case hr => first | (go_simp; done) | (go_simp; rfl)); (case hp => exact (Reps.c2 (show Kd.M k23 _ _ _ (⟨a0_0, a0_1⟩ : S23) [.int .i64 a0_0, .bool a0_1] from (k23_mkM _ _ _ (⟨a0_0, a0_1⟩ : S23) )) (Reps.c2 (show Kd.M k23 _ _ _ (⟨a1_0, a1_1⟩ : S23) [.int .i64 a1_0, .bool a1_1] from (k23_mkM _ _ _ (⟨a1_0, a1_1⟩ : S23) )) (Reps.none _ _))))
            intro v177 w21 ho22 hb hg_ hnew_
            clear hg_ hnew_
            (first | rw [← Ny176.out] at ho22 | (simp only [Int.reduceToNat] at ho22; rw [← Ny176.out] at ho22))
            have n0_ := Aside0.mk (Kd.R_lower (Kd.R_newB (Kd.R_newB ho22 (g := gb167) (o := .cells #[.int .i64 a0_0, .bool a0_1] 23 (0, 0)) (by (with_reducible repeat (first | refine blk_drewN ?_ _ | refine blk_drew ?_ | refine blk_alloc ?_ _)); exact BK167.out)) (g := gb168) (o := .cells #[.int .i64 a1_0, .bool a1_1] 23 (0, 0)) (by (with_reducible repeat (first | refine blk_drewN ?_ _ | refine blk_drew ?_ | refine blk_alloc ?_ _)); exact BK168.out)) (below_size (by repeat (first | (with_reducible first | exact HB.out | apply below_alloc | apply pw_below_drewN | apply below_drew1 | refine below_set ?_ GE167.out | refine below_set ?_ GE168.out) | exact HB.out))))
            have n1_ := Aside0.mk (blk_below (g := gb167) (o := .cells #[.int .i64 a0_0, .bool a0_1] 23 (0, 0)) (by (with_reducible repeat (first | refine blk_drewN ?_ _ | refine blk_drew ?_ | refine blk_alloc ?_ _)); exact BK167.out) hb)
            have n2_ := Aside0.mk (blk_below (g := gb168) (o := .cells #[.int .i64 a1_0, .bool a1_1] 23 (0, 0)) (by (with_reducible repeat (first | refine blk_drewN ?_ _ | refine blk_drew ?_ | refine blk_alloc ?_ _)); exact BK168.out) hb)
            have n3_ := Aside0.mk (below_step (by repeat (first | (with_reducible first | exact HB.out | apply below_alloc | apply pw_below_drewN | apply below_drew1 | refine below_set ?_ GE167.out | refine below_set ?_ GE168.out) | exact HB.out)) hb)
            have z_HO183 := fun (h0_ : b 21 = true) => (show Kd.R k23 23 w21 w.heap.size (fun k_ => k_ ≠ gb167 ∧ k_ ≠ gb168) v182 y181 from by first | exact (Kd.R_elder' (by (with_reducible repeat (first | apply Kd.R_alloc | apply Kd.R_drewN | apply Kd.R_drew)); exact (Q_HO183 h0_)) (Kd.R_base ho22) hb) | exact Kd.R_mono (Kd.R_elder' (by (with_reducible repeat (first | apply Kd.R_alloc | apply Kd.R_drewN | apply Kd.R_drew)); exact (Q_HO183 h0_)) (Kd.R_base ho22) hb) (fun _ h_ => by first | trivial | exact h_ | exact h_.1))
            clear BK167
            clear BK168
            clear HB
            have HO178 := n0_
            have BK167 := n1_
            have BK168 := n2_
            have HB := n3_
            clear n0_ n1_ n2_ n3_
            clear hb ho22
            refine hK.out _ _ ⟨v177, v182, (by rw [ha.out]; exact putSel_upk 17 hb_ rfl rfl rfl), (by (with_reducible repeat (first | refine blk_drewN ?_ _ | refine blk_drew ?_ | refine blk_alloc ?_ _)); exact BK167.out), (by (with_reducible repeat (first | refine blk_drewN ?_ _ | refine blk_drew ?_ | refine blk_alloc ?_ _)); exact BK168.out), (by repeat (first | (with_reducible first | exact HB.out | apply below_alloc | apply pw_below_drewN | apply below_drew1 | refine below_set ?_ GE167.out | refine below_set ?_ GE168.out) | exact HB.out)), fun _ => (by (with_reducible repeat (first | apply Kd.R_alloc | apply Kd.R_drewN | apply Kd.R_drew)); exact Kd.R_mono HO178.out (fun _ hk => ⟨hk.1.2, hk.2⟩)), z_HO183⟩
          refine steps_cons ?_ ?_
          · rintro b a w' ⟨v177, v182, ha, Q_BK167, Q_BK168, Q_HB, Q_HO178, Q_HO183⟩ hb_ hon hoff
            refine ⟨_, rfl, fun K hK => ?_⟩
            have e26 : a.tmps[26]? = some (v177) := by rw [ha]; exact putSel_on (e := (17, 26, v177)) 17 rfl rfl (hon 17 (by kernel_rfl)) rfl
            have e23 : a.tmps[23]? = some (.bool (t174 == a2 && (!t175))) := by rw [ha]; exact putSel_on (e := (14, 23, .bool (t174 == a2 && (!t175)))) 14 rfl rfl (hon 14 (by kernel_rfl)) rfl
            replace ha := Aside0.mk ha
            have BK167 := Aside0.mk Q_BK167
            have BK168 := Aside0.mk Q_BK168
            have HB := Aside0.mk Q_HB
            have HO178 := Aside0.mk (Q_HO178 (hon 17 (by kernel_rfl)))
            obtain ⟨Ao23, co23, eo23⟩ := Kd.R_slice HO178.out
            (first | subst eo23 | (injection eo23 with f1_ f2_ f3_; have f4_ := f1_.symm; have f5_ := f3_.symm; clear f1_ f2_ f3_; subst f4_; subst f5_))
            refine goes_ Tryd.func12 (by kernel_rfl) rfl #[.slice Ao23 y176.length co23] (by first | rfl | exact wanted_on rfl rfl rfl (e26.trans (by first | rfl | (simp [*]; done))) | exact wanted_on rfl rfl rfl (e23.trans (by first | rfl | (simp [*]; done)))) rfl rfl (by first | (simp only [List.map_toArray, List.map_cons, List.map_nil, Act.eval, Array.getD_eq_getD_getElem?, Option.getD_some, e26, e23]; done) | (simp only [List.map_toArray, List.map_cons, List.map_nil, Act.eval, Array.getD_eq_getD_getElem?, Option.getD_some, e26, e23]; rfl)) ?_
            with_reducible refine (sat_Total.calls k _ _ y176 t179 t180 _ ?side1 ?side2 A11.out).mono ?_
            (case side1 => repeat (first | exact (Kd.R_reads' HO178.out).2.2 | (with_reducible refine Kd.C_alloc ?_ _) | (with_reducible refine Kd.C_drewN ?_ _) | (with_reducible refine Kd.C_drew ?_)))
            (case side2 => exact (Kd.R_reads' HO178.out).2.1)
            rintro e w24 ⟨rfl, hb⟩
            refine ⟨_, rfl, ?_⟩
            have n0_ := Aside0.mk (Kd.R_below (by (with_reducible repeat (first | apply Kd.R_alloc | apply Kd.R_drewN | apply Kd.R_drew)); exact HO178.out) hb)
            have n1_ := Aside0.mk (blk_below (g := gb167) (o := .cells #[.int .i64 a0_0, .bool a0_1] 23 (0, 0)) (by (with_reducible repeat (first | refine blk_drewN ?_ _ | refine blk_drew ?_ | refine blk_alloc ?_ _)); exact BK167.out) hb)
            have n2_ := Aside0.mk (blk_below (g := gb168) (o := .cells #[.int .i64 a1_0, .bool a1_1] 23 (0, 0)) (by (with_reducible repeat (first | refine blk_drewN ?_ _ | refine blk_drew ?_ | refine blk_alloc ?_ _)); exact BK168.out) hb)
            have n3_ := Aside0.mk (below_step (by repeat (first | (with_reducible first | exact HB.out | apply below_alloc | apply pw_below_drewN | apply below_drew1 | refine below_set ?_ GE167.out | refine below_set ?_ GE168.out) | exact HB.out)) hb)
            have z_HO183 := fun (h0_ : b 21 = true) => (show Kd.R k23 23 w24 w.heap.size (fun k_ => k_ ≠ gb167 ∧ k_ ≠ gb168) v182 y181 from by first | exact (Kd.R_below (by (with_reducible repeat (first | apply Kd.R_alloc | apply Kd.R_drewN | apply Kd.R_drew)); exact (Q_HO183 h0_)) hb) | exact Kd.R_mono (Kd.R_below (by (with_reducible repeat (first | apply Kd.R_alloc | apply Kd.R_drewN | apply Kd.R_drew)); exact (Q_HO183 h0_)) hb) (fun _ h_ => by first | trivial | exact h_ | exact h_.1))
            clear HO178
            clear BK167
            clear BK168
            clear HB
            have HO178 := n0_
            have BK167 := n1_
            have BK168 := n2_
            have HB := n3_
            clear n0_ n1_ n2_ n3_
            (try clear hb)
            (try clear hb2)
            (try clear hk)
            (try clear hi)
            refine hK.out _ _ ⟨.slice Ao23 y176.length co23, v182, (by rw [ha.out]; exact putSel_upk 18 hb_ rfl rfl rfl), (by (with_reducible repeat (first | refine blk_drewN ?_ _ | refine blk_drew ?_ | refine blk_alloc ?_ _)); exact BK167.out), (by (with_reducible repeat (first | refine blk_drewN ?_ _ | refine blk_drew ?_ | refine blk_alloc ?_ _)); exact BK168.out), (by repeat (first | (with_reducible first | exact HB.out | apply below_alloc | apply pw_below_drewN | apply below_drew1 | refine below_set ?_ GE167.out | refine below_set ?_ GE168.out) | exact HB.out)), fun _ => (by (with_reducible repeat (first | apply Kd.R_alloc | apply Kd.R_drewN | apply Kd.R_drew)); exact HO178.out), z_HO183⟩
          refine steps_cons ?_ ?_
          · rintro b a w' ⟨v177, v182, ha, Q_BK167, Q_BK168, Q_HB, Q_HO178, Q_HO183⟩ hb_ hon hoff
            refine ⟨_, rfl, fun K hK => ?_⟩
            have e3 : a.tmps[3]? = some (.pointer (some ⟨gb167, 0, none⟩)) := by rw [ha]; exact (putSel_off rfl).trans rfl
            have e23 : a.tmps[23]? = some (.bool (t174 == a2 && (!t175))) := by rw [ha]; exact putSel_on (e := (14, 23, .bool (t174 == a2 && (!t175)))) 14 rfl rfl (hon 14 (by kernel_rfl)) rfl
            replace ha := Aside0.mk ha
            have BK167 := Aside0.mk Q_BK167
            have BK168 := Aside0.mk Q_BK168
            have HB := Aside0.mk Q_HB
            have hc0_ : w'.cell? ⟨gb167, 0, none⟩ = some (.int .i64 a0_0) := (blk_cell BK167.out 0).trans rfl
            have hc1_ : w'.cell? ⟨gb167, 1, none⟩ = some (.bool a0_1) := (blk_cell BK167.out 1).trans rfl
            refine value_ (w1 := w') (v := .agg #[.int .i64 a0_0, .bool a0_1]) (wanted_on rfl rfl rfl (e23.trans (by first | rfl | (simp [*]; done)))) rfl ?_ ?_
            · go_simp
              (try simp only [i64_w])
              try rfl
            refine hK.out _ _ ⟨v177, v182, (by rw [ha.out]; exact putSel_upk 19 hb_ rfl rfl rfl), Q_BK167, Q_BK168, Q_HB, Q_HO178, fun h0_ => absurd ((hoff 21 (by kernel_rfl)).symm.trans h0_) (by decide)⟩
          refine steps_cons ?_ ?_
          · rintro b a w' ⟨v177, v182, ha, Q_BK167, Q_BK168, Q_HB, Q_HO178, Q_HO183⟩ hb_ hon hoff
            refine ⟨_, rfl, fun K hK => ?_⟩
            have e4 : a.tmps[4]? = some (.pointer (some ⟨gb168, 0, none⟩)) := by rw [ha]; exact (putSel_off rfl).trans rfl
            have e23 : a.tmps[23]? = some (.bool (t174 == a2 && (!t175))) := by rw [ha]; exact putSel_on (e := (14, 23, .bool (t174 == a2 && (!t175)))) 14 rfl rfl (hon 14 (by kernel_rfl)) rfl
            replace ha := Aside0.mk ha
            have BK167 := Aside0.mk Q_BK167
            have BK168 := Aside0.mk Q_BK168
            have HB := Aside0.mk Q_HB
            have hc0_ : w'.cell? ⟨gb168, 0, none⟩ = some (.int .i64 a1_0) := (blk_cell BK168.out 0).trans rfl
            have hc1_ : w'.cell? ⟨gb168, 1, none⟩ = some (.bool a1_1) := (blk_cell BK168.out 1).trans rfl
            refine value_ (w1 := w') (v := .agg #[.int .i64 a1_0, .bool a1_1]) (wanted_on rfl rfl rfl (e23.trans (by first | rfl | (simp [*]; done)))) rfl ?_ ?_
            · go_simp
              (try simp only [i64_w])
              try rfl
            refine hK.out _ _ ⟨v177, v182, (by rw [ha.out]; exact putSel_upk 20 hb_ rfl rfl rfl), Q_BK167, Q_BK168, Q_HB, Q_HO178, fun h0_ => absurd ((hoff 21 (by kernel_rfl)).symm.trans h0_) (by decide)⟩
          refine steps_cons ?_ ?_
          · rintro b a w' ⟨v177, v182, ha, Q_BK167, Q_BK168, Q_HB, Q_HO178, Q_HO183⟩ hb_ hon hoff
            refine ⟨_, rfl, fun K hK => ?_⟩
            have e28 : a.tmps[28]? = some (.agg #[.int .i64 a0_0, .bool a0_1]) := by rw [ha]; exact putSel_on (e := (19, 28, .agg #[.int .i64 a0_0, .bool a0_1])) 19 rfl rfl (hon 19 (by kernel_rfl)) rfl
            have e29 : a.tmps[29]? = some (.agg #[.int .i64 a1_0, .bool a1_1]) := by rw [ha]; exact putSel_on (e := (20, 29, .agg #[.int .i64 a1_0, .bool a1_1])) 20 rfl rfl (hon 20 (by kernel_rfl)) rfl
            have e23 : a.tmps[23]? = some (.bool (t174 == a2 && (!t175))) := by rw [ha]; exact putSel_on (e := (14, 23, .bool (t174 == a2 && (!t175)))) 14 rfl rfl (hon 14 (by kernel_rfl)) rfl
            replace ha := Aside0.mk ha
            have BK167 := Aside0.mk Q_BK167
            have BK168 := Aside0.mk Q_BK168
            have HB := Aside0.mk Q_HB
            refine Kd.R_lit_step k23 _ 23 ?hg (N := 30) ?hd (xs := ([(⟨a0_0, a0_1⟩ : S23), (⟨a1_0, a1_1⟩ : S23)] : List (S23))) (inner := [.int .i64 a0_0, .bool a0_1, .int .i64 a1_0, .bool a1_1]) (ok := fun _ => True) (okp := fun _ => True) ?hr ?hp (fun _ hk => hk) trivial (Below.refl _ _) (Nat.le_refl _) (by simp) ?_; (case hd => rfl); (case hg => first | rfl | exact wanted_on rfl rfl rfl (e23.trans (by first | rfl | (simp [*]; done)))); (case hr => first | (go_simp; done) | (go_simp; rfl)); (case hp => exact (Reps.c2 (show Kd.M k23 _ _ _ (⟨a0_0, a0_1⟩ : S23) [.int .i64 a0_0, .bool a0_1] from (k23_mkM _ _ _ (⟨a0_0, a0_1⟩ : S23) )) (Reps.c2 (show Kd.M k23 _ _ _ (⟨a1_0, a1_1⟩ : S23) [.int .i64 a1_0, .bool a1_1] from (k23_mkM _ _ _ (⟨a1_0, a1_1⟩ : S23) )) (Reps.none _ _))))
            intro v182 w21 ho22 hb hg_ hnew_
            clear hg_ hnew_
            (first | rw [← Ny181.out] at ho22 | (simp only [Int.reduceToNat] at ho22; rw [← Ny181.out] at ho22))
            have n0_ := Aside0.mk (Kd.R_lower (Kd.R_newB (Kd.R_newB ho22 (g := gb167) (o := .cells #[.int .i64 a0_0, .bool a0_1] 23 (0, 0)) (by (with_reducible repeat (first | refine blk_drewN ?_ _ | refine blk_drew ?_ | refine blk_alloc ?_ _)); exact BK167.out)) (g := gb168) (o := .cells #[.int .i64 a1_0, .bool a1_1] 23 (0, 0)) (by (with_reducible repeat (first | refine blk_drewN ?_ _ | refine blk_drew ?_ | refine blk_alloc ?_ _)); exact BK168.out)) (below_size (by repeat (first | (with_reducible first | exact HB.out | apply below_alloc | apply pw_below_drewN | apply below_drew1 | refine below_set ?_ GE167.out | refine below_set ?_ GE168.out) | exact HB.out))))
            have n1_ := Aside0.mk (blk_below (g := gb167) (o := .cells #[.int .i64 a0_0, .bool a0_1] 23 (0, 0)) (by (with_reducible repeat (first | refine blk_drewN ?_ _ | refine blk_drew ?_ | refine blk_alloc ?_ _)); exact BK167.out) hb)
            have n2_ := Aside0.mk (blk_below (g := gb168) (o := .cells #[.int .i64 a1_0, .bool a1_1] 23 (0, 0)) (by (with_reducible repeat (first | refine blk_drewN ?_ _ | refine blk_drew ?_ | refine blk_alloc ?_ _)); exact BK168.out) hb)
            have n3_ := Aside0.mk (below_step (by repeat (first | (with_reducible first | exact HB.out | apply below_alloc | apply pw_below_drewN | apply below_drew1 | refine below_set ?_ GE167.out | refine below_set ?_ GE168.out) | exact HB.out)) hb)
            have z_HO178 := fun (h0_ : b 17 = true) => (show Kd.R k23 23 w21 w.heap.size (fun k_ => k_ ≠ gb167 ∧ k_ ≠ gb168) v177 y176 from by first | exact (Kd.R_elder' (by (with_reducible repeat (first | apply Kd.R_alloc | apply Kd.R_drewN | apply Kd.R_drew)); exact (Q_HO178 h0_)) (Kd.R_base ho22) hb) | exact Kd.R_mono (Kd.R_elder' (by (with_reducible repeat (first | apply Kd.R_alloc | apply Kd.R_drewN | apply Kd.R_drew)); exact (Q_HO178 h0_)) (Kd.R_base ho22) hb) (fun _ h_ => by first | trivial | exact h_ | exact h_.1))
            clear BK167
            clear BK168
            clear HB
            have HO183 := n0_
            have BK167 := n1_
            have BK168 := n2_
            have HB := n3_
            clear n0_ n1_ n2_ n3_
            clear hb ho22
            refine hK.out _ _ ⟨v177, v182, (by rw [ha.out]; exact putSel_upk 21 hb_ rfl rfl rfl), (by (with_reducible repeat (first | refine blk_drewN ?_ _ | refine blk_drew ?_ | refine blk_alloc ?_ _)); exact BK167.out), (by (with_reducible repeat (first | refine blk_drewN ?_ _ | refine blk_drew ?_ | refine blk_alloc ?_ _)); exact BK168.out), (by repeat (first | (with_reducible first | exact HB.out | apply below_alloc | apply pw_below_drewN | apply below_drew1 | refine below_set ?_ GE167.out | refine below_set ?_ GE168.out) | exact HB.out)), z_HO178, fun _ => (by (with_reducible repeat (first | apply Kd.R_alloc | apply Kd.R_drewN | apply Kd.R_drew)); exact Kd.R_mono HO183.out (fun _ hk => ⟨hk.1.2, hk.2⟩))⟩
          refine steps_cons ?_ ?_
          · rintro b a w' ⟨v177, v182, ha, Q_BK167, Q_BK168, Q_HB, Q_HO178, Q_HO183⟩ hb_ hon hoff
            refine ⟨_, rfl, fun K hK => ?_⟩
            have e30 : a.tmps[30]? = some (v182) := by rw [ha]; exact putSel_on (e := (21, 30, v182)) 21 rfl rfl (hon 21 (by kernel_rfl)) rfl
            have e23 : a.tmps[23]? = some (.bool (t174 == a2 && (!t175))) := by rw [ha]; exact putSel_on (e := (14, 23, .bool (t174 == a2 && (!t175)))) 14 rfl rfl (hon 14 (by kernel_rfl)) rfl
            replace ha := Aside0.mk ha
            have BK167 := Aside0.mk Q_BK167
            have BK168 := Aside0.mk Q_BK168
            have HB := Aside0.mk Q_HB
            have HO178 := Aside0.mk (Q_HO178 (hon 17 (by kernel_rfl)))
            have HO183 := Aside0.mk (Q_HO183 (hon 21 (by kernel_rfl)))
            obtain ⟨Ao27, co27, eo27⟩ := Kd.R_slice HO183.out
            (first | subst eo27 | (injection eo27 with f1_ f2_ f3_; have f4_ := f1_.symm; have f5_ := f3_.symm; clear f1_ f2_ f3_; subst f4_; subst f5_))
            refine goes_ Tryd.func13 (by kernel_rfl) rfl #[.slice Ao27 y181.length co27] (by first | rfl | exact wanted_on rfl rfl rfl (e30.trans (by first | rfl | (simp [*]; done))) | exact wanted_on rfl rfl rfl (e23.trans (by first | rfl | (simp [*]; done)))) rfl rfl (by first | (simp only [List.map_toArray, List.map_cons, List.map_nil, Act.eval, Array.getD_eq_getD_getElem?, Option.getD_some, e30, e23]; done) | (simp only [List.map_toArray, List.map_cons, List.map_nil, Act.eval, Array.getD_eq_getD_getElem?, Option.getD_some, e30, e23]; rfl)) ?_
            with_reducible refine (ebbtideref01_Total.calls k _ _ y181 t184 t185 _ ?side1 ?side2 A12.out).mono ?_
            (case side1 => repeat (first | exact (Kd.R_reads' HO183.out).2.2 | (with_reducible refine Kd.C_alloc ?_ _) | (with_reducible refine Kd.C_drewN ?_ _) | (with_reducible refine Kd.C_drew ?_)))
            (case side2 => exact (Kd.R_reads' HO183.out).2.1)
            rintro e w28 ⟨rfl, hb⟩
            refine ⟨_, rfl, ?_⟩
            have n0_ := Aside0.mk (Kd.R_below (by (with_reducible repeat (first | apply Kd.R_alloc | apply Kd.R_drewN | apply Kd.R_drew)); exact HO178.out) hb)
            have n1_ := Aside0.mk (Kd.R_below (by (with_reducible repeat (first | apply Kd.R_alloc | apply Kd.R_drewN | apply Kd.R_drew)); exact HO183.out) hb)
            have n2_ := Aside0.mk (blk_below (g := gb167) (o := .cells #[.int .i64 a0_0, .bool a0_1] 23 (0, 0)) (by (with_reducible repeat (first | refine blk_drewN ?_ _ | refine blk_drew ?_ | refine blk_alloc ?_ _)); exact BK167.out) hb)
            have n3_ := Aside0.mk (blk_below (g := gb168) (o := .cells #[.int .i64 a1_0, .bool a1_1] 23 (0, 0)) (by (with_reducible repeat (first | refine blk_drewN ?_ _ | refine blk_drew ?_ | refine blk_alloc ?_ _)); exact BK168.out) hb)
            have n4_ := Aside0.mk (below_step (by repeat (first | (with_reducible first | exact HB.out | apply below_alloc | apply pw_below_drewN | apply below_drew1 | refine below_set ?_ GE167.out | refine below_set ?_ GE168.out) | exact HB.out)) hb)
            clear HO178
            clear HO183
            clear BK167
            clear BK168
            clear HB
            have HO178 := n0_
            have HO183 := n1_
            have BK167 := n2_
            have BK168 := n3_
            have HB := n4_
            clear n0_ n1_ n2_ n3_ n4_
            (try clear hb)
            (try clear hb2)
            (try clear hk)
            (try clear hi)
            refine hK.out _ _ ⟨v177, .slice Ao27 y181.length co27, (by rw [ha.out]; exact putSel_upk 22 hb_ rfl rfl rfl), (by (with_reducible repeat (first | refine blk_drewN ?_ _ | refine blk_drew ?_ | refine blk_alloc ?_ _)); exact BK167.out), (by (with_reducible repeat (first | refine blk_drewN ?_ _ | refine blk_drew ?_ | refine blk_alloc ?_ _)); exact BK168.out), (by repeat (first | (with_reducible first | exact HB.out | apply below_alloc | apply pw_below_drewN | apply below_drew1 | refine below_set ?_ GE167.out | refine below_set ?_ GE168.out) | exact HB.out)), fun _ => (by (with_reducible repeat (first | apply Kd.R_alloc | apply Kd.R_drewN | apply Kd.R_drew)); exact HO178.out), fun _ => (by (with_reducible repeat (first | apply Kd.R_alloc | apply Kd.R_drewN | apply Kd.R_drew)); exact HO183.out)⟩
          refine steps_cons ?_ ?_
          · rintro b a w' ⟨v177, v182, ha, Q_BK167, Q_BK168, Q_HB, Q_HO178, Q_HO183⟩ hb_ hon hoff
            refine ⟨_, rfl, fun K hK => ?_⟩
            have e27 : a.tmps[27]? = some (.agg #[.int .i64 t179, .bool t180]) := by rw [ha]; exact putSel_on (e := (18, 27, .agg #[.int .i64 t179, .bool t180])) 18 rfl rfl (hon 18 (by kernel_rfl)) rfl
            have e31 : a.tmps[31]? = some (.agg #[.int .i64 t184, .bool t185]) := by rw [ha]; exact putSel_on (e := (22, 31, .agg #[.int .i64 t184, .bool t185])) 22 rfl rfl (hon 22 (by kernel_rfl)) rfl
            have e23 : a.tmps[23]? = some (.bool (t174 == a2 && (!t175))) := by rw [ha]; exact putSel_on (e := (14, 23, .bool (t174 == a2 && (!t175)))) 14 rfl rfl (hon 14 (by kernel_rfl)) rfl
            replace ha := Aside0.mk ha
            have BK167 := Aside0.mk Q_BK167
            have BK168 := Aside0.mk Q_BK168
            have HB := Aside0.mk Q_HB
            have HO178 := Aside0.mk (Q_HO178 (hon 17 (by kernel_rfl)))
            have HO183 := Aside0.mk (Q_HO183 (hon 21 (by kernel_rfl)))
            refine value_ (w1 := w') (v := .bool (t179 == t184 && (t180 == t185))) (wanted_on rfl rfl rfl (e23.trans (by first | rfl | (simp [*]; done)))) rfl ?_ ?_
            · go_simp
              (try simp only [i64_w])
              try rfl
            refine hK.out _ _ ⟨v177, v182, (by rw [ha.out]; exact putSel_upk 23 hb_ rfl rfl rfl), Q_BK167, Q_BK168, Q_HB, Q_HO178, Q_HO183⟩
          refine steps_cons ?_ ?_
          · rintro b a w' ⟨v177, v182, ha, Q_BK167, Q_BK168, Q_HB, Q_HO178, Q_HO183⟩ hb_ hon hoff
            refine ⟨_, rfl, fun K hK => ?_⟩
            have e23 : a.tmps[23]? = some (.bool (t174 == a2 && (!t175))) := by rw [ha]; exact putSel_on (e := (14, 23, .bool (t174 == a2 && (!t175)))) 14 rfl rfl (hon 14 (by kernel_rfl)) rfl
            have e32 : a.tmps[32]? = some (.bool (t179 == t184 && (t180 == t185))) := by rw [ha]; exact putSel_on (e := (23, 32, .bool (t179 == t184 && (t180 == t185)))) 23 rfl rfl (hon 23 (by kernel_rfl)) rfl
            replace ha := Aside0.mk ha
            have BK167 := Aside0.mk Q_BK167
            have BK168 := Aside0.mk Q_BK168
            have HB := Aside0.mk Q_HB
            have HO178 := Aside0.mk (Q_HO178 (hon 17 (by kernel_rfl)))
            have HO183 := Aside0.mk (Q_HO183 (hon 21 (by kernel_rfl)))
            refine value_ (w1 := w') (v := .bool (t179 == t184 && (t180 == t185))) (by rfl) rfl ?_ ?_
            · go_simp
              (try simp only [i64_w])
              try rfl
            refine hK.out _ _ ⟨v177, v182, (by rw [ha.out]; exact putSel_upk 24 hb_ rfl rfl rfl), Q_BK167, Q_BK168, Q_HB, Q_HO178, Q_HO183⟩
          refine steps_cons ?_ ?_
          · rintro b a w' ⟨v177, v182, ha, Q_BK167, Q_BK168, Q_HB, Q_HO178, Q_HO183⟩ hb_ hon hoff
            refine ⟨_, rfl, fun K hK => ?_⟩
            have e33 : a.tmps[33]? = some (.bool (t179 == t184 && (t180 == t185))) := by rw [ha]; exact putSel_on (e := (24, 33, .bool (t179 == t184 && (t180 == t185)))) 24 rfl rfl (hon 24 (by kernel_rfl)) rfl
            replace ha := Aside0.mk ha
            have BK167 := Aside0.mk Q_BK167
            have BK168 := Aside0.mk Q_BK168
            have HB := Aside0.mk Q_HB
            have HO178 := Aside0.mk (Q_HO178 (hon 17 (by kernel_rfl)))
            have HO183 := Aside0.mk (Q_HO183 (hon 21 (by kernel_rfl)))
            refine value_ (w1 := w') (v := .bool (t179 == t184 && (t180 == t185))) (by rfl) rfl ?_ ?_
            · go_simp
              (try simp only [i64_w])
              try rfl
            refine hK.out _ _ ⟨v177, v182, (by rw [ha.out]; exact putSel_upk 25 hb_ rfl rfl rfl), Q_BK167, Q_BK168, Q_HB, Q_HO178, Q_HO183⟩
          exact steps_nil
        rintro b a w28 hall ⟨v177, v182, ha, Q_BK167, Q_BK168, Q_HB, Q_HO178, Q_HO183⟩
        clear BK167 BK168 HB
        have hb0_ := hall 0 (by kernel_rfl)
        have hb1_ := hall 1 (by kernel_rfl)
        have hb2_ := hall 2 (by kernel_rfl)
        have hb3_ := hall 3 (by kernel_rfl)
        have hb4_ := hall 4 (by kernel_rfl)
        have hb5_ := hall 5 (by kernel_rfl)
        have hb6_ := hall 6 (by kernel_rfl)
        have hb7_ := hall 7 (by kernel_rfl)
        have hb8_ := hall 8 (by kernel_rfl)
        have hb9_ := hall 9 (by kernel_rfl)
        have hb10_ := hall 10 (by kernel_rfl)
        have hb11_ := hall 11 (by kernel_rfl)
        have hb12_ := hall 12 (by kernel_rfl)
        have hb13_ := hall 13 (by kernel_rfl)
        have hb14_ := hall 14 (by kernel_rfl)
        have hb15_ := hall 15 (by kernel_rfl)
        have hb16_ := hall 16 (by kernel_rfl)
        have hb17_ := hall 17 (by kernel_rfl)
        have hb18_ := hall 18 (by kernel_rfl)
        have hb19_ := hall 19 (by kernel_rfl)
        have hb20_ := hall 20 (by kernel_rfl)
        have hb21_ := hall 21 (by kernel_rfl)
        have hb22_ := hall 22 (by kernel_rfl)
        have hb23_ := hall 23 (by kernel_rfl)
        have hb24_ := hall 24 (by kernel_rfl)
        have hb25_ := hall 25 (by kernel_rfl)
        subst ha
        simp only [putSel, hb0_, hb1_, hb2_, hb3_, hb4_, hb5_, hb6_, hb7_, hb8_, hb9_, hb10_, hb11_, hb12_, hb13_, hb14_, hb15_, hb16_, hb17_, hb18_, hb19_, hb20_, hb21_, hb22_, hb23_, hb24_, hb25_, if_true, Act.put, List.setIfInBounds_toArray, List.set_cons_zero, List.set_cons_succ]
        have BK167 := Aside0.mk Q_BK167
        clear Q_BK167
        have BK168 := Aside0.mk Q_BK168
        clear Q_BK168
        have HB := Aside0.mk Q_HB
        clear Q_HB
        have HO178 := Aside0.mk (Q_HO178 hb17_)
        clear Q_HO178
        have HO183 := Aside0.mk (Q_HO183 hb21_)
        clear Q_HO183
        clear hall hb0_ hb1_ hb2_ hb3_ hb4_ hb5_ hb6_ hb7_ hb8_ hb9_ hb10_ hb11_ hb12_ hb13_ hb14_ hb15_ hb16_ hb17_ hb18_ hb19_ hb20_ hb21_ hb22_ hb23_ hb24_ hb25_
        try go_wp2
        go_ret
        exact ⟨by first | rfl | (simp [errW_none, errW_some] <;> rfl) | (simp [*, errW_none, errW_some] <;> rfl), by repeat (first | (with_reducible first | exact HB.out | apply below_alloc | apply pw_below_drewN | apply below_drew1 | refine below_set ?_ GE167.out | refine below_set ?_ GE168.out) | exact HB.out)⟩
      · rw [if_neg c10] at H
        have c10b0 : (t174 == a2 && (!t175)) = false := by simpa using c10
        (try (have c10b1 : decide (t174 = a2 && (!t175)) = false := by simpa using c10))
        (try (have c10b2 : (t174 == a2 && (!t175)) = false := by simpa using c10))
        (try (have c10b3 : ¬ (t174 = a2 && (!t175)) := by simpa using c10))
        clear c10
        exact absurd H (by simp)
    · rw [if_neg c8] at H
      have c8b0 : (t170 == t172 && (t171 == t173)) = false := by simpa using c8
      (try (have c8b1 : decide (t170 = t172 && (t171 == t173)) = false := by simpa using c8))
      (try (have c8b2 : (t170 == t172 && (t171 == t173)) = false := by simpa using c8))
      (try (have c8b3 : ¬ (t170 = t172 && (t171 == t173)) := by simpa using c8))
      clear c8
      exact absurd H (by simp)
  · replace c5 := Bool.eq_false_iff.mpr c5
    subst c5
    have H1 : (none) = some r := by rw [if_neg (show ¬ (false = true) by decide)] at H; exact H
    clear H
    have H := H1
    clear H1
    exact absurd H (by simp)

/-- What every value of type 23 that is read is like. -/
def Q23 (x : S23) : Prop := ((Lit.int .i64 x.f0).wf = true) ∧ (True)
/-- THE ONE PURE STATEMENT of ebbtidelaw01_SatAdds. -/
def ebbtidelaw01_SatAdds.Pure : Prop := ∀ (x0 : S23) (x1 : S23) (a2 : Int), Q23 x0 → Q23 x1 → ((Lit.int .i64 a2).wf = true) → ∃ k, ebbtidelaw01_SatAdds.f k x0.f0 x0.f1 x1.f0 x1.f1 a2 = some true
theorem ebbtidelaw01_SatAdds.walk (P : ebbtidelaw01_SatAdds.Pure) (x0 : S23) (x1 : S23) (a2 : Int) (w : World) (hL : LD w)  (q0 : Q23 x0) (q1 : Q23 x1) (q2 : (Lit.int .i64 a2).wf = true) :
    Calls Tryd.prog 3 #[.agg #[.int .i64 x0.f0, .bool x0.f1], .agg #[.int .i64 x1.f0, .bool x1.f1], .int .i64 a2] w fun e w' => e = .returned (.bool true) ∧ Below w.heap.size w w' := by
  obtain ⟨k, h⟩ := P x0 x1 a2 q0 q1 q2
  refine (ebbtidelaw01_SatAdds.calls (hL := hL) k x0.f0 x0.f1 x1.f0 x1.f1 a2 true w h).mono ?_
  rintro e w' ⟨rfl, hd⟩
  exact ⟨rfl, hd⟩

end Go.Proofs.YtplfiioggbafhaaDoor.X
