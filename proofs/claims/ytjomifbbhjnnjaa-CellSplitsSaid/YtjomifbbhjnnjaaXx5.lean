/- Printed by a program of this session's own: what functions of the program compute, and that the machine computes it. -/
import Derived.Test.YtjomifbbhjnnjaaXx0
import Derived.Test.YtjomifbbhjnnjaaXx1
import Derived.Test.YtjomifbbhjnnjaaXx2
import Derived.Test.YtjomifbbhjnnjaaXx3
import Derived.Test.YtjomifbbhjnnjaaXx4
namespace Go.Proofs.Ytjomifbbhjnnjaa.X
open Go.RowKit Go.Proofs.YtjomifbbhjnnjaaW.PrintWords Go.Proofs.YtjomifbbhjnnjaaW.PrintLast Go.Proofs.YtjomifbbhjnnjaaW.PrintMore
attribute [local go_sem] max2_int min2_int max_two min_two max_three min_three max_four min_four   -- for this text's walks alone
set_option linter.unusedVariables false
set_option linter.unusedSimpArgs false

attribute [local go_sem high] eqA23 eqA25
/-! ### ebbtidelaw06_alive: function 7 -/
def ebbtidelaw06_alive.f (k : Nat)  : Option (Bool) := (cell_Of.f k (([3, (-1)] : List Int))).bind fun bt161 => ((cell_Of.f k ([] : List Int)).bind fun bt167 => ((cell_Of.f k (([9] : List Int))).bind fun bt175 => ((cell_Merge.f k (([(⟨bt161.1, (⟨bt161.2.1, bt161.2.2.1⟩ : S23), bt161.2.2.2.1, bt161.2.2.2.2⟩ : S25), (⟨bt167.1, (⟨bt167.2.1, bt167.2.2.1⟩ : S23), bt167.2.2.2.1, bt167.2.2.2.2⟩ : S25), (⟨bt175.1, (⟨bt175.2.1, bt175.2.2.1⟩ : S23), bt175.2.2.2.1, bt175.2.2.2.2⟩ : S25)] : List (S25)))).bind fun bt183 => (if (bt161.1 == 2 && ((bt161.2.1 == 2 && (!bt161.2.2.1)) && (bt161.2.2.2.1 == (-1) && (bt161.2.2.2.2 == 3)))) = true then (if (bt183.1 == 3 && ((bt183.2.1 == 11 && (!bt183.2.2.1)) && (bt183.2.2.2.1 == (-1) && (bt183.2.2.2.2 == 9)))) = true then ((cell_Value.f bt183.1 bt183.2.1 bt183.2.2.1 bt183.2.2.2.1 bt183.2.2.2.2 4).bind fun bt189 => (if (bt189.1 == 9 && (!bt189.2)) = true then ((cell_Value.f bt183.1 bt183.2.1 bt183.2.2.1 bt183.2.2.2.1 bt183.2.2.2.2 9).bind fun bt191 => (if (bt191.1 == 0 && (!bt191.2)) = true then ((cell_Of.f k ([] : List Int)).bind fun bt193 => ((cell_Empty.f bt193.1 bt193.2.1 bt193.2.2.1 bt193.2.2.2.1 bt193.2.2.2.2).bind fun t198 => (if t198 = true then ((cell_Empty.f bt161.1 bt161.2.1 bt161.2.2.1 bt161.2.2.2.1 bt161.2.2.2.2).bind fun t199 => (if t199 = true then (none) else ((cell_Fold.f k bt161.1 bt161.2.1 bt161.2.2.1 bt161.2.2.2.1 bt161.2.2.2.2 5).bind fun bt200 => (some (bt200.1 == 3))))) else (none)))) else (none))) else (none))) else (none)) else (none)))))
theorem ebbtidelaw06_alive.mono : ∀ k, LeO (ebbtidelaw06_alive.f k ) (ebbtidelaw06_alive.f (k + 1) ) := by
  intro  k
  unfold ebbtidelaw06_alive.f
  repeat' first
      | (with_reducible exact cell_Fold.mono _ _ _ _ _ _ _)
      | (with_reducible exact cell_Merge.mono _ _)
      | (with_reducible exact cell_Of.mono _ _)
      | (with_reducible exact LeO.refl _)
      | (with_reducible exact LeO.none _)
      | (with_reducible refine LeO.ite ?_ ?_)
      | (with_reducible refine LeO.bind ?_ (fun _ => ?_))
      | exact cell_Fold.mono _ _ _ _ _ _ _
      | exact cell_Merge.mono _ _
      | exact cell_Of.mono _ _
      | exact LeO.none _
      | refine LeO.ite ?_ ?_
      | refine LeO.bind ?_ (fun _ => ?_)
def ebbtidelaw06_alive.T2 : Bool × List (List Nat × List Nat) := (true, [([], []), ([], []), ([], []), ([2, 1], [2]), ([0, 1, 3], [0, 1, 3]), ([4, 3], [4]), ([], []), ([6, 5, 5, 0, 1, 2, 3, 4, 5, 6], [5, 6])])
def ebbtidelaw06_alive.B2 : List Nat := [0, 0, 0, 6, 15, 31, 0, 127]
theorem ebbtidelaw06_alive.tab2 : rtab .any (opsOf Try.f7 2) = ebbtidelaw06_alive.T2 := by kernel_rfl
theorem ebbtidelaw06_alive.bits2 : waitsOk ebbtidelaw06_alive.T2.2 ebbtidelaw06_alive.B2 = true := by kernel_rfl
set_option maxHeartbeats 8000000 in
set_option maxRecDepth 100000 in
theorem ebbtidelaw06_alive.calls (k : Nat)  (r : Bool) (w : World) (h : ebbtidelaw06_alive.f k  = some r) :
    Calls Try.prog 7 #[] w fun e w' => e = .returned (.bool r) ∧ Below w.heap.size w w' := by
  have hu25 := Try.underlying25
  have hu23 := Try.underlying23
  have hfd25_0 : ∀ (y0_ y1_ y2_ y3_ y4_ : Value) (W : World), (Instr.field 25 (.agg #[y0_, y1_, y2_, y3_, y4_]) 0).run Try.prog W = .ok (y0_) W := fun _ _ _ _ _ _ => by kernel_rfl
  have HB := Aside0.mk (Below.refl w.heap.size w)
  have H : ((cell_Of.f k (([3, (-1)] : List Int))).bind fun bt161 => ((cell_Of.f k ([] : List Int)).bind fun bt167 => ((cell_Of.f k (([9] : List Int))).bind fun bt175 => ((cell_Merge.f k (([(⟨bt161.1, (⟨bt161.2.1, bt161.2.2.1⟩ : S23), bt161.2.2.2.1, bt161.2.2.2.2⟩ : S25), (⟨bt167.1, (⟨bt167.2.1, bt167.2.2.1⟩ : S23), bt167.2.2.2.1, bt167.2.2.2.2⟩ : S25), (⟨bt175.1, (⟨bt175.2.1, bt175.2.2.1⟩ : S23), bt175.2.2.2.1, bt175.2.2.2.2⟩ : S25)] : List (S25)))).bind fun bt183 => (if (bt161.1 == 2 && ((bt161.2.1 == 2 && (!bt161.2.2.1)) && (bt161.2.2.2.1 == (-1) && (bt161.2.2.2.2 == 3)))) = true then (if (bt183.1 == 3 && ((bt183.2.1 == 11 && (!bt183.2.2.1)) && (bt183.2.2.2.1 == (-1) && (bt183.2.2.2.2 == 9)))) = true then ((cell_Value.f bt183.1 bt183.2.1 bt183.2.2.1 bt183.2.2.2.1 bt183.2.2.2.2 4).bind fun bt189 => (if (bt189.1 == 9 && (!bt189.2)) = true then ((cell_Value.f bt183.1 bt183.2.1 bt183.2.2.1 bt183.2.2.2.1 bt183.2.2.2.2 9).bind fun bt191 => (if (bt191.1 == 0 && (!bt191.2)) = true then ((cell_Of.f k ([] : List Int)).bind fun bt193 => ((cell_Empty.f bt193.1 bt193.2.1 bt193.2.2.1 bt193.2.2.2.1 bt193.2.2.2.2).bind fun t198 => (if t198 = true then ((cell_Empty.f bt161.1 bt161.2.1 bt161.2.2.1 bt161.2.2.2.1 bt161.2.2.2.2).bind fun t199 => (if t199 = true then (none) else ((cell_Fold.f k bt161.1 bt161.2.1 bt161.2.2.1 bt161.2.2.2.1 bt161.2.2.2.2 5).bind fun bt200 => (some (bt200.1 == 3))))) else (none)))) else (none))) else (none))) else (none)) else (none)))))) = some r := h
  clear h
  obtain ⟨y158, hy158⟩ : ∃ y_ : List Int, y_ = (([3, (-1)] : List Int)) := ⟨_, rfl⟩
  replace H : ((cell_Of.f k y158).bind fun bt161 => ((cell_Of.f k ([] : List Int)).bind fun bt167 => ((cell_Of.f k (([9] : List Int))).bind fun bt175 => ((cell_Merge.f k (([(⟨bt161.1, (⟨bt161.2.1, bt161.2.2.1⟩ : S23), bt161.2.2.2.1, bt161.2.2.2.2⟩ : S25), (⟨bt167.1, (⟨bt167.2.1, bt167.2.2.1⟩ : S23), bt167.2.2.2.1, bt167.2.2.2.2⟩ : S25), (⟨bt175.1, (⟨bt175.2.1, bt175.2.2.1⟩ : S23), bt175.2.2.2.1, bt175.2.2.2.2⟩ : S25)] : List (S25)))).bind fun bt183 => (if (bt161.1 == 2 && ((bt161.2.1 == 2 && (!bt161.2.2.1)) && (bt161.2.2.2.1 == (-1) && (bt161.2.2.2.2 == 3)))) = true then (if (bt183.1 == 3 && ((bt183.2.1 == 11 && (!bt183.2.2.1)) && (bt183.2.2.2.1 == (-1) && (bt183.2.2.2.2 == 9)))) = true then ((cell_Value.f bt183.1 bt183.2.1 bt183.2.2.1 bt183.2.2.2.1 bt183.2.2.2.2 4).bind fun bt189 => (if (bt189.1 == 9 && (!bt189.2)) = true then ((cell_Value.f bt183.1 bt183.2.1 bt183.2.2.1 bt183.2.2.2.1 bt183.2.2.2.2 9).bind fun bt191 => (if (bt191.1 == 0 && (!bt191.2)) = true then ((cell_Of.f k ([] : List Int)).bind fun bt193 => ((cell_Empty.f bt193.1 bt193.2.1 bt193.2.2.1 bt193.2.2.2.1 bt193.2.2.2.2).bind fun t198 => (if t198 = true then ((cell_Empty.f bt161.1 bt161.2.1 bt161.2.2.1 bt161.2.2.2.1 bt161.2.2.2.2).bind fun t199 => (if t199 = true then (none) else ((cell_Fold.f k bt161.1 bt161.2.1 bt161.2.2.1 bt161.2.2.2.1 bt161.2.2.2.2 5).bind fun bt200 => (some (bt200.1 == 3))))) else (none)))) else (none))) else (none))) else (none)) else (none)))))) = some r := by first | (rw [hy158]; with_reducible exact H) | (have H2_ := (Option.bind_some _ _).symm.trans H; rw [hy158]; with_reducible exact H2_) | (have H2_ := (Option.bind_some _ _).symm.trans H; with_reducible exact H2_) | with_reducible exact H | (rw [hy158]; exact H) | exact H
  have Ny158 := Aside0.mk hy158
  clear hy158
  replace H := Option.bind_eq_some_iff.mp H
  obtain ⟨⟨t161, t162, t163, t164, t165⟩, A10, H⟩ := H
  replace H : ((cell_Of.f k ([] : List Int)).bind fun bt167 => ((cell_Of.f k (([9] : List Int))).bind fun bt175 => ((cell_Merge.f k (([(⟨t161, (⟨t162, t163⟩ : S23), t164, t165⟩ : S25), (⟨bt167.1, (⟨bt167.2.1, bt167.2.2.1⟩ : S23), bt167.2.2.2.1, bt167.2.2.2.2⟩ : S25), (⟨bt175.1, (⟨bt175.2.1, bt175.2.2.1⟩ : S23), bt175.2.2.2.1, bt175.2.2.2.2⟩ : S25)] : List (S25)))).bind fun bt183 => (if (t161 == 2 && ((t162 == 2 && (!t163)) && (t164 == (-1) && (t165 == 3)))) = true then (if (bt183.1 == 3 && ((bt183.2.1 == 11 && (!bt183.2.2.1)) && (bt183.2.2.2.1 == (-1) && (bt183.2.2.2.2 == 9)))) = true then ((cell_Value.f bt183.1 bt183.2.1 bt183.2.2.1 bt183.2.2.2.1 bt183.2.2.2.2 4).bind fun bt189 => (if (bt189.1 == 9 && (!bt189.2)) = true then ((cell_Value.f bt183.1 bt183.2.1 bt183.2.2.1 bt183.2.2.2.1 bt183.2.2.2.2 9).bind fun bt191 => (if (bt191.1 == 0 && (!bt191.2)) = true then ((cell_Of.f k ([] : List Int)).bind fun bt193 => ((cell_Empty.f bt193.1 bt193.2.1 bt193.2.2.1 bt193.2.2.2.1 bt193.2.2.2.2).bind fun t198 => (if t198 = true then ((cell_Empty.f t161 t162 t163 t164 t165).bind fun t199 => (if t199 = true then (none) else ((cell_Fold.f k t161 t162 t163 t164 t165 5).bind fun bt200 => (some (bt200.1 == 3))))) else (none)))) else (none))) else (none))) else (none)) else (none))))) = some r := H
  have A1 := Aside0.mk A10
  clear A10
  replace H := Option.bind_eq_some_iff.mp H
  obtain ⟨⟨t167, t168, t169, t170, t171⟩, A20, H⟩ := H
  replace H : ((cell_Of.f k (([9] : List Int))).bind fun bt175 => ((cell_Merge.f k (([(⟨t161, (⟨t162, t163⟩ : S23), t164, t165⟩ : S25), (⟨t167, (⟨t168, t169⟩ : S23), t170, t171⟩ : S25), (⟨bt175.1, (⟨bt175.2.1, bt175.2.2.1⟩ : S23), bt175.2.2.2.1, bt175.2.2.2.2⟩ : S25)] : List (S25)))).bind fun bt183 => (if (t161 == 2 && ((t162 == 2 && (!t163)) && (t164 == (-1) && (t165 == 3)))) = true then (if (bt183.1 == 3 && ((bt183.2.1 == 11 && (!bt183.2.2.1)) && (bt183.2.2.2.1 == (-1) && (bt183.2.2.2.2 == 9)))) = true then ((cell_Value.f bt183.1 bt183.2.1 bt183.2.2.1 bt183.2.2.2.1 bt183.2.2.2.2 4).bind fun bt189 => (if (bt189.1 == 9 && (!bt189.2)) = true then ((cell_Value.f bt183.1 bt183.2.1 bt183.2.2.1 bt183.2.2.2.1 bt183.2.2.2.2 9).bind fun bt191 => (if (bt191.1 == 0 && (!bt191.2)) = true then ((cell_Of.f k ([] : List Int)).bind fun bt193 => ((cell_Empty.f bt193.1 bt193.2.1 bt193.2.2.1 bt193.2.2.2.1 bt193.2.2.2.2).bind fun t198 => (if t198 = true then ((cell_Empty.f t161 t162 t163 t164 t165).bind fun t199 => (if t199 = true then (none) else ((cell_Fold.f k t161 t162 t163 t164 t165 5).bind fun bt200 => (some (bt200.1 == 3))))) else (none)))) else (none))) else (none))) else (none)) else (none)))) = some r := H
  have A2 := Aside0.mk A20
  clear A20
  obtain ⟨y172, hy172⟩ : ∃ y_ : List Int, y_ = (([9] : List Int)) := ⟨_, rfl⟩
  replace H : ((cell_Of.f k y172).bind fun bt175 => ((cell_Merge.f k (([(⟨t161, (⟨t162, t163⟩ : S23), t164, t165⟩ : S25), (⟨t167, (⟨t168, t169⟩ : S23), t170, t171⟩ : S25), (⟨bt175.1, (⟨bt175.2.1, bt175.2.2.1⟩ : S23), bt175.2.2.2.1, bt175.2.2.2.2⟩ : S25)] : List (S25)))).bind fun bt183 => (if (t161 == 2 && ((t162 == 2 && (!t163)) && (t164 == (-1) && (t165 == 3)))) = true then (if (bt183.1 == 3 && ((bt183.2.1 == 11 && (!bt183.2.2.1)) && (bt183.2.2.2.1 == (-1) && (bt183.2.2.2.2 == 9)))) = true then ((cell_Value.f bt183.1 bt183.2.1 bt183.2.2.1 bt183.2.2.2.1 bt183.2.2.2.2 4).bind fun bt189 => (if (bt189.1 == 9 && (!bt189.2)) = true then ((cell_Value.f bt183.1 bt183.2.1 bt183.2.2.1 bt183.2.2.2.1 bt183.2.2.2.2 9).bind fun bt191 => (if (bt191.1 == 0 && (!bt191.2)) = true then ((cell_Of.f k ([] : List Int)).bind fun bt193 => ((cell_Empty.f bt193.1 bt193.2.1 bt193.2.2.1 bt193.2.2.2.1 bt193.2.2.2.2).bind fun t198 => (if t198 = true then ((cell_Empty.f t161 t162 t163 t164 t165).bind fun t199 => (if t199 = true then (none) else ((cell_Fold.f k t161 t162 t163 t164 t165 5).bind fun bt200 => (some (bt200.1 == 3))))) else (none)))) else (none))) else (none))) else (none)) else (none)))) = some r := by first | (rw [hy172]; with_reducible exact H) | (have H2_ := (Option.bind_some _ _).symm.trans H; rw [hy172]; with_reducible exact H2_) | (have H2_ := (Option.bind_some _ _).symm.trans H; with_reducible exact H2_) | with_reducible exact H | (rw [hy172]; exact H) | exact H
  have Ny172 := Aside0.mk hy172
  clear hy172
  replace H := Option.bind_eq_some_iff.mp H
  obtain ⟨⟨t175, t176, t177, t178, t179⟩, A30, H⟩ := H
  replace H : ((cell_Merge.f k (([(⟨t161, (⟨t162, t163⟩ : S23), t164, t165⟩ : S25), (⟨t167, (⟨t168, t169⟩ : S23), t170, t171⟩ : S25), (⟨t175, (⟨t176, t177⟩ : S23), t178, t179⟩ : S25)] : List (S25)))).bind fun bt183 => (if (t161 == 2 && ((t162 == 2 && (!t163)) && (t164 == (-1) && (t165 == 3)))) = true then (if (bt183.1 == 3 && ((bt183.2.1 == 11 && (!bt183.2.2.1)) && (bt183.2.2.2.1 == (-1) && (bt183.2.2.2.2 == 9)))) = true then ((cell_Value.f bt183.1 bt183.2.1 bt183.2.2.1 bt183.2.2.2.1 bt183.2.2.2.2 4).bind fun bt189 => (if (bt189.1 == 9 && (!bt189.2)) = true then ((cell_Value.f bt183.1 bt183.2.1 bt183.2.2.1 bt183.2.2.2.1 bt183.2.2.2.2 9).bind fun bt191 => (if (bt191.1 == 0 && (!bt191.2)) = true then ((cell_Of.f k ([] : List Int)).bind fun bt193 => ((cell_Empty.f bt193.1 bt193.2.1 bt193.2.2.1 bt193.2.2.2.1 bt193.2.2.2.2).bind fun t198 => (if t198 = true then ((cell_Empty.f t161 t162 t163 t164 t165).bind fun t199 => (if t199 = true then (none) else ((cell_Fold.f k t161 t162 t163 t164 t165 5).bind fun bt200 => (some (bt200.1 == 3))))) else (none)))) else (none))) else (none))) else (none)) else (none))) = some r := H
  have A3 := Aside0.mk A30
  clear A30
  obtain ⟨y180, hy180⟩ : ∃ y_ : List (S25), y_ = (([(⟨t161, (⟨t162, t163⟩ : S23), t164, t165⟩ : S25), (⟨t167, (⟨t168, t169⟩ : S23), t170, t171⟩ : S25), (⟨t175, (⟨t176, t177⟩ : S23), t178, t179⟩ : S25)] : List (S25))) := ⟨_, rfl⟩
  replace H : ((cell_Merge.f k y180).bind fun bt183 => (if (t161 == 2 && ((t162 == 2 && (!t163)) && (t164 == (-1) && (t165 == 3)))) = true then (if (bt183.1 == 3 && ((bt183.2.1 == 11 && (!bt183.2.2.1)) && (bt183.2.2.2.1 == (-1) && (bt183.2.2.2.2 == 9)))) = true then ((cell_Value.f bt183.1 bt183.2.1 bt183.2.2.1 bt183.2.2.2.1 bt183.2.2.2.2 4).bind fun bt189 => (if (bt189.1 == 9 && (!bt189.2)) = true then ((cell_Value.f bt183.1 bt183.2.1 bt183.2.2.1 bt183.2.2.2.1 bt183.2.2.2.2 9).bind fun bt191 => (if (bt191.1 == 0 && (!bt191.2)) = true then ((cell_Of.f k ([] : List Int)).bind fun bt193 => ((cell_Empty.f bt193.1 bt193.2.1 bt193.2.2.1 bt193.2.2.2.1 bt193.2.2.2.2).bind fun t198 => (if t198 = true then ((cell_Empty.f t161 t162 t163 t164 t165).bind fun t199 => (if t199 = true then (none) else ((cell_Fold.f k t161 t162 t163 t164 t165 5).bind fun bt200 => (some (bt200.1 == 3))))) else (none)))) else (none))) else (none))) else (none)) else (none))) = some r := by first | (rw [hy180]; with_reducible exact H) | (have H2_ := (Option.bind_some _ _).symm.trans H; rw [hy180]; with_reducible exact H2_) | (have H2_ := (Option.bind_some _ _).symm.trans H; with_reducible exact H2_) | with_reducible exact H | (rw [hy180]; exact H) | exact H
  have Ny180 := Aside0.mk hy180
  clear hy180
  replace H := Option.bind_eq_some_iff.mp H
  obtain ⟨⟨t183, t184, t185, t186, t187⟩, A40, H⟩ := H
  replace H : (if (t161 == 2 && ((t162 == 2 && (!t163)) && (t164 == (-1) && (t165 == 3)))) = true then (if (t183 == 3 && ((t184 == 11 && (!t185)) && (t186 == (-1) && (t187 == 9)))) = true then ((cell_Value.f t183 t184 t185 t186 t187 4).bind fun bt189 => (if (bt189.1 == 9 && (!bt189.2)) = true then ((cell_Value.f t183 t184 t185 t186 t187 9).bind fun bt191 => (if (bt191.1 == 0 && (!bt191.2)) = true then ((cell_Of.f k ([] : List Int)).bind fun bt193 => ((cell_Empty.f bt193.1 bt193.2.1 bt193.2.2.1 bt193.2.2.2.1 bt193.2.2.2.2).bind fun t198 => (if t198 = true then ((cell_Empty.f t161 t162 t163 t164 t165).bind fun t199 => (if t199 = true then (none) else ((cell_Fold.f k t161 t162 t163 t164 t165 5).bind fun bt200 => (some (bt200.1 == 3))))) else (none)))) else (none))) else (none))) else (none)) else (none)) = some r := H
  have A4 := Aside0.mk A40
  clear A40
  by_cases c5 : (t161 == 2 && ((t162 == 2 && (!t163)) && (t164 == (-1) && (t165 == 3)))) = true
  · rw [if_pos c5] at H
    have c5b0 : (t161 == 2 && ((t162 == 2 && (!t163)) && (t164 == (-1) && (t165 == 3)))) = true := c5
    (try (have c5b1 : decide (t161 = 2 && ((t162 == 2 && (!t163)) && (t164 == (-1) && (t165 == 3)))) = true := by simpa using c5))
    (try (have c5b2 : (t161 == 2 && ((t162 == 2 && (!t163)) && (t164 == (-1) && (t165 == 3)))) = true := by simpa using c5))
    clear c5
    by_cases c6 : (t183 == 3 && ((t184 == 11 && (!t185)) && (t186 == (-1) && (t187 == 9)))) = true
    · rw [if_pos c6] at H
      have c6b0 : (t183 == 3 && ((t184 == 11 && (!t185)) && (t186 == (-1) && (t187 == 9)))) = true := c6
      (try (have c6b1 : decide (t183 = 3 && ((t184 == 11 && (!t185)) && (t186 == (-1) && (t187 == 9)))) = true := by simpa using c6))
      (try (have c6b2 : (t183 == 3 && ((t184 == 11 && (!t185)) && (t186 == (-1) && (t187 == 9)))) = true := by simpa using c6))
      clear c6
      replace H := Option.bind_eq_some_iff.mp H
      obtain ⟨⟨t189, t190⟩, A70, H⟩ := H
      replace H : (if (t189 == 9 && (!t190)) = true then ((cell_Value.f t183 t184 t185 t186 t187 9).bind fun bt191 => (if (bt191.1 == 0 && (!bt191.2)) = true then ((cell_Of.f k ([] : List Int)).bind fun bt193 => ((cell_Empty.f bt193.1 bt193.2.1 bt193.2.2.1 bt193.2.2.2.1 bt193.2.2.2.2).bind fun t198 => (if t198 = true then ((cell_Empty.f t161 t162 t163 t164 t165).bind fun t199 => (if t199 = true then (none) else ((cell_Fold.f k t161 t162 t163 t164 t165 5).bind fun bt200 => (some (bt200.1 == 3))))) else (none)))) else (none))) else (none)) = some r := H
      have A7 := Aside0.mk A70
      clear A70
      by_cases c8 : (t189 == 9 && (!t190)) = true
      · rw [if_pos c8] at H
        have c8b0 : (t189 == 9 && (!t190)) = true := c8
        (try (have c8b1 : decide (t189 = 9 && (!t190)) = true := by simpa using c8))
        (try (have c8b2 : (t189 == 9 && (!t190)) = true := by simpa using c8))
        clear c8
        replace H := Option.bind_eq_some_iff.mp H
        obtain ⟨⟨t191, t192⟩, A90, H⟩ := H
        replace H : (if (t191 == 0 && (!t192)) = true then ((cell_Of.f k ([] : List Int)).bind fun bt193 => ((cell_Empty.f bt193.1 bt193.2.1 bt193.2.2.1 bt193.2.2.2.1 bt193.2.2.2.2).bind fun t198 => (if t198 = true then ((cell_Empty.f t161 t162 t163 t164 t165).bind fun t199 => (if t199 = true then (none) else ((cell_Fold.f k t161 t162 t163 t164 t165 5).bind fun bt200 => (some (bt200.1 == 3))))) else (none)))) else (none)) = some r := H
        have A9 := Aside0.mk A90
        clear A90
        by_cases c10 : (t191 == 0 && (!t192)) = true
        · rw [if_pos c10] at H
          have c10b0 : (t191 == 0 && (!t192)) = true := c10
          (try (have c10b1 : decide (t191 = 0 && (!t192)) = true := by simpa using c10))
          (try (have c10b2 : (t191 == 0 && (!t192)) = true := by simpa using c10))
          clear c10
          replace H := Option.bind_eq_some_iff.mp H
          obtain ⟨⟨t193, t194, t195, t196, t197⟩, A110, H⟩ := H
          replace H : ((cell_Empty.f t193 t194 t195 t196 t197).bind fun t198 => (if t198 = true then ((cell_Empty.f t161 t162 t163 t164 t165).bind fun t199 => (if t199 = true then (none) else ((cell_Fold.f k t161 t162 t163 t164 t165 5).bind fun bt200 => (some (bt200.1 == 3))))) else (none))) = some r := H
          have A11 := Aside0.mk A110
          clear A110
          replace H := Option.bind_eq_some_iff.mp H
          obtain ⟨t198, A120, H⟩ := H
          replace H : (if t198 = true then ((cell_Empty.f t161 t162 t163 t164 t165).bind fun t199 => (if t199 = true then (none) else ((cell_Fold.f k t161 t162 t163 t164 t165 5).bind fun bt200 => (some (bt200.1 == 3))))) else (none)) = some r := H
          have A12 := Aside0.mk A120
          clear A120
          by_cases c13 : t198 = true
          · subst c13
            have H1 : ((cell_Empty.f t161 t162 t163 t164 t165).bind fun t199 => (if t199 = true then (none) else ((cell_Fold.f k t161 t162 t163 t164 t165 5).bind fun bt200 => (some (bt200.1 == 3))))) = some r := by rw [if_pos rfl] at H; exact H
            clear H
            have H := H1
            clear H1
            replace H := Option.bind_eq_some_iff.mp H
            obtain ⟨t199, A140, H⟩ := H
            replace H : (if t199 = true then (none) else ((cell_Fold.f k t161 t162 t163 t164 t165 5).bind fun bt200 => (some (bt200.1 == 3)))) = some r := H
            have A14 := Aside0.mk A140
            clear A140
            by_cases c15 : t199 = true
            · subst c15
              have H1 : (none) = some r := by rw [if_pos rfl] at H; exact H
              clear H
              have H := H1
              clear H1
              exact absurd H (by simp)
            · replace c15 := Bool.eq_false_iff.mpr c15
              subst c15
              have H1 : ((cell_Fold.f k t161 t162 t163 t164 t165 5).bind fun bt200 => (some (bt200.1 == 3))) = some r := by rw [if_neg (show ¬ (false = true) by decide)] at H; exact H
              clear H
              have H := H1
              clear H1
              replace H := Option.bind_eq_some_iff.mp H
              obtain ⟨⟨t200, t201, t202, t203, t204⟩, A160, H⟩ := H
              replace H : (some (t200 == 3)) = some r := H
              have A16 := Aside0.mk A160
              clear A160
              obtain rfl := Option.some.inj H
              go_enter Try.func7, Try.ntmps7
              try go_wp2_with (first | ((with_reducible refine gate_dst (N := 3) rfl ?_); refine Kd.R_lit (Kd.int .i64) _ 2 ?hg (N := 3) ?hd (xs := ([3, (-1)] : List Int)) (inner := [.int .i64 3, .int .i64 (-1)]) (ok := fun _ => True) (okp := fun _ => True) ?hr ?hp (fun _ hk => hk) trivial (Below.refl _ _) (Nat.le_refl _) (by simp) ?_; (case hd => rfl); (case hg => rfl); (case hr => first | (go_simp; done) | (go_simp; rfl)); (case hp => exact (Reps.one (show Kd.M (Kd.int .i64) _ _ _ 3 [.int .i64 3] from rfl) (Reps.one (show Kd.M (Kd.int .i64) _ _ _ (-1) [.int .i64 (-1)] from rfl) (Reps.none _ _)))); intro v159 w17 ho18 hb hg_ hnew_; clear hg_ hnew_; (first | rw [← Ny158.out] at ho18 | (simp only [Int.reduceToNat] at ho18; rw [← Ny158.out] at ho18)); have n0_ := Aside0.mk (Kd.R_lower ho18 (below_size (by repeat (first | (with_reducible first | exact HB.out | apply below_alloc | apply pw_below_drewN | apply below_drew1) | exact HB.out)))); have n1_ := Aside0.mk (below_step (by repeat (first | (with_reducible first | exact HB.out | apply below_alloc | apply pw_below_drewN | apply below_drew1) | exact HB.out)) hb); clear HB; have HO160 := n0_; have HB := n1_; clear n0_ n1_; clear hb ho18; obtain ⟨Ao19, co19, eo19⟩ := Kd.R_slice HO160.out; subst eo19) | ((with_reducible refine gate_callee (f := 13) rfl ?_); refine goesL_ (some 4) rfl rfl Try.func13 (by kernel_rfl) rfl #[.slice Ao19 y158.length co19] rfl (by (try simp only [List.map_toArray, List.map_cons, List.map_nil]); first | done | rfl | (simp only [List.length_drop, List.length_take]; rfl)) ?_; (with_reducible refine (cell_Of.calls k _ _ y158 t161 t162 t163 t164 t165 _ ?side1 ?side2 A1.out).mono ?_); (case side1 => repeat (first | exact (Kd.R_reads' HO160.out).2.2 | (with_reducible refine Kd.C_alloc ?_ _) | (with_reducible refine Kd.C_drewN ?_ _) | (with_reducible refine Kd.C_drew ?_))); (case side2 => exact (Kd.R_reads' HO160.out).2.1); rintro e w20 ⟨rfl, hb⟩; refine ⟨_, rfl, ?_⟩; have n0_ := Aside0.mk (Kd.R_below (by (with_reducible repeat (first | apply Kd.R_alloc | apply Kd.R_drewN | apply Kd.R_drew)); exact HO160.out) hb); have n1_ := Aside0.mk (below_step (by repeat (first | (with_reducible first | exact HB.out | apply below_alloc | apply pw_below_drewN | apply below_drew1) | exact HB.out)) hb); clear HO160; clear HB; have HO160 := n0_; have HB := n1_; clear n0_ n1_; (try clear hb); (try clear hb2); (try clear hk); (try clear hi)) | ((with_reducible refine gate_dst (N := 1) rfl ?_); refine box_event ?hg (N := 1) ?hd (cs := #[.int .i64 0, .int .i64 0, .bool false, .int .i64 0, .int .i64 0]) (t := 25) ?hr ?_; (case hd => rfl); (case hg => rfl); (case hr => first | (go_simp; done) | (go_simp; rfl)); intro gb166 hg w21 hbox hb; have n0_ := Aside0.mk (Kd.R_below (by (with_reducible repeat (first | apply Kd.R_alloc | apply Kd.R_drewN | apply Kd.R_drew)); exact HO160.out) hb); have n1_ := Aside0.mk (below_step (by repeat (first | (with_reducible first | exact HB.out | apply below_alloc | apply pw_below_drewN | apply below_drew1) | exact HB.out)) hb); have n2_ := Aside0.mk (hbox); have n3_ := Aside0.mk ((by rw [hg]; exact (below_size (by repeat (first | (with_reducible first | exact HB.out | apply below_alloc | apply pw_below_drewN | apply below_drew1) | exact HB.out))) : w.heap.size ≤ gb166)); have n4_ := Aside0.mk ((by rw [hg]; exact (below_size (by repeat (first | (with_reducible first | exact HB.out | apply below_alloc | apply pw_below_drewN | apply below_drew1) | exact HB.out))) : w.heap.size ≤ gb166)); clear HO160; clear HB; have HO160 := n0_; have HB := n1_; have BK166 := n2_; have GW166 := n3_; have GE166 := n4_; clear n0_ n1_ n2_ n3_ n4_; clear hb hbox hg; have hcz22_0 : w21.cell? ⟨gb166, 0, none⟩ = some (.int .i64 0) := (blk_cell BK166.out 0).trans rfl; have hcz22_1 : w21.cell? ⟨gb166, 1, none⟩ = some (.int .i64 0) := (blk_cell BK166.out 1).trans rfl; have hcz22_2 : w21.cell? ⟨gb166, 2, none⟩ = some (.bool false) := (blk_cell BK166.out 2).trans rfl; have hcz22_3 : w21.cell? ⟨gb166, 3, none⟩ = some (.int .i64 0) := (blk_cell BK166.out 3).trans rfl; have hcz22_4 : w21.cell? ⟨gb166, 4, none⟩ = some (.int .i64 0) := (blk_cell BK166.out 4).trans rfl; have hfz22_0 := blk_frozen BK166.out 0; have hfz22_1 := blk_frozen BK166.out 1; have hfz22_2 := blk_frozen BK166.out 2; have hfz22_3 := blk_frozen BK166.out 3; have hfz22_4 := blk_frozen BK166.out 4))
              have n0_ : Aside0 (Kd.R (Kd.int .i64) 2 (((((w21.setCell ⟨gb166, 0, none⟩ (.int .i64 t161)).setCell ⟨gb166, 1, none⟩ (.int .i64 t162)).setCell ⟨gb166, 2, none⟩ (.bool t163)).setCell ⟨gb166, 3, none⟩ (.int .i64 t164)).setCell ⟨gb166, 4, none⟩ (.int .i64 t165)) w.heap.size (fun _ => True) (.slice Ao19 y158.length co19) y158) := ⟨by (with_reducible repeat (first | apply Kd.R_alloc | apply Kd.R_drewN | apply Kd.R_drew)); exact Kd.R_mono (Kd.R_far (p := ⟨gb166, 4, none⟩) (Kd.R_far (p := ⟨gb166, 3, none⟩) (Kd.R_far (p := ⟨gb166, 2, none⟩) (Kd.R_far (p := ⟨gb166, 1, none⟩) (Kd.R_far (p := ⟨gb166, 0, none⟩) (Kd.R_types HO160.out BK166.out (by decide)) (fun _ hk => hk.2) (.int .i64 t161)) (fun _ hk => hk.2) (.int .i64 t162)) (fun _ hk => hk.2) (.bool t163)) (fun _ hk => hk.2) (.int .i64 t164)) (fun _ hk => hk.2) (.int .i64 t165)) (fun _ hk => trivial)⟩
              have n1_ : Aside0 ((((((w21.setCell ⟨gb166, 0, none⟩ (.int .i64 t161)).setCell ⟨gb166, 1, none⟩ (.int .i64 t162)).setCell ⟨gb166, 2, none⟩ (.bool t163)).setCell ⟨gb166, 3, none⟩ (.int .i64 t164)).setCell ⟨gb166, 4, none⟩ (.int .i64 t165)).heap[gb166]? = some (.cells #[.int .i64 t161, .int .i64 t162, .bool t163, .int .i64 t164, .int .i64 t165] 25 (0, 0))) := ⟨by (with_reducible repeat (first | refine blk_drewN ?_ _ | refine blk_drew ?_ | refine blk_alloc ?_ _)); refine blk_put (cs := #[.int .i64 t161, .int .i64 t162, .bool t163, .int .i64 t164, .int .i64 0]) ?_ 4 _ rfl; (with_reducible repeat (first | refine blk_drewN ?_ _ | refine blk_drew ?_ | refine blk_alloc ?_ _)); refine blk_put (cs := #[.int .i64 t161, .int .i64 t162, .bool t163, .int .i64 0, .int .i64 0]) ?_ 3 _ rfl; (with_reducible repeat (first | refine blk_drewN ?_ _ | refine blk_drew ?_ | refine blk_alloc ?_ _)); refine blk_put (cs := #[.int .i64 t161, .int .i64 t162, .bool false, .int .i64 0, .int .i64 0]) ?_ 2 _ rfl; (with_reducible repeat (first | refine blk_drewN ?_ _ | refine blk_drew ?_ | refine blk_alloc ?_ _)); refine blk_put (cs := #[.int .i64 t161, .int .i64 0, .bool false, .int .i64 0, .int .i64 0]) ?_ 1 _ rfl; (with_reducible repeat (first | refine blk_drewN ?_ _ | refine blk_drew ?_ | refine blk_alloc ?_ _)); refine blk_put (cs := #[.int .i64 0, .int .i64 0, .bool false, .int .i64 0, .int .i64 0]) ?_ 0 _ rfl; (with_reducible repeat (first | refine blk_drewN ?_ _ | refine blk_drew ?_ | refine blk_alloc ?_ _)); exact BK166.out⟩
              have n2_ : Aside0 (Below w.heap.size w (((((w21.setCell ⟨gb166, 0, none⟩ (.int .i64 t161)).setCell ⟨gb166, 1, none⟩ (.int .i64 t162)).setCell ⟨gb166, 2, none⟩ (.bool t163)).setCell ⟨gb166, 3, none⟩ (.int .i64 t164)).setCell ⟨gb166, 4, none⟩ (.int .i64 t165))) := ⟨by repeat (first | (with_reducible first | exact HB.out | apply below_alloc | apply pw_below_drewN | apply below_drew1 | refine below_set ?_ GE166.out) | exact HB.out)⟩
              (try clear HO160)
              (try clear BK166)
              (try clear HB)
              generalize (((((w21.setCell ⟨gb166, 0, none⟩ (.int .i64 t161)).setCell ⟨gb166, 1, none⟩ (.int .i64 t162)).setCell ⟨gb166, 2, none⟩ (.bool t163)).setCell ⟨gb166, 3, none⟩ (.int .i64 t164)).setCell ⟨gb166, 4, none⟩ (.int .i64 t165)) = w23 at n0_ n1_ n2_ ⊢
              have HO160 := n0_
              have BK166 := n1_
              have HB := n2_
              clear n0_ n1_ n2_
              have n0_ := Aside0.mk (Kd.R_drew HO160.out)
              have n1_ := Aside0.mk (blk_drew BK166.out)
              have n2_ := Aside0.mk (below_drew1 HB.out)
              clear HO160
              clear BK166
              clear HB
              have HO160 := n0_
              have BK166 := n1_
              have HB := n2_
              clear n0_ n1_ n2_
              refine start_ (n := 8) (S := fun w' => w'.cell? ⟨gb166, 0, none⟩ = some (.int .i64 t161) ∧ w'.cell? ⟨gb166, 1, none⟩ = some (.int .i64 t162) ∧ w'.cell? ⟨gb166, 2, none⟩ = some (.bool t163) ∧ w'.cell? ⟨gb166, 3, none⟩ = some (.int .i64 t164) ∧ w'.cell? ⟨gb166, 4, none⟩ = some (.int .i64 t165)) (ds := []) #[false, false, false, false, false, false, false, false] (by kernel_rfl) rfl rfl ⟨(blk_cell BK166.out 0).trans rfl, (blk_cell BK166.out 1).trans rfl, (blk_cell BK166.out 2).trans rfl, (blk_cell BK166.out 3).trans rfl, (blk_cell BK166.out 4).trans rfl⟩ (fun hHeld => ?_); refine with_tabW ebbtidelaw06_alive.tab2 ebbtidelaw06_alive.bits2 (fun HT_ HW_ => ?_)
              generalize w23.drew = w24 at HO160 BK166 HB hHeld ⊢
              refine take_ (i := 0) (N := some 5) (v := ?_) (a' := ?_) #[true, false, false, false, false, false, false, false] rfl rfl (take_ofW HT_.out HW_.out (by kernel_rfl)) (fun _ _ _ h => h) (Or.inl ⟨by rfl, ?_⟩) hHeld ?_ ?_
              rotate_left
              · rintro w' ⟨s0, s1, s2, s3, s4⟩
                go_simp
                with_reducible rfl
              rotate_left
              · simp only [Act.put, List.setIfInBounds_toArray, List.set_cons_zero, List.set_cons_succ, i64_w, i32_w]
                rfl
              refine join_ (σ := Value × Value × Nat) 1 #[true, true, true, true, true, true, true, false] (fun s_ => [(6, .agg #[.int .i64 t167, .int .i64 t168, .bool t169, .int .i64 t170, .int .i64 t171]), (7, s_.1), (8, .agg #[.int .i64 t175, .int .i64 t176, .bool t177, .int .i64 t178, .int .i64 t179]), (9, s_.2.1), (10, .agg #[.int .i64 t183, .int .i64 t184, .bool t185, .int .i64 t186, .int .i64 t187]), (2, .pointer (some ⟨s_.2.2, 0, none⟩))]) (fun s_ w' => (w'.cell? ⟨gb166, 0, none⟩ = some (.int .i64 t161) ∧ w'.cell? ⟨gb166, 1, none⟩ = some (.int .i64 t162) ∧ w'.cell? ⟨gb166, 2, none⟩ = some (.bool t163) ∧ w'.cell? ⟨gb166, 3, none⟩ = some (.int .i64 t164) ∧ w'.cell? ⟨gb166, 4, none⟩ = some (.int .i64 t165)) ∧ (Kd.R (Kd.int .i64) 2 w' w.heap.size (fun k_ => some k_ ≠ (s_.1 : Value).ownBlock) (.slice Ao19 y158.length co19) y158) ∧ (Kd.R (Kd.int .i64) 2 w' w.heap.size (fun k_ => some k_ ≠ (.slice Ao19 y158.length co19 : Value).ownBlock) s_.1 y172) ∧ (Kd.R k25 25 w' w.heap.size (fun k_ => k_ ≠ gb166 ∧ k_ ≠ s_.2.2) s_.2.1 y180) ∧ (w'.heap[gb166]? = some (.cells #[.int .i64 t161, .int .i64 t162, .bool t163, .int .i64 t164, .int .i64 t165] 25 (0, 0))) ∧ (w'.heap[s_.2.2]? = some (.cells #[.int .i64 0, .int .i64 0, .bool false, .int .i64 0, .int .i64 0] 25 (0, 0))) ∧ (w.heap.size ≤ s_.2.2) ∧ (w.heap.size ≤ s_.2.2) ∧ (gb166 ≠ s_.2.2) ∧ (s_.2.2 ≠ gb166) ∧ (Below w.heap.size w w')) ?_ ?_
              rotate_left
              · intro hJ1_2_3_4_5_6
                refine join_ (σ := Value × Value) 2 #[true, true, true, true, true, true, false, false] (fun s_ => [(6, .agg #[.int .i64 t167, .int .i64 t168, .bool t169, .int .i64 t170, .int .i64 t171]), (7, s_.1), (8, .agg #[.int .i64 t175, .int .i64 t176, .bool t177, .int .i64 t178, .int .i64 t179]), (9, s_.2), (10, .agg #[.int .i64 t183, .int .i64 t184, .bool t185, .int .i64 t186, .int .i64 t187])]) (fun s_ w' => (w'.cell? ⟨gb166, 0, none⟩ = some (.int .i64 t161) ∧ w'.cell? ⟨gb166, 1, none⟩ = some (.int .i64 t162) ∧ w'.cell? ⟨gb166, 2, none⟩ = some (.bool t163) ∧ w'.cell? ⟨gb166, 3, none⟩ = some (.int .i64 t164) ∧ w'.cell? ⟨gb166, 4, none⟩ = some (.int .i64 t165)) ∧ (Kd.R (Kd.int .i64) 2 w' w.heap.size (fun k_ => some k_ ≠ (s_.1 : Value).ownBlock) (.slice Ao19 y158.length co19) y158) ∧ (Kd.R (Kd.int .i64) 2 w' w.heap.size (fun k_ => some k_ ≠ (.slice Ao19 y158.length co19 : Value).ownBlock) s_.1 y172) ∧ (Kd.R k25 25 w' w.heap.size (fun k_ => k_ ≠ gb166) s_.2 y180) ∧ (w'.heap[gb166]? = some (.cells #[.int .i64 t161, .int .i64 t162, .bool t163, .int .i64 t164, .int .i64 t165] 25 (0, 0))) ∧ (Below w.heap.size w w')) ?_ ?_
                rotate_left
                · intro hJ1_2_3_4_5
                  refine join_ (σ := Value × Value × Nat) 2 #[true, true, true, true, true, false, true, false] (fun s_ => [(6, .agg #[.int .i64 t167, .int .i64 t168, .bool t169, .int .i64 t170, .int .i64 t171]), (7, s_.1), (8, .agg #[.int .i64 t175, .int .i64 t176, .bool t177, .int .i64 t178, .int .i64 t179]), (9, s_.2.1), (2, .pointer (some ⟨s_.2.2, 0, none⟩))]) (fun s_ w' => (w'.cell? ⟨gb166, 0, none⟩ = some (.int .i64 t161) ∧ w'.cell? ⟨gb166, 1, none⟩ = some (.int .i64 t162) ∧ w'.cell? ⟨gb166, 2, none⟩ = some (.bool t163) ∧ w'.cell? ⟨gb166, 3, none⟩ = some (.int .i64 t164) ∧ w'.cell? ⟨gb166, 4, none⟩ = some (.int .i64 t165)) ∧ (Kd.R (Kd.int .i64) 2 w' w.heap.size (fun k_ => some k_ ≠ (s_.1 : Value).ownBlock) (.slice Ao19 y158.length co19) y158) ∧ (Kd.R (Kd.int .i64) 2 w' w.heap.size (fun k_ => some k_ ≠ (.slice Ao19 y158.length co19 : Value).ownBlock) s_.1 y172) ∧ (Kd.R k25 25 w' w.heap.size (fun k_ => k_ ≠ gb166 ∧ k_ ≠ s_.2.2) s_.2.1 y180) ∧ (w'.heap[gb166]? = some (.cells #[.int .i64 t161, .int .i64 t162, .bool t163, .int .i64 t164, .int .i64 t165] 25 (0, 0))) ∧ (w'.heap[s_.2.2]? = some (.cells #[.int .i64 0, .int .i64 0, .bool false, .int .i64 0, .int .i64 0] 25 (0, 0))) ∧ (w.heap.size ≤ s_.2.2) ∧ (w.heap.size ≤ s_.2.2) ∧ (gb166 ≠ s_.2.2) ∧ (s_.2.2 ≠ gb166) ∧ (Below w.heap.size w w')) ?_ ?_
                  rotate_left
                  · intro hJ1_2_3_4_6
                    refine join_ (σ := Value × Value) 3 #[true, true, true, true, true, false, false, false] (fun s_ => [(6, .agg #[.int .i64 t167, .int .i64 t168, .bool t169, .int .i64 t170, .int .i64 t171]), (7, s_.1), (8, .agg #[.int .i64 t175, .int .i64 t176, .bool t177, .int .i64 t178, .int .i64 t179]), (9, s_.2)]) (fun s_ w' => (w'.cell? ⟨gb166, 0, none⟩ = some (.int .i64 t161) ∧ w'.cell? ⟨gb166, 1, none⟩ = some (.int .i64 t162) ∧ w'.cell? ⟨gb166, 2, none⟩ = some (.bool t163) ∧ w'.cell? ⟨gb166, 3, none⟩ = some (.int .i64 t164) ∧ w'.cell? ⟨gb166, 4, none⟩ = some (.int .i64 t165)) ∧ (Kd.R (Kd.int .i64) 2 w' w.heap.size (fun k_ => some k_ ≠ (s_.1 : Value).ownBlock) (.slice Ao19 y158.length co19) y158) ∧ (Kd.R (Kd.int .i64) 2 w' w.heap.size (fun k_ => some k_ ≠ (.slice Ao19 y158.length co19 : Value).ownBlock) s_.1 y172) ∧ (Kd.R k25 25 w' w.heap.size (fun k_ => k_ ≠ gb166) s_.2 y180) ∧ (w'.heap[gb166]? = some (.cells #[.int .i64 t161, .int .i64 t162, .bool t163, .int .i64 t164, .int .i64 t165] 25 (0, 0))) ∧ (Below w.heap.size w w')) ?_ ?_
                    rotate_left
                    · intro hJ1_2_3_4
                      refine join_ (σ := Value × Nat) 3 #[true, true, true, true, false, false, true, false] (fun s_ => [(6, .agg #[.int .i64 t167, .int .i64 t168, .bool t169, .int .i64 t170, .int .i64 t171]), (7, s_.1), (8, .agg #[.int .i64 t175, .int .i64 t176, .bool t177, .int .i64 t178, .int .i64 t179]), (2, .pointer (some ⟨s_.2, 0, none⟩))]) (fun s_ w' => (w'.cell? ⟨gb166, 0, none⟩ = some (.int .i64 t161) ∧ w'.cell? ⟨gb166, 1, none⟩ = some (.int .i64 t162) ∧ w'.cell? ⟨gb166, 2, none⟩ = some (.bool t163) ∧ w'.cell? ⟨gb166, 3, none⟩ = some (.int .i64 t164) ∧ w'.cell? ⟨gb166, 4, none⟩ = some (.int .i64 t165)) ∧ (Kd.R (Kd.int .i64) 2 w' w.heap.size (fun k_ => some k_ ≠ (s_.1 : Value).ownBlock) (.slice Ao19 y158.length co19) y158) ∧ (Kd.R (Kd.int .i64) 2 w' w.heap.size (fun k_ => some k_ ≠ (.slice Ao19 y158.length co19 : Value).ownBlock) s_.1 y172) ∧ (w'.heap[gb166]? = some (.cells #[.int .i64 t161, .int .i64 t162, .bool t163, .int .i64 t164, .int .i64 t165] 25 (0, 0))) ∧ (w'.heap[s_.2]? = some (.cells #[.int .i64 0, .int .i64 0, .bool false, .int .i64 0, .int .i64 0] 25 (0, 0))) ∧ (w.heap.size ≤ s_.2) ∧ (w.heap.size ≤ s_.2) ∧ (gb166 ≠ s_.2) ∧ (s_.2 ≠ gb166) ∧ (Below w.heap.size w w')) ?_ ?_
                      rotate_left
                      · intro hJ1_2_3_6
                        refine join_ (σ := Value) 4 #[true, true, true, true, false, false, false, false] (fun s_ => [(6, .agg #[.int .i64 t167, .int .i64 t168, .bool t169, .int .i64 t170, .int .i64 t171]), (7, s_), (8, .agg #[.int .i64 t175, .int .i64 t176, .bool t177, .int .i64 t178, .int .i64 t179])]) (fun s_ w' => (w'.cell? ⟨gb166, 0, none⟩ = some (.int .i64 t161) ∧ w'.cell? ⟨gb166, 1, none⟩ = some (.int .i64 t162) ∧ w'.cell? ⟨gb166, 2, none⟩ = some (.bool t163) ∧ w'.cell? ⟨gb166, 3, none⟩ = some (.int .i64 t164) ∧ w'.cell? ⟨gb166, 4, none⟩ = some (.int .i64 t165)) ∧ (Kd.R (Kd.int .i64) 2 w' w.heap.size (fun k_ => some k_ ≠ (s_ : Value).ownBlock) (.slice Ao19 y158.length co19) y158) ∧ (Kd.R (Kd.int .i64) 2 w' w.heap.size (fun k_ => some k_ ≠ (.slice Ao19 y158.length co19 : Value).ownBlock) s_ y172) ∧ (w'.heap[gb166]? = some (.cells #[.int .i64 t161, .int .i64 t162, .bool t163, .int .i64 t164, .int .i64 t165] 25 (0, 0))) ∧ (Below w.heap.size w w')) ?_ ?_
                        rotate_left
                        · intro hJ1_2_3
                          refine join_ (σ := Value × Nat) 4 #[true, true, true, false, false, false, true, false] (fun s_ => [(6, .agg #[.int .i64 t167, .int .i64 t168, .bool t169, .int .i64 t170, .int .i64 t171]), (7, s_.1), (2, .pointer (some ⟨s_.2, 0, none⟩))]) (fun s_ w' => (w'.cell? ⟨gb166, 0, none⟩ = some (.int .i64 t161) ∧ w'.cell? ⟨gb166, 1, none⟩ = some (.int .i64 t162) ∧ w'.cell? ⟨gb166, 2, none⟩ = some (.bool t163) ∧ w'.cell? ⟨gb166, 3, none⟩ = some (.int .i64 t164) ∧ w'.cell? ⟨gb166, 4, none⟩ = some (.int .i64 t165)) ∧ (Kd.R (Kd.int .i64) 2 w' w.heap.size (fun k_ => some k_ ≠ (s_.1 : Value).ownBlock) (.slice Ao19 y158.length co19) y158) ∧ (Kd.R (Kd.int .i64) 2 w' w.heap.size (fun k_ => some k_ ≠ (.slice Ao19 y158.length co19 : Value).ownBlock) s_.1 y172) ∧ (w'.heap[gb166]? = some (.cells #[.int .i64 t161, .int .i64 t162, .bool t163, .int .i64 t164, .int .i64 t165] 25 (0, 0))) ∧ (w'.heap[s_.2]? = some (.cells #[.int .i64 0, .int .i64 0, .bool false, .int .i64 0, .int .i64 0] 25 (0, 0))) ∧ (w.heap.size ≤ s_.2) ∧ (w.heap.size ≤ s_.2) ∧ (gb166 ≠ s_.2) ∧ (s_.2 ≠ gb166) ∧ (Below w.heap.size w w')) ?_ ?_
                          rotate_left
                          · intro hJ1_2_6
                            refine join_ (σ := Value) 5 #[true, true, true, false, false, false, false, false] (fun s_ => [(6, .agg #[.int .i64 t167, .int .i64 t168, .bool t169, .int .i64 t170, .int .i64 t171]), (7, s_)]) (fun s_ w' => (w'.cell? ⟨gb166, 0, none⟩ = some (.int .i64 t161) ∧ w'.cell? ⟨gb166, 1, none⟩ = some (.int .i64 t162) ∧ w'.cell? ⟨gb166, 2, none⟩ = some (.bool t163) ∧ w'.cell? ⟨gb166, 3, none⟩ = some (.int .i64 t164) ∧ w'.cell? ⟨gb166, 4, none⟩ = some (.int .i64 t165)) ∧ (Kd.R (Kd.int .i64) 2 w' w.heap.size (fun k_ => some k_ ≠ (s_ : Value).ownBlock) (.slice Ao19 y158.length co19) y158) ∧ (Kd.R (Kd.int .i64) 2 w' w.heap.size (fun k_ => some k_ ≠ (.slice Ao19 y158.length co19 : Value).ownBlock) s_ y172) ∧ (w'.heap[gb166]? = some (.cells #[.int .i64 t161, .int .i64 t162, .bool t163, .int .i64 t164, .int .i64 t165] 25 (0, 0))) ∧ (Below w.heap.size w w')) ?_ ?_
                            rotate_left
                            · intro hJ1_2
                              refine join_ (σ := Nat) 5 #[true, true, false, false, false, false, true, false] (fun s_ => [(6, .agg #[.int .i64 t167, .int .i64 t168, .bool t169, .int .i64 t170, .int .i64 t171]), (2, .pointer (some ⟨s_, 0, none⟩))]) (fun s_ w' => (w'.cell? ⟨gb166, 0, none⟩ = some (.int .i64 t161) ∧ w'.cell? ⟨gb166, 1, none⟩ = some (.int .i64 t162) ∧ w'.cell? ⟨gb166, 2, none⟩ = some (.bool t163) ∧ w'.cell? ⟨gb166, 3, none⟩ = some (.int .i64 t164) ∧ w'.cell? ⟨gb166, 4, none⟩ = some (.int .i64 t165)) ∧ (Kd.R (Kd.int .i64) 2 w' w.heap.size (fun _ => True) (.slice Ao19 y158.length co19) y158) ∧ (w'.heap[gb166]? = some (.cells #[.int .i64 t161, .int .i64 t162, .bool t163, .int .i64 t164, .int .i64 t165] 25 (0, 0))) ∧ (w'.heap[s_]? = some (.cells #[.int .i64 0, .int .i64 0, .bool false, .int .i64 0, .int .i64 0] 25 (0, 0))) ∧ (w.heap.size ≤ s_) ∧ (w.heap.size ≤ s_) ∧ (gb166 ≠ s_) ∧ (s_ ≠ gb166) ∧ (Below w.heap.size w w')) ?_ ?_
                              rotate_left
                              · intro hJ1_6
                                refine join_ (σ := Value × Nat) 5 #[true, false, true, false, false, false, true, false] (fun s_ => [(7, s_.1), (2, .pointer (some ⟨s_.2, 0, none⟩))]) (fun s_ w' => (w'.cell? ⟨gb166, 0, none⟩ = some (.int .i64 t161) ∧ w'.cell? ⟨gb166, 1, none⟩ = some (.int .i64 t162) ∧ w'.cell? ⟨gb166, 2, none⟩ = some (.bool t163) ∧ w'.cell? ⟨gb166, 3, none⟩ = some (.int .i64 t164) ∧ w'.cell? ⟨gb166, 4, none⟩ = some (.int .i64 t165)) ∧ (Kd.R (Kd.int .i64) 2 w' w.heap.size (fun k_ => some k_ ≠ (s_.1 : Value).ownBlock) (.slice Ao19 y158.length co19) y158) ∧ (Kd.R (Kd.int .i64) 2 w' w.heap.size (fun k_ => some k_ ≠ (.slice Ao19 y158.length co19 : Value).ownBlock) s_.1 y172) ∧ (w'.heap[gb166]? = some (.cells #[.int .i64 t161, .int .i64 t162, .bool t163, .int .i64 t164, .int .i64 t165] 25 (0, 0))) ∧ (w'.heap[s_.2]? = some (.cells #[.int .i64 0, .int .i64 0, .bool false, .int .i64 0, .int .i64 0] 25 (0, 0))) ∧ (w.heap.size ≤ s_.2) ∧ (w.heap.size ≤ s_.2) ∧ (gb166 ≠ s_.2) ∧ (s_.2 ≠ gb166) ∧ (Below w.heap.size w w')) ?_ ?_
                                rotate_left
                                · intro hJ2_6
                                  refine join_ (σ := Unit) 6 #[true, true, false, false, false, false, false, false] (fun s_ => [(6, .agg #[.int .i64 t167, .int .i64 t168, .bool t169, .int .i64 t170, .int .i64 t171])]) (fun s_ w' => (w'.cell? ⟨gb166, 0, none⟩ = some (.int .i64 t161) ∧ w'.cell? ⟨gb166, 1, none⟩ = some (.int .i64 t162) ∧ w'.cell? ⟨gb166, 2, none⟩ = some (.bool t163) ∧ w'.cell? ⟨gb166, 3, none⟩ = some (.int .i64 t164) ∧ w'.cell? ⟨gb166, 4, none⟩ = some (.int .i64 t165)) ∧ (Kd.R (Kd.int .i64) 2 w' w.heap.size (fun _ => True) (.slice Ao19 y158.length co19) y158) ∧ (w'.heap[gb166]? = some (.cells #[.int .i64 t161, .int .i64 t162, .bool t163, .int .i64 t164, .int .i64 t165] 25 (0, 0))) ∧ (Below w.heap.size w w')) ?_ ?_
                                  rotate_left
                                  · intro hJ1
                                    refine join_ (σ := Value) 6 #[true, false, true, false, false, false, false, false] (fun s_ => [(7, s_)]) (fun s_ w' => (w'.cell? ⟨gb166, 0, none⟩ = some (.int .i64 t161) ∧ w'.cell? ⟨gb166, 1, none⟩ = some (.int .i64 t162) ∧ w'.cell? ⟨gb166, 2, none⟩ = some (.bool t163) ∧ w'.cell? ⟨gb166, 3, none⟩ = some (.int .i64 t164) ∧ w'.cell? ⟨gb166, 4, none⟩ = some (.int .i64 t165)) ∧ (Kd.R (Kd.int .i64) 2 w' w.heap.size (fun k_ => some k_ ≠ (s_ : Value).ownBlock) (.slice Ao19 y158.length co19) y158) ∧ (Kd.R (Kd.int .i64) 2 w' w.heap.size (fun k_ => some k_ ≠ (.slice Ao19 y158.length co19 : Value).ownBlock) s_ y172) ∧ (w'.heap[gb166]? = some (.cells #[.int .i64 t161, .int .i64 t162, .bool t163, .int .i64 t164, .int .i64 t165] 25 (0, 0))) ∧ (Below w.heap.size w w')) ?_ ?_
                                    rotate_left
                                    · intro hJ2
                                      refine join_ (σ := Nat) 6 #[true, false, false, false, false, false, true, false] (fun s_ => [(2, .pointer (some ⟨s_, 0, none⟩))]) (fun s_ w' => (w'.cell? ⟨gb166, 0, none⟩ = some (.int .i64 t161) ∧ w'.cell? ⟨gb166, 1, none⟩ = some (.int .i64 t162) ∧ w'.cell? ⟨gb166, 2, none⟩ = some (.bool t163) ∧ w'.cell? ⟨gb166, 3, none⟩ = some (.int .i64 t164) ∧ w'.cell? ⟨gb166, 4, none⟩ = some (.int .i64 t165)) ∧ (Kd.R (Kd.int .i64) 2 w' w.heap.size (fun _ => True) (.slice Ao19 y158.length co19) y158) ∧ (w'.heap[gb166]? = some (.cells #[.int .i64 t161, .int .i64 t162, .bool t163, .int .i64 t164, .int .i64 t165] 25 (0, 0))) ∧ (w'.heap[s_]? = some (.cells #[.int .i64 0, .int .i64 0, .bool false, .int .i64 0, .int .i64 0] 25 (0, 0))) ∧ (w.heap.size ≤ s_) ∧ (w.heap.size ≤ s_) ∧ (gb166 ≠ s_) ∧ (s_ ≠ gb166) ∧ (Below w.heap.size w w')) ?_ ?_
                                      rotate_left
                                      · intro hJ6
                                        refine three_ (i := 1) (j := 2) (k := 6) (Ni := some 6) (Nj := some 7) (Nk := some 2) #[true, true, false, false, false, false, false, false] #[true, false, true, false, false, false, false, false] #[true, false, false, false, false, false, true, false] rfl rfl rfl rfl rfl rfl (three_of HT_.out (by kernel_rfl)) (by decide) (by decide) (by decide) (fun K hK => ?_) (fun K hK => ?_) (fun K hK => ?_)
                                        · skip
                                          refine goes_ Try.func13 (by kernel_rfl) rfl #[.slice none 0 0] (by rfl) rfl rfl (by (try simp only [List.map_toArray, List.map_cons, List.map_nil]); first | done | rfl | (simp only [List.length_drop, List.length_take]; rfl)) ?_
                                          refine (cell_Of.calls k _ _ ([] : List Int) t167 t168 t169 t170 t171 _ ?side1 ?side2 A2.out).mono ?_
                                          (case side1 => exact Kd.C_nil _ _)
                                          (case side2 => exact Nat.le_refl _)
                                          rintro e w25 ⟨rfl, hb⟩
                                          refine ⟨_, rfl, ?_⟩
                                          have n0_ := Aside0.mk (Kd.R_below (by (with_reducible repeat (first | apply Kd.R_alloc | apply Kd.R_drewN | apply Kd.R_drew)); exact HO160.out) hb)
                                          have n1_ := Aside0.mk (blk_below (g := gb166) (o := .cells #[.int .i64 t161, .int .i64 t162, .bool t163, .int .i64 t164, .int .i64 t165] 25 (0, 0)) (by (with_reducible repeat (first | refine blk_drewN ?_ _ | refine blk_drew ?_ | refine blk_alloc ?_ _)); exact BK166.out) hb)
                                          have n2_ := Aside0.mk (below_step (by repeat (first | (with_reducible first | exact HB.out | apply below_alloc | apply pw_below_drewN | apply below_drew1 | refine below_set ?_ GE166.out) | exact HB.out)) hb)
                                          clear HO160
                                          clear BK166
                                          clear HB
                                          have HO160 := n0_
                                          have BK166 := n1_
                                          have HB := n2_
                                          clear n0_ n1_ n2_
                                          (try clear hb)
                                          (try clear hb2)
                                          (try clear hk)
                                          (try clear hi)
                                          refine hK.out _ _ ⟨(blk_cell BK166.out 0).trans rfl, (blk_cell BK166.out 1).trans rfl, (blk_cell BK166.out 2).trans rfl, (blk_cell BK166.out 3).trans rfl, (blk_cell BK166.out 4).trans rfl⟩ (fun hHeld => ?_)
                                          clear hK K
                                          refine norm_ (a' := ?_) ?_ ?_
                                          rotate_left
                                          · show Act.put _ (some 6) _ = _
                                            simp only [Act.put, List.setIfInBounds_toArray, List.set_cons_zero, List.set_cons_succ, i64_w, i32_w]
                                            rfl
                                          exact norm_ (by first | (simp only [putAll, Act.put, List.setIfInBounds_toArray, List.set_cons_zero, List.set_cons_succ]; done) | (simp only [putAll, Act.put, List.setIfInBounds_toArray, List.set_cons_zero, List.set_cons_succ]; rfl)) (hJ1 () _ ⟨hHeld, (by (with_reducible repeat (first | apply Kd.R_alloc | apply Kd.R_drewN | apply Kd.R_drew)); exact HO160.out), (by (with_reducible repeat (first | refine blk_drewN ?_ _ | refine blk_drew ?_ | refine blk_alloc ?_ _)); exact BK166.out), (by repeat (first | (with_reducible first | exact HB.out | apply below_alloc | apply pw_below_drewN | apply below_drew1 | refine below_set ?_ GE166.out) | exact HB.out))⟩)
                                        · skip
                                          refine Kd.R_lit_step (Kd.int .i64) _ 2 ?hg (N := 7) ?hd (xs := ([9] : List Int)) (inner := [.int .i64 9]) (ok := fun _ => True) (okp := fun _ => True) ?hr ?hp (fun _ hk => hk) trivial (Below.refl _ _) (Nat.le_refl _) (by simp) ?_; (case hd => rfl); (case hg => rfl); (case hr => first | (go_simp; done) | (go_simp; rfl)); (case hp => exact (Reps.one (show Kd.M (Kd.int .i64) _ _ _ 9 [.int .i64 9] from rfl) (Reps.none _ _)))
                                          intro v173 w25 ho26 hb hg_ hnew_
                                          clear hg_ hnew_
                                          (first | rw [← Ny172.out] at ho26 | (simp only [Int.reduceToNat] at ho26; rw [← Ny172.out] at ho26))
                                          have n0_ := Aside0.mk (Kd.R_elder' (by (with_reducible repeat (first | apply Kd.R_alloc | apply Kd.R_drewN | apply Kd.R_drew)); exact HO160.out) (Kd.R_base ho26) hb)
                                          have n1_ := Aside0.mk (Kd.R_lower (Kd.R_new' ho26 (Kd.R_lt (by (with_reducible repeat (first | apply Kd.R_alloc | apply Kd.R_drewN | apply Kd.R_drew)); exact HO160.out))) (below_size (by repeat (first | (with_reducible first | exact HB.out | apply below_alloc | apply pw_below_drewN | apply below_drew1 | refine below_set ?_ GE166.out) | exact HB.out))))
                                          have n2_ := Aside0.mk (blk_below (g := gb166) (o := .cells #[.int .i64 t161, .int .i64 t162, .bool t163, .int .i64 t164, .int .i64 t165] 25 (0, 0)) (by (with_reducible repeat (first | refine blk_drewN ?_ _ | refine blk_drew ?_ | refine blk_alloc ?_ _)); exact BK166.out) hb)
                                          have n3_ := Aside0.mk (below_step (by repeat (first | (with_reducible first | exact HB.out | apply below_alloc | apply pw_below_drewN | apply below_drew1 | refine below_set ?_ GE166.out) | exact HB.out)) hb)
                                          clear HO160
                                          clear BK166
                                          clear HB
                                          have HO160 := n0_
                                          have HO174 := n1_
                                          have BK166 := n2_
                                          have HB := n3_
                                          clear n0_ n1_ n2_ n3_
                                          clear hb ho26
                                          refine hK.out _ _ ⟨(blk_cell BK166.out 0).trans rfl, (blk_cell BK166.out 1).trans rfl, (blk_cell BK166.out 2).trans rfl, (blk_cell BK166.out 3).trans rfl, (blk_cell BK166.out 4).trans rfl⟩ (fun hHeld => ?_)
                                          clear hK K
                                          refine norm_ (a' := ?_) ?_ ?_
                                          rotate_left
                                          · show Act.put _ (some 7) _ = _
                                            simp only [Act.put, List.setIfInBounds_toArray, List.set_cons_zero, List.set_cons_succ, i64_w, i32_w]
                                            rfl
                                          exact norm_ (by first | (simp only [putAll, Act.put, List.setIfInBounds_toArray, List.set_cons_zero, List.set_cons_succ]; done) | (simp only [putAll, Act.put, List.setIfInBounds_toArray, List.set_cons_zero, List.set_cons_succ]; rfl)) (hJ2 (v173) _ ⟨hHeld, (by (with_reducible repeat (first | apply Kd.R_alloc | apply Kd.R_drewN | apply Kd.R_drew)); exact Kd.R_mono HO160.out (fun _ hk => hk.2)), (by (with_reducible repeat (first | apply Kd.R_alloc | apply Kd.R_drewN | apply Kd.R_drew)); exact Kd.R_mono HO174.out (fun _ hk => hk.2)), (by (with_reducible repeat (first | refine blk_drewN ?_ _ | refine blk_drew ?_ | refine blk_alloc ?_ _)); exact BK166.out), (by repeat (first | (with_reducible first | exact HB.out | apply below_alloc | apply pw_below_drewN | apply below_drew1 | refine below_set ?_ GE166.out) | exact HB.out))⟩)
                                        · skip
                                          refine box_step ?hg (N := 2) ?hd (cs := #[.int .i64 0, .int .i64 0, .bool false, .int .i64 0, .int .i64 0]) (t := 25) ?hr ?_; (case hd => rfl); (case hg => rfl); (case hr => first | (go_simp; done) | (go_simp; rfl))
                                          intro gb188 hg w25 hbox hb
                                          have n0_ := Aside0.mk (Kd.R_below (by (with_reducible repeat (first | apply Kd.R_alloc | apply Kd.R_drewN | apply Kd.R_drew)); exact HO160.out) hb)
                                          have n1_ := Aside0.mk (blk_below (g := gb166) (o := .cells #[.int .i64 t161, .int .i64 t162, .bool t163, .int .i64 t164, .int .i64 t165] 25 (0, 0)) (by (with_reducible repeat (first | refine blk_drewN ?_ _ | refine blk_drew ?_ | refine blk_alloc ?_ _)); exact BK166.out) hb)
                                          have n2_ := Aside0.mk (below_step (by repeat (first | (with_reducible first | exact HB.out | apply below_alloc | apply pw_below_drewN | apply below_drew1 | refine below_set ?_ GE166.out) | exact HB.out)) hb)
                                          have n3_ := Aside0.mk (hbox)
                                          have n4_ := Aside0.mk ((by rw [hg]; exact (below_size (by repeat (first | (with_reducible first | exact HB.out | apply below_alloc | apply pw_below_drewN | apply below_drew1 | refine below_set ?_ GE166.out) | exact HB.out))) : w.heap.size ≤ gb188))
                                          have n5_ := Aside0.mk ((by rw [hg]; exact (below_size (by repeat (first | (with_reducible first | exact HB.out | apply below_alloc | apply pw_below_drewN | apply below_drew1 | refine below_set ?_ GE166.out) | exact HB.out))) : w.heap.size ≤ gb188))
                                          have n6_ := Aside0.mk ((by rw [hg]; exact Nat.ne_of_lt (blk_lt (g := gb166) (o := .cells #[.int .i64 t161, .int .i64 t162, .bool t163, .int .i64 t164, .int .i64 t165] 25 (0, 0)) (by (with_reducible repeat (first | refine blk_drewN ?_ _ | refine blk_drew ?_ | refine blk_alloc ?_ _)); exact BK166.out)) : gb166 ≠ gb188))
                                          have n7_ := Aside0.mk ((by rw [hg]; exact Nat.ne_of_gt (blk_lt (g := gb166) (o := .cells #[.int .i64 t161, .int .i64 t162, .bool t163, .int .i64 t164, .int .i64 t165] 25 (0, 0)) (by (with_reducible repeat (first | refine blk_drewN ?_ _ | refine blk_drew ?_ | refine blk_alloc ?_ _)); exact BK166.out)) : gb188 ≠ gb166))
                                          clear HO160
                                          clear BK166
                                          clear HB
                                          have HO160 := n0_
                                          have BK166 := n1_
                                          have HB := n2_
                                          have BK188 := n3_
                                          have GW188 := n4_
                                          have GE188 := n5_
                                          have NB166_188 := n6_
                                          have NB188_166 := n7_
                                          clear n0_ n1_ n2_ n3_ n4_ n5_ n6_ n7_
                                          clear hb hbox hg
                                          refine hK.out _ _ ⟨(blk_cell BK166.out 0).trans rfl, (blk_cell BK166.out 1).trans rfl, (blk_cell BK166.out 2).trans rfl, (blk_cell BK166.out 3).trans rfl, (blk_cell BK166.out 4).trans rfl⟩ (fun hHeld => ?_)
                                          clear hK K
                                          refine norm_ (a' := ?_) ?_ ?_
                                          rotate_left
                                          · show Act.put _ (some 2) _ = _
                                            simp only [Act.put, List.setIfInBounds_toArray, List.set_cons_zero, List.set_cons_succ, i64_w, i32_w]
                                            rfl
                                          exact norm_ (by first | (simp only [putAll, Act.put, List.setIfInBounds_toArray, List.set_cons_zero, List.set_cons_succ]; done) | (simp only [putAll, Act.put, List.setIfInBounds_toArray, List.set_cons_zero, List.set_cons_succ]; rfl)) (hJ6 (gb188) _ ⟨hHeld, (by (with_reducible repeat (first | apply Kd.R_alloc | apply Kd.R_drewN | apply Kd.R_drew)); exact HO160.out), (by (with_reducible repeat (first | refine blk_drewN ?_ _ | refine blk_drew ?_ | refine blk_alloc ?_ _)); exact BK166.out), (by (with_reducible repeat (first | refine blk_drewN ?_ _ | refine blk_drew ?_ | refine blk_alloc ?_ _)); exact BK188.out), GW188.out, GE188.out, NB166_188.out, NB188_166.out, (by repeat (first | (with_reducible first | exact HB.out | apply below_alloc | apply pw_below_drewN | apply below_drew1 | refine below_set ?_ GE166.out | refine below_set ?_ GE188.out) | exact HB.out))⟩)
                                      · skip
                                        rintro gb188 w26 ⟨hS_, h0_, h1_, h2_, h3_, h4_, h5_, h6_, h7_⟩
                                        have n0_ : Aside0 (Kd.R (Kd.int .i64) 2 w26 w.heap.size (fun _ => True) (.slice Ao19 y158.length co19) y158) := ⟨h0_⟩
                                        have n1_ : Aside0 (w26.heap[gb166]? = some (.cells #[.int .i64 t161, .int .i64 t162, .bool t163, .int .i64 t164, .int .i64 t165] 25 (0, 0))) := ⟨h1_⟩
                                        have n2_ : Aside0 (w26.heap[gb188]? = some (.cells #[.int .i64 0, .int .i64 0, .bool false, .int .i64 0, .int .i64 0] 25 (0, 0))) := ⟨h2_⟩
                                        have n3_ : Aside0 (w.heap.size ≤ gb188) := ⟨h3_⟩
                                        have n4_ : Aside0 (w.heap.size ≤ gb188) := ⟨h4_⟩
                                        have n5_ : Aside0 (gb166 ≠ gb188) := ⟨h5_⟩
                                        have n6_ : Aside0 (gb188 ≠ gb166) := ⟨h6_⟩
                                        have n7_ : Aside0 (Below w.heap.size w w26) := ⟨h7_⟩
                                        clear HO160
                                        clear BK166
                                        clear HB
                                        clear h0_ h1_ h2_ h3_ h4_ h5_ h6_ h7_
                                        have HO160 := n0_
                                        have BK166 := n1_
                                        have BK188 := n2_
                                        have GW188 := n3_
                                        have GE188 := n4_
                                        have NB166_188 := n5_
                                        have NB188_166 := n6_
                                        have HB := n7_
                                        clear n0_ n1_ n2_ n3_ n4_ n5_ n6_ n7_
                                        have hHeld : w26.cell? ⟨gb166, 0, none⟩ = some (.int .i64 t161) ∧ w26.cell? ⟨gb166, 1, none⟩ = some (.int .i64 t162) ∧ w26.cell? ⟨gb166, 2, none⟩ = some (.bool t163) ∧ w26.cell? ⟨gb166, 3, none⟩ = some (.int .i64 t164) ∧ w26.cell? ⟨gb166, 4, none⟩ = some (.int .i64 t165) := hS_
                                        refine norm_ (a' := ?_) ?_ ?_
                                        rotate_left
                                        · simp only [putAll, Act.put, List.setIfInBounds_toArray, List.set_cons_zero, List.set_cons_succ]
                                          rfl
                                        refine two_ (i := 1) (j := 2) (Ni := some 6) (Nj := some 7) #[true, true, false, false, false, false, true, false] #[true, false, true, false, false, false, true, false] rfl rfl rfl rfl (two_of HT_.out (by kernel_rfl)) (by decide) (by decide) (fun K hK => ?_) (fun K hK => ?_)
                                        · skip
                                          refine goes_ Try.func13 (by kernel_rfl) rfl #[.slice none 0 0] (by rfl) rfl rfl (by (try simp only [List.map_toArray, List.map_cons, List.map_nil]); first | done | rfl | (simp only [List.length_drop, List.length_take]; rfl)) ?_
                                          refine (cell_Of.calls k _ _ ([] : List Int) t167 t168 t169 t170 t171 _ ?side1 ?side2 A2.out).mono ?_
                                          (case side1 => exact Kd.C_nil _ _)
                                          (case side2 => exact Nat.le_refl _)
                                          rintro e w27 ⟨rfl, hb⟩
                                          refine ⟨_, rfl, ?_⟩
                                          have n0_ := Aside0.mk (Kd.R_below (by (with_reducible repeat (first | apply Kd.R_alloc | apply Kd.R_drewN | apply Kd.R_drew)); exact HO160.out) hb)
                                          have n1_ := Aside0.mk (blk_below (g := gb166) (o := .cells #[.int .i64 t161, .int .i64 t162, .bool t163, .int .i64 t164, .int .i64 t165] 25 (0, 0)) (by (with_reducible repeat (first | refine blk_drewN ?_ _ | refine blk_drew ?_ | refine blk_alloc ?_ _)); exact BK166.out) hb)
                                          have n2_ := Aside0.mk (blk_below (g := gb188) (o := .cells #[.int .i64 0, .int .i64 0, .bool false, .int .i64 0, .int .i64 0] 25 (0, 0)) (by (with_reducible repeat (first | refine blk_drewN ?_ _ | refine blk_drew ?_ | refine blk_alloc ?_ _)); exact BK188.out) hb)
                                          have n3_ := Aside0.mk (below_step (by repeat (first | (with_reducible first | exact HB.out | apply below_alloc | apply pw_below_drewN | apply below_drew1 | refine below_set ?_ GE166.out | refine below_set ?_ GE188.out) | exact HB.out)) hb)
                                          clear HO160
                                          clear BK166
                                          clear BK188
                                          clear HB
                                          have HO160 := n0_
                                          have BK166 := n1_
                                          have BK188 := n2_
                                          have HB := n3_
                                          clear n0_ n1_ n2_ n3_
                                          (try clear hb)
                                          (try clear hb2)
                                          (try clear hk)
                                          (try clear hi)
                                          refine hK.out _ _ ⟨(blk_cell BK166.out 0).trans rfl, (blk_cell BK166.out 1).trans rfl, (blk_cell BK166.out 2).trans rfl, (blk_cell BK166.out 3).trans rfl, (blk_cell BK166.out 4).trans rfl⟩ (fun hHeld => ?_)
                                          clear hK K
                                          refine norm_ (a' := ?_) ?_ ?_
                                          rotate_left
                                          · show Act.put _ (some 6) _ = _
                                            simp only [Act.put, List.setIfInBounds_toArray, List.set_cons_zero, List.set_cons_succ, i64_w, i32_w]
                                            rfl
                                          exact norm_ (by first | (simp only [putAll, Act.put, List.setIfInBounds_toArray, List.set_cons_zero, List.set_cons_succ]; done) | (simp only [putAll, Act.put, List.setIfInBounds_toArray, List.set_cons_zero, List.set_cons_succ]; rfl)) (hJ1_6 (gb188) _ ⟨hHeld, (by (with_reducible repeat (first | apply Kd.R_alloc | apply Kd.R_drewN | apply Kd.R_drew)); exact HO160.out), (by (with_reducible repeat (first | refine blk_drewN ?_ _ | refine blk_drew ?_ | refine blk_alloc ?_ _)); exact BK166.out), (by (with_reducible repeat (first | refine blk_drewN ?_ _ | refine blk_drew ?_ | refine blk_alloc ?_ _)); exact BK188.out), GW188.out, GE188.out, NB166_188.out, NB188_166.out, (by repeat (first | (with_reducible first | exact HB.out | apply below_alloc | apply pw_below_drewN | apply below_drew1 | refine below_set ?_ GE166.out | refine below_set ?_ GE188.out) | exact HB.out))⟩)
                                        · skip
                                          refine Kd.R_lit_step (Kd.int .i64) _ 2 ?hg (N := 7) ?hd (xs := ([9] : List Int)) (inner := [.int .i64 9]) (ok := fun _ => True) (okp := fun _ => True) ?hr ?hp (fun _ hk => hk) trivial (Below.refl _ _) (Nat.le_refl _) (by simp) ?_; (case hd => rfl); (case hg => rfl); (case hr => first | (go_simp; done) | (go_simp; rfl)); (case hp => exact (Reps.one (show Kd.M (Kd.int .i64) _ _ _ 9 [.int .i64 9] from rfl) (Reps.none _ _)))
                                          intro v173 w27 ho28 hb hg_ hnew_
                                          clear hg_ hnew_
                                          (first | rw [← Ny172.out] at ho28 | (simp only [Int.reduceToNat] at ho28; rw [← Ny172.out] at ho28))
                                          have n0_ := Aside0.mk (Kd.R_elder' (by (with_reducible repeat (first | apply Kd.R_alloc | apply Kd.R_drewN | apply Kd.R_drew)); exact HO160.out) (Kd.R_base ho28) hb)
                                          have n1_ := Aside0.mk (Kd.R_lower (Kd.R_new' ho28 (Kd.R_lt (by (with_reducible repeat (first | apply Kd.R_alloc | apply Kd.R_drewN | apply Kd.R_drew)); exact HO160.out))) (below_size (by repeat (first | (with_reducible first | exact HB.out | apply below_alloc | apply pw_below_drewN | apply below_drew1 | refine below_set ?_ GE166.out | refine below_set ?_ GE188.out) | exact HB.out))))
                                          have n2_ := Aside0.mk (blk_below (g := gb166) (o := .cells #[.int .i64 t161, .int .i64 t162, .bool t163, .int .i64 t164, .int .i64 t165] 25 (0, 0)) (by (with_reducible repeat (first | refine blk_drewN ?_ _ | refine blk_drew ?_ | refine blk_alloc ?_ _)); exact BK166.out) hb)
                                          have n3_ := Aside0.mk (blk_below (g := gb188) (o := .cells #[.int .i64 0, .int .i64 0, .bool false, .int .i64 0, .int .i64 0] 25 (0, 0)) (by (with_reducible repeat (first | refine blk_drewN ?_ _ | refine blk_drew ?_ | refine blk_alloc ?_ _)); exact BK188.out) hb)
                                          have n4_ := Aside0.mk (below_step (by repeat (first | (with_reducible first | exact HB.out | apply below_alloc | apply pw_below_drewN | apply below_drew1 | refine below_set ?_ GE166.out | refine below_set ?_ GE188.out) | exact HB.out)) hb)
                                          clear HO160
                                          clear BK166
                                          clear BK188
                                          clear HB
                                          have HO160 := n0_
                                          have HO174 := n1_
                                          have BK166 := n2_
                                          have BK188 := n3_
                                          have HB := n4_
                                          clear n0_ n1_ n2_ n3_ n4_
                                          clear hb ho28
                                          refine hK.out _ _ ⟨(blk_cell BK166.out 0).trans rfl, (blk_cell BK166.out 1).trans rfl, (blk_cell BK166.out 2).trans rfl, (blk_cell BK166.out 3).trans rfl, (blk_cell BK166.out 4).trans rfl⟩ (fun hHeld => ?_)
                                          clear hK K
                                          refine norm_ (a' := ?_) ?_ ?_
                                          rotate_left
                                          · show Act.put _ (some 7) _ = _
                                            simp only [Act.put, List.setIfInBounds_toArray, List.set_cons_zero, List.set_cons_succ, i64_w, i32_w]
                                            rfl
                                          exact norm_ (by first | (simp only [putAll, Act.put, List.setIfInBounds_toArray, List.set_cons_zero, List.set_cons_succ]; done) | (simp only [putAll, Act.put, List.setIfInBounds_toArray, List.set_cons_zero, List.set_cons_succ]; rfl)) (hJ2_6 (v173, gb188) _ ⟨hHeld, (by (with_reducible repeat (first | apply Kd.R_alloc | apply Kd.R_drewN | apply Kd.R_drew)); exact Kd.R_mono HO160.out (fun _ hk => hk.2)), (by (with_reducible repeat (first | apply Kd.R_alloc | apply Kd.R_drewN | apply Kd.R_drew)); exact Kd.R_mono HO174.out (fun _ hk => hk.2)), (by (with_reducible repeat (first | refine blk_drewN ?_ _ | refine blk_drew ?_ | refine blk_alloc ?_ _)); exact BK166.out), (by (with_reducible repeat (first | refine blk_drewN ?_ _ | refine blk_drew ?_ | refine blk_alloc ?_ _)); exact BK188.out), GW188.out, GE188.out, NB166_188.out, NB188_166.out, (by repeat (first | (with_reducible first | exact HB.out | apply below_alloc | apply pw_below_drewN | apply below_drew1 | refine below_set ?_ GE166.out | refine below_set ?_ GE188.out) | exact HB.out))⟩)
                                    · skip
                                      rintro v173 w27 ⟨hS_, h0_, h1_, h2_, h3_⟩
                                      have n0_ : Aside0 (Kd.R (Kd.int .i64) 2 w27 w.heap.size (fun k_ => some k_ ≠ (v173 : Value).ownBlock) (.slice Ao19 y158.length co19) y158) := ⟨h0_⟩
                                      have n1_ : Aside0 (Kd.R (Kd.int .i64) 2 w27 w.heap.size (fun k_ => some k_ ≠ (.slice Ao19 y158.length co19 : Value).ownBlock) v173 y172) := ⟨h1_⟩
                                      have n2_ : Aside0 (w27.heap[gb166]? = some (.cells #[.int .i64 t161, .int .i64 t162, .bool t163, .int .i64 t164, .int .i64 t165] 25 (0, 0))) := ⟨h2_⟩
                                      have n3_ : Aside0 (Below w.heap.size w w27) := ⟨h3_⟩
                                      clear HO160
                                      clear BK166
                                      clear HB
                                      clear h0_ h1_ h2_ h3_
                                      have HO160 := n0_
                                      have HO174 := n1_
                                      have BK166 := n2_
                                      have HB := n3_
                                      clear n0_ n1_ n2_ n3_
                                      have hHeld : w27.cell? ⟨gb166, 0, none⟩ = some (.int .i64 t161) ∧ w27.cell? ⟨gb166, 1, none⟩ = some (.int .i64 t162) ∧ w27.cell? ⟨gb166, 2, none⟩ = some (.bool t163) ∧ w27.cell? ⟨gb166, 3, none⟩ = some (.int .i64 t164) ∧ w27.cell? ⟨gb166, 4, none⟩ = some (.int .i64 t165) := hS_
                                      refine norm_ (a' := ?_) ?_ ?_
                                      rotate_left
                                      · simp only [putAll, Act.put, List.setIfInBounds_toArray, List.set_cons_zero, List.set_cons_succ]
                                        rfl
                                      refine two_ (i := 1) (j := 6) (Ni := some 6) (Nj := some 2) #[true, true, true, false, false, false, false, false] #[true, false, true, false, false, false, true, false] rfl rfl rfl rfl (two_of HT_.out (by kernel_rfl)) (by decide) (by decide) (fun K hK => ?_) (fun K hK => ?_)
                                      · skip
                                        refine goes_ Try.func13 (by kernel_rfl) rfl #[.slice none 0 0] (by rfl) rfl rfl (by (try simp only [List.map_toArray, List.map_cons, List.map_nil]); first | done | rfl | (simp only [List.length_drop, List.length_take]; rfl)) ?_
                                        refine (cell_Of.calls k _ _ ([] : List Int) t167 t168 t169 t170 t171 _ ?side1 ?side2 A2.out).mono ?_
                                        (case side1 => exact Kd.C_nil _ _)
                                        (case side2 => exact Nat.le_refl _)
                                        rintro e w28 ⟨rfl, hb⟩
                                        refine ⟨_, rfl, ?_⟩
                                        have n0_ := Aside0.mk (Kd.R_below (by (with_reducible repeat (first | apply Kd.R_alloc | apply Kd.R_drewN | apply Kd.R_drew)); exact HO160.out) hb)
                                        have n1_ := Aside0.mk (Kd.R_below (by (with_reducible repeat (first | apply Kd.R_alloc | apply Kd.R_drewN | apply Kd.R_drew)); exact HO174.out) hb)
                                        have n2_ := Aside0.mk (blk_below (g := gb166) (o := .cells #[.int .i64 t161, .int .i64 t162, .bool t163, .int .i64 t164, .int .i64 t165] 25 (0, 0)) (by (with_reducible repeat (first | refine blk_drewN ?_ _ | refine blk_drew ?_ | refine blk_alloc ?_ _)); exact BK166.out) hb)
                                        have n3_ := Aside0.mk (below_step (by repeat (first | (with_reducible first | exact HB.out | apply below_alloc | apply pw_below_drewN | apply below_drew1 | refine below_set ?_ GE166.out) | exact HB.out)) hb)
                                        clear HO160
                                        clear HO174
                                        clear BK166
                                        clear HB
                                        have HO160 := n0_
                                        have HO174 := n1_
                                        have BK166 := n2_
                                        have HB := n3_
                                        clear n0_ n1_ n2_ n3_
                                        (try clear hb)
                                        (try clear hb2)
                                        (try clear hk)
                                        (try clear hi)
                                        refine hK.out _ _ ⟨(blk_cell BK166.out 0).trans rfl, (blk_cell BK166.out 1).trans rfl, (blk_cell BK166.out 2).trans rfl, (blk_cell BK166.out 3).trans rfl, (blk_cell BK166.out 4).trans rfl⟩ (fun hHeld => ?_)
                                        clear hK K
                                        refine norm_ (a' := ?_) ?_ ?_
                                        rotate_left
                                        · show Act.put _ (some 6) _ = _
                                          simp only [Act.put, List.setIfInBounds_toArray, List.set_cons_zero, List.set_cons_succ, i64_w, i32_w]
                                          rfl
                                        exact norm_ (by first | (simp only [putAll, Act.put, List.setIfInBounds_toArray, List.set_cons_zero, List.set_cons_succ]; done) | (simp only [putAll, Act.put, List.setIfInBounds_toArray, List.set_cons_zero, List.set_cons_succ]; rfl)) (hJ1_2 (v173) _ ⟨hHeld, (by (with_reducible repeat (first | apply Kd.R_alloc | apply Kd.R_drewN | apply Kd.R_drew)); exact HO160.out), (by (with_reducible repeat (first | apply Kd.R_alloc | apply Kd.R_drewN | apply Kd.R_drew)); exact HO174.out), (by (with_reducible repeat (first | refine blk_drewN ?_ _ | refine blk_drew ?_ | refine blk_alloc ?_ _)); exact BK166.out), (by repeat (first | (with_reducible first | exact HB.out | apply below_alloc | apply pw_below_drewN | apply below_drew1 | refine below_set ?_ GE166.out) | exact HB.out))⟩)
                                      · skip
                                        refine box_step ?hg (N := 2) ?hd (cs := #[.int .i64 0, .int .i64 0, .bool false, .int .i64 0, .int .i64 0]) (t := 25) ?hr ?_; (case hd => rfl); (case hg => rfl); (case hr => first | (go_simp; done) | (go_simp; rfl))
                                        intro gb188 hg w28 hbox hb
                                        have n0_ := Aside0.mk (Kd.R_below (by (with_reducible repeat (first | apply Kd.R_alloc | apply Kd.R_drewN | apply Kd.R_drew)); exact HO160.out) hb)
                                        have n1_ := Aside0.mk (Kd.R_below (by (with_reducible repeat (first | apply Kd.R_alloc | apply Kd.R_drewN | apply Kd.R_drew)); exact HO174.out) hb)
                                        have n2_ := Aside0.mk (blk_below (g := gb166) (o := .cells #[.int .i64 t161, .int .i64 t162, .bool t163, .int .i64 t164, .int .i64 t165] 25 (0, 0)) (by (with_reducible repeat (first | refine blk_drewN ?_ _ | refine blk_drew ?_ | refine blk_alloc ?_ _)); exact BK166.out) hb)
                                        have n3_ := Aside0.mk (below_step (by repeat (first | (with_reducible first | exact HB.out | apply below_alloc | apply pw_below_drewN | apply below_drew1 | refine below_set ?_ GE166.out) | exact HB.out)) hb)
                                        have n4_ := Aside0.mk (hbox)
                                        have n5_ := Aside0.mk ((by rw [hg]; exact (below_size (by repeat (first | (with_reducible first | exact HB.out | apply below_alloc | apply pw_below_drewN | apply below_drew1 | refine below_set ?_ GE166.out) | exact HB.out))) : w.heap.size ≤ gb188))
                                        have n6_ := Aside0.mk ((by rw [hg]; exact (below_size (by repeat (first | (with_reducible first | exact HB.out | apply below_alloc | apply pw_below_drewN | apply below_drew1 | refine below_set ?_ GE166.out) | exact HB.out))) : w.heap.size ≤ gb188))
                                        have n7_ := Aside0.mk ((by rw [hg]; exact Nat.ne_of_lt (blk_lt (g := gb166) (o := .cells #[.int .i64 t161, .int .i64 t162, .bool t163, .int .i64 t164, .int .i64 t165] 25 (0, 0)) (by (with_reducible repeat (first | refine blk_drewN ?_ _ | refine blk_drew ?_ | refine blk_alloc ?_ _)); exact BK166.out)) : gb166 ≠ gb188))
                                        have n8_ := Aside0.mk ((by rw [hg]; exact Nat.ne_of_gt (blk_lt (g := gb166) (o := .cells #[.int .i64 t161, .int .i64 t162, .bool t163, .int .i64 t164, .int .i64 t165] 25 (0, 0)) (by (with_reducible repeat (first | refine blk_drewN ?_ _ | refine blk_drew ?_ | refine blk_alloc ?_ _)); exact BK166.out)) : gb188 ≠ gb166))
                                        clear HO160
                                        clear HO174
                                        clear BK166
                                        clear HB
                                        have HO160 := n0_
                                        have HO174 := n1_
                                        have BK166 := n2_
                                        have HB := n3_
                                        have BK188 := n4_
                                        have GW188 := n5_
                                        have GE188 := n6_
                                        have NB166_188 := n7_
                                        have NB188_166 := n8_
                                        clear n0_ n1_ n2_ n3_ n4_ n5_ n6_ n7_ n8_
                                        clear hb hbox hg
                                        refine hK.out _ _ ⟨(blk_cell BK166.out 0).trans rfl, (blk_cell BK166.out 1).trans rfl, (blk_cell BK166.out 2).trans rfl, (blk_cell BK166.out 3).trans rfl, (blk_cell BK166.out 4).trans rfl⟩ (fun hHeld => ?_)
                                        clear hK K
                                        refine norm_ (a' := ?_) ?_ ?_
                                        rotate_left
                                        · show Act.put _ (some 2) _ = _
                                          simp only [Act.put, List.setIfInBounds_toArray, List.set_cons_zero, List.set_cons_succ, i64_w, i32_w]
                                          rfl
                                        exact norm_ (by first | (simp only [putAll, Act.put, List.setIfInBounds_toArray, List.set_cons_zero, List.set_cons_succ]; done) | (simp only [putAll, Act.put, List.setIfInBounds_toArray, List.set_cons_zero, List.set_cons_succ]; rfl)) (hJ2_6 (v173, gb188) _ ⟨hHeld, (by (with_reducible repeat (first | apply Kd.R_alloc | apply Kd.R_drewN | apply Kd.R_drew)); exact HO160.out), (by (with_reducible repeat (first | apply Kd.R_alloc | apply Kd.R_drewN | apply Kd.R_drew)); exact HO174.out), (by (with_reducible repeat (first | refine blk_drewN ?_ _ | refine blk_drew ?_ | refine blk_alloc ?_ _)); exact BK166.out), (by (with_reducible repeat (first | refine blk_drewN ?_ _ | refine blk_drew ?_ | refine blk_alloc ?_ _)); exact BK188.out), GW188.out, GE188.out, NB166_188.out, NB188_166.out, (by repeat (first | (with_reducible first | exact HB.out | apply below_alloc | apply pw_below_drewN | apply below_drew1 | refine below_set ?_ GE166.out | refine below_set ?_ GE188.out) | exact HB.out))⟩)
                                  · skip
                                    rintro _ w26 ⟨hS_, h0_, h1_, h2_⟩
                                    have n0_ : Aside0 (Kd.R (Kd.int .i64) 2 w26 w.heap.size (fun _ => True) (.slice Ao19 y158.length co19) y158) := ⟨h0_⟩
                                    have n1_ : Aside0 (w26.heap[gb166]? = some (.cells #[.int .i64 t161, .int .i64 t162, .bool t163, .int .i64 t164, .int .i64 t165] 25 (0, 0))) := ⟨h1_⟩
                                    have n2_ : Aside0 (Below w.heap.size w w26) := ⟨h2_⟩
                                    clear HO160
                                    clear BK166
                                    clear HB
                                    clear h0_ h1_ h2_
                                    have HO160 := n0_
                                    have BK166 := n1_
                                    have HB := n2_
                                    clear n0_ n1_ n2_
                                    have hHeld : w26.cell? ⟨gb166, 0, none⟩ = some (.int .i64 t161) ∧ w26.cell? ⟨gb166, 1, none⟩ = some (.int .i64 t162) ∧ w26.cell? ⟨gb166, 2, none⟩ = some (.bool t163) ∧ w26.cell? ⟨gb166, 3, none⟩ = some (.int .i64 t164) ∧ w26.cell? ⟨gb166, 4, none⟩ = some (.int .i64 t165) := hS_
                                    refine norm_ (a' := ?_) ?_ ?_
                                    rotate_left
                                    · simp only [putAll, Act.put, List.setIfInBounds_toArray, List.set_cons_zero, List.set_cons_succ]
                                      rfl
                                    refine two_ (i := 2) (j := 6) (Ni := some 7) (Nj := some 2) #[true, true, true, false, false, false, false, false] #[true, true, false, false, false, false, true, false] rfl rfl rfl rfl (two_of HT_.out (by kernel_rfl)) (by decide) (by decide) (fun K hK => ?_) (fun K hK => ?_)
                                    · skip
                                      refine Kd.R_lit_step (Kd.int .i64) _ 2 ?hg (N := 7) ?hd (xs := ([9] : List Int)) (inner := [.int .i64 9]) (ok := fun _ => True) (okp := fun _ => True) ?hr ?hp (fun _ hk => hk) trivial (Below.refl _ _) (Nat.le_refl _) (by simp) ?_; (case hd => rfl); (case hg => rfl); (case hr => first | (go_simp; done) | (go_simp; rfl)); (case hp => exact (Reps.one (show Kd.M (Kd.int .i64) _ _ _ 9 [.int .i64 9] from rfl) (Reps.none _ _)))
                                      intro v173 w27 ho28 hb hg_ hnew_
                                      clear hg_ hnew_
                                      (first | rw [← Ny172.out] at ho28 | (simp only [Int.reduceToNat] at ho28; rw [← Ny172.out] at ho28))
                                      have n0_ := Aside0.mk (Kd.R_elder' (by (with_reducible repeat (first | apply Kd.R_alloc | apply Kd.R_drewN | apply Kd.R_drew)); exact HO160.out) (Kd.R_base ho28) hb)
                                      have n1_ := Aside0.mk (Kd.R_lower (Kd.R_new' ho28 (Kd.R_lt (by (with_reducible repeat (first | apply Kd.R_alloc | apply Kd.R_drewN | apply Kd.R_drew)); exact HO160.out))) (below_size (by repeat (first | (with_reducible first | exact HB.out | apply below_alloc | apply pw_below_drewN | apply below_drew1 | refine below_set ?_ GE166.out) | exact HB.out))))
                                      have n2_ := Aside0.mk (blk_below (g := gb166) (o := .cells #[.int .i64 t161, .int .i64 t162, .bool t163, .int .i64 t164, .int .i64 t165] 25 (0, 0)) (by (with_reducible repeat (first | refine blk_drewN ?_ _ | refine blk_drew ?_ | refine blk_alloc ?_ _)); exact BK166.out) hb)
                                      have n3_ := Aside0.mk (below_step (by repeat (first | (with_reducible first | exact HB.out | apply below_alloc | apply pw_below_drewN | apply below_drew1 | refine below_set ?_ GE166.out) | exact HB.out)) hb)
                                      clear HO160
                                      clear BK166
                                      clear HB
                                      have HO160 := n0_
                                      have HO174 := n1_
                                      have BK166 := n2_
                                      have HB := n3_
                                      clear n0_ n1_ n2_ n3_
                                      clear hb ho28
                                      refine hK.out _ _ ⟨(blk_cell BK166.out 0).trans rfl, (blk_cell BK166.out 1).trans rfl, (blk_cell BK166.out 2).trans rfl, (blk_cell BK166.out 3).trans rfl, (blk_cell BK166.out 4).trans rfl⟩ (fun hHeld => ?_)
                                      clear hK K
                                      refine norm_ (a' := ?_) ?_ ?_
                                      rotate_left
                                      · show Act.put _ (some 7) _ = _
                                        simp only [Act.put, List.setIfInBounds_toArray, List.set_cons_zero, List.set_cons_succ, i64_w, i32_w]
                                        rfl
                                      exact norm_ (by first | (simp only [putAll, Act.put, List.setIfInBounds_toArray, List.set_cons_zero, List.set_cons_succ]; done) | (simp only [putAll, Act.put, List.setIfInBounds_toArray, List.set_cons_zero, List.set_cons_succ]; rfl)) (hJ1_2 (v173) _ ⟨hHeld, (by (with_reducible repeat (first | apply Kd.R_alloc | apply Kd.R_drewN | apply Kd.R_drew)); exact Kd.R_mono HO160.out (fun _ hk => hk.2)), (by (with_reducible repeat (first | apply Kd.R_alloc | apply Kd.R_drewN | apply Kd.R_drew)); exact Kd.R_mono HO174.out (fun _ hk => hk.2)), (by (with_reducible repeat (first | refine blk_drewN ?_ _ | refine blk_drew ?_ | refine blk_alloc ?_ _)); exact BK166.out), (by repeat (first | (with_reducible first | exact HB.out | apply below_alloc | apply pw_below_drewN | apply below_drew1 | refine below_set ?_ GE166.out) | exact HB.out))⟩)
                                    · skip
                                      refine box_step ?hg (N := 2) ?hd (cs := #[.int .i64 0, .int .i64 0, .bool false, .int .i64 0, .int .i64 0]) (t := 25) ?hr ?_; (case hd => rfl); (case hg => rfl); (case hr => first | (go_simp; done) | (go_simp; rfl))
                                      intro gb188 hg w27 hbox hb
                                      have n0_ := Aside0.mk (Kd.R_below (by (with_reducible repeat (first | apply Kd.R_alloc | apply Kd.R_drewN | apply Kd.R_drew)); exact HO160.out) hb)
                                      have n1_ := Aside0.mk (blk_below (g := gb166) (o := .cells #[.int .i64 t161, .int .i64 t162, .bool t163, .int .i64 t164, .int .i64 t165] 25 (0, 0)) (by (with_reducible repeat (first | refine blk_drewN ?_ _ | refine blk_drew ?_ | refine blk_alloc ?_ _)); exact BK166.out) hb)
                                      have n2_ := Aside0.mk (below_step (by repeat (first | (with_reducible first | exact HB.out | apply below_alloc | apply pw_below_drewN | apply below_drew1 | refine below_set ?_ GE166.out) | exact HB.out)) hb)
                                      have n3_ := Aside0.mk (hbox)
                                      have n4_ := Aside0.mk ((by rw [hg]; exact (below_size (by repeat (first | (with_reducible first | exact HB.out | apply below_alloc | apply pw_below_drewN | apply below_drew1 | refine below_set ?_ GE166.out) | exact HB.out))) : w.heap.size ≤ gb188))
                                      have n5_ := Aside0.mk ((by rw [hg]; exact (below_size (by repeat (first | (with_reducible first | exact HB.out | apply below_alloc | apply pw_below_drewN | apply below_drew1 | refine below_set ?_ GE166.out) | exact HB.out))) : w.heap.size ≤ gb188))
                                      have n6_ := Aside0.mk ((by rw [hg]; exact Nat.ne_of_lt (blk_lt (g := gb166) (o := .cells #[.int .i64 t161, .int .i64 t162, .bool t163, .int .i64 t164, .int .i64 t165] 25 (0, 0)) (by (with_reducible repeat (first | refine blk_drewN ?_ _ | refine blk_drew ?_ | refine blk_alloc ?_ _)); exact BK166.out)) : gb166 ≠ gb188))
                                      have n7_ := Aside0.mk ((by rw [hg]; exact Nat.ne_of_gt (blk_lt (g := gb166) (o := .cells #[.int .i64 t161, .int .i64 t162, .bool t163, .int .i64 t164, .int .i64 t165] 25 (0, 0)) (by (with_reducible repeat (first | refine blk_drewN ?_ _ | refine blk_drew ?_ | refine blk_alloc ?_ _)); exact BK166.out)) : gb188 ≠ gb166))
                                      clear HO160
                                      clear BK166
                                      clear HB
                                      have HO160 := n0_
                                      have BK166 := n1_
                                      have HB := n2_
                                      have BK188 := n3_
                                      have GW188 := n4_
                                      have GE188 := n5_
                                      have NB166_188 := n6_
                                      have NB188_166 := n7_
                                      clear n0_ n1_ n2_ n3_ n4_ n5_ n6_ n7_
                                      clear hb hbox hg
                                      refine hK.out _ _ ⟨(blk_cell BK166.out 0).trans rfl, (blk_cell BK166.out 1).trans rfl, (blk_cell BK166.out 2).trans rfl, (blk_cell BK166.out 3).trans rfl, (blk_cell BK166.out 4).trans rfl⟩ (fun hHeld => ?_)
                                      clear hK K
                                      refine norm_ (a' := ?_) ?_ ?_
                                      rotate_left
                                      · show Act.put _ (some 2) _ = _
                                        simp only [Act.put, List.setIfInBounds_toArray, List.set_cons_zero, List.set_cons_succ, i64_w, i32_w]
                                        rfl
                                      exact norm_ (by first | (simp only [putAll, Act.put, List.setIfInBounds_toArray, List.set_cons_zero, List.set_cons_succ]; done) | (simp only [putAll, Act.put, List.setIfInBounds_toArray, List.set_cons_zero, List.set_cons_succ]; rfl)) (hJ1_6 (gb188) _ ⟨hHeld, (by (with_reducible repeat (first | apply Kd.R_alloc | apply Kd.R_drewN | apply Kd.R_drew)); exact HO160.out), (by (with_reducible repeat (first | refine blk_drewN ?_ _ | refine blk_drew ?_ | refine blk_alloc ?_ _)); exact BK166.out), (by (with_reducible repeat (first | refine blk_drewN ?_ _ | refine blk_drew ?_ | refine blk_alloc ?_ _)); exact BK188.out), GW188.out, GE188.out, NB166_188.out, NB188_166.out, (by repeat (first | (with_reducible first | exact HB.out | apply below_alloc | apply pw_below_drewN | apply below_drew1 | refine below_set ?_ GE166.out | refine below_set ?_ GE188.out) | exact HB.out))⟩)
                                · skip
                                  rintro ⟨v173, gb188⟩ w28 ⟨hS_, h0_, h1_, h2_, h3_, h4_, h5_, h6_, h7_, h8_⟩
                                  have n0_ : Aside0 (Kd.R (Kd.int .i64) 2 w28 w.heap.size (fun k_ => some k_ ≠ (v173 : Value).ownBlock) (.slice Ao19 y158.length co19) y158) := ⟨h0_⟩
                                  have n1_ : Aside0 (Kd.R (Kd.int .i64) 2 w28 w.heap.size (fun k_ => some k_ ≠ (.slice Ao19 y158.length co19 : Value).ownBlock) v173 y172) := ⟨h1_⟩
                                  have n2_ : Aside0 (w28.heap[gb166]? = some (.cells #[.int .i64 t161, .int .i64 t162, .bool t163, .int .i64 t164, .int .i64 t165] 25 (0, 0))) := ⟨h2_⟩
                                  have n3_ : Aside0 (w28.heap[gb188]? = some (.cells #[.int .i64 0, .int .i64 0, .bool false, .int .i64 0, .int .i64 0] 25 (0, 0))) := ⟨h3_⟩
                                  have n4_ : Aside0 (w.heap.size ≤ gb188) := ⟨h4_⟩
                                  have n5_ : Aside0 (w.heap.size ≤ gb188) := ⟨h5_⟩
                                  have n6_ : Aside0 (gb166 ≠ gb188) := ⟨h6_⟩
                                  have n7_ : Aside0 (gb188 ≠ gb166) := ⟨h7_⟩
                                  have n8_ : Aside0 (Below w.heap.size w w28) := ⟨h8_⟩
                                  clear HO160
                                  clear BK166
                                  clear HB
                                  clear h0_ h1_ h2_ h3_ h4_ h5_ h6_ h7_ h8_
                                  have HO160 := n0_
                                  have HO174 := n1_
                                  have BK166 := n2_
                                  have BK188 := n3_
                                  have GW188 := n4_
                                  have GE188 := n5_
                                  have NB166_188 := n6_
                                  have NB188_166 := n7_
                                  have HB := n8_
                                  clear n0_ n1_ n2_ n3_ n4_ n5_ n6_ n7_ n8_
                                  have hHeld : w28.cell? ⟨gb166, 0, none⟩ = some (.int .i64 t161) ∧ w28.cell? ⟨gb166, 1, none⟩ = some (.int .i64 t162) ∧ w28.cell? ⟨gb166, 2, none⟩ = some (.bool t163) ∧ w28.cell? ⟨gb166, 3, none⟩ = some (.int .i64 t164) ∧ w28.cell? ⟨gb166, 4, none⟩ = some (.int .i64 t165) := hS_
                                  refine norm_ (a' := ?_) ?_ ?_
                                  rotate_left
                                  · simp only [putAll, Act.put, List.setIfInBounds_toArray, List.set_cons_zero, List.set_cons_succ]
                                    rfl
                                  refine one_ (i := 1) (N := some 6) #[true, true, true, false, false, false, true, false] rfl rfl (one_of HT_.out (by kernel_rfl)) (by decide) (fun K hK => ?_)
                                  refine goes_ Try.func13 (by kernel_rfl) rfl #[.slice none 0 0] (by rfl) rfl rfl (by (try simp only [List.map_toArray, List.map_cons, List.map_nil]); first | done | rfl | (simp only [List.length_drop, List.length_take]; rfl)) ?_
                                  refine (cell_Of.calls k _ _ ([] : List Int) t167 t168 t169 t170 t171 _ ?side1 ?side2 A2.out).mono ?_
                                  (case side1 => exact Kd.C_nil _ _)
                                  (case side2 => exact Nat.le_refl _)
                                  rintro e w29 ⟨rfl, hb⟩
                                  refine ⟨_, rfl, ?_⟩
                                  have n0_ := Aside0.mk (Kd.R_below (by (with_reducible repeat (first | apply Kd.R_alloc | apply Kd.R_drewN | apply Kd.R_drew)); exact HO160.out) hb)
                                  have n1_ := Aside0.mk (Kd.R_below (by (with_reducible repeat (first | apply Kd.R_alloc | apply Kd.R_drewN | apply Kd.R_drew)); exact HO174.out) hb)
                                  have n2_ := Aside0.mk (blk_below (g := gb166) (o := .cells #[.int .i64 t161, .int .i64 t162, .bool t163, .int .i64 t164, .int .i64 t165] 25 (0, 0)) (by (with_reducible repeat (first | refine blk_drewN ?_ _ | refine blk_drew ?_ | refine blk_alloc ?_ _)); exact BK166.out) hb)
                                  have n3_ := Aside0.mk (blk_below (g := gb188) (o := .cells #[.int .i64 0, .int .i64 0, .bool false, .int .i64 0, .int .i64 0] 25 (0, 0)) (by (with_reducible repeat (first | refine blk_drewN ?_ _ | refine blk_drew ?_ | refine blk_alloc ?_ _)); exact BK188.out) hb)
                                  have n4_ := Aside0.mk (below_step (by repeat (first | (with_reducible first | exact HB.out | apply below_alloc | apply pw_below_drewN | apply below_drew1 | refine below_set ?_ GE166.out | refine below_set ?_ GE188.out) | exact HB.out)) hb)
                                  clear HO160
                                  clear HO174
                                  clear BK166
                                  clear BK188
                                  clear HB
                                  have HO160 := n0_
                                  have HO174 := n1_
                                  have BK166 := n2_
                                  have BK188 := n3_
                                  have HB := n4_
                                  clear n0_ n1_ n2_ n3_ n4_
                                  (try clear hb)
                                  (try clear hb2)
                                  (try clear hk)
                                  (try clear hi)
                                  refine hK.out _ _ ⟨(blk_cell BK166.out 0).trans rfl, (blk_cell BK166.out 1).trans rfl, (blk_cell BK166.out 2).trans rfl, (blk_cell BK166.out 3).trans rfl, (blk_cell BK166.out 4).trans rfl⟩ (fun hHeld => ?_)
                                  clear hK K
                                  refine norm_ (a' := ?_) ?_ ?_
                                  rotate_left
                                  · show Act.put _ (some 6) _ = _
                                    simp only [Act.put, List.setIfInBounds_toArray, List.set_cons_zero, List.set_cons_succ, i64_w, i32_w]
                                    rfl
                                  exact norm_ (by first | (simp only [putAll, Act.put, List.setIfInBounds_toArray, List.set_cons_zero, List.set_cons_succ]; done) | (simp only [putAll, Act.put, List.setIfInBounds_toArray, List.set_cons_zero, List.set_cons_succ]; rfl)) (hJ1_2_6 (v173, gb188) _ ⟨hHeld, (by (with_reducible repeat (first | apply Kd.R_alloc | apply Kd.R_drewN | apply Kd.R_drew)); exact HO160.out), (by (with_reducible repeat (first | apply Kd.R_alloc | apply Kd.R_drewN | apply Kd.R_drew)); exact HO174.out), (by (with_reducible repeat (first | refine blk_drewN ?_ _ | refine blk_drew ?_ | refine blk_alloc ?_ _)); exact BK166.out), (by (with_reducible repeat (first | refine blk_drewN ?_ _ | refine blk_drew ?_ | refine blk_alloc ?_ _)); exact BK188.out), GW188.out, GE188.out, NB166_188.out, NB188_166.out, (by repeat (first | (with_reducible first | exact HB.out | apply below_alloc | apply pw_below_drewN | apply below_drew1 | refine below_set ?_ GE166.out | refine below_set ?_ GE188.out) | exact HB.out))⟩)
                              · skip
                                rintro gb188 w27 ⟨hS_, h0_, h1_, h2_, h3_, h4_, h5_, h6_, h7_⟩
                                have n0_ : Aside0 (Kd.R (Kd.int .i64) 2 w27 w.heap.size (fun _ => True) (.slice Ao19 y158.length co19) y158) := ⟨h0_⟩
                                have n1_ : Aside0 (w27.heap[gb166]? = some (.cells #[.int .i64 t161, .int .i64 t162, .bool t163, .int .i64 t164, .int .i64 t165] 25 (0, 0))) := ⟨h1_⟩
                                have n2_ : Aside0 (w27.heap[gb188]? = some (.cells #[.int .i64 0, .int .i64 0, .bool false, .int .i64 0, .int .i64 0] 25 (0, 0))) := ⟨h2_⟩
                                have n3_ : Aside0 (w.heap.size ≤ gb188) := ⟨h3_⟩
                                have n4_ : Aside0 (w.heap.size ≤ gb188) := ⟨h4_⟩
                                have n5_ : Aside0 (gb166 ≠ gb188) := ⟨h5_⟩
                                have n6_ : Aside0 (gb188 ≠ gb166) := ⟨h6_⟩
                                have n7_ : Aside0 (Below w.heap.size w w27) := ⟨h7_⟩
                                clear HO160
                                clear BK166
                                clear HB
                                clear h0_ h1_ h2_ h3_ h4_ h5_ h6_ h7_
                                have HO160 := n0_
                                have BK166 := n1_
                                have BK188 := n2_
                                have GW188 := n3_
                                have GE188 := n4_
                                have NB166_188 := n5_
                                have NB188_166 := n6_
                                have HB := n7_
                                clear n0_ n1_ n2_ n3_ n4_ n5_ n6_ n7_
                                have hHeld : w27.cell? ⟨gb166, 0, none⟩ = some (.int .i64 t161) ∧ w27.cell? ⟨gb166, 1, none⟩ = some (.int .i64 t162) ∧ w27.cell? ⟨gb166, 2, none⟩ = some (.bool t163) ∧ w27.cell? ⟨gb166, 3, none⟩ = some (.int .i64 t164) ∧ w27.cell? ⟨gb166, 4, none⟩ = some (.int .i64 t165) := hS_
                                refine norm_ (a' := ?_) ?_ ?_
                                rotate_left
                                · simp only [putAll, Act.put, List.setIfInBounds_toArray, List.set_cons_zero, List.set_cons_succ]
                                  rfl
                                refine one_ (i := 2) (N := some 7) #[true, true, true, false, false, false, true, false] rfl rfl (one_of HT_.out (by kernel_rfl)) (by decide) (fun K hK => ?_)
                                refine Kd.R_lit_step (Kd.int .i64) _ 2 ?hg (N := 7) ?hd (xs := ([9] : List Int)) (inner := [.int .i64 9]) (ok := fun _ => True) (okp := fun _ => True) ?hr ?hp (fun _ hk => hk) trivial (Below.refl _ _) (Nat.le_refl _) (by simp) ?_; (case hd => rfl); (case hg => rfl); (case hr => first | (go_simp; done) | (go_simp; rfl)); (case hp => exact (Reps.one (show Kd.M (Kd.int .i64) _ _ _ 9 [.int .i64 9] from rfl) (Reps.none _ _)))
                                intro v173 w28 ho29 hb hg_ hnew_
                                clear hg_ hnew_
                                (first | rw [← Ny172.out] at ho29 | (simp only [Int.reduceToNat] at ho29; rw [← Ny172.out] at ho29))
                                have n0_ := Aside0.mk (Kd.R_elder' (by (with_reducible repeat (first | apply Kd.R_alloc | apply Kd.R_drewN | apply Kd.R_drew)); exact HO160.out) (Kd.R_base ho29) hb)
                                have n1_ := Aside0.mk (Kd.R_lower (Kd.R_new' ho29 (Kd.R_lt (by (with_reducible repeat (first | apply Kd.R_alloc | apply Kd.R_drewN | apply Kd.R_drew)); exact HO160.out))) (below_size (by repeat (first | (with_reducible first | exact HB.out | apply below_alloc | apply pw_below_drewN | apply below_drew1 | refine below_set ?_ GE166.out | refine below_set ?_ GE188.out) | exact HB.out))))
                                have n2_ := Aside0.mk (blk_below (g := gb166) (o := .cells #[.int .i64 t161, .int .i64 t162, .bool t163, .int .i64 t164, .int .i64 t165] 25 (0, 0)) (by (with_reducible repeat (first | refine blk_drewN ?_ _ | refine blk_drew ?_ | refine blk_alloc ?_ _)); exact BK166.out) hb)
                                have n3_ := Aside0.mk (blk_below (g := gb188) (o := .cells #[.int .i64 0, .int .i64 0, .bool false, .int .i64 0, .int .i64 0] 25 (0, 0)) (by (with_reducible repeat (first | refine blk_drewN ?_ _ | refine blk_drew ?_ | refine blk_alloc ?_ _)); exact BK188.out) hb)
                                have n4_ := Aside0.mk (below_step (by repeat (first | (with_reducible first | exact HB.out | apply below_alloc | apply pw_below_drewN | apply below_drew1 | refine below_set ?_ GE166.out | refine below_set ?_ GE188.out) | exact HB.out)) hb)
                                clear HO160
                                clear BK166
                                clear BK188
                                clear HB
                                have HO160 := n0_
                                have HO174 := n1_
                                have BK166 := n2_
                                have BK188 := n3_
                                have HB := n4_
                                clear n0_ n1_ n2_ n3_ n4_
                                clear hb ho29
                                refine hK.out _ _ ⟨(blk_cell BK166.out 0).trans rfl, (blk_cell BK166.out 1).trans rfl, (blk_cell BK166.out 2).trans rfl, (blk_cell BK166.out 3).trans rfl, (blk_cell BK166.out 4).trans rfl⟩ (fun hHeld => ?_)
                                clear hK K
                                refine norm_ (a' := ?_) ?_ ?_
                                rotate_left
                                · show Act.put _ (some 7) _ = _
                                  simp only [Act.put, List.setIfInBounds_toArray, List.set_cons_zero, List.set_cons_succ, i64_w, i32_w]
                                  rfl
                                exact norm_ (by first | (simp only [putAll, Act.put, List.setIfInBounds_toArray, List.set_cons_zero, List.set_cons_succ]; done) | (simp only [putAll, Act.put, List.setIfInBounds_toArray, List.set_cons_zero, List.set_cons_succ]; rfl)) (hJ1_2_6 (v173, gb188) _ ⟨hHeld, (by (with_reducible repeat (first | apply Kd.R_alloc | apply Kd.R_drewN | apply Kd.R_drew)); exact Kd.R_mono HO160.out (fun _ hk => hk.2)), (by (with_reducible repeat (first | apply Kd.R_alloc | apply Kd.R_drewN | apply Kd.R_drew)); exact Kd.R_mono HO174.out (fun _ hk => hk.2)), (by (with_reducible repeat (first | refine blk_drewN ?_ _ | refine blk_drew ?_ | refine blk_alloc ?_ _)); exact BK166.out), (by (with_reducible repeat (first | refine blk_drewN ?_ _ | refine blk_drew ?_ | refine blk_alloc ?_ _)); exact BK188.out), GW188.out, GE188.out, NB166_188.out, NB188_166.out, (by repeat (first | (with_reducible first | exact HB.out | apply below_alloc | apply pw_below_drewN | apply below_drew1 | refine below_set ?_ GE166.out | refine below_set ?_ GE188.out) | exact HB.out))⟩)
                            · skip
                              rintro v173 w28 ⟨hS_, h0_, h1_, h2_, h3_⟩
                              have n0_ : Aside0 (Kd.R (Kd.int .i64) 2 w28 w.heap.size (fun k_ => some k_ ≠ (v173 : Value).ownBlock) (.slice Ao19 y158.length co19) y158) := ⟨h0_⟩
                              have n1_ : Aside0 (Kd.R (Kd.int .i64) 2 w28 w.heap.size (fun k_ => some k_ ≠ (.slice Ao19 y158.length co19 : Value).ownBlock) v173 y172) := ⟨h1_⟩
                              have n2_ : Aside0 (w28.heap[gb166]? = some (.cells #[.int .i64 t161, .int .i64 t162, .bool t163, .int .i64 t164, .int .i64 t165] 25 (0, 0))) := ⟨h2_⟩
                              have n3_ : Aside0 (Below w.heap.size w w28) := ⟨h3_⟩
                              clear HO160
                              clear BK166
                              clear HB
                              clear h0_ h1_ h2_ h3_
                              have HO160 := n0_
                              have HO174 := n1_
                              have BK166 := n2_
                              have HB := n3_
                              clear n0_ n1_ n2_ n3_
                              have hHeld : w28.cell? ⟨gb166, 0, none⟩ = some (.int .i64 t161) ∧ w28.cell? ⟨gb166, 1, none⟩ = some (.int .i64 t162) ∧ w28.cell? ⟨gb166, 2, none⟩ = some (.bool t163) ∧ w28.cell? ⟨gb166, 3, none⟩ = some (.int .i64 t164) ∧ w28.cell? ⟨gb166, 4, none⟩ = some (.int .i64 t165) := hS_
                              obtain ⟨Ao29, co29, eo29⟩ := Kd.R_slice HO174.out
                              (first | subst eo29 | (injection eo29 with f1_ f2_ f3_; have f4_ := f1_.symm; have f5_ := f3_.symm; clear f1_ f2_ f3_; subst f4_; subst f5_))
                              refine norm_ (a' := ?_) ?_ ?_
                              rotate_left
                              · simp only [putAll, Act.put, List.setIfInBounds_toArray, List.set_cons_zero, List.set_cons_succ]
                                rfl
                              refine two_ (i := 3) (j := 6) (Ni := some 8) (Nj := some 2) #[true, true, true, true, false, false, false, false] #[true, true, true, false, false, false, true, false] rfl rfl rfl rfl (two_of HT_.out (by kernel_rfl)) (by decide) (by decide) (fun K hK => ?_) (fun K hK => ?_)
                              · skip
                                refine goes_ Try.func13 (by kernel_rfl) rfl #[.slice Ao29 y172.length co29] (by rfl) rfl rfl (by (try simp only [List.map_toArray, List.map_cons, List.map_nil]); first | done | rfl | (simp only [List.length_drop, List.length_take]; rfl)) ?_
                                with_reducible refine (cell_Of.calls k _ _ y172 t175 t176 t177 t178 t179 _ ?side1 ?side2 A3.out).mono ?_
                                (case side1 => repeat (first | exact (Kd.R_reads' HO174.out).2.2 | (with_reducible refine Kd.C_alloc ?_ _) | (with_reducible refine Kd.C_drewN ?_ _) | (with_reducible refine Kd.C_drew ?_)))
                                (case side2 => exact (Kd.R_reads' HO174.out).2.1)
                                rintro e w30 ⟨rfl, hb⟩
                                refine ⟨_, rfl, ?_⟩
                                have n0_ := Aside0.mk (Kd.R_below (by (with_reducible repeat (first | apply Kd.R_alloc | apply Kd.R_drewN | apply Kd.R_drew)); exact HO160.out) hb)
                                have n1_ := Aside0.mk (Kd.R_below (by (with_reducible repeat (first | apply Kd.R_alloc | apply Kd.R_drewN | apply Kd.R_drew)); exact HO174.out) hb)
                                have n2_ := Aside0.mk (blk_below (g := gb166) (o := .cells #[.int .i64 t161, .int .i64 t162, .bool t163, .int .i64 t164, .int .i64 t165] 25 (0, 0)) (by (with_reducible repeat (first | refine blk_drewN ?_ _ | refine blk_drew ?_ | refine blk_alloc ?_ _)); exact BK166.out) hb)
                                have n3_ := Aside0.mk (below_step (by repeat (first | (with_reducible first | exact HB.out | apply below_alloc | apply pw_below_drewN | apply below_drew1 | refine below_set ?_ GE166.out) | exact HB.out)) hb)
                                clear HO160
                                clear HO174
                                clear BK166
                                clear HB
                                have HO160 := n0_
                                have HO174 := n1_
                                have BK166 := n2_
                                have HB := n3_
                                clear n0_ n1_ n2_ n3_
                                (try clear hb)
                                (try clear hb2)
                                (try clear hk)
                                (try clear hi)
                                refine hK.out _ _ ⟨(blk_cell BK166.out 0).trans rfl, (blk_cell BK166.out 1).trans rfl, (blk_cell BK166.out 2).trans rfl, (blk_cell BK166.out 3).trans rfl, (blk_cell BK166.out 4).trans rfl⟩ (fun hHeld => ?_)
                                clear hK K
                                refine norm_ (a' := ?_) ?_ ?_
                                rotate_left
                                · show Act.put _ (some 8) _ = _
                                  simp only [Act.put, List.setIfInBounds_toArray, List.set_cons_zero, List.set_cons_succ, i64_w, i32_w]
                                  rfl
                                exact norm_ (by first | (simp only [putAll, Act.put, List.setIfInBounds_toArray, List.set_cons_zero, List.set_cons_succ]; done) | (simp only [putAll, Act.put, List.setIfInBounds_toArray, List.set_cons_zero, List.set_cons_succ]; rfl)) (hJ1_2_3 (.slice Ao29 y172.length co29) _ ⟨hHeld, (by (with_reducible repeat (first | apply Kd.R_alloc | apply Kd.R_drewN | apply Kd.R_drew)); exact HO160.out), (by (with_reducible repeat (first | apply Kd.R_alloc | apply Kd.R_drewN | apply Kd.R_drew)); exact HO174.out), (by (with_reducible repeat (first | refine blk_drewN ?_ _ | refine blk_drew ?_ | refine blk_alloc ?_ _)); exact BK166.out), (by repeat (first | (with_reducible first | exact HB.out | apply below_alloc | apply pw_below_drewN | apply below_drew1 | refine below_set ?_ GE166.out) | exact HB.out))⟩)
                              · skip
                                refine box_step ?hg (N := 2) ?hd (cs := #[.int .i64 0, .int .i64 0, .bool false, .int .i64 0, .int .i64 0]) (t := 25) ?hr ?_; (case hd => rfl); (case hg => rfl); (case hr => first | (go_simp; done) | (go_simp; rfl))
                                intro gb188 hg w29 hbox hb
                                have n0_ := Aside0.mk (Kd.R_below (by (with_reducible repeat (first | apply Kd.R_alloc | apply Kd.R_drewN | apply Kd.R_drew)); exact HO160.out) hb)
                                have n1_ := Aside0.mk (Kd.R_below (by (with_reducible repeat (first | apply Kd.R_alloc | apply Kd.R_drewN | apply Kd.R_drew)); exact HO174.out) hb)
                                have n2_ := Aside0.mk (blk_below (g := gb166) (o := .cells #[.int .i64 t161, .int .i64 t162, .bool t163, .int .i64 t164, .int .i64 t165] 25 (0, 0)) (by (with_reducible repeat (first | refine blk_drewN ?_ _ | refine blk_drew ?_ | refine blk_alloc ?_ _)); exact BK166.out) hb)
                                have n3_ := Aside0.mk (below_step (by repeat (first | (with_reducible first | exact HB.out | apply below_alloc | apply pw_below_drewN | apply below_drew1 | refine below_set ?_ GE166.out) | exact HB.out)) hb)
                                have n4_ := Aside0.mk (hbox)
                                have n5_ := Aside0.mk ((by rw [hg]; exact (below_size (by repeat (first | (with_reducible first | exact HB.out | apply below_alloc | apply pw_below_drewN | apply below_drew1 | refine below_set ?_ GE166.out) | exact HB.out))) : w.heap.size ≤ gb188))
                                have n6_ := Aside0.mk ((by rw [hg]; exact (below_size (by repeat (first | (with_reducible first | exact HB.out | apply below_alloc | apply pw_below_drewN | apply below_drew1 | refine below_set ?_ GE166.out) | exact HB.out))) : w.heap.size ≤ gb188))
                                have n7_ := Aside0.mk ((by rw [hg]; exact Nat.ne_of_lt (blk_lt (g := gb166) (o := .cells #[.int .i64 t161, .int .i64 t162, .bool t163, .int .i64 t164, .int .i64 t165] 25 (0, 0)) (by (with_reducible repeat (first | refine blk_drewN ?_ _ | refine blk_drew ?_ | refine blk_alloc ?_ _)); exact BK166.out)) : gb166 ≠ gb188))
                                have n8_ := Aside0.mk ((by rw [hg]; exact Nat.ne_of_gt (blk_lt (g := gb166) (o := .cells #[.int .i64 t161, .int .i64 t162, .bool t163, .int .i64 t164, .int .i64 t165] 25 (0, 0)) (by (with_reducible repeat (first | refine blk_drewN ?_ _ | refine blk_drew ?_ | refine blk_alloc ?_ _)); exact BK166.out)) : gb188 ≠ gb166))
                                clear HO160
                                clear HO174
                                clear BK166
                                clear HB
                                have HO160 := n0_
                                have HO174 := n1_
                                have BK166 := n2_
                                have HB := n3_
                                have BK188 := n4_
                                have GW188 := n5_
                                have GE188 := n6_
                                have NB166_188 := n7_
                                have NB188_166 := n8_
                                clear n0_ n1_ n2_ n3_ n4_ n5_ n6_ n7_ n8_
                                clear hb hbox hg
                                refine hK.out _ _ ⟨(blk_cell BK166.out 0).trans rfl, (blk_cell BK166.out 1).trans rfl, (blk_cell BK166.out 2).trans rfl, (blk_cell BK166.out 3).trans rfl, (blk_cell BK166.out 4).trans rfl⟩ (fun hHeld => ?_)
                                clear hK K
                                refine norm_ (a' := ?_) ?_ ?_
                                rotate_left
                                · show Act.put _ (some 2) _ = _
                                  simp only [Act.put, List.setIfInBounds_toArray, List.set_cons_zero, List.set_cons_succ, i64_w, i32_w]
                                  rfl
                                exact norm_ (by first | (simp only [putAll, Act.put, List.setIfInBounds_toArray, List.set_cons_zero, List.set_cons_succ]; done) | (simp only [putAll, Act.put, List.setIfInBounds_toArray, List.set_cons_zero, List.set_cons_succ]; rfl)) (hJ1_2_6 (.slice Ao29 y172.length co29, gb188) _ ⟨hHeld, (by (with_reducible repeat (first | apply Kd.R_alloc | apply Kd.R_drewN | apply Kd.R_drew)); exact HO160.out), (by (with_reducible repeat (first | apply Kd.R_alloc | apply Kd.R_drewN | apply Kd.R_drew)); exact HO174.out), (by (with_reducible repeat (first | refine blk_drewN ?_ _ | refine blk_drew ?_ | refine blk_alloc ?_ _)); exact BK166.out), (by (with_reducible repeat (first | refine blk_drewN ?_ _ | refine blk_drew ?_ | refine blk_alloc ?_ _)); exact BK188.out), GW188.out, GE188.out, NB166_188.out, NB188_166.out, (by repeat (first | (with_reducible first | exact HB.out | apply below_alloc | apply pw_below_drewN | apply below_drew1 | refine below_set ?_ GE166.out | refine below_set ?_ GE188.out) | exact HB.out))⟩)
                          · skip
                            rintro ⟨v173, gb188⟩ w29 ⟨hS_, h0_, h1_, h2_, h3_, h4_, h5_, h6_, h7_, h8_⟩
                            have n0_ : Aside0 (Kd.R (Kd.int .i64) 2 w29 w.heap.size (fun k_ => some k_ ≠ (v173 : Value).ownBlock) (.slice Ao19 y158.length co19) y158) := ⟨h0_⟩
                            have n1_ : Aside0 (Kd.R (Kd.int .i64) 2 w29 w.heap.size (fun k_ => some k_ ≠ (.slice Ao19 y158.length co19 : Value).ownBlock) v173 y172) := ⟨h1_⟩
                            have n2_ : Aside0 (w29.heap[gb166]? = some (.cells #[.int .i64 t161, .int .i64 t162, .bool t163, .int .i64 t164, .int .i64 t165] 25 (0, 0))) := ⟨h2_⟩
                            have n3_ : Aside0 (w29.heap[gb188]? = some (.cells #[.int .i64 0, .int .i64 0, .bool false, .int .i64 0, .int .i64 0] 25 (0, 0))) := ⟨h3_⟩
                            have n4_ : Aside0 (w.heap.size ≤ gb188) := ⟨h4_⟩
                            have n5_ : Aside0 (w.heap.size ≤ gb188) := ⟨h5_⟩
                            have n6_ : Aside0 (gb166 ≠ gb188) := ⟨h6_⟩
                            have n7_ : Aside0 (gb188 ≠ gb166) := ⟨h7_⟩
                            have n8_ : Aside0 (Below w.heap.size w w29) := ⟨h8_⟩
                            clear HO160
                            clear BK166
                            clear HB
                            clear h0_ h1_ h2_ h3_ h4_ h5_ h6_ h7_ h8_
                            have HO160 := n0_
                            have HO174 := n1_
                            have BK166 := n2_
                            have BK188 := n3_
                            have GW188 := n4_
                            have GE188 := n5_
                            have NB166_188 := n6_
                            have NB188_166 := n7_
                            have HB := n8_
                            clear n0_ n1_ n2_ n3_ n4_ n5_ n6_ n7_ n8_
                            have hHeld : w29.cell? ⟨gb166, 0, none⟩ = some (.int .i64 t161) ∧ w29.cell? ⟨gb166, 1, none⟩ = some (.int .i64 t162) ∧ w29.cell? ⟨gb166, 2, none⟩ = some (.bool t163) ∧ w29.cell? ⟨gb166, 3, none⟩ = some (.int .i64 t164) ∧ w29.cell? ⟨gb166, 4, none⟩ = some (.int .i64 t165) := hS_
                            obtain ⟨Ao30, co30, eo30⟩ := Kd.R_slice HO174.out
                            (first | subst eo30 | (injection eo30 with f1_ f2_ f3_; have f4_ := f1_.symm; have f5_ := f3_.symm; clear f1_ f2_ f3_; subst f4_; subst f5_))
                            refine norm_ (a' := ?_) ?_ ?_
                            rotate_left
                            · simp only [putAll, Act.put, List.setIfInBounds_toArray, List.set_cons_zero, List.set_cons_succ]
                              rfl
                            refine one_ (i := 3) (N := some 8) #[true, true, true, true, false, false, true, false] rfl rfl (one_of HT_.out (by kernel_rfl)) (by decide) (fun K hK => ?_)
                            refine goes_ Try.func13 (by kernel_rfl) rfl #[.slice Ao30 y172.length co30] (by rfl) rfl rfl (by (try simp only [List.map_toArray, List.map_cons, List.map_nil]); first | done | rfl | (simp only [List.length_drop, List.length_take]; rfl)) ?_
                            with_reducible refine (cell_Of.calls k _ _ y172 t175 t176 t177 t178 t179 _ ?side1 ?side2 A3.out).mono ?_
                            (case side1 => repeat (first | exact (Kd.R_reads' HO174.out).2.2 | (with_reducible refine Kd.C_alloc ?_ _) | (with_reducible refine Kd.C_drewN ?_ _) | (with_reducible refine Kd.C_drew ?_)))
                            (case side2 => exact (Kd.R_reads' HO174.out).2.1)
                            rintro e w31 ⟨rfl, hb⟩
                            refine ⟨_, rfl, ?_⟩
                            have n0_ := Aside0.mk (Kd.R_below (by (with_reducible repeat (first | apply Kd.R_alloc | apply Kd.R_drewN | apply Kd.R_drew)); exact HO160.out) hb)
                            have n1_ := Aside0.mk (Kd.R_below (by (with_reducible repeat (first | apply Kd.R_alloc | apply Kd.R_drewN | apply Kd.R_drew)); exact HO174.out) hb)
                            have n2_ := Aside0.mk (blk_below (g := gb166) (o := .cells #[.int .i64 t161, .int .i64 t162, .bool t163, .int .i64 t164, .int .i64 t165] 25 (0, 0)) (by (with_reducible repeat (first | refine blk_drewN ?_ _ | refine blk_drew ?_ | refine blk_alloc ?_ _)); exact BK166.out) hb)
                            have n3_ := Aside0.mk (blk_below (g := gb188) (o := .cells #[.int .i64 0, .int .i64 0, .bool false, .int .i64 0, .int .i64 0] 25 (0, 0)) (by (with_reducible repeat (first | refine blk_drewN ?_ _ | refine blk_drew ?_ | refine blk_alloc ?_ _)); exact BK188.out) hb)
                            have n4_ := Aside0.mk (below_step (by repeat (first | (with_reducible first | exact HB.out | apply below_alloc | apply pw_below_drewN | apply below_drew1 | refine below_set ?_ GE166.out | refine below_set ?_ GE188.out) | exact HB.out)) hb)
                            clear HO160
                            clear HO174
                            clear BK166
                            clear BK188
                            clear HB
                            have HO160 := n0_
                            have HO174 := n1_
                            have BK166 := n2_
                            have BK188 := n3_
                            have HB := n4_
                            clear n0_ n1_ n2_ n3_ n4_
                            (try clear hb)
                            (try clear hb2)
                            (try clear hk)
                            (try clear hi)
                            refine hK.out _ _ ⟨(blk_cell BK166.out 0).trans rfl, (blk_cell BK166.out 1).trans rfl, (blk_cell BK166.out 2).trans rfl, (blk_cell BK166.out 3).trans rfl, (blk_cell BK166.out 4).trans rfl⟩ (fun hHeld => ?_)
                            clear hK K
                            refine norm_ (a' := ?_) ?_ ?_
                            rotate_left
                            · show Act.put _ (some 8) _ = _
                              simp only [Act.put, List.setIfInBounds_toArray, List.set_cons_zero, List.set_cons_succ, i64_w, i32_w]
                              rfl
                            exact norm_ (by first | (simp only [putAll, Act.put, List.setIfInBounds_toArray, List.set_cons_zero, List.set_cons_succ]; done) | (simp only [putAll, Act.put, List.setIfInBounds_toArray, List.set_cons_zero, List.set_cons_succ]; rfl)) (hJ1_2_3_6 (.slice Ao30 y172.length co30, gb188) _ ⟨hHeld, (by (with_reducible repeat (first | apply Kd.R_alloc | apply Kd.R_drewN | apply Kd.R_drew)); exact HO160.out), (by (with_reducible repeat (first | apply Kd.R_alloc | apply Kd.R_drewN | apply Kd.R_drew)); exact HO174.out), (by (with_reducible repeat (first | refine blk_drewN ?_ _ | refine blk_drew ?_ | refine blk_alloc ?_ _)); exact BK166.out), (by (with_reducible repeat (first | refine blk_drewN ?_ _ | refine blk_drew ?_ | refine blk_alloc ?_ _)); exact BK188.out), GW188.out, GE188.out, NB166_188.out, NB188_166.out, (by repeat (first | (with_reducible first | exact HB.out | apply below_alloc | apply pw_below_drewN | apply below_drew1 | refine below_set ?_ GE166.out | refine below_set ?_ GE188.out) | exact HB.out))⟩)
                        · skip
                          rintro v173 w30 ⟨hS_, h0_, h1_, h2_, h3_⟩
                          have n0_ : Aside0 (Kd.R (Kd.int .i64) 2 w30 w.heap.size (fun k_ => some k_ ≠ (v173 : Value).ownBlock) (.slice Ao19 y158.length co19) y158) := ⟨h0_⟩
                          have n1_ : Aside0 (Kd.R (Kd.int .i64) 2 w30 w.heap.size (fun k_ => some k_ ≠ (.slice Ao19 y158.length co19 : Value).ownBlock) v173 y172) := ⟨h1_⟩
                          have n2_ : Aside0 (w30.heap[gb166]? = some (.cells #[.int .i64 t161, .int .i64 t162, .bool t163, .int .i64 t164, .int .i64 t165] 25 (0, 0))) := ⟨h2_⟩
                          have n3_ : Aside0 (Below w.heap.size w w30) := ⟨h3_⟩
                          clear HO160
                          clear BK166
                          clear HB
                          clear h0_ h1_ h2_ h3_
                          have HO160 := n0_
                          have HO174 := n1_
                          have BK166 := n2_
                          have HB := n3_
                          clear n0_ n1_ n2_ n3_
                          have hHeld : w30.cell? ⟨gb166, 0, none⟩ = some (.int .i64 t161) ∧ w30.cell? ⟨gb166, 1, none⟩ = some (.int .i64 t162) ∧ w30.cell? ⟨gb166, 2, none⟩ = some (.bool t163) ∧ w30.cell? ⟨gb166, 3, none⟩ = some (.int .i64 t164) ∧ w30.cell? ⟨gb166, 4, none⟩ = some (.int .i64 t165) := hS_
                          refine norm_ (a' := ?_) ?_ ?_
                          rotate_left
                          · simp only [putAll, Act.put, List.setIfInBounds_toArray, List.set_cons_zero, List.set_cons_succ]
                            rfl
                          refine two_ (i := 4) (j := 6) (Ni := some 9) (Nj := some 2) #[true, true, true, true, true, false, false, false] #[true, true, true, true, false, false, true, false] rfl rfl rfl rfl (two_of HT_.out (by kernel_rfl)) (by decide) (by decide) (fun K hK => ?_) (fun K hK => ?_)
                          · skip
                            refine Kd.R_lit_step k25 _ 25 ?hg (N := 9) ?hd (xs := ([(⟨t161, (⟨t162, t163⟩ : S23), t164, t165⟩ : S25), (⟨t167, (⟨t168, t169⟩ : S23), t170, t171⟩ : S25), (⟨t175, (⟨t176, t177⟩ : S23), t178, t179⟩ : S25)] : List (S25))) (inner := [.int .i64 t161, .int .i64 t162, .bool t163, .int .i64 t164, .int .i64 t165, .int .i64 t167, .int .i64 t168, .bool t169, .int .i64 t170, .int .i64 t171, .int .i64 t175, .int .i64 t176, .bool t177, .int .i64 t178, .int .i64 t179]) (ok := fun _ => True) (okp := fun _ => True) ?hr ?hp (fun _ hk => hk) trivial (Below.refl _ _) (Nat.le_refl _) (by simp) ?_; (case hd => rfl); (case hg => rfl); (case hr => first | (go_simp; done) | (go_simp; rfl)); (case hp => exact (Reps.c5 (show Kd.M k25 _ _ _ (⟨t161, (⟨t162, t163⟩ : S23), t164, t165⟩ : S25) [.int .i64 t161, .int .i64 t162, .bool t163, .int .i64 t164, .int .i64 t165] from (k25_mkM _ _ _ (⟨t161, (⟨t162, t163⟩ : S23), t164, t165⟩ : S25) )) (Reps.c5 (show Kd.M k25 _ _ _ (⟨t167, (⟨t168, t169⟩ : S23), t170, t171⟩ : S25) [.int .i64 t167, .int .i64 t168, .bool t169, .int .i64 t170, .int .i64 t171] from (k25_mkM _ _ _ (⟨t167, (⟨t168, t169⟩ : S23), t170, t171⟩ : S25) )) (Reps.c5 (show Kd.M k25 _ _ _ (⟨t175, (⟨t176, t177⟩ : S23), t178, t179⟩ : S25) [.int .i64 t175, .int .i64 t176, .bool t177, .int .i64 t178, .int .i64 t179] from (k25_mkM _ _ _ (⟨t175, (⟨t176, t177⟩ : S23), t178, t179⟩ : S25) )) (Reps.none _ _)))))
                            intro v181 w31 ho32 hb hg_ hnew_
                            clear hg_ hnew_
                            (first | rw [← Ny180.out] at ho32 | (simp only [Int.reduceToNat] at ho32; rw [← Ny180.out] at ho32))
                            have n0_ := Aside0.mk (Kd.R_below (by (with_reducible repeat (first | apply Kd.R_alloc | apply Kd.R_drewN | apply Kd.R_drew)); exact HO160.out) hb)
                            have n1_ := Aside0.mk (Kd.R_below (by (with_reducible repeat (first | apply Kd.R_alloc | apply Kd.R_drewN | apply Kd.R_drew)); exact HO174.out) hb)
                            have n2_ := Aside0.mk (Kd.R_lower (Kd.R_newB ho32 (g := gb166) (o := .cells #[.int .i64 t161, .int .i64 t162, .bool t163, .int .i64 t164, .int .i64 t165] 25 (0, 0)) (by (with_reducible repeat (first | refine blk_drewN ?_ _ | refine blk_drew ?_ | refine blk_alloc ?_ _)); exact BK166.out)) (below_size (by repeat (first | (with_reducible first | exact HB.out | apply below_alloc | apply pw_below_drewN | apply below_drew1 | refine below_set ?_ GE166.out) | exact HB.out))))
                            have n3_ := Aside0.mk (blk_below (g := gb166) (o := .cells #[.int .i64 t161, .int .i64 t162, .bool t163, .int .i64 t164, .int .i64 t165] 25 (0, 0)) (by (with_reducible repeat (first | refine blk_drewN ?_ _ | refine blk_drew ?_ | refine blk_alloc ?_ _)); exact BK166.out) hb)
                            have n4_ := Aside0.mk (below_step (by repeat (first | (with_reducible first | exact HB.out | apply below_alloc | apply pw_below_drewN | apply below_drew1 | refine below_set ?_ GE166.out) | exact HB.out)) hb)
                            clear HO160
                            clear HO174
                            clear BK166
                            clear HB
                            have HO160 := n0_
                            have HO174 := n1_
                            have HO182 := n2_
                            have BK166 := n3_
                            have HB := n4_
                            clear n0_ n1_ n2_ n3_ n4_
                            clear hb ho32
                            refine hK.out _ _ ⟨(blk_cell BK166.out 0).trans rfl, (blk_cell BK166.out 1).trans rfl, (blk_cell BK166.out 2).trans rfl, (blk_cell BK166.out 3).trans rfl, (blk_cell BK166.out 4).trans rfl⟩ (fun hHeld => ?_)
                            clear hK K
                            refine norm_ (a' := ?_) ?_ ?_
                            rotate_left
                            · show Act.put _ (some 9) _ = _
                              simp only [Act.put, List.setIfInBounds_toArray, List.set_cons_zero, List.set_cons_succ, i64_w, i32_w]
                              rfl
                            exact norm_ (by first | (simp only [putAll, Act.put, List.setIfInBounds_toArray, List.set_cons_zero, List.set_cons_succ]; done) | (simp only [putAll, Act.put, List.setIfInBounds_toArray, List.set_cons_zero, List.set_cons_succ]; rfl)) (hJ1_2_3_4 (v173, v181) _ ⟨hHeld, (by (with_reducible repeat (first | apply Kd.R_alloc | apply Kd.R_drewN | apply Kd.R_drew)); exact HO160.out), (by (with_reducible repeat (first | apply Kd.R_alloc | apply Kd.R_drewN | apply Kd.R_drew)); exact HO174.out), (by (with_reducible repeat (first | apply Kd.R_alloc | apply Kd.R_drewN | apply Kd.R_drew)); exact Kd.R_mono HO182.out (fun _ hk => hk.2)), (by (with_reducible repeat (first | refine blk_drewN ?_ _ | refine blk_drew ?_ | refine blk_alloc ?_ _)); exact BK166.out), (by repeat (first | (with_reducible first | exact HB.out | apply below_alloc | apply pw_below_drewN | apply below_drew1 | refine below_set ?_ GE166.out) | exact HB.out))⟩)
                          · skip
                            refine box_step ?hg (N := 2) ?hd (cs := #[.int .i64 0, .int .i64 0, .bool false, .int .i64 0, .int .i64 0]) (t := 25) ?hr ?_; (case hd => rfl); (case hg => rfl); (case hr => first | (go_simp; done) | (go_simp; rfl))
                            intro gb188 hg w31 hbox hb
                            have n0_ := Aside0.mk (Kd.R_below (by (with_reducible repeat (first | apply Kd.R_alloc | apply Kd.R_drewN | apply Kd.R_drew)); exact HO160.out) hb)
                            have n1_ := Aside0.mk (Kd.R_below (by (with_reducible repeat (first | apply Kd.R_alloc | apply Kd.R_drewN | apply Kd.R_drew)); exact HO174.out) hb)
                            have n2_ := Aside0.mk (blk_below (g := gb166) (o := .cells #[.int .i64 t161, .int .i64 t162, .bool t163, .int .i64 t164, .int .i64 t165] 25 (0, 0)) (by (with_reducible repeat (first | refine blk_drewN ?_ _ | refine blk_drew ?_ | refine blk_alloc ?_ _)); exact BK166.out) hb)
                            have n3_ := Aside0.mk (below_step (by repeat (first | (with_reducible first | exact HB.out | apply below_alloc | apply pw_below_drewN | apply below_drew1 | refine below_set ?_ GE166.out) | exact HB.out)) hb)
                            have n4_ := Aside0.mk (hbox)
                            have n5_ := Aside0.mk ((by rw [hg]; exact (below_size (by repeat (first | (with_reducible first | exact HB.out | apply below_alloc | apply pw_below_drewN | apply below_drew1 | refine below_set ?_ GE166.out) | exact HB.out))) : w.heap.size ≤ gb188))
                            have n6_ := Aside0.mk ((by rw [hg]; exact (below_size (by repeat (first | (with_reducible first | exact HB.out | apply below_alloc | apply pw_below_drewN | apply below_drew1 | refine below_set ?_ GE166.out) | exact HB.out))) : w.heap.size ≤ gb188))
                            have n7_ := Aside0.mk ((by rw [hg]; exact Nat.ne_of_lt (blk_lt (g := gb166) (o := .cells #[.int .i64 t161, .int .i64 t162, .bool t163, .int .i64 t164, .int .i64 t165] 25 (0, 0)) (by (with_reducible repeat (first | refine blk_drewN ?_ _ | refine blk_drew ?_ | refine blk_alloc ?_ _)); exact BK166.out)) : gb166 ≠ gb188))
                            have n8_ := Aside0.mk ((by rw [hg]; exact Nat.ne_of_gt (blk_lt (g := gb166) (o := .cells #[.int .i64 t161, .int .i64 t162, .bool t163, .int .i64 t164, .int .i64 t165] 25 (0, 0)) (by (with_reducible repeat (first | refine blk_drewN ?_ _ | refine blk_drew ?_ | refine blk_alloc ?_ _)); exact BK166.out)) : gb188 ≠ gb166))
                            clear HO160
                            clear HO174
                            clear BK166
                            clear HB
                            have HO160 := n0_
                            have HO174 := n1_
                            have BK166 := n2_
                            have HB := n3_
                            have BK188 := n4_
                            have GW188 := n5_
                            have GE188 := n6_
                            have NB166_188 := n7_
                            have NB188_166 := n8_
                            clear n0_ n1_ n2_ n3_ n4_ n5_ n6_ n7_ n8_
                            clear hb hbox hg
                            refine hK.out _ _ ⟨(blk_cell BK166.out 0).trans rfl, (blk_cell BK166.out 1).trans rfl, (blk_cell BK166.out 2).trans rfl, (blk_cell BK166.out 3).trans rfl, (blk_cell BK166.out 4).trans rfl⟩ (fun hHeld => ?_)
                            clear hK K
                            refine norm_ (a' := ?_) ?_ ?_
                            rotate_left
                            · show Act.put _ (some 2) _ = _
                              simp only [Act.put, List.setIfInBounds_toArray, List.set_cons_zero, List.set_cons_succ, i64_w, i32_w]
                              rfl
                            exact norm_ (by first | (simp only [putAll, Act.put, List.setIfInBounds_toArray, List.set_cons_zero, List.set_cons_succ]; done) | (simp only [putAll, Act.put, List.setIfInBounds_toArray, List.set_cons_zero, List.set_cons_succ]; rfl)) (hJ1_2_3_6 (v173, gb188) _ ⟨hHeld, (by (with_reducible repeat (first | apply Kd.R_alloc | apply Kd.R_drewN | apply Kd.R_drew)); exact HO160.out), (by (with_reducible repeat (first | apply Kd.R_alloc | apply Kd.R_drewN | apply Kd.R_drew)); exact HO174.out), (by (with_reducible repeat (first | refine blk_drewN ?_ _ | refine blk_drew ?_ | refine blk_alloc ?_ _)); exact BK166.out), (by (with_reducible repeat (first | refine blk_drewN ?_ _ | refine blk_drew ?_ | refine blk_alloc ?_ _)); exact BK188.out), GW188.out, GE188.out, NB166_188.out, NB188_166.out, (by repeat (first | (with_reducible first | exact HB.out | apply below_alloc | apply pw_below_drewN | apply below_drew1 | refine below_set ?_ GE166.out | refine below_set ?_ GE188.out) | exact HB.out))⟩)
                      · skip
                        rintro ⟨v173, gb188⟩ w31 ⟨hS_, h0_, h1_, h2_, h3_, h4_, h5_, h6_, h7_, h8_⟩
                        have n0_ : Aside0 (Kd.R (Kd.int .i64) 2 w31 w.heap.size (fun k_ => some k_ ≠ (v173 : Value).ownBlock) (.slice Ao19 y158.length co19) y158) := ⟨h0_⟩
                        have n1_ : Aside0 (Kd.R (Kd.int .i64) 2 w31 w.heap.size (fun k_ => some k_ ≠ (.slice Ao19 y158.length co19 : Value).ownBlock) v173 y172) := ⟨h1_⟩
                        have n2_ : Aside0 (w31.heap[gb166]? = some (.cells #[.int .i64 t161, .int .i64 t162, .bool t163, .int .i64 t164, .int .i64 t165] 25 (0, 0))) := ⟨h2_⟩
                        have n3_ : Aside0 (w31.heap[gb188]? = some (.cells #[.int .i64 0, .int .i64 0, .bool false, .int .i64 0, .int .i64 0] 25 (0, 0))) := ⟨h3_⟩
                        have n4_ : Aside0 (w.heap.size ≤ gb188) := ⟨h4_⟩
                        have n5_ : Aside0 (w.heap.size ≤ gb188) := ⟨h5_⟩
                        have n6_ : Aside0 (gb166 ≠ gb188) := ⟨h6_⟩
                        have n7_ : Aside0 (gb188 ≠ gb166) := ⟨h7_⟩
                        have n8_ : Aside0 (Below w.heap.size w w31) := ⟨h8_⟩
                        clear HO160
                        clear BK166
                        clear HB
                        clear h0_ h1_ h2_ h3_ h4_ h5_ h6_ h7_ h8_
                        have HO160 := n0_
                        have HO174 := n1_
                        have BK166 := n2_
                        have BK188 := n3_
                        have GW188 := n4_
                        have GE188 := n5_
                        have NB166_188 := n6_
                        have NB188_166 := n7_
                        have HB := n8_
                        clear n0_ n1_ n2_ n3_ n4_ n5_ n6_ n7_ n8_
                        have hHeld : w31.cell? ⟨gb166, 0, none⟩ = some (.int .i64 t161) ∧ w31.cell? ⟨gb166, 1, none⟩ = some (.int .i64 t162) ∧ w31.cell? ⟨gb166, 2, none⟩ = some (.bool t163) ∧ w31.cell? ⟨gb166, 3, none⟩ = some (.int .i64 t164) ∧ w31.cell? ⟨gb166, 4, none⟩ = some (.int .i64 t165) := hS_
                        refine norm_ (a' := ?_) ?_ ?_
                        rotate_left
                        · simp only [putAll, Act.put, List.setIfInBounds_toArray, List.set_cons_zero, List.set_cons_succ]
                          rfl
                        refine one_ (i := 4) (N := some 9) #[true, true, true, true, true, false, true, false] rfl rfl (one_of HT_.out (by kernel_rfl)) (by decide) (fun K hK => ?_)
                        refine Kd.R_lit_step k25 _ 25 ?hg (N := 9) ?hd (xs := ([(⟨t161, (⟨t162, t163⟩ : S23), t164, t165⟩ : S25), (⟨t167, (⟨t168, t169⟩ : S23), t170, t171⟩ : S25), (⟨t175, (⟨t176, t177⟩ : S23), t178, t179⟩ : S25)] : List (S25))) (inner := [.int .i64 t161, .int .i64 t162, .bool t163, .int .i64 t164, .int .i64 t165, .int .i64 t167, .int .i64 t168, .bool t169, .int .i64 t170, .int .i64 t171, .int .i64 t175, .int .i64 t176, .bool t177, .int .i64 t178, .int .i64 t179]) (ok := fun _ => True) (okp := fun _ => True) ?hr ?hp (fun _ hk => hk) trivial (Below.refl _ _) (Nat.le_refl _) (by simp) ?_; (case hd => rfl); (case hg => rfl); (case hr => first | (go_simp; done) | (go_simp; rfl)); (case hp => exact (Reps.c5 (show Kd.M k25 _ _ _ (⟨t161, (⟨t162, t163⟩ : S23), t164, t165⟩ : S25) [.int .i64 t161, .int .i64 t162, .bool t163, .int .i64 t164, .int .i64 t165] from (k25_mkM _ _ _ (⟨t161, (⟨t162, t163⟩ : S23), t164, t165⟩ : S25) )) (Reps.c5 (show Kd.M k25 _ _ _ (⟨t167, (⟨t168, t169⟩ : S23), t170, t171⟩ : S25) [.int .i64 t167, .int .i64 t168, .bool t169, .int .i64 t170, .int .i64 t171] from (k25_mkM _ _ _ (⟨t167, (⟨t168, t169⟩ : S23), t170, t171⟩ : S25) )) (Reps.c5 (show Kd.M k25 _ _ _ (⟨t175, (⟨t176, t177⟩ : S23), t178, t179⟩ : S25) [.int .i64 t175, .int .i64 t176, .bool t177, .int .i64 t178, .int .i64 t179] from (k25_mkM _ _ _ (⟨t175, (⟨t176, t177⟩ : S23), t178, t179⟩ : S25) )) (Reps.none _ _)))))
                        intro v181 w32 ho33 hb hg_ hnew_
                        clear hg_ hnew_
                        (first | rw [← Ny180.out] at ho33 | (simp only [Int.reduceToNat] at ho33; rw [← Ny180.out] at ho33))
                        have n0_ := Aside0.mk (Kd.R_below (by (with_reducible repeat (first | apply Kd.R_alloc | apply Kd.R_drewN | apply Kd.R_drew)); exact HO160.out) hb)
                        have n1_ := Aside0.mk (Kd.R_below (by (with_reducible repeat (first | apply Kd.R_alloc | apply Kd.R_drewN | apply Kd.R_drew)); exact HO174.out) hb)
                        have n2_ := Aside0.mk (Kd.R_lower (Kd.R_newB (Kd.R_newB ho33 (g := gb166) (o := .cells #[.int .i64 t161, .int .i64 t162, .bool t163, .int .i64 t164, .int .i64 t165] 25 (0, 0)) (by (with_reducible repeat (first | refine blk_drewN ?_ _ | refine blk_drew ?_ | refine blk_alloc ?_ _)); exact BK166.out)) (g := gb188) (o := .cells #[.int .i64 0, .int .i64 0, .bool false, .int .i64 0, .int .i64 0] 25 (0, 0)) (by (with_reducible repeat (first | refine blk_drewN ?_ _ | refine blk_drew ?_ | refine blk_alloc ?_ _)); exact BK188.out)) (below_size (by repeat (first | (with_reducible first | exact HB.out | apply below_alloc | apply pw_below_drewN | apply below_drew1 | refine below_set ?_ GE166.out | refine below_set ?_ GE188.out) | exact HB.out))))
                        have n3_ := Aside0.mk (blk_below (g := gb166) (o := .cells #[.int .i64 t161, .int .i64 t162, .bool t163, .int .i64 t164, .int .i64 t165] 25 (0, 0)) (by (with_reducible repeat (first | refine blk_drewN ?_ _ | refine blk_drew ?_ | refine blk_alloc ?_ _)); exact BK166.out) hb)
                        have n4_ := Aside0.mk (blk_below (g := gb188) (o := .cells #[.int .i64 0, .int .i64 0, .bool false, .int .i64 0, .int .i64 0] 25 (0, 0)) (by (with_reducible repeat (first | refine blk_drewN ?_ _ | refine blk_drew ?_ | refine blk_alloc ?_ _)); exact BK188.out) hb)
                        have n5_ := Aside0.mk (below_step (by repeat (first | (with_reducible first | exact HB.out | apply below_alloc | apply pw_below_drewN | apply below_drew1 | refine below_set ?_ GE166.out | refine below_set ?_ GE188.out) | exact HB.out)) hb)
                        clear HO160
                        clear HO174
                        clear BK166
                        clear BK188
                        clear HB
                        have HO160 := n0_
                        have HO174 := n1_
                        have HO182 := n2_
                        have BK166 := n3_
                        have BK188 := n4_
                        have HB := n5_
                        clear n0_ n1_ n2_ n3_ n4_ n5_
                        clear hb ho33
                        refine hK.out _ _ ⟨(blk_cell BK166.out 0).trans rfl, (blk_cell BK166.out 1).trans rfl, (blk_cell BK166.out 2).trans rfl, (blk_cell BK166.out 3).trans rfl, (blk_cell BK166.out 4).trans rfl⟩ (fun hHeld => ?_)
                        clear hK K
                        refine norm_ (a' := ?_) ?_ ?_
                        rotate_left
                        · show Act.put _ (some 9) _ = _
                          simp only [Act.put, List.setIfInBounds_toArray, List.set_cons_zero, List.set_cons_succ, i64_w, i32_w]
                          rfl
                        exact norm_ (by first | (simp only [putAll, Act.put, List.setIfInBounds_toArray, List.set_cons_zero, List.set_cons_succ]; done) | (simp only [putAll, Act.put, List.setIfInBounds_toArray, List.set_cons_zero, List.set_cons_succ]; rfl)) (hJ1_2_3_4_6 (v173, v181, gb188) _ ⟨hHeld, (by (with_reducible repeat (first | apply Kd.R_alloc | apply Kd.R_drewN | apply Kd.R_drew)); exact HO160.out), (by (with_reducible repeat (first | apply Kd.R_alloc | apply Kd.R_drewN | apply Kd.R_drew)); exact HO174.out), (by (with_reducible repeat (first | apply Kd.R_alloc | apply Kd.R_drewN | apply Kd.R_drew)); exact Kd.R_mono HO182.out (fun _ hk => ⟨hk.1.2, hk.2⟩)), (by (with_reducible repeat (first | refine blk_drewN ?_ _ | refine blk_drew ?_ | refine blk_alloc ?_ _)); exact BK166.out), (by (with_reducible repeat (first | refine blk_drewN ?_ _ | refine blk_drew ?_ | refine blk_alloc ?_ _)); exact BK188.out), GW188.out, GE188.out, NB166_188.out, NB188_166.out, (by repeat (first | (with_reducible first | exact HB.out | apply below_alloc | apply pw_below_drewN | apply below_drew1 | refine below_set ?_ GE166.out | refine below_set ?_ GE188.out) | exact HB.out))⟩)
                    · skip
                      rintro ⟨v173, v181⟩ w32 ⟨hS_, h0_, h1_, h2_, h3_, h4_⟩
                      have n0_ : Aside0 (Kd.R (Kd.int .i64) 2 w32 w.heap.size (fun k_ => some k_ ≠ (v173 : Value).ownBlock) (.slice Ao19 y158.length co19) y158) := ⟨h0_⟩
                      have n1_ : Aside0 (Kd.R (Kd.int .i64) 2 w32 w.heap.size (fun k_ => some k_ ≠ (.slice Ao19 y158.length co19 : Value).ownBlock) v173 y172) := ⟨h1_⟩
                      have n2_ : Aside0 (Kd.R k25 25 w32 w.heap.size (fun k_ => k_ ≠ gb166) v181 y180) := ⟨h2_⟩
                      have n3_ : Aside0 (w32.heap[gb166]? = some (.cells #[.int .i64 t161, .int .i64 t162, .bool t163, .int .i64 t164, .int .i64 t165] 25 (0, 0))) := ⟨h3_⟩
                      have n4_ : Aside0 (Below w.heap.size w w32) := ⟨h4_⟩
                      clear HO160
                      clear BK166
                      clear HB
                      clear h0_ h1_ h2_ h3_ h4_
                      have HO160 := n0_
                      have HO174 := n1_
                      have HO182 := n2_
                      have BK166 := n3_
                      have HB := n4_
                      clear n0_ n1_ n2_ n3_ n4_
                      have hHeld : w32.cell? ⟨gb166, 0, none⟩ = some (.int .i64 t161) ∧ w32.cell? ⟨gb166, 1, none⟩ = some (.int .i64 t162) ∧ w32.cell? ⟨gb166, 2, none⟩ = some (.bool t163) ∧ w32.cell? ⟨gb166, 3, none⟩ = some (.int .i64 t164) ∧ w32.cell? ⟨gb166, 4, none⟩ = some (.int .i64 t165) := hS_
                      obtain ⟨Ao33, co33, eo33⟩ := Kd.R_slice HO182.out
                      (first | subst eo33 | (injection eo33 with f1_ f2_ f3_; have f4_ := f1_.symm; have f5_ := f3_.symm; clear f1_ f2_ f3_; subst f4_; subst f5_))
                      refine norm_ (a' := ?_) ?_ ?_
                      rotate_left
                      · simp only [putAll, Act.put, List.setIfInBounds_toArray, List.set_cons_zero, List.set_cons_succ]
                        rfl
                      refine two_ (i := 5) (j := 6) (Ni := some 10) (Nj := some 2) #[true, true, true, true, true, true, false, false] #[true, true, true, true, true, false, true, false] rfl rfl rfl rfl (two_of HT_.out (by kernel_rfl)) (by decide) (by decide) (fun K hK => ?_) (fun K hK => ?_)
                      · skip
                        refine goes_ Try.func15 (by kernel_rfl) rfl #[.slice Ao33 y180.length co33] (by rfl) rfl rfl (by (try simp only [List.map_toArray, List.map_cons, List.map_nil]); first | done | rfl | (simp only [List.length_drop, List.length_take]; rfl)) ?_
                        with_reducible refine (cell_Merge.calls k _ _ y180 t183 t184 t185 t186 t187 _ ?side1 ?side2 A4.out).mono ?_
                        (case side1 => repeat (first | exact (Kd.R_reads' HO182.out).2.2 | (with_reducible refine Kd.C_alloc ?_ _) | (with_reducible refine Kd.C_drewN ?_ _) | (with_reducible refine Kd.C_drew ?_)))
                        (case side2 => exact (Kd.R_reads' HO182.out).2.1)
                        rintro e w34 ⟨rfl, hb⟩
                        refine ⟨_, rfl, ?_⟩
                        have n0_ := Aside0.mk (Kd.R_below (by (with_reducible repeat (first | apply Kd.R_alloc | apply Kd.R_drewN | apply Kd.R_drew)); exact HO160.out) hb)
                        have n1_ := Aside0.mk (Kd.R_below (by (with_reducible repeat (first | apply Kd.R_alloc | apply Kd.R_drewN | apply Kd.R_drew)); exact HO174.out) hb)
                        have n2_ := Aside0.mk (Kd.R_below (by (with_reducible repeat (first | apply Kd.R_alloc | apply Kd.R_drewN | apply Kd.R_drew)); exact HO182.out) hb)
                        have n3_ := Aside0.mk (blk_below (g := gb166) (o := .cells #[.int .i64 t161, .int .i64 t162, .bool t163, .int .i64 t164, .int .i64 t165] 25 (0, 0)) (by (with_reducible repeat (first | refine blk_drewN ?_ _ | refine blk_drew ?_ | refine blk_alloc ?_ _)); exact BK166.out) hb)
                        have n4_ := Aside0.mk (below_step (by repeat (first | (with_reducible first | exact HB.out | apply below_alloc | apply pw_below_drewN | apply below_drew1 | refine below_set ?_ GE166.out) | exact HB.out)) hb)
                        clear HO160
                        clear HO174
                        clear HO182
                        clear BK166
                        clear HB
                        have HO160 := n0_
                        have HO174 := n1_
                        have HO182 := n2_
                        have BK166 := n3_
                        have HB := n4_
                        clear n0_ n1_ n2_ n3_ n4_
                        (try clear hb)
                        (try clear hb2)
                        (try clear hk)
                        (try clear hi)
                        refine hK.out _ _ ⟨(blk_cell BK166.out 0).trans rfl, (blk_cell BK166.out 1).trans rfl, (blk_cell BK166.out 2).trans rfl, (blk_cell BK166.out 3).trans rfl, (blk_cell BK166.out 4).trans rfl⟩ (fun hHeld => ?_)
                        clear hK K
                        refine norm_ (a' := ?_) ?_ ?_
                        rotate_left
                        · show Act.put _ (some 10) _ = _
                          simp only [Act.put, List.setIfInBounds_toArray, List.set_cons_zero, List.set_cons_succ, i64_w, i32_w]
                          rfl
                        exact norm_ (by first | (simp only [putAll, Act.put, List.setIfInBounds_toArray, List.set_cons_zero, List.set_cons_succ]; done) | (simp only [putAll, Act.put, List.setIfInBounds_toArray, List.set_cons_zero, List.set_cons_succ]; rfl)) (hJ1_2_3_4_5 (v173, .slice Ao33 y180.length co33) _ ⟨hHeld, (by (with_reducible repeat (first | apply Kd.R_alloc | apply Kd.R_drewN | apply Kd.R_drew)); exact HO160.out), (by (with_reducible repeat (first | apply Kd.R_alloc | apply Kd.R_drewN | apply Kd.R_drew)); exact HO174.out), (by (with_reducible repeat (first | apply Kd.R_alloc | apply Kd.R_drewN | apply Kd.R_drew)); exact HO182.out), (by (with_reducible repeat (first | refine blk_drewN ?_ _ | refine blk_drew ?_ | refine blk_alloc ?_ _)); exact BK166.out), (by repeat (first | (with_reducible first | exact HB.out | apply below_alloc | apply pw_below_drewN | apply below_drew1 | refine below_set ?_ GE166.out) | exact HB.out))⟩)
                      · skip
                        refine box_step ?hg (N := 2) ?hd (cs := #[.int .i64 0, .int .i64 0, .bool false, .int .i64 0, .int .i64 0]) (t := 25) ?hr ?_; (case hd => rfl); (case hg => rfl); (case hr => first | (go_simp; done) | (go_simp; rfl))
                        intro gb188 hg w33 hbox hb
                        have n0_ := Aside0.mk (Kd.R_below (by (with_reducible repeat (first | apply Kd.R_alloc | apply Kd.R_drewN | apply Kd.R_drew)); exact HO160.out) hb)
                        have n1_ := Aside0.mk (Kd.R_below (by (with_reducible repeat (first | apply Kd.R_alloc | apply Kd.R_drewN | apply Kd.R_drew)); exact HO174.out) hb)
                        have n2_ := Aside0.mk (Kd.R_below (Kd.R_elderB (by (with_reducible repeat (first | apply Kd.R_alloc | apply Kd.R_drewN | apply Kd.R_drew)); exact HO182.out) gb188 (Nat.le_of_eq hg.symm)) hb)
                        have n3_ := Aside0.mk (blk_below (g := gb166) (o := .cells #[.int .i64 t161, .int .i64 t162, .bool t163, .int .i64 t164, .int .i64 t165] 25 (0, 0)) (by (with_reducible repeat (first | refine blk_drewN ?_ _ | refine blk_drew ?_ | refine blk_alloc ?_ _)); exact BK166.out) hb)
                        have n4_ := Aside0.mk (below_step (by repeat (first | (with_reducible first | exact HB.out | apply below_alloc | apply pw_below_drewN | apply below_drew1 | refine below_set ?_ GE166.out) | exact HB.out)) hb)
                        have n5_ := Aside0.mk (hbox)
                        have n6_ := Aside0.mk ((by rw [hg]; exact (below_size (by repeat (first | (with_reducible first | exact HB.out | apply below_alloc | apply pw_below_drewN | apply below_drew1 | refine below_set ?_ GE166.out) | exact HB.out))) : w.heap.size ≤ gb188))
                        have n7_ := Aside0.mk ((by rw [hg]; exact (below_size (by repeat (first | (with_reducible first | exact HB.out | apply below_alloc | apply pw_below_drewN | apply below_drew1 | refine below_set ?_ GE166.out) | exact HB.out))) : w.heap.size ≤ gb188))
                        have n8_ := Aside0.mk ((by rw [hg]; exact Nat.ne_of_lt (blk_lt (g := gb166) (o := .cells #[.int .i64 t161, .int .i64 t162, .bool t163, .int .i64 t164, .int .i64 t165] 25 (0, 0)) (by (with_reducible repeat (first | refine blk_drewN ?_ _ | refine blk_drew ?_ | refine blk_alloc ?_ _)); exact BK166.out)) : gb166 ≠ gb188))
                        have n9_ := Aside0.mk ((by rw [hg]; exact Nat.ne_of_gt (blk_lt (g := gb166) (o := .cells #[.int .i64 t161, .int .i64 t162, .bool t163, .int .i64 t164, .int .i64 t165] 25 (0, 0)) (by (with_reducible repeat (first | refine blk_drewN ?_ _ | refine blk_drew ?_ | refine blk_alloc ?_ _)); exact BK166.out)) : gb188 ≠ gb166))
                        clear HO160
                        clear HO174
                        clear HO182
                        clear BK166
                        clear HB
                        have HO160 := n0_
                        have HO174 := n1_
                        have HO182 := n2_
                        have BK166 := n3_
                        have HB := n4_
                        have BK188 := n5_
                        have GW188 := n6_
                        have GE188 := n7_
                        have NB166_188 := n8_
                        have NB188_166 := n9_
                        clear n0_ n1_ n2_ n3_ n4_ n5_ n6_ n7_ n8_ n9_
                        clear hb hbox hg
                        refine hK.out _ _ ⟨(blk_cell BK166.out 0).trans rfl, (blk_cell BK166.out 1).trans rfl, (blk_cell BK166.out 2).trans rfl, (blk_cell BK166.out 3).trans rfl, (blk_cell BK166.out 4).trans rfl⟩ (fun hHeld => ?_)
                        clear hK K
                        refine norm_ (a' := ?_) ?_ ?_
                        rotate_left
                        · show Act.put _ (some 2) _ = _
                          simp only [Act.put, List.setIfInBounds_toArray, List.set_cons_zero, List.set_cons_succ, i64_w, i32_w]
                          rfl
                        exact norm_ (by first | (simp only [putAll, Act.put, List.setIfInBounds_toArray, List.set_cons_zero, List.set_cons_succ]; done) | (simp only [putAll, Act.put, List.setIfInBounds_toArray, List.set_cons_zero, List.set_cons_succ]; rfl)) (hJ1_2_3_4_6 (v173, .slice Ao33 y180.length co33, gb188) _ ⟨hHeld, (by (with_reducible repeat (first | apply Kd.R_alloc | apply Kd.R_drewN | apply Kd.R_drew)); exact HO160.out), (by (with_reducible repeat (first | apply Kd.R_alloc | apply Kd.R_drewN | apply Kd.R_drew)); exact HO174.out), (by (with_reducible repeat (first | apply Kd.R_alloc | apply Kd.R_drewN | apply Kd.R_drew)); exact HO182.out), (by (with_reducible repeat (first | refine blk_drewN ?_ _ | refine blk_drew ?_ | refine blk_alloc ?_ _)); exact BK166.out), (by (with_reducible repeat (first | refine blk_drewN ?_ _ | refine blk_drew ?_ | refine blk_alloc ?_ _)); exact BK188.out), GW188.out, GE188.out, NB166_188.out, NB188_166.out, (by repeat (first | (with_reducible first | exact HB.out | apply below_alloc | apply pw_below_drewN | apply below_drew1 | refine below_set ?_ GE166.out | refine below_set ?_ GE188.out) | exact HB.out))⟩)
                  · skip
                    rintro ⟨v173, v181, gb188⟩ w33 ⟨hS_, h0_, h1_, h2_, h3_, h4_, h5_, h6_, h7_, h8_, h9_⟩
                    have n0_ : Aside0 (Kd.R (Kd.int .i64) 2 w33 w.heap.size (fun k_ => some k_ ≠ (v173 : Value).ownBlock) (.slice Ao19 y158.length co19) y158) := ⟨h0_⟩
                    have n1_ : Aside0 (Kd.R (Kd.int .i64) 2 w33 w.heap.size (fun k_ => some k_ ≠ (.slice Ao19 y158.length co19 : Value).ownBlock) v173 y172) := ⟨h1_⟩
                    have n2_ : Aside0 (Kd.R k25 25 w33 w.heap.size (fun k_ => k_ ≠ gb166 ∧ k_ ≠ gb188) v181 y180) := ⟨h2_⟩
                    have n3_ : Aside0 (w33.heap[gb166]? = some (.cells #[.int .i64 t161, .int .i64 t162, .bool t163, .int .i64 t164, .int .i64 t165] 25 (0, 0))) := ⟨h3_⟩
                    have n4_ : Aside0 (w33.heap[gb188]? = some (.cells #[.int .i64 0, .int .i64 0, .bool false, .int .i64 0, .int .i64 0] 25 (0, 0))) := ⟨h4_⟩
                    have n5_ : Aside0 (w.heap.size ≤ gb188) := ⟨h5_⟩
                    have n6_ : Aside0 (w.heap.size ≤ gb188) := ⟨h6_⟩
                    have n7_ : Aside0 (gb166 ≠ gb188) := ⟨h7_⟩
                    have n8_ : Aside0 (gb188 ≠ gb166) := ⟨h8_⟩
                    have n9_ : Aside0 (Below w.heap.size w w33) := ⟨h9_⟩
                    clear HO160
                    clear BK166
                    clear HB
                    clear h0_ h1_ h2_ h3_ h4_ h5_ h6_ h7_ h8_ h9_
                    have HO160 := n0_
                    have HO174 := n1_
                    have HO182 := n2_
                    have BK166 := n3_
                    have BK188 := n4_
                    have GW188 := n5_
                    have GE188 := n6_
                    have NB166_188 := n7_
                    have NB188_166 := n8_
                    have HB := n9_
                    clear n0_ n1_ n2_ n3_ n4_ n5_ n6_ n7_ n8_ n9_
                    have hHeld : w33.cell? ⟨gb166, 0, none⟩ = some (.int .i64 t161) ∧ w33.cell? ⟨gb166, 1, none⟩ = some (.int .i64 t162) ∧ w33.cell? ⟨gb166, 2, none⟩ = some (.bool t163) ∧ w33.cell? ⟨gb166, 3, none⟩ = some (.int .i64 t164) ∧ w33.cell? ⟨gb166, 4, none⟩ = some (.int .i64 t165) := hS_
                    obtain ⟨Ao34, co34, eo34⟩ := Kd.R_slice HO182.out
                    (first | subst eo34 | (injection eo34 with f1_ f2_ f3_; have f4_ := f1_.symm; have f5_ := f3_.symm; clear f1_ f2_ f3_; subst f4_; subst f5_))
                    refine norm_ (a' := ?_) ?_ ?_
                    rotate_left
                    · simp only [putAll, Act.put, List.setIfInBounds_toArray, List.set_cons_zero, List.set_cons_succ]
                      rfl
                    refine one_ (i := 5) (N := some 10) #[true, true, true, true, true, true, true, false] rfl rfl (one_of HT_.out (by kernel_rfl)) (by decide) (fun K hK => ?_)
                    refine goes_ Try.func15 (by kernel_rfl) rfl #[.slice Ao34 y180.length co34] (by rfl) rfl rfl (by (try simp only [List.map_toArray, List.map_cons, List.map_nil]); first | done | rfl | (simp only [List.length_drop, List.length_take]; rfl)) ?_
                    with_reducible refine (cell_Merge.calls k _ _ y180 t183 t184 t185 t186 t187 _ ?side1 ?side2 A4.out).mono ?_
                    (case side1 => repeat (first | exact (Kd.R_reads' HO182.out).2.2 | (with_reducible refine Kd.C_alloc ?_ _) | (with_reducible refine Kd.C_drewN ?_ _) | (with_reducible refine Kd.C_drew ?_)))
                    (case side2 => exact (Kd.R_reads' HO182.out).2.1)
                    rintro e w35 ⟨rfl, hb⟩
                    refine ⟨_, rfl, ?_⟩
                    have n0_ := Aside0.mk (Kd.R_below (by (with_reducible repeat (first | apply Kd.R_alloc | apply Kd.R_drewN | apply Kd.R_drew)); exact HO160.out) hb)
                    have n1_ := Aside0.mk (Kd.R_below (by (with_reducible repeat (first | apply Kd.R_alloc | apply Kd.R_drewN | apply Kd.R_drew)); exact HO174.out) hb)
                    have n2_ := Aside0.mk (Kd.R_below (by (with_reducible repeat (first | apply Kd.R_alloc | apply Kd.R_drewN | apply Kd.R_drew)); exact HO182.out) hb)
                    have n3_ := Aside0.mk (blk_below (g := gb166) (o := .cells #[.int .i64 t161, .int .i64 t162, .bool t163, .int .i64 t164, .int .i64 t165] 25 (0, 0)) (by (with_reducible repeat (first | refine blk_drewN ?_ _ | refine blk_drew ?_ | refine blk_alloc ?_ _)); exact BK166.out) hb)
                    have n4_ := Aside0.mk (blk_below (g := gb188) (o := .cells #[.int .i64 0, .int .i64 0, .bool false, .int .i64 0, .int .i64 0] 25 (0, 0)) (by (with_reducible repeat (first | refine blk_drewN ?_ _ | refine blk_drew ?_ | refine blk_alloc ?_ _)); exact BK188.out) hb)
                    have n5_ := Aside0.mk (below_step (by repeat (first | (with_reducible first | exact HB.out | apply below_alloc | apply pw_below_drewN | apply below_drew1 | refine below_set ?_ GE166.out | refine below_set ?_ GE188.out) | exact HB.out)) hb)
                    clear HO160
                    clear HO174
                    clear HO182
                    clear BK166
                    clear BK188
                    clear HB
                    have HO160 := n0_
                    have HO174 := n1_
                    have HO182 := n2_
                    have BK166 := n3_
                    have BK188 := n4_
                    have HB := n5_
                    clear n0_ n1_ n2_ n3_ n4_ n5_
                    (try clear hb)
                    (try clear hb2)
                    (try clear hk)
                    (try clear hi)
                    refine hK.out _ _ ⟨(blk_cell BK166.out 0).trans rfl, (blk_cell BK166.out 1).trans rfl, (blk_cell BK166.out 2).trans rfl, (blk_cell BK166.out 3).trans rfl, (blk_cell BK166.out 4).trans rfl⟩ (fun hHeld => ?_)
                    clear hK K
                    refine norm_ (a' := ?_) ?_ ?_
                    rotate_left
                    · show Act.put _ (some 10) _ = _
                      simp only [Act.put, List.setIfInBounds_toArray, List.set_cons_zero, List.set_cons_succ, i64_w, i32_w]
                      rfl
                    exact norm_ (by first | (simp only [putAll, Act.put, List.setIfInBounds_toArray, List.set_cons_zero, List.set_cons_succ]; done) | (simp only [putAll, Act.put, List.setIfInBounds_toArray, List.set_cons_zero, List.set_cons_succ]; rfl)) (hJ1_2_3_4_5_6 (v173, .slice Ao34 y180.length co34, gb188) _ ⟨hHeld, (by (with_reducible repeat (first | apply Kd.R_alloc | apply Kd.R_drewN | apply Kd.R_drew)); exact HO160.out), (by (with_reducible repeat (first | apply Kd.R_alloc | apply Kd.R_drewN | apply Kd.R_drew)); exact HO174.out), (by (with_reducible repeat (first | apply Kd.R_alloc | apply Kd.R_drewN | apply Kd.R_drew)); exact HO182.out), (by (with_reducible repeat (first | refine blk_drewN ?_ _ | refine blk_drew ?_ | refine blk_alloc ?_ _)); exact BK166.out), (by (with_reducible repeat (first | refine blk_drewN ?_ _ | refine blk_drew ?_ | refine blk_alloc ?_ _)); exact BK188.out), GW188.out, GE188.out, NB166_188.out, NB188_166.out, (by repeat (first | (with_reducible first | exact HB.out | apply below_alloc | apply pw_below_drewN | apply below_drew1 | refine below_set ?_ GE166.out | refine below_set ?_ GE188.out) | exact HB.out))⟩)
                · skip
                  rintro ⟨v173, v181⟩ w34 ⟨hS_, h0_, h1_, h2_, h3_, h4_⟩
                  have n0_ : Aside0 (Kd.R (Kd.int .i64) 2 w34 w.heap.size (fun k_ => some k_ ≠ (v173 : Value).ownBlock) (.slice Ao19 y158.length co19) y158) := ⟨h0_⟩
                  have n1_ : Aside0 (Kd.R (Kd.int .i64) 2 w34 w.heap.size (fun k_ => some k_ ≠ (.slice Ao19 y158.length co19 : Value).ownBlock) v173 y172) := ⟨h1_⟩
                  have n2_ : Aside0 (Kd.R k25 25 w34 w.heap.size (fun k_ => k_ ≠ gb166) v181 y180) := ⟨h2_⟩
                  have n3_ : Aside0 (w34.heap[gb166]? = some (.cells #[.int .i64 t161, .int .i64 t162, .bool t163, .int .i64 t164, .int .i64 t165] 25 (0, 0))) := ⟨h3_⟩
                  have n4_ : Aside0 (Below w.heap.size w w34) := ⟨h4_⟩
                  clear HO160
                  clear BK166
                  clear HB
                  clear h0_ h1_ h2_ h3_ h4_
                  have HO160 := n0_
                  have HO174 := n1_
                  have HO182 := n2_
                  have BK166 := n3_
                  have HB := n4_
                  clear n0_ n1_ n2_ n3_ n4_
                  have hHeld : w34.cell? ⟨gb166, 0, none⟩ = some (.int .i64 t161) ∧ w34.cell? ⟨gb166, 1, none⟩ = some (.int .i64 t162) ∧ w34.cell? ⟨gb166, 2, none⟩ = some (.bool t163) ∧ w34.cell? ⟨gb166, 3, none⟩ = some (.int .i64 t164) ∧ w34.cell? ⟨gb166, 4, none⟩ = some (.int .i64 t165) := hS_
                  refine norm_ (a' := ?_) ?_ ?_
                  rotate_left
                  · simp only [putAll, Act.put, List.setIfInBounds_toArray, List.set_cons_zero, List.set_cons_succ]
                    rfl
                  refine one_ (i := 6) (N := some 2) #[true, true, true, true, true, true, true, false] rfl rfl (one_of HT_.out (by kernel_rfl)) (by decide) (fun K hK => ?_)
                  refine box_step ?hg (N := 2) ?hd (cs := #[.int .i64 0, .int .i64 0, .bool false, .int .i64 0, .int .i64 0]) (t := 25) ?hr ?_; (case hd => rfl); (case hg => rfl); (case hr => first | (go_simp; done) | (go_simp; rfl))
                  intro gb188 hg w35 hbox hb
                  have n0_ := Aside0.mk (Kd.R_below (by (with_reducible repeat (first | apply Kd.R_alloc | apply Kd.R_drewN | apply Kd.R_drew)); exact HO160.out) hb)
                  have n1_ := Aside0.mk (Kd.R_below (by (with_reducible repeat (first | apply Kd.R_alloc | apply Kd.R_drewN | apply Kd.R_drew)); exact HO174.out) hb)
                  have n2_ := Aside0.mk (Kd.R_below (Kd.R_elderB (by (with_reducible repeat (first | apply Kd.R_alloc | apply Kd.R_drewN | apply Kd.R_drew)); exact HO182.out) gb188 (Nat.le_of_eq hg.symm)) hb)
                  have n3_ := Aside0.mk (blk_below (g := gb166) (o := .cells #[.int .i64 t161, .int .i64 t162, .bool t163, .int .i64 t164, .int .i64 t165] 25 (0, 0)) (by (with_reducible repeat (first | refine blk_drewN ?_ _ | refine blk_drew ?_ | refine blk_alloc ?_ _)); exact BK166.out) hb)
                  have n4_ := Aside0.mk (below_step (by repeat (first | (with_reducible first | exact HB.out | apply below_alloc | apply pw_below_drewN | apply below_drew1 | refine below_set ?_ GE166.out) | exact HB.out)) hb)
                  have n5_ := Aside0.mk (hbox)
                  have n6_ := Aside0.mk ((by rw [hg]; exact (below_size (by repeat (first | (with_reducible first | exact HB.out | apply below_alloc | apply pw_below_drewN | apply below_drew1 | refine below_set ?_ GE166.out) | exact HB.out))) : w.heap.size ≤ gb188))
                  have n7_ := Aside0.mk ((by rw [hg]; exact (below_size (by repeat (first | (with_reducible first | exact HB.out | apply below_alloc | apply pw_below_drewN | apply below_drew1 | refine below_set ?_ GE166.out) | exact HB.out))) : w.heap.size ≤ gb188))
                  have n8_ := Aside0.mk ((by rw [hg]; exact Nat.ne_of_lt (blk_lt (g := gb166) (o := .cells #[.int .i64 t161, .int .i64 t162, .bool t163, .int .i64 t164, .int .i64 t165] 25 (0, 0)) (by (with_reducible repeat (first | refine blk_drewN ?_ _ | refine blk_drew ?_ | refine blk_alloc ?_ _)); exact BK166.out)) : gb166 ≠ gb188))
                  have n9_ := Aside0.mk ((by rw [hg]; exact Nat.ne_of_gt (blk_lt (g := gb166) (o := .cells #[.int .i64 t161, .int .i64 t162, .bool t163, .int .i64 t164, .int .i64 t165] 25 (0, 0)) (by (with_reducible repeat (first | refine blk_drewN ?_ _ | refine blk_drew ?_ | refine blk_alloc ?_ _)); exact BK166.out)) : gb188 ≠ gb166))
                  clear HO160
                  clear HO174
                  clear HO182
                  clear BK166
                  clear HB
                  have HO160 := n0_
                  have HO174 := n1_
                  have HO182 := n2_
                  have BK166 := n3_
                  have HB := n4_
                  have BK188 := n5_
                  have GW188 := n6_
                  have GE188 := n7_
                  have NB166_188 := n8_
                  have NB188_166 := n9_
                  clear n0_ n1_ n2_ n3_ n4_ n5_ n6_ n7_ n8_ n9_
                  clear hb hbox hg
                  refine hK.out _ _ ⟨(blk_cell BK166.out 0).trans rfl, (blk_cell BK166.out 1).trans rfl, (blk_cell BK166.out 2).trans rfl, (blk_cell BK166.out 3).trans rfl, (blk_cell BK166.out 4).trans rfl⟩ (fun hHeld => ?_)
                  clear hK K
                  refine norm_ (a' := ?_) ?_ ?_
                  rotate_left
                  · show Act.put _ (some 2) _ = _
                    simp only [Act.put, List.setIfInBounds_toArray, List.set_cons_zero, List.set_cons_succ, i64_w, i32_w]
                    rfl
                  exact norm_ (by first | (simp only [putAll, Act.put, List.setIfInBounds_toArray, List.set_cons_zero, List.set_cons_succ]; done) | (simp only [putAll, Act.put, List.setIfInBounds_toArray, List.set_cons_zero, List.set_cons_succ]; rfl)) (hJ1_2_3_4_5_6 (v173, v181, gb188) _ ⟨hHeld, (by (with_reducible repeat (first | apply Kd.R_alloc | apply Kd.R_drewN | apply Kd.R_drew)); exact HO160.out), (by (with_reducible repeat (first | apply Kd.R_alloc | apply Kd.R_drewN | apply Kd.R_drew)); exact HO174.out), (by (with_reducible repeat (first | apply Kd.R_alloc | apply Kd.R_drewN | apply Kd.R_drew)); exact HO182.out), (by (with_reducible repeat (first | refine blk_drewN ?_ _ | refine blk_drew ?_ | refine blk_alloc ?_ _)); exact BK166.out), (by (with_reducible repeat (first | refine blk_drewN ?_ _ | refine blk_drew ?_ | refine blk_alloc ?_ _)); exact BK188.out), GW188.out, GE188.out, NB166_188.out, NB188_166.out, (by repeat (first | (with_reducible first | exact HB.out | apply below_alloc | apply pw_below_drewN | apply below_drew1 | refine below_set ?_ GE166.out | refine below_set ?_ GE188.out) | exact HB.out))⟩)
              rintro ⟨v173, v181, gb188⟩ w35 ⟨hS_, h0_, h1_, h2_, h3_, h4_, h5_, h6_, h7_, h8_, h9_⟩
              have n0_ : Aside0 (Kd.R (Kd.int .i64) 2 w35 w.heap.size (fun k_ => some k_ ≠ (v173 : Value).ownBlock) (.slice Ao19 y158.length co19) y158) := ⟨h0_⟩
              have n1_ : Aside0 (Kd.R (Kd.int .i64) 2 w35 w.heap.size (fun k_ => some k_ ≠ (.slice Ao19 y158.length co19 : Value).ownBlock) v173 y172) := ⟨h1_⟩
              have n2_ : Aside0 (Kd.R k25 25 w35 w.heap.size (fun k_ => k_ ≠ gb166 ∧ k_ ≠ gb188) v181 y180) := ⟨h2_⟩
              have n3_ : Aside0 (w35.heap[gb166]? = some (.cells #[.int .i64 t161, .int .i64 t162, .bool t163, .int .i64 t164, .int .i64 t165] 25 (0, 0))) := ⟨h3_⟩
              have n4_ : Aside0 (w35.heap[gb188]? = some (.cells #[.int .i64 0, .int .i64 0, .bool false, .int .i64 0, .int .i64 0] 25 (0, 0))) := ⟨h4_⟩
              have n5_ : Aside0 (w.heap.size ≤ gb188) := ⟨h5_⟩
              have n6_ : Aside0 (w.heap.size ≤ gb188) := ⟨h6_⟩
              have n7_ : Aside0 (gb166 ≠ gb188) := ⟨h7_⟩
              have n8_ : Aside0 (gb188 ≠ gb166) := ⟨h8_⟩
              have n9_ : Aside0 (Below w.heap.size w w35) := ⟨h9_⟩
              clear HO160
              clear BK166
              clear HB
              clear h0_ h1_ h2_ h3_ h4_ h5_ h6_ h7_ h8_ h9_
              have HO160 := n0_
              have HO174 := n1_
              have HO182 := n2_
              have BK166 := n3_
              have BK188 := n4_
              have GW188 := n5_
              have GE188 := n6_
              have NB166_188 := n7_
              have NB188_166 := n8_
              have HB := n9_
              clear n0_ n1_ n2_ n3_ n4_ n5_ n6_ n7_ n8_ n9_
              have hHeld : w35.cell? ⟨gb166, 0, none⟩ = some (.int .i64 t161) ∧ w35.cell? ⟨gb166, 1, none⟩ = some (.int .i64 t162) ∧ w35.cell? ⟨gb166, 2, none⟩ = some (.bool t163) ∧ w35.cell? ⟨gb166, 3, none⟩ = some (.int .i64 t164) ∧ w35.cell? ⟨gb166, 4, none⟩ = some (.int .i64 t165) := hS_
              refine norm_ (a' := ?_) ?_ ?_
              rotate_left
              · simp only [putAll, Act.put, List.setIfInBounds_toArray, List.set_cons_zero, List.set_cons_succ]
                rfl
              refine one_ (i := 7) (N := none) #[true, true, true, true, true, true, true, true] rfl rfl (one_of HT_.out (by kernel_rfl)) (by decide) (fun K hK => ?_)
              have hs36 : w35.cell? ⟨gb188, 0, none⟩ = some (.int .i64 0) := (blk_cell BK188.out 0).trans rfl
              have hfs36 := blk_frozen BK188.out 0
              have hns36_0 := NB166_188.out
              have hms36_0 := NB188_166.out
              have hs37 : w35.cell? ⟨gb188, 1, none⟩ = some (.int .i64 0) := (blk_cell BK188.out 1).trans rfl
              have hfs37 := blk_frozen BK188.out 1
              have hns37_0 := NB166_188.out
              have hms37_0 := NB188_166.out
              have hs38 : w35.cell? ⟨gb188, 2, none⟩ = some (.bool false) := (blk_cell BK188.out 2).trans rfl
              have hfs38 := blk_frozen BK188.out 2
              have hns38_0 := NB166_188.out
              have hms38_0 := NB188_166.out
              have hs39 : w35.cell? ⟨gb188, 3, none⟩ = some (.int .i64 0) := (blk_cell BK188.out 3).trans rfl
              have hfs39 := blk_frozen BK188.out 3
              have hns39_0 := NB166_188.out
              have hms39_0 := NB188_166.out
              have hs40 : w35.cell? ⟨gb188, 4, none⟩ = some (.int .i64 0) := (blk_cell BK188.out 4).trans rfl
              have hfs40 := blk_frozen BK188.out 4
              have hns40_0 := NB166_188.out
              have hms40_0 := NB188_166.out
              refine skip_ (w1 := ?_) (by rfl) rfl ?_ ?_
              rotate_left
              · go_simp
                rfl
              refine hK.out _ _ ⟨((cell_far (p := ⟨gb188, _, none⟩) NB166_188.out _).trans (((cell_far (p := ⟨gb188, _, none⟩) NB166_188.out _).trans (((cell_far (p := ⟨gb188, _, none⟩) NB166_188.out _).trans (((cell_far (p := ⟨gb188, _, none⟩) NB166_188.out _).trans (((cell_far (p := ⟨gb188, _, none⟩) NB166_188.out _).trans (hHeld.1)))))))))), ((cell_far (p := ⟨gb188, _, none⟩) NB166_188.out _).trans (((cell_far (p := ⟨gb188, _, none⟩) NB166_188.out _).trans (((cell_far (p := ⟨gb188, _, none⟩) NB166_188.out _).trans (((cell_far (p := ⟨gb188, _, none⟩) NB166_188.out _).trans (((cell_far (p := ⟨gb188, _, none⟩) NB166_188.out _).trans (hHeld.2.1)))))))))), ((cell_far (p := ⟨gb188, _, none⟩) NB166_188.out _).trans (((cell_far (p := ⟨gb188, _, none⟩) NB166_188.out _).trans (((cell_far (p := ⟨gb188, _, none⟩) NB166_188.out _).trans (((cell_far (p := ⟨gb188, _, none⟩) NB166_188.out _).trans (((cell_far (p := ⟨gb188, _, none⟩) NB166_188.out _).trans (hHeld.2.2.1)))))))))), ((cell_far (p := ⟨gb188, _, none⟩) NB166_188.out _).trans (((cell_far (p := ⟨gb188, _, none⟩) NB166_188.out _).trans (((cell_far (p := ⟨gb188, _, none⟩) NB166_188.out _).trans (((cell_far (p := ⟨gb188, _, none⟩) NB166_188.out _).trans (((cell_far (p := ⟨gb188, _, none⟩) NB166_188.out _).trans (hHeld.2.2.2.1)))))))))), ((cell_far (p := ⟨gb188, _, none⟩) NB166_188.out _).trans (((cell_far (p := ⟨gb188, _, none⟩) NB166_188.out _).trans (((cell_far (p := ⟨gb188, _, none⟩) NB166_188.out _).trans (((cell_far (p := ⟨gb188, _, none⟩) NB166_188.out _).trans (((cell_far (p := ⟨gb188, _, none⟩) NB166_188.out _).trans (hHeld.2.2.2.2))))))))))⟩ (fun hHeld => ?_)
              clear hK K
              refine done_ (done_of HT_.out (by kernel_rfl)) ?_
              have hnb41 := NB166_188.out
              have hnc41 := NB188_166.out
              have hcz42_0 : w35.cell? ⟨gb166, 0, none⟩ = some (.int .i64 t161) := (blk_cell BK166.out 0).trans rfl
              have hcz42_1 : w35.cell? ⟨gb166, 1, none⟩ = some (.int .i64 t162) := (blk_cell BK166.out 1).trans rfl
              have hcz42_2 : w35.cell? ⟨gb166, 2, none⟩ = some (.bool t163) := (blk_cell BK166.out 2).trans rfl
              have hcz42_3 : w35.cell? ⟨gb166, 3, none⟩ = some (.int .i64 t164) := (blk_cell BK166.out 3).trans rfl
              have hcz42_4 : w35.cell? ⟨gb166, 4, none⟩ = some (.int .i64 t165) := (blk_cell BK166.out 4).trans rfl
              have hfz42_0 := blk_frozen BK166.out 0
              have hfz42_1 := blk_frozen BK166.out 1
              have hfz42_2 := blk_frozen BK166.out 2
              have hfz42_3 := blk_frozen BK166.out 3
              have hfz42_4 := blk_frozen BK166.out 4
              have hcz43_0 : w35.cell? ⟨gb188, 0, none⟩ = some (.int .i64 0) := (blk_cell BK188.out 0).trans rfl
              have hcz43_1 : w35.cell? ⟨gb188, 1, none⟩ = some (.int .i64 0) := (blk_cell BK188.out 1).trans rfl
              have hcz43_2 : w35.cell? ⟨gb188, 2, none⟩ = some (.bool false) := (blk_cell BK188.out 2).trans rfl
              have hcz43_3 : w35.cell? ⟨gb188, 3, none⟩ = some (.int .i64 0) := (blk_cell BK188.out 3).trans rfl
              have hcz43_4 : w35.cell? ⟨gb188, 4, none⟩ = some (.int .i64 0) := (blk_cell BK188.out 4).trans rfl
              have hfz43_0 := blk_frozen BK188.out 0
              have hfz43_1 := blk_frozen BK188.out 1
              have hfz43_2 := blk_frozen BK188.out 2
              have hfz43_3 := blk_frozen BK188.out 3
              have hfz43_4 := blk_frozen BK188.out 4
              try go_wp2_with (first | (go_at_call 10; (with_reducible refine (cell_Value.calls t183 t184 t185 t186 t187 4 t189 t190 _ A7.out).mono ?_); rintro e w44 ⟨rfl, hb⟩; have n0_ := Aside0.mk (Kd.R_below (by (with_reducible repeat (first | apply Kd.R_alloc | apply Kd.R_drewN | apply Kd.R_drew)); exact (Kd.R_mono (Kd.R_far (p := ⟨gb188, 4, none⟩) (Kd.R_far (p := ⟨gb188, 3, none⟩) (Kd.R_far (p := ⟨gb188, 2, none⟩) (Kd.R_far (p := ⟨gb188, 1, none⟩) (Kd.R_far (p := ⟨gb188, 0, none⟩) (Kd.R_types HO160.out BK188.out (by decide)) (fun _ hk => hk.2) (.int .i64 t183)) (fun _ hk => hk.2) (.int .i64 t184)) (fun _ hk => hk.2) (.bool t185)) (fun _ hk => hk.2) (.int .i64 t186)) (fun _ hk => hk.2) (.int .i64 t187)) (fun _ h_ => h_.1))) hb); have n1_ := Aside0.mk (Kd.R_below (by (with_reducible repeat (first | apply Kd.R_alloc | apply Kd.R_drewN | apply Kd.R_drew)); exact (Kd.R_mono (Kd.R_far (p := ⟨gb188, 4, none⟩) (Kd.R_far (p := ⟨gb188, 3, none⟩) (Kd.R_far (p := ⟨gb188, 2, none⟩) (Kd.R_far (p := ⟨gb188, 1, none⟩) (Kd.R_far (p := ⟨gb188, 0, none⟩) (Kd.R_types HO174.out BK188.out (by decide)) (fun _ hk => hk.2) (.int .i64 t183)) (fun _ hk => hk.2) (.int .i64 t184)) (fun _ hk => hk.2) (.bool t185)) (fun _ hk => hk.2) (.int .i64 t186)) (fun _ hk => hk.2) (.int .i64 t187)) (fun _ h_ => h_.1))) hb); have n2_ := Aside0.mk (Kd.R_below (by (with_reducible repeat (first | apply Kd.R_alloc | apply Kd.R_drewN | apply Kd.R_drew)); exact (Kd.R_mono (Kd.R_far (p := ⟨gb188, 4, none⟩) (Kd.R_far (p := ⟨gb188, 3, none⟩) (Kd.R_far (p := ⟨gb188, 2, none⟩) (Kd.R_far (p := ⟨gb188, 1, none⟩) (Kd.R_far (p := ⟨gb188, 0, none⟩) (Kd.R_mono HO182.out (fun k_ hk => (⟨hk, hk.2⟩ : _ ∧ k_ ≠ gb188))) (fun _ hk => hk.2) (.int .i64 t183)) (fun _ hk => hk.2) (.int .i64 t184)) (fun _ hk => hk.2) (.bool t185)) (fun _ hk => hk.2) (.int .i64 t186)) (fun _ hk => hk.2) (.int .i64 t187)) (fun _ h_ => h_.1))) hb); have n3_ := Aside0.mk (blk_below (g := gb166) (o := .cells #[.int .i64 t161, .int .i64 t162, .bool t163, .int .i64 t164, .int .i64 t165] 25 (0, 0)) (by (with_reducible repeat (first | refine blk_drewN ?_ _ | refine blk_drew ?_ | refine blk_alloc ?_ _)); refine blk_far ?_ NB166_188.out _; (with_reducible repeat (first | refine blk_drewN ?_ _ | refine blk_drew ?_ | refine blk_alloc ?_ _)); refine blk_far ?_ NB166_188.out _; (with_reducible repeat (first | refine blk_drewN ?_ _ | refine blk_drew ?_ | refine blk_alloc ?_ _)); refine blk_far ?_ NB166_188.out _; (with_reducible repeat (first | refine blk_drewN ?_ _ | refine blk_drew ?_ | refine blk_alloc ?_ _)); refine blk_far ?_ NB166_188.out _; (with_reducible repeat (first | refine blk_drewN ?_ _ | refine blk_drew ?_ | refine blk_alloc ?_ _)); refine blk_far ?_ NB166_188.out _; (with_reducible repeat (first | refine blk_drewN ?_ _ | refine blk_drew ?_ | refine blk_alloc ?_ _)); exact BK166.out) hb); have n4_ := Aside0.mk (blk_below (g := gb188) (o := .cells #[.int .i64 t183, .int .i64 t184, .bool t185, .int .i64 t186, .int .i64 t187] 25 (0, 0)) (by (with_reducible repeat (first | refine blk_drewN ?_ _ | refine blk_drew ?_ | refine blk_alloc ?_ _)); refine blk_put (cs := #[.int .i64 t183, .int .i64 t184, .bool t185, .int .i64 t186, .int .i64 0]) ?_ 4 _ rfl; (with_reducible repeat (first | refine blk_drewN ?_ _ | refine blk_drew ?_ | refine blk_alloc ?_ _)); refine blk_put (cs := #[.int .i64 t183, .int .i64 t184, .bool t185, .int .i64 0, .int .i64 0]) ?_ 3 _ rfl; (with_reducible repeat (first | refine blk_drewN ?_ _ | refine blk_drew ?_ | refine blk_alloc ?_ _)); refine blk_put (cs := #[.int .i64 t183, .int .i64 t184, .bool false, .int .i64 0, .int .i64 0]) ?_ 2 _ rfl; (with_reducible repeat (first | refine blk_drewN ?_ _ | refine blk_drew ?_ | refine blk_alloc ?_ _)); refine blk_put (cs := #[.int .i64 t183, .int .i64 0, .bool false, .int .i64 0, .int .i64 0]) ?_ 1 _ rfl; (with_reducible repeat (first | refine blk_drewN ?_ _ | refine blk_drew ?_ | refine blk_alloc ?_ _)); refine blk_put (cs := #[.int .i64 0, .int .i64 0, .bool false, .int .i64 0, .int .i64 0]) ?_ 0 _ rfl; (with_reducible repeat (first | refine blk_drewN ?_ _ | refine blk_drew ?_ | refine blk_alloc ?_ _)); exact BK188.out) hb); have n5_ := Aside0.mk (below_step (by repeat (first | (with_reducible first | exact HB.out | apply below_alloc | apply pw_below_drewN | apply below_drew1 | refine below_set ?_ GE166.out | refine below_set ?_ GE188.out) | exact HB.out)) hb); clear HO160; clear HO174; clear HO182; clear BK166; clear BK188; clear HB; have HO160 := n0_; have HO174 := n1_; have HO182 := n2_; have BK166 := n3_; have BK188 := n4_; have HB := n5_; clear n0_ n1_ n2_ n3_ n4_ n5_; (try clear hb); (try clear hb2); (try clear hk); (try clear hi); have hcz45_0 : w44.cell? ⟨gb188, 0, none⟩ = some (.int .i64 t183) := (blk_cell BK188.out 0).trans rfl; have hcz45_1 : w44.cell? ⟨gb188, 1, none⟩ = some (.int .i64 t184) := (blk_cell BK188.out 1).trans rfl; have hcz45_2 : w44.cell? ⟨gb188, 2, none⟩ = some (.bool t185) := (blk_cell BK188.out 2).trans rfl; have hcz45_3 : w44.cell? ⟨gb188, 3, none⟩ = some (.int .i64 t186) := (blk_cell BK188.out 3).trans rfl; have hcz45_4 : w44.cell? ⟨gb188, 4, none⟩ = some (.int .i64 t187) := (blk_cell BK188.out 4).trans rfl; have hfz45_0 := blk_frozen BK188.out 0; have hfz45_1 := blk_frozen BK188.out 1; have hfz45_2 := blk_frozen BK188.out 2; have hfz45_3 := blk_frozen BK188.out 3; have hfz45_4 := blk_frozen BK188.out 4) | (go_at_call 10; (with_reducible refine (cell_Value.calls t183 t184 t185 t186 t187 9 t191 t192 _ A9.out).mono ?_); rintro e w46 ⟨rfl, hb⟩; have n0_ := Aside0.mk (Kd.R_below (by (with_reducible repeat (first | apply Kd.R_alloc | apply Kd.R_drewN | apply Kd.R_drew)); exact HO160.out) hb); have n1_ := Aside0.mk (Kd.R_below (by (with_reducible repeat (first | apply Kd.R_alloc | apply Kd.R_drewN | apply Kd.R_drew)); exact HO174.out) hb); have n2_ := Aside0.mk (Kd.R_below (by (with_reducible repeat (first | apply Kd.R_alloc | apply Kd.R_drewN | apply Kd.R_drew)); exact HO182.out) hb); have n3_ := Aside0.mk (blk_below (g := gb166) (o := .cells #[.int .i64 t161, .int .i64 t162, .bool t163, .int .i64 t164, .int .i64 t165] 25 (0, 0)) (by (with_reducible repeat (first | refine blk_drewN ?_ _ | refine blk_drew ?_ | refine blk_alloc ?_ _)); exact BK166.out) hb); have n4_ := Aside0.mk (blk_below (g := gb188) (o := .cells #[.int .i64 t183, .int .i64 t184, .bool t185, .int .i64 t186, .int .i64 t187] 25 (0, 0)) (by (with_reducible repeat (first | refine blk_drewN ?_ _ | refine blk_drew ?_ | refine blk_alloc ?_ _)); exact BK188.out) hb); have n5_ := Aside0.mk (below_step (by repeat (first | (with_reducible first | exact HB.out | apply below_alloc | apply pw_below_drewN | apply below_drew1 | refine below_set ?_ GE166.out | refine below_set ?_ GE188.out) | exact HB.out)) hb); clear HO160; clear HO174; clear HO182; clear BK166; clear BK188; clear HB; have HO160 := n0_; have HO174 := n1_; have HO182 := n2_; have BK166 := n3_; have BK188 := n4_; have HB := n5_; clear n0_ n1_ n2_ n3_ n4_ n5_; (try clear hb); (try clear hb2); (try clear hk); (try clear hi)) | (go_at_call 13; (refine (cell_Of.calls k _ _ ([] : List Int) t193 t194 t195 t196 t197 _ ?side1 ?side2 A11.out).mono ?_); (case side1 => exact Kd.C_nil _ _); (case side2 => exact Nat.le_refl _); rintro e w47 ⟨rfl, hb⟩; have n0_ := Aside0.mk (Kd.R_below (by (with_reducible repeat (first | apply Kd.R_alloc | apply Kd.R_drewN | apply Kd.R_drew)); exact HO160.out) hb); have n1_ := Aside0.mk (Kd.R_below (by (with_reducible repeat (first | apply Kd.R_alloc | apply Kd.R_drewN | apply Kd.R_drew)); exact HO174.out) hb); have n2_ := Aside0.mk (Kd.R_below (by (with_reducible repeat (first | apply Kd.R_alloc | apply Kd.R_drewN | apply Kd.R_drew)); exact HO182.out) hb); have n3_ := Aside0.mk (blk_below (g := gb166) (o := .cells #[.int .i64 t161, .int .i64 t162, .bool t163, .int .i64 t164, .int .i64 t165] 25 (0, 0)) (by (with_reducible repeat (first | refine blk_drewN ?_ _ | refine blk_drew ?_ | refine blk_alloc ?_ _)); exact BK166.out) hb); have n4_ := Aside0.mk (blk_below (g := gb188) (o := .cells #[.int .i64 t183, .int .i64 t184, .bool t185, .int .i64 t186, .int .i64 t187] 25 (0, 0)) (by (with_reducible repeat (first | refine blk_drewN ?_ _ | refine blk_drew ?_ | refine blk_alloc ?_ _)); exact BK188.out) hb); have n5_ := Aside0.mk (below_step (by repeat (first | (with_reducible first | exact HB.out | apply below_alloc | apply pw_below_drewN | apply below_drew1 | refine below_set ?_ GE166.out | refine below_set ?_ GE188.out) | exact HB.out)) hb); clear HO160; clear HO174; clear HO182; clear BK166; clear BK188; clear HB; have HO160 := n0_; have HO174 := n1_; have HO182 := n2_; have BK166 := n3_; have BK188 := n4_; have HB := n5_; clear n0_ n1_ n2_ n3_ n4_ n5_; (try clear hb); (try clear hb2); (try clear hk); (try clear hi)) | (go_at_call 12; (with_reducible refine (cell_Empty.calls t193 t194 t195 t196 t197 true _ A12.out).mono ?_); rintro e w48 ⟨rfl, hb⟩; have n0_ := Aside0.mk (Kd.R_below (by (with_reducible repeat (first | apply Kd.R_alloc | apply Kd.R_drewN | apply Kd.R_drew)); exact HO160.out) hb); have n1_ := Aside0.mk (Kd.R_below (by (with_reducible repeat (first | apply Kd.R_alloc | apply Kd.R_drewN | apply Kd.R_drew)); exact HO174.out) hb); have n2_ := Aside0.mk (Kd.R_below (by (with_reducible repeat (first | apply Kd.R_alloc | apply Kd.R_drewN | apply Kd.R_drew)); exact HO182.out) hb); have n3_ := Aside0.mk (blk_below (g := gb166) (o := .cells #[.int .i64 t161, .int .i64 t162, .bool t163, .int .i64 t164, .int .i64 t165] 25 (0, 0)) (by (with_reducible repeat (first | refine blk_drewN ?_ _ | refine blk_drew ?_ | refine blk_alloc ?_ _)); exact BK166.out) hb); have n4_ := Aside0.mk (blk_below (g := gb188) (o := .cells #[.int .i64 t183, .int .i64 t184, .bool t185, .int .i64 t186, .int .i64 t187] 25 (0, 0)) (by (with_reducible repeat (first | refine blk_drewN ?_ _ | refine blk_drew ?_ | refine blk_alloc ?_ _)); exact BK188.out) hb); have n5_ := Aside0.mk (below_step (by repeat (first | (with_reducible first | exact HB.out | apply below_alloc | apply pw_below_drewN | apply below_drew1 | refine below_set ?_ GE166.out | refine below_set ?_ GE188.out) | exact HB.out)) hb); clear HO160; clear HO174; clear HO182; clear BK166; clear BK188; clear HB; have HO160 := n0_; have HO174 := n1_; have HO182 := n2_; have BK166 := n3_; have BK188 := n4_; have HB := n5_; clear n0_ n1_ n2_ n3_ n4_ n5_; (try clear hb); (try clear hb2); (try clear hk); (try clear hi); have hcz49_0 : w48.cell? ⟨gb166, 0, none⟩ = some (.int .i64 t161) := (blk_cell BK166.out 0).trans rfl; have hcz49_1 : w48.cell? ⟨gb166, 1, none⟩ = some (.int .i64 t162) := (blk_cell BK166.out 1).trans rfl; have hcz49_2 : w48.cell? ⟨gb166, 2, none⟩ = some (.bool t163) := (blk_cell BK166.out 2).trans rfl; have hcz49_3 : w48.cell? ⟨gb166, 3, none⟩ = some (.int .i64 t164) := (blk_cell BK166.out 3).trans rfl; have hcz49_4 : w48.cell? ⟨gb166, 4, none⟩ = some (.int .i64 t165) := (blk_cell BK166.out 4).trans rfl; have hfz49_0 := blk_frozen BK166.out 0; have hfz49_1 := blk_frozen BK166.out 1; have hfz49_2 := blk_frozen BK166.out 2; have hfz49_3 := blk_frozen BK166.out 3; have hfz49_4 := blk_frozen BK166.out 4) | (go_at_call 12; (with_reducible refine (cell_Empty.calls t161 t162 t163 t164 t165 false _ A14.out).mono ?_); rintro e w50 ⟨rfl, hb⟩; have n0_ := Aside0.mk (Kd.R_below (by (with_reducible repeat (first | apply Kd.R_alloc | apply Kd.R_drewN | apply Kd.R_drew)); exact HO160.out) hb); have n1_ := Aside0.mk (Kd.R_below (by (with_reducible repeat (first | apply Kd.R_alloc | apply Kd.R_drewN | apply Kd.R_drew)); exact HO174.out) hb); have n2_ := Aside0.mk (Kd.R_below (by (with_reducible repeat (first | apply Kd.R_alloc | apply Kd.R_drewN | apply Kd.R_drew)); exact HO182.out) hb); have n3_ := Aside0.mk (blk_below (g := gb166) (o := .cells #[.int .i64 t161, .int .i64 t162, .bool t163, .int .i64 t164, .int .i64 t165] 25 (0, 0)) (by (with_reducible repeat (first | refine blk_drewN ?_ _ | refine blk_drew ?_ | refine blk_alloc ?_ _)); exact BK166.out) hb); have n4_ := Aside0.mk (blk_below (g := gb188) (o := .cells #[.int .i64 t183, .int .i64 t184, .bool t185, .int .i64 t186, .int .i64 t187] 25 (0, 0)) (by (with_reducible repeat (first | refine blk_drewN ?_ _ | refine blk_drew ?_ | refine blk_alloc ?_ _)); exact BK188.out) hb); have n5_ := Aside0.mk (below_step (by repeat (first | (with_reducible first | exact HB.out | apply below_alloc | apply pw_below_drewN | apply below_drew1 | refine below_set ?_ GE166.out | refine below_set ?_ GE188.out) | exact HB.out)) hb); clear HO160; clear HO174; clear HO182; clear BK166; clear BK188; clear HB; have HO160 := n0_; have HO174 := n1_; have HO182 := n2_; have BK166 := n3_; have BK188 := n4_; have HB := n5_; clear n0_ n1_ n2_ n3_ n4_ n5_; (try clear hb); (try clear hb2); (try clear hk); (try clear hi); have hcz51_0 : w50.cell? ⟨gb166, 0, none⟩ = some (.int .i64 t161) := (blk_cell BK166.out 0).trans rfl; have hcz51_1 : w50.cell? ⟨gb166, 1, none⟩ = some (.int .i64 t162) := (blk_cell BK166.out 1).trans rfl; have hcz51_2 : w50.cell? ⟨gb166, 2, none⟩ = some (.bool t163) := (blk_cell BK166.out 2).trans rfl; have hcz51_3 : w50.cell? ⟨gb166, 3, none⟩ = some (.int .i64 t164) := (blk_cell BK166.out 3).trans rfl; have hcz51_4 : w50.cell? ⟨gb166, 4, none⟩ = some (.int .i64 t165) := (blk_cell BK166.out 4).trans rfl; have hfz51_0 := blk_frozen BK166.out 0; have hfz51_1 := blk_frozen BK166.out 1; have hfz51_2 := blk_frozen BK166.out 2; have hfz51_3 := blk_frozen BK166.out 3; have hfz51_4 := blk_frozen BK166.out 4) | (go_at_call 8; (with_reducible refine (cell_Fold.calls k t161 t162 t163 t164 t165 5 t200 t201 t202 t203 t204 _ A16.out).mono ?_); rintro e w52 ⟨rfl, hb⟩; have n0_ := Aside0.mk (Kd.R_below (by (with_reducible repeat (first | apply Kd.R_alloc | apply Kd.R_drewN | apply Kd.R_drew)); exact HO160.out) hb); have n1_ := Aside0.mk (Kd.R_below (by (with_reducible repeat (first | apply Kd.R_alloc | apply Kd.R_drewN | apply Kd.R_drew)); exact HO174.out) hb); have n2_ := Aside0.mk (Kd.R_below (by (with_reducible repeat (first | apply Kd.R_alloc | apply Kd.R_drewN | apply Kd.R_drew)); exact HO182.out) hb); have n3_ := Aside0.mk (blk_below (g := gb166) (o := .cells #[.int .i64 t161, .int .i64 t162, .bool t163, .int .i64 t164, .int .i64 t165] 25 (0, 0)) (by (with_reducible repeat (first | refine blk_drewN ?_ _ | refine blk_drew ?_ | refine blk_alloc ?_ _)); exact BK166.out) hb); have n4_ := Aside0.mk (blk_below (g := gb188) (o := .cells #[.int .i64 t183, .int .i64 t184, .bool t185, .int .i64 t186, .int .i64 t187] 25 (0, 0)) (by (with_reducible repeat (first | refine blk_drewN ?_ _ | refine blk_drew ?_ | refine blk_alloc ?_ _)); exact BK188.out) hb); have n5_ := Aside0.mk (below_step (by repeat (first | (with_reducible first | exact HB.out | apply below_alloc | apply pw_below_drewN | apply below_drew1 | refine below_set ?_ GE166.out | refine below_set ?_ GE188.out) | exact HB.out)) hb); clear HO160; clear HO174; clear HO182; clear BK166; clear BK188; clear HB; have HO160 := n0_; have HO174 := n1_; have HO182 := n2_; have BK166 := n3_; have BK188 := n4_; have HB := n5_; clear n0_ n1_ n2_ n3_ n4_ n5_; (try clear hb); (try clear hb2); (try clear hk); (try clear hi)))
              go_ret
              exact ⟨by first | rfl | (simp [errW_none, errW_some] <;> rfl) | (simp [*, errW_none, errW_some] <;> rfl), by repeat (first | (with_reducible first | exact HB.out | apply below_alloc | apply pw_below_drewN | apply below_drew1 | refine below_set ?_ GE166.out | refine below_set ?_ GE188.out) | exact HB.out)⟩
          · replace c13 := Bool.eq_false_iff.mpr c13
            subst c13
            have H1 : (none) = some r := by rw [if_neg (show ¬ (false = true) by decide)] at H; exact H
            clear H
            have H := H1
            clear H1
            exact absurd H (by simp)
        · rw [if_neg c10] at H
          exact absurd H (by simp)
      · rw [if_neg c8] at H
        exact absurd H (by simp)
    · rw [if_neg c6] at H
      exact absurd H (by simp)
  · rw [if_neg c5] at H
    exact absurd H (by simp)

end Go.Proofs.Ytjomifbbhjnnjaa.X
