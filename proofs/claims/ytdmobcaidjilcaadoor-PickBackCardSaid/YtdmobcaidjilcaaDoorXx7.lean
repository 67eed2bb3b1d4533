/- Printed by a program of this session's own: what functions of the program compute, and that the machine computes it. -/
import Derived.Test.YtdmobcaidjilcaaDoorXx0
import Derived.Test.YtdmobcaidjilcaaDoorXx1
import Derived.Test.YtdmobcaidjilcaaDoorXx3
import Derived.Test.YtdmobcaidjilcaaDoorXx4
import Derived.Test.YtdmobcaidjilcaaDoorXx6
namespace Go.Proofs.YtdmobcaidjilcaaDoor.X
open Go.RowKit Go.Proofs.YtdmobcaidjilcaaDoorW.PrintWords Go.Proofs.YtdmobcaidjilcaaDoorW.PrintLast Go.Proofs.YtdmobcaidjilcaaDoorW.PrintMore
attribute [local go_sem] max2_int min2_int max_two min_two max_three min_three max_four min_four   -- for this text's walks alone
set_option linter.unusedVariables false
set_option linter.unusedSimpArgs false

attribute [local go_sem high] eqA39
/-! ### ebbtidelaw05_alive: function 8 -/
def ebbtidelaw05_alive.f (k : Nat)  : Option (Bool) := (pick_Parse.f k (⟨#[97, 61, 49, 44, 98, 33, 61, 50, 44, 99, 61, 120, 42, 44, 100]⟩ : ByteArray)).bind fun bt177 => ((pick_Parse.f k (⟨#[97, 61]⟩ : ByteArray)).bind fun bt181 => ((some (([(⟨(⟨#[97]⟩ : ByteArray), (⟨#[49]⟩ : ByteArray)⟩ : S37), (⟨(⟨#[99]⟩ : ByteArray), (⟨#[120, 121]⟩ : ByteArray)⟩ : S37), (⟨(⟨#[100]⟩ : ByteArray), (⟨#[48]⟩ : ByteArray)⟩ : S37)] : List (S37)) : List (S37))).bind fun y185 => (if bt177.2 = 0 then (if bt181.2 = 2 then (if (bt177.1.length : Int) = 4 then (if 1 < (bt177.1.length : Int) then (if (((rd_T39 bt177.1 1).f0) == 2 && ((((rd_T39 bt177.1 1).f1).toList) == ([98] : List UInt8) && ((((rd_T39 bt177.1 1).f2).toList) == ([50] : List UInt8)))) = true then (if 2 < (bt177.1.length : Int) then (if ((rd_T39 bt177.1 2).f0) = 3 then ((pick_Text.f k bt177.1).bind fun t190 => (if t190.toList = ([97, 61, 49, 44, 98, 33, 61, 50, 44, 99, 61, 120, 42, 44, 100] : List UInt8) then ((pick_Right.f k bt177.1).bind fun t191 => (if t191 = true then ((pick_Fits.f k y185 bt177.1).bind fun t192 => (if t192 = true then (if 1 ≤ (y185.length : Int) then ((pick_Fits.f k (y185.drop 1) bt177.1).bind fun t197 => (if t197 = true then (none) else ((pick_Fits.f k ([] : List (S37)) ([] : List (S39))).bind fun t198 => (if t198 = true then ((pick_Same.f k bt177.1 bt177.1).bind fun t199 => (if t199 = true then ((pick_Same.f k bt177.1 ([] : List (S39))).bind fun t200 => (some (!t200))) else (none))) else (none))))) else (none)) else (none))) else (none))) else (none))) else (none)) else (none)) else (none)) else (none)) else (none)) else (none)) else (none))))
theorem ebbtidelaw05_alive.mono : ∀ k, LeO (ebbtidelaw05_alive.f k ) (ebbtidelaw05_alive.f (k + 1) ) := by
  intro  k
  unfold ebbtidelaw05_alive.f
  repeat' first
      | (with_reducible exact pick_Fits.mono _ _ _)
      | (with_reducible exact pick_Parse.mono _ _)
      | (with_reducible exact pick_Right.mono _ _)
      | (with_reducible exact pick_Same.mono _ _ _)
      | (with_reducible exact pick_Text.mono _ _)
      | (with_reducible exact LeO.refl _)
      | (with_reducible exact LeO.none _)
      | (with_reducible refine LeO.ite ?_ ?_)
      | (with_reducible refine LeO.bind ?_ (fun _ => ?_))
      | exact pick_Fits.mono _ _ _
      | exact pick_Parse.mono _ _
      | exact pick_Right.mono _ _
      | exact pick_Same.mono _ _ _
      | exact pick_Text.mono _ _
      | exact LeO.none _
      | refine LeO.ite ?_ ?_
      | refine LeO.bind ?_ (fun _ => ?_)
set_option maxHeartbeats 8000000 in
set_option maxRecDepth 100000 in
theorem ebbtidelaw05_alive.calls (k : Nat)  (r : Bool) (w : World) (hL : LD w) (h : ebbtidelaw05_alive.f k  = some r) :
    Calls Tryd.prog 8 #[] w fun e w' => e = .returned (.bool r) ∧ Below w.heap.size w w' := by
  have HL0 := Aside0.mk hL
  clear hL
  have hu37 := Tryd.underlying37
  have hu39 := Tryd.underlying39
  have HB := Aside0.mk (Below.refl w.heap.size w)
  have H : ((pick_Parse.f k (⟨#[97, 61, 49, 44, 98, 33, 61, 50, 44, 99, 61, 120, 42, 44, 100]⟩ : ByteArray)).bind fun bt177 => ((pick_Parse.f k (⟨#[97, 61]⟩ : ByteArray)).bind fun bt181 => ((some (([(⟨(⟨#[97]⟩ : ByteArray), (⟨#[49]⟩ : ByteArray)⟩ : S37), (⟨(⟨#[99]⟩ : ByteArray), (⟨#[120, 121]⟩ : ByteArray)⟩ : S37), (⟨(⟨#[100]⟩ : ByteArray), (⟨#[48]⟩ : ByteArray)⟩ : S37)] : List (S37)) : List (S37))).bind fun y185 => (if bt177.2 = 0 then (if bt181.2 = 2 then (if (bt177.1.length : Int) = 4 then (if 1 < (bt177.1.length : Int) then (if (((rd_T39 bt177.1 1).f0) == 2 && ((((rd_T39 bt177.1 1).f1).toList) == ([98] : List UInt8) && ((((rd_T39 bt177.1 1).f2).toList) == ([50] : List UInt8)))) = true then (if 2 < (bt177.1.length : Int) then (if ((rd_T39 bt177.1 2).f0) = 3 then ((pick_Text.f k bt177.1).bind fun t190 => (if t190.toList = ([97, 61, 49, 44, 98, 33, 61, 50, 44, 99, 61, 120, 42, 44, 100] : List UInt8) then ((pick_Right.f k bt177.1).bind fun t191 => (if t191 = true then ((pick_Fits.f k y185 bt177.1).bind fun t192 => (if t192 = true then (if 1 ≤ (y185.length : Int) then ((pick_Fits.f k (y185.drop 1) bt177.1).bind fun t197 => (if t197 = true then (none) else ((pick_Fits.f k ([] : List (S37)) ([] : List (S39))).bind fun t198 => (if t198 = true then ((pick_Same.f k bt177.1 bt177.1).bind fun t199 => (if t199 = true then ((pick_Same.f k bt177.1 ([] : List (S39))).bind fun t200 => (some (!t200))) else (none))) else (none))))) else (none)) else (none))) else (none))) else (none))) else (none)) else (none)) else (none)) else (none)) else (none)) else (none)) else (none))))) = some r := h
  clear h
  replace H := Option.bind_eq_some_iff.mp H
  obtain ⟨⟨t177, t178⟩, A10, H⟩ := H
  replace H : ((pick_Parse.f k (⟨#[97, 61]⟩ : ByteArray)).bind fun bt181 => ((some (([(⟨(⟨#[97]⟩ : ByteArray), (⟨#[49]⟩ : ByteArray)⟩ : S37), (⟨(⟨#[99]⟩ : ByteArray), (⟨#[120, 121]⟩ : ByteArray)⟩ : S37), (⟨(⟨#[100]⟩ : ByteArray), (⟨#[48]⟩ : ByteArray)⟩ : S37)] : List (S37)) : List (S37))).bind fun y185 => (if t178 = 0 then (if bt181.2 = 2 then (if (t177.length : Int) = 4 then (if 1 < (t177.length : Int) then (if (((rd_T39 t177 1).f0) == 2 && ((((rd_T39 t177 1).f1).toList) == ([98] : List UInt8) && ((((rd_T39 t177 1).f2).toList) == ([50] : List UInt8)))) = true then (if 2 < (t177.length : Int) then (if ((rd_T39 t177 2).f0) = 3 then ((pick_Text.f k t177).bind fun t190 => (if t190.toList = ([97, 61, 49, 44, 98, 33, 61, 50, 44, 99, 61, 120, 42, 44, 100] : List UInt8) then ((pick_Right.f k t177).bind fun t191 => (if t191 = true then ((pick_Fits.f k y185 t177).bind fun t192 => (if t192 = true then (if 1 ≤ (y185.length : Int) then ((pick_Fits.f k (y185.drop 1) t177).bind fun t197 => (if t197 = true then (none) else ((pick_Fits.f k ([] : List (S37)) ([] : List (S39))).bind fun t198 => (if t198 = true then ((pick_Same.f k t177 t177).bind fun t199 => (if t199 = true then ((pick_Same.f k t177 ([] : List (S39))).bind fun t200 => (some (!t200))) else (none))) else (none))))) else (none)) else (none))) else (none))) else (none))) else (none)) else (none)) else (none)) else (none)) else (none)) else (none)) else (none)))) = some r := H
  have A1 := Aside0.mk A10
  clear A10
  replace H := Option.bind_eq_some_iff.mp H
  obtain ⟨⟨t181, t182⟩, A20, H⟩ := H
  replace H : ((some (([(⟨(⟨#[97]⟩ : ByteArray), (⟨#[49]⟩ : ByteArray)⟩ : S37), (⟨(⟨#[99]⟩ : ByteArray), (⟨#[120, 121]⟩ : ByteArray)⟩ : S37), (⟨(⟨#[100]⟩ : ByteArray), (⟨#[48]⟩ : ByteArray)⟩ : S37)] : List (S37)) : List (S37))).bind fun y185 => (if t178 = 0 then (if t182 = 2 then (if (t177.length : Int) = 4 then (if 1 < (t177.length : Int) then (if (((rd_T39 t177 1).f0) == 2 && ((((rd_T39 t177 1).f1).toList) == ([98] : List UInt8) && ((((rd_T39 t177 1).f2).toList) == ([50] : List UInt8)))) = true then (if 2 < (t177.length : Int) then (if ((rd_T39 t177 2).f0) = 3 then ((pick_Text.f k t177).bind fun t190 => (if t190.toList = ([97, 61, 49, 44, 98, 33, 61, 50, 44, 99, 61, 120, 42, 44, 100] : List UInt8) then ((pick_Right.f k t177).bind fun t191 => (if t191 = true then ((pick_Fits.f k y185 t177).bind fun t192 => (if t192 = true then (if 1 ≤ (y185.length : Int) then ((pick_Fits.f k (y185.drop 1) t177).bind fun t197 => (if t197 = true then (none) else ((pick_Fits.f k ([] : List (S37)) ([] : List (S39))).bind fun t198 => (if t198 = true then ((pick_Same.f k t177 t177).bind fun t199 => (if t199 = true then ((pick_Same.f k t177 ([] : List (S39))).bind fun t200 => (some (!t200))) else (none))) else (none))))) else (none)) else (none))) else (none))) else (none))) else (none)) else (none)) else (none)) else (none)) else (none)) else (none)) else (none))) = some r := H
  have A2 := Aside0.mk A20
  clear A20
  obtain ⟨y185, hy185⟩ : ∃ y_ : List (S37), y_ = (([(⟨(⟨#[97]⟩ : ByteArray), (⟨#[49]⟩ : ByteArray)⟩ : S37), (⟨(⟨#[99]⟩ : ByteArray), (⟨#[120, 121]⟩ : ByteArray)⟩ : S37), (⟨(⟨#[100]⟩ : ByteArray), (⟨#[48]⟩ : ByteArray)⟩ : S37)] : List (S37))) := ⟨_, rfl⟩
  replace H : (if t178 = 0 then (if t182 = 2 then (if (t177.length : Int) = 4 then (if 1 < (t177.length : Int) then (if (((rd_T39 t177 1).f0) == 2 && ((((rd_T39 t177 1).f1).toList) == ([98] : List UInt8) && ((((rd_T39 t177 1).f2).toList) == ([50] : List UInt8)))) = true then (if 2 < (t177.length : Int) then (if ((rd_T39 t177 2).f0) = 3 then ((pick_Text.f k t177).bind fun t190 => (if t190.toList = ([97, 61, 49, 44, 98, 33, 61, 50, 44, 99, 61, 120, 42, 44, 100] : List UInt8) then ((pick_Right.f k t177).bind fun t191 => (if t191 = true then ((pick_Fits.f k y185 t177).bind fun t192 => (if t192 = true then (if 1 ≤ (y185.length : Int) then ((pick_Fits.f k (y185.drop 1) t177).bind fun t197 => (if t197 = true then (none) else ((pick_Fits.f k ([] : List (S37)) ([] : List (S39))).bind fun t198 => (if t198 = true then ((pick_Same.f k t177 t177).bind fun t199 => (if t199 = true then ((pick_Same.f k t177 ([] : List (S39))).bind fun t200 => (some (!t200))) else (none))) else (none))))) else (none)) else (none))) else (none))) else (none))) else (none)) else (none)) else (none)) else (none)) else (none)) else (none)) else (none)) = some r := by first | (rw [hy185]; with_reducible exact H) | (have H2_ := (Option.bind_some _ _).symm.trans H; rw [hy185]; with_reducible exact H2_) | (have H2_ := (Option.bind_some _ _).symm.trans H; with_reducible exact H2_) | with_reducible exact H | (rw [hy185]; exact H) | exact H
  have Ny185 := Aside0.mk hy185
  clear hy185
  by_cases c3 : t178 = 0
  · rw [if_pos c3] at H
    have c3b0 : (t178 == 0) = true := beq_iff_eq.mpr c3
    have c3b1 : (t178 != 0) = false := bne_eq_false_iff_eq.mpr c3
    clear c3
    by_cases c4 : t182 = 2
    · rw [if_pos c4] at H
      have c4b0 : (t182 == 2) = true := beq_iff_eq.mpr c4
      have c4b1 : (t182 != 2) = false := bne_eq_false_iff_eq.mpr c4
      clear c4
      by_cases c5 : (t177.length : Int) = 4
      · rw [if_pos c5] at H
        have c5b0 : ((t177.length : Int) == 4) = true := beq_iff_eq.mpr c5
        have c5b1 : ((t177.length : Int) != 4) = false := bne_eq_false_iff_eq.mpr c5
        clear c5
        by_cases c6 : 1 < (t177.length : Int)
        · rw [if_pos c6] at H
          have c6b0 : decide (1 < (t177.length : Int)) = true := decide_eq_true c6
          have c6b1 : decide (1 < t177.length) = true := decide_eq_true (by omega)
          clear c6
          by_cases c7 : (((rd_T39 t177 1).f0) == 2 && ((((rd_T39 t177 1).f1).toList) == ([98] : List UInt8) && ((((rd_T39 t177 1).f2).toList) == ([50] : List UInt8)))) = true
          · rw [if_pos c7] at H
            have c7b0 : (((rd_T39 t177 1).f0) == 2 && ((((rd_T39 t177 1).f1).toList) == ([98] : List UInt8) && ((((rd_T39 t177 1).f2).toList) == ([50] : List UInt8)))) = true := c7
            (try (have c7b1 : decide (((rd_T39 t177 1).f0) = 2 && ((((rd_T39 t177 1).f1).toList) == ([98] : List UInt8) && ((((rd_T39 t177 1).f2).toList) == ([50] : List UInt8)))) = true := by simpa using c7))
            (try (have c7b2 : (((rd_T39 t177 1).f0) == 2 && ((((rd_T39 t177 1).f1).toList) == ([98] : List UInt8) && ((((rd_T39 t177 1).f2).toList) == ([50] : List UInt8)))) = true := by simpa using c7))
            clear c7
            by_cases c8 : 2 < (t177.length : Int)
            · rw [if_pos c8] at H
              have c8b0 : decide (2 < (t177.length : Int)) = true := decide_eq_true c8
              have c8b1 : decide (2 < t177.length) = true := decide_eq_true (by omega)
              clear c8
              by_cases c9 : ((rd_T39 t177 2).f0) = 3
              · rw [if_pos c9] at H
                have c9b0 : (((rd_T39 t177 2).f0) == 3) = true := beq_iff_eq.mpr c9
                have c9b1 : (((rd_T39 t177 2).f0) != 3) = false := bne_eq_false_iff_eq.mpr c9
                clear c9
                replace H := Option.bind_eq_some_iff.mp H
                obtain ⟨t190, A100, H⟩ := H
                replace H : (if t190.toList = ([97, 61, 49, 44, 98, 33, 61, 50, 44, 99, 61, 120, 42, 44, 100] : List UInt8) then ((pick_Right.f k t177).bind fun t191 => (if t191 = true then ((pick_Fits.f k y185 t177).bind fun t192 => (if t192 = true then (if 1 ≤ (y185.length : Int) then ((pick_Fits.f k (y185.drop 1) t177).bind fun t197 => (if t197 = true then (none) else ((pick_Fits.f k ([] : List (S37)) ([] : List (S39))).bind fun t198 => (if t198 = true then ((pick_Same.f k t177 t177).bind fun t199 => (if t199 = true then ((pick_Same.f k t177 ([] : List (S39))).bind fun t200 => (some (!t200))) else (none))) else (none))))) else (none)) else (none))) else (none))) else (none)) = some r := H
                have A10 := Aside0.mk A100
                clear A100
                by_cases c11 : t190.toList = ([97, 61, 49, 44, 98, 33, 61, 50, 44, 99, 61, 120, 42, 44, 100] : List UInt8)
                · rw [if_pos c11] at H
                  have c11b0 : (t190.toList == ([97, 61, 49, 44, 98, 33, 61, 50, 44, 99, 61, 120, 42, 44, 100] : List UInt8)) = true := beq_iff_eq.mpr c11
                  have c11b1 : (t190.toList != ([97, 61, 49, 44, 98, 33, 61, 50, 44, 99, 61, 120, 42, 44, 100] : List UInt8)) = false := bne_eq_false_iff_eq.mpr c11
                  clear c11
                  replace H := Option.bind_eq_some_iff.mp H
                  obtain ⟨t191, A120, H⟩ := H
                  replace H : (if t191 = true then ((pick_Fits.f k y185 t177).bind fun t192 => (if t192 = true then (if 1 ≤ (y185.length : Int) then ((pick_Fits.f k (y185.drop 1) t177).bind fun t197 => (if t197 = true then (none) else ((pick_Fits.f k ([] : List (S37)) ([] : List (S39))).bind fun t198 => (if t198 = true then ((pick_Same.f k t177 t177).bind fun t199 => (if t199 = true then ((pick_Same.f k t177 ([] : List (S39))).bind fun t200 => (some (!t200))) else (none))) else (none))))) else (none)) else (none))) else (none)) = some r := H
                  have A12 := Aside0.mk A120
                  clear A120
                  by_cases c13 : t191 = true
                  · subst c13
                    have H1 : ((pick_Fits.f k y185 t177).bind fun t192 => (if t192 = true then (if 1 ≤ (y185.length : Int) then ((pick_Fits.f k (y185.drop 1) t177).bind fun t197 => (if t197 = true then (none) else ((pick_Fits.f k ([] : List (S37)) ([] : List (S39))).bind fun t198 => (if t198 = true then ((pick_Same.f k t177 t177).bind fun t199 => (if t199 = true then ((pick_Same.f k t177 ([] : List (S39))).bind fun t200 => (some (!t200))) else (none))) else (none))))) else (none)) else (none))) = some r := by rw [if_pos rfl] at H; exact H
                    clear H
                    have H := H1
                    clear H1
                    replace H := Option.bind_eq_some_iff.mp H
                    obtain ⟨t192, A140, H⟩ := H
                    replace H : (if t192 = true then (if 1 ≤ (y185.length : Int) then ((pick_Fits.f k (y185.drop 1) t177).bind fun t197 => (if t197 = true then (none) else ((pick_Fits.f k ([] : List (S37)) ([] : List (S39))).bind fun t198 => (if t198 = true then ((pick_Same.f k t177 t177).bind fun t199 => (if t199 = true then ((pick_Same.f k t177 ([] : List (S39))).bind fun t200 => (some (!t200))) else (none))) else (none))))) else (none)) else (none)) = some r := H
                    have A14 := Aside0.mk A140
                    clear A140
                    by_cases c15 : t192 = true
                    · subst c15
                      have H1 : (if 1 ≤ (y185.length : Int) then ((pick_Fits.f k (y185.drop 1) t177).bind fun t197 => (if t197 = true then (none) else ((pick_Fits.f k ([] : List (S37)) ([] : List (S39))).bind fun t198 => (if t198 = true then ((pick_Same.f k t177 t177).bind fun t199 => (if t199 = true then ((pick_Same.f k t177 ([] : List (S39))).bind fun t200 => (some (!t200))) else (none))) else (none))))) else (none)) = some r := by rw [if_pos rfl] at H; exact H
                      clear H
                      have H := H1
                      clear H1
                      by_cases c16 : 1 ≤ (y185.length : Int)
                      · rw [if_pos c16] at H
                        have c16b0 := eq_true c16
                        have c16b1 : decide (1 ≤ (y185.length : Int)) = true := decide_eq_true c16
                        clear c16
                        obtain ⟨y193, hy193⟩ : ∃ y_ : List (S37), y_ = (y185.drop 1) := ⟨_, rfl⟩
                        replace H : ((pick_Fits.f k y193 t177).bind fun t197 => (if t197 = true then (none) else ((pick_Fits.f k ([] : List (S37)) ([] : List (S39))).bind fun t198 => (if t198 = true then ((pick_Same.f k t177 t177).bind fun t199 => (if t199 = true then ((pick_Same.f k t177 ([] : List (S39))).bind fun t200 => (some (!t200))) else (none))) else (none))))) = some r := by first | (rw [hy193]; with_reducible exact H) | (have H2_ := (Option.bind_some _ _).symm.trans H; rw [hy193]; with_reducible exact H2_) | (have H2_ := (Option.bind_some _ _).symm.trans H; with_reducible exact H2_) | with_reducible exact H | (rw [hy193]; exact H) | exact H
                        have Ny193 := Aside0.mk hy193
                        clear hy193
                        replace H := Option.bind_eq_some_iff.mp H
                        obtain ⟨t197, A170, H⟩ := H
                        replace H : (if t197 = true then (none) else ((pick_Fits.f k ([] : List (S37)) ([] : List (S39))).bind fun t198 => (if t198 = true then ((pick_Same.f k t177 t177).bind fun t199 => (if t199 = true then ((pick_Same.f k t177 ([] : List (S39))).bind fun t200 => (some (!t200))) else (none))) else (none)))) = some r := H
                        have A17 := Aside0.mk A170
                        clear A170
                        by_cases c18 : t197 = true
                        · subst c18
                          have H1 : (none) = some r := by rw [if_pos rfl] at H; exact H
                          clear H
                          have H := H1
                          clear H1
                          exact absurd H (by simp)
                        · replace c18 := Bool.eq_false_iff.mpr c18
                          subst c18
                          have H1 : ((pick_Fits.f k ([] : List (S37)) ([] : List (S39))).bind fun t198 => (if t198 = true then ((pick_Same.f k t177 t177).bind fun t199 => (if t199 = true then ((pick_Same.f k t177 ([] : List (S39))).bind fun t200 => (some (!t200))) else (none))) else (none))) = some r := by rw [if_neg (show ¬ (false = true) by decide)] at H; exact H
                          clear H
                          have H := H1
                          clear H1
                          replace H := Option.bind_eq_some_iff.mp H
                          obtain ⟨t198, A190, H⟩ := H
                          replace H : (if t198 = true then ((pick_Same.f k t177 t177).bind fun t199 => (if t199 = true then ((pick_Same.f k t177 ([] : List (S39))).bind fun t200 => (some (!t200))) else (none))) else (none)) = some r := H
                          have A19 := Aside0.mk A190
                          clear A190
                          by_cases c20 : t198 = true
                          · subst c20
                            have H1 : ((pick_Same.f k t177 t177).bind fun t199 => (if t199 = true then ((pick_Same.f k t177 ([] : List (S39))).bind fun t200 => (some (!t200))) else (none))) = some r := by rw [if_pos rfl] at H; exact H
                            clear H
                            have H := H1
                            clear H1
                            replace H := Option.bind_eq_some_iff.mp H
                            obtain ⟨t199, A210, H⟩ := H
                            replace H : (if t199 = true then ((pick_Same.f k t177 ([] : List (S39))).bind fun t200 => (some (!t200))) else (none)) = some r := H
                            have A21 := Aside0.mk A210
                            clear A210
                            by_cases c22 : t199 = true
                            · subst c22
                              have H1 : ((pick_Same.f k t177 ([] : List (S39))).bind fun t200 => (some (!t200))) = some r := by rw [if_pos rfl] at H; exact H
                              clear H
                              have H := H1
                              clear H1
                              replace H := Option.bind_eq_some_iff.mp H
                              obtain ⟨t200, A230, H⟩ := H
                              replace H : (some (!t200)) = some r := H
                              have A23 := Aside0.mk A230
                              clear A230
                              obtain rfl := Option.some.inj H
                              go_enter Tryd.func8, Tryd.ntmps8
                              go_wp2_with (first | ((with_reducible refine gate_callee (f := 19) rfl ?_); refine goesL_ (some 7) rfl rfl Tryd.func19 (by kernel_rfl) rfl #[.string (⟨#[97, 61, 49, 44, 98, 33, 61, 50, 44, 99, 61, 120, 42, 44, 100]⟩ : ByteArray)] rfl (by (try simp only [List.map_toArray, List.map_cons, List.map_nil]); first | done | rfl | (simp only [List.length_drop, List.length_take]; rfl)) ?_; (with_reducible refine (pick_Parse.calls (hL := (by first | exact HL0.out | exact LD.below HL0.out (by repeat (first | (with_reducible first | exact HB.out | apply below_alloc | apply pw_below_drewN | apply below_drew1) | exact HB.out)))) k (⟨#[97, 61, 49, 44, 98, 33, 61, 50, 44, 99, 61, 120, 42, 44, 100]⟩ : ByteArray) t177 t178 _ A1.out).mono ?_); rintro e w24 ⟨v179, rfl, ho0, hb⟩; refine ⟨_, rfl, ?_⟩; have n0_ := Aside0.mk (Kd.R_lower ho0 (below_size (by repeat (first | (with_reducible first | exact HB.out | apply below_alloc | apply pw_below_drewN | apply below_drew1) | exact HB.out)))); have n1_ := Aside0.mk (below_step (by repeat (first | (with_reducible first | exact HB.out | apply below_alloc | apply pw_below_drewN | apply below_drew1) | exact HB.out)) hb); clear HB; have HO180 := n0_; have HB := n1_; clear n0_ n1_; (try clear hb); (try clear hb2); (try clear hk); (try clear hi); (try clear ho0)) | ((with_reducible refine gate_callee (f := 19) rfl ?_); refine goesL_ (some 11) rfl rfl Tryd.func19 (by kernel_rfl) rfl #[.string (⟨#[97, 61]⟩ : ByteArray)] rfl (by (try simp only [List.map_toArray, List.map_cons, List.map_nil]); first | done | rfl | (simp only [List.length_drop, List.length_take]; rfl)) ?_; (with_reducible refine (pick_Parse.calls (hL := (by first | exact HL0.out | exact LD.below HL0.out (by repeat (first | (with_reducible first | exact HB.out | apply below_alloc | apply pw_below_drewN | apply below_drew1) | exact HB.out)))) k (⟨#[97, 61]⟩ : ByteArray) t181 t182 _ A2.out).mono ?_); rintro e w25 ⟨v183, rfl, ho0, hb⟩; refine ⟨_, rfl, ?_⟩; have n0_ := Aside0.mk (Kd.R_elder' (by (with_reducible repeat (first | apply Kd.R_alloc | apply Kd.R_drewN | apply Kd.R_drew)); exact HO180.out) (Kd.R_base ho0) hb); have n1_ := Aside0.mk (Kd.R_lower (Kd.R_new' ho0 (Kd.R_lt (by (with_reducible repeat (first | apply Kd.R_alloc | apply Kd.R_drewN | apply Kd.R_drew)); exact HO180.out))) (below_size (by repeat (first | (with_reducible first | exact HB.out | apply below_alloc | apply pw_below_drewN | apply below_drew1) | exact HB.out)))); have n2_ := Aside0.mk (below_step (by repeat (first | (with_reducible first | exact HB.out | apply below_alloc | apply pw_below_drewN | apply below_drew1) | exact HB.out)) hb); clear HO180; clear HB; have HO180 := n0_; have HO184 := n1_; have HB := n2_; clear n0_ n1_ n2_; (try clear hb); (try clear hb2); (try clear hk); (try clear hi); (try clear ho0)) | ((with_reducible refine gate_dst (N := 17) rfl ?_); (try (refine gate_guard (by rfl) ?_; dsimp only)); refine Kd.R_lit k37 _ 37 ?hg (N := 17) ?hd (xs := ([(⟨(⟨#[97]⟩ : ByteArray), (⟨#[49]⟩ : ByteArray)⟩ : S37), (⟨(⟨#[99]⟩ : ByteArray), (⟨#[120, 121]⟩ : ByteArray)⟩ : S37), (⟨(⟨#[100]⟩ : ByteArray), (⟨#[48]⟩ : ByteArray)⟩ : S37)] : List (S37))) (inner := [.string (⟨#[97]⟩ : ByteArray), .string (⟨#[49]⟩ : ByteArray), .string (⟨#[99]⟩ : ByteArray), .string (⟨#[120, 121]⟩ : ByteArray), .string (⟨#[100]⟩ : ByteArray), .string (⟨#[48]⟩ : ByteArray)]) (ok := fun _ => True) (okp := fun _ => True) ?hr ?hp (fun _ hk => hk) trivial (Below.refl _ _) (Nat.le_refl _) (by simp) ?_; (case hd => rfl); (case hg => rfl); (case hr => first | (go_simp; done) | (go_simp; rfl)); (case hp => exact (Reps.c2 (show Kd.M k37 _ _ _ (⟨(⟨#[97]⟩ : ByteArray), (⟨#[49]⟩ : ByteArray)⟩ : S37) [.string (⟨#[97]⟩ : ByteArray), .string (⟨#[49]⟩ : ByteArray)] from (k37_mkM _ _ _ (⟨(⟨#[97]⟩ : ByteArray), (⟨#[49]⟩ : ByteArray)⟩ : S37) )) (Reps.c2 (show Kd.M k37 _ _ _ (⟨(⟨#[99]⟩ : ByteArray), (⟨#[120, 121]⟩ : ByteArray)⟩ : S37) [.string (⟨#[99]⟩ : ByteArray), .string (⟨#[120, 121]⟩ : ByteArray)] from (k37_mkM _ _ _ (⟨(⟨#[99]⟩ : ByteArray), (⟨#[120, 121]⟩ : ByteArray)⟩ : S37) )) (Reps.c2 (show Kd.M k37 _ _ _ (⟨(⟨#[100]⟩ : ByteArray), (⟨#[48]⟩ : ByteArray)⟩ : S37) [.string (⟨#[100]⟩ : ByteArray), .string (⟨#[48]⟩ : ByteArray)] from (k37_mkM _ _ _ (⟨(⟨#[100]⟩ : ByteArray), (⟨#[48]⟩ : ByteArray)⟩ : S37) )) (Reps.none _ _))))); intro v186 w26 ho27 hb hg_ hnew_; clear hg_ hnew_; (first | rw [← Ny185.out] at ho27 | (simp only [Int.reduceToNat] at ho27; rw [← Ny185.out] at ho27)); have n0_ := Aside0.mk (Kd.R_below (by (with_reducible repeat (first | apply Kd.R_alloc | apply Kd.R_drewN | apply Kd.R_drew)); exact HO180.out) hb); have n1_ := Aside0.mk (Kd.R_below (by (with_reducible repeat (first | apply Kd.R_alloc | apply Kd.R_drewN | apply Kd.R_drew)); exact HO184.out) hb); have n2_ := Aside0.mk (Kd.R_lower ho27 (below_size (by repeat (first | (with_reducible first | exact HB.out | apply below_alloc | apply pw_below_drewN | apply below_drew1) | exact HB.out)))); have n3_ := Aside0.mk (below_step (by repeat (first | (with_reducible first | exact HB.out | apply below_alloc | apply pw_below_drewN | apply below_drew1) | exact HB.out)) hb); clear HO180; clear HO184; clear HB; have HO180 := n0_; have HO184 := n1_; have HO187 := n2_; have HB := n3_; clear n0_ n1_ n2_ n3_; clear hb ho27; obtain ⟨Ao28, co28, eo28⟩ := Kd.R_slice HO180.out; subst eo28; have p188 : 0 ≤ (1 : Int) := (by omega); have q188 : 1 < (t177.length : Int) := of_decide_eq_true (by first | (with_reducible assumption) | assumption); obtain ⟨ad188, e188, hx188_0, hx188_1, hx188_2⟩ := at_T39 (Kd.R_reads' HO180.out).2.2 1 p188 q188; cases e188; (try simp only [show (1 : Int).toNat = 1 from rfl, Nat.reduceMul, Nat.reduceEqDiff, Go.Addr.add, ↓reduceIte] at hx188_0); (try simp only [show (1 : Int).toNat = 1 from rfl, Nat.reduceMul, Nat.reduceEqDiff, Go.Addr.add, ↓reduceIte] at hx188_1); (try simp only [show (1 : Int).toNat = 1 from rfl, Nat.reduceMul, Nat.reduceEqDiff, Go.Addr.add, ↓reduceIte] at hx188_2); have qi188 : (1 < t177.length) = True := eq_true (by omega); (try rw [show ((1 : Int)).toNat = 1 from rfl] at hx188_0); (try rw [show 1 * 3 = 3 from rfl] at hx188_0); (try rw [show ((1 : Int)).toNat = 1 from rfl] at hx188_1); (try rw [show 1 * 3 = 3 from rfl] at hx188_1); (try rw [show ((1 : Int)).toNat = 1 from rfl] at hx188_2); (try rw [show 1 * 3 = 3 from rfl] at hx188_2); replace p188 := eq_true p188; replace q188 := eq_true q188; have p189 : 0 ≤ (2 : Int) := (by omega); have q189 : 2 < (t177.length : Int) := of_decide_eq_true (by first | (with_reducible assumption) | assumption); obtain ⟨ad189, e189, hx189_0, hx189_1, hx189_2⟩ := at_T39 (Kd.R_reads' HO180.out).2.2 2 p189 q189; obtain rfl : ad188 = ad189 := (by injection e189); (try simp only [show (2 : Int).toNat = 2 from rfl, Nat.reduceMul, Nat.reduceEqDiff, Go.Addr.add, ↓reduceIte] at hx189_0); (try simp only [show (2 : Int).toNat = 2 from rfl, Nat.reduceMul, Nat.reduceEqDiff, Go.Addr.add, ↓reduceIte] at hx189_1); (try simp only [show (2 : Int).toNat = 2 from rfl, Nat.reduceMul, Nat.reduceEqDiff, Go.Addr.add, ↓reduceIte] at hx189_2); have qi189 : (2 < t177.length) = True := eq_true (by omega); (try rw [show ((2 : Int)).toNat = 2 from rfl] at hx189_0); (try rw [show 2 * 3 = 6 from rfl] at hx189_0); (try rw [show ((2 : Int)).toNat = 2 from rfl] at hx189_1); (try rw [show 2 * 3 = 6 from rfl] at hx189_1); (try rw [show ((2 : Int)).toNat = 2 from rfl] at hx189_2); (try rw [show 2 * 3 = 6 from rfl] at hx189_2); replace p189 := eq_true p189; replace q189 := eq_true q189) | (go_at_call 12; (with_reducible refine (pick_Text.calls k _ _ t177 t190 _ ?side1 ?side2 A10.out).mono ?_); (case side1 => repeat (first | exact (Kd.R_reads' HO180.out).2.2 | (with_reducible refine Kd.C_alloc ?_ _) | (with_reducible refine Kd.C_drewN ?_ _) | (with_reducible refine Kd.C_drew ?_))); (case side2 => exact (Kd.R_reads' HO180.out).2.1); rintro e w29 ⟨rfl, hb⟩; have n0_ := Aside0.mk (Kd.R_below (by (with_reducible repeat (first | apply Kd.R_alloc | apply Kd.R_drewN | apply Kd.R_drew)); exact HO180.out) hb); have n1_ := Aside0.mk (Kd.R_below (by (with_reducible repeat (first | apply Kd.R_alloc | apply Kd.R_drewN | apply Kd.R_drew)); exact HO184.out) hb); have n2_ := Aside0.mk (Kd.R_below (by (with_reducible repeat (first | apply Kd.R_alloc | apply Kd.R_drewN | apply Kd.R_drew)); exact HO187.out) hb); have n3_ := Aside0.mk (below_step (by repeat (first | (with_reducible first | exact HB.out | apply below_alloc | apply pw_below_drewN | apply below_drew1) | exact HB.out)) hb); clear HO180; clear HO184; clear HO187; clear HB; have HO180 := n0_; have HO184 := n1_; have HO187 := n2_; have HB := n3_; clear n0_ n1_ n2_ n3_; (try clear hb); (try clear hb2); (try clear hk); (try clear hi)) | (go_at_call 10; (with_reducible refine (pick_Right.calls k _ _ t177 true _ ?side1 ?side2 A12.out).mono ?_); (case side1 => repeat (first | exact (Kd.R_reads' HO180.out).2.2 | (with_reducible refine Kd.C_alloc ?_ _) | (with_reducible refine Kd.C_drewN ?_ _) | (with_reducible refine Kd.C_drew ?_))); (case side2 => exact (Kd.R_reads' HO180.out).2.1); rintro e w30 ⟨rfl, hb⟩; have n0_ := Aside0.mk (Kd.R_below (by (with_reducible repeat (first | apply Kd.R_alloc | apply Kd.R_drewN | apply Kd.R_drew)); exact HO180.out) hb); have n1_ := Aside0.mk (Kd.R_below (by (with_reducible repeat (first | apply Kd.R_alloc | apply Kd.R_drewN | apply Kd.R_drew)); exact HO184.out) hb); have n2_ := Aside0.mk (Kd.R_below (by (with_reducible repeat (first | apply Kd.R_alloc | apply Kd.R_drewN | apply Kd.R_drew)); exact HO187.out) hb); have n3_ := Aside0.mk (below_step (by repeat (first | (with_reducible first | exact HB.out | apply below_alloc | apply pw_below_drewN | apply below_drew1) | exact HB.out)) hb); clear HO180; clear HO184; clear HO187; clear HB; have HO180 := n0_; have HO184 := n1_; have HO187 := n2_; have HB := n3_; clear n0_ n1_ n2_ n3_; (try clear hb); (try clear hb2); (try clear hk); (try clear hi); obtain ⟨Ao31, co31, eo31⟩ := Kd.R_slice HO187.out; subst eo31) | (go_at_call 17; (with_reducible refine (pick_Fits.calls k _ _ y185 _ _ t177 true _ ?side1 ?side2 ?side3 ?side4 A14.out).mono ?_); (case side1 => repeat (first | exact (Kd.R_reads' HO187.out).2.2 | (with_reducible refine Kd.C_alloc ?_ _) | (with_reducible refine Kd.C_drewN ?_ _) | (with_reducible refine Kd.C_drew ?_))); (case side2 => exact (Kd.R_reads' HO187.out).2.1); (case side3 => repeat (first | exact (Kd.R_reads' HO180.out).2.2 | (with_reducible refine Kd.C_alloc ?_ _) | (with_reducible refine Kd.C_drewN ?_ _) | (with_reducible refine Kd.C_drew ?_))); (case side4 => exact (Kd.R_reads' HO180.out).2.1); rintro e w32 ⟨rfl, hb⟩; have n0_ := Aside0.mk (Kd.R_below (by (with_reducible repeat (first | apply Kd.R_alloc | apply Kd.R_drewN | apply Kd.R_drew)); exact HO180.out) hb); have n1_ := Aside0.mk (Kd.R_below (by (with_reducible repeat (first | apply Kd.R_alloc | apply Kd.R_drewN | apply Kd.R_drew)); exact HO184.out) hb); have n2_ := Aside0.mk (Kd.R_below (by (with_reducible repeat (first | apply Kd.R_alloc | apply Kd.R_drewN | apply Kd.R_drew)); exact HO187.out) hb); have n3_ := Aside0.mk (below_step (by repeat (first | (with_reducible first | exact HB.out | apply below_alloc | apply pw_below_drewN | apply below_drew1) | exact HB.out)) hb); clear HO180; clear HO184; clear HO187; clear HB; have HO180 := n0_; have HO184 := n1_; have HO187 := n2_; have HB := n3_; clear n0_ n1_ n2_ n3_; (try clear hb); (try clear hb2); (try clear hk); (try clear hi); have q33 : (1 : Int) ≤ ((y185.length : Int) : Int) := of_decide_eq_true (by first | (with_reducible assumption) | assumption); obtain ⟨i033, hi033, _, hsz33, _⟩ := info_parts info37; have hroom33 : y185.length ≤ co31 := (Kd.R_reads' HO187.out).2.1; have hC33 : Kd.C k37 _ Ao31 y185.length y185 := (Kd.R_reads' HO187.out).2.2; have hcut33 := cut_from (P := Tryd.prog) 27 37 .i64 Tryd.underlying27 hi033 2 hsz33 Ao31 y185.length co31 1 (by omega) q33; have hr33 := Kd.C_drop (m := (1 : Int).toNat) (c := co31) hC33 (by omega) hroom33; obtain ⟨A33, hA33⟩ : ∃ A1, A1 = (if co31 = (1 : Int).toNat then Ao31 else (Ao31 : Option Addr).map (·.add ((1 : Int).toNat * 2))) := ⟨_, rfl⟩; obtain ⟨c33, hc33⟩ : ∃ c1, c1 = co31 - (1 : Int).toNat := ⟨_, rfl⟩; have hy33 : y193.length = y185.length - (1 : Int).toNat := (by rw [Ny193.out, List.length_drop] <;> omega); rw [show (y185).drop (1 : Int).toNat = y193 from Ny193.out.symm] at hr33; replace hr33 : Kd.C k37 _ A33 y193.length y193 := (by rw [hA33]; exact hr33); rw [← hy33, ← hA33, ← hc33] at hcut33; have HR196 := Aside0.mk hr33; have HC196 := Aside0.mk (show y193.length ≤ c33 from by rw [hy33, hc33]; exact Nat.sub_le_sub_right hroom33 _); clear hr33 hC33 hroom33 hi033 hsz33 hc33; have KY33 := Aside0.mk hy33; have KA33 := Aside0.mk hA33; clear hy33 hA33; have KL33 := Aside0.mk (show 1 ≤ y185.length from by omega); replace q33 := eq_true q33) | (go_at_call 17; (with_reducible refine (pick_Fits.calls k _ _ y193 _ _ t177 false _ ?side1 ?side2 ?side3 ?side4 A17.out).mono ?_); (case side1 => repeat (first | exact (by repeat (first | (with_reducible exact HR196.out) | (with_reducible refine Kd.C_alloc ?_ _) | (with_reducible refine Kd.C_drewN ?_ _) | (with_reducible refine Kd.C_drew ?_) | exact HR196.out)) | (with_reducible refine Kd.C_alloc ?_ _) | (with_reducible refine Kd.C_drewN ?_ _) | (with_reducible refine Kd.C_drew ?_))); (case side2 => exact HC196.out); (case side3 => repeat (first | exact (Kd.R_reads' HO180.out).2.2 | (with_reducible refine Kd.C_alloc ?_ _) | (with_reducible refine Kd.C_drewN ?_ _) | (with_reducible refine Kd.C_drew ?_))); (case side4 => exact (Kd.R_reads' HO180.out).2.1); rintro e w34 ⟨rfl, hb⟩; have n0_ := Aside0.mk (Kd.R_below (by (with_reducible repeat (first | apply Kd.R_alloc | apply Kd.R_drewN | apply Kd.R_drew)); exact HO180.out) hb); have n1_ := Aside0.mk (Kd.R_below (by (with_reducible repeat (first | apply Kd.R_alloc | apply Kd.R_drewN | apply Kd.R_drew)); exact HO184.out) hb); have n2_ := Aside0.mk (Kd.R_below (by (with_reducible repeat (first | apply Kd.R_alloc | apply Kd.R_drewN | apply Kd.R_drew)); exact HO187.out) hb); have n3_ := Aside0.mk (Kd.C_below (by repeat (first | (with_reducible exact HR196.out) | (with_reducible refine Kd.C_alloc ?_ _) | (with_reducible refine Kd.C_drewN ?_ _) | (with_reducible refine Kd.C_drew ?_) | exact HR196.out)) hb); have n4_ := Aside0.mk (below_step (by repeat (first | (with_reducible first | exact HB.out | apply below_alloc | apply pw_below_drewN | apply below_drew1) | exact HB.out)) hb); clear HO180; clear HO184; clear HO187; clear HR196; clear HB; have HO180 := n0_; have HO184 := n1_; have HO187 := n2_; have HR196 := n3_; have HB := n4_; clear n0_ n1_ n2_ n3_ n4_; (try clear hb); (try clear hb2); (try clear hk); (try clear hi)) | (go_at_call 17; (refine (pick_Fits.calls k _ _ ([] : List (S37)) _ _ ([] : List (S39)) true _ ?side1 ?side2 ?side3 ?side4 A19.out).mono ?_); (case side1 => exact Kd.C_nil _ _); (case side2 => exact Nat.le_refl _); (case side3 => exact Kd.C_nil _ _); (case side4 => exact Nat.le_refl _); rintro e w35 ⟨rfl, hb⟩; have n0_ := Aside0.mk (Kd.R_below (by (with_reducible repeat (first | apply Kd.R_alloc | apply Kd.R_drewN | apply Kd.R_drew)); exact HO180.out) hb); have n1_ := Aside0.mk (Kd.R_below (by (with_reducible repeat (first | apply Kd.R_alloc | apply Kd.R_drewN | apply Kd.R_drew)); exact HO184.out) hb); have n2_ := Aside0.mk (Kd.R_below (by (with_reducible repeat (first | apply Kd.R_alloc | apply Kd.R_drewN | apply Kd.R_drew)); exact HO187.out) hb); have n3_ := Aside0.mk (Kd.C_below (by repeat (first | (with_reducible exact HR196.out) | (with_reducible refine Kd.C_alloc ?_ _) | (with_reducible refine Kd.C_drewN ?_ _) | (with_reducible refine Kd.C_drew ?_) | exact HR196.out)) hb); have n4_ := Aside0.mk (below_step (by repeat (first | (with_reducible first | exact HB.out | apply below_alloc | apply pw_below_drewN | apply below_drew1) | exact HB.out)) hb); clear HO180; clear HO184; clear HO187; clear HR196; clear HB; have HO180 := n0_; have HO184 := n1_; have HO187 := n2_; have HR196 := n3_; have HB := n4_; clear n0_ n1_ n2_ n3_ n4_; (try clear hb); (try clear hb2); (try clear hk); (try clear hi)) | (go_at_call 14; (with_reducible refine (pick_Same.calls k _ _ t177 _ _ t177 true _ ?side1 ?side2 ?side3 ?side4 A21.out).mono ?_); (case side1 => repeat (first | exact (Kd.R_reads' HO180.out).2.2 | (with_reducible refine Kd.C_alloc ?_ _) | (with_reducible refine Kd.C_drewN ?_ _) | (with_reducible refine Kd.C_drew ?_))); (case side2 => exact (Kd.R_reads' HO180.out).2.1); (case side3 => repeat (first | exact (Kd.R_reads' HO180.out).2.2 | (with_reducible refine Kd.C_alloc ?_ _) | (with_reducible refine Kd.C_drewN ?_ _) | (with_reducible refine Kd.C_drew ?_))); (case side4 => exact (Kd.R_reads' HO180.out).2.1); rintro e w' ⟨rfl, ⟨nd, rfl⟩⟩) | (go_at_call 14; (refine (pick_Same.calls k _ _ t177 _ _ ([] : List (S39)) t200 _ ?side1 ?side2 ?side3 ?side4 A23.out).mono ?_); (case side1 => repeat (first | exact (Kd.R_reads' HO180.out).2.2 | (with_reducible refine Kd.C_alloc ?_ _) | (with_reducible refine Kd.C_drewN ?_ _) | (with_reducible refine Kd.C_drew ?_))); (case side2 => exact (Kd.R_reads' HO180.out).2.1); (case side3 => exact Kd.C_nil _ _); (case side4 => exact Nat.le_refl _); rintro e w' ⟨rfl, ⟨nd, rfl⟩⟩))
                              go_ret
                              exact ⟨by first | rfl | (simp [errW_none, errW_some] <;> rfl) | (simp [*, errW_none, errW_some] <;> rfl), by repeat (first | (with_reducible first | exact HB.out | apply below_alloc | apply pw_below_drewN | apply below_drew1) | exact HB.out)⟩
                            · replace c22 := Bool.eq_false_iff.mpr c22
                              subst c22
                              have H1 : (none) = some r := by rw [if_neg (show ¬ (false = true) by decide)] at H; exact H
                              clear H
                              have H := H1
                              clear H1
                              exact absurd H (by simp)
                          · replace c20 := Bool.eq_false_iff.mpr c20
                            subst c20
                            have H1 : (none) = some r := by rw [if_neg (show ¬ (false = true) by decide)] at H; exact H
                            clear H
                            have H := H1
                            clear H1
                            exact absurd H (by simp)
                      · rw [if_neg c16] at H
                        exact absurd H (by simp)
                    · replace c15 := Bool.eq_false_iff.mpr c15
                      subst c15
                      have H1 : (none) = some r := by rw [if_neg (show ¬ (false = true) by decide)] at H; exact H
                      clear H
                      have H := H1
                      clear H1
                      exact absurd H (by simp)
                  · replace c13 := Bool.eq_false_iff.mpr c13
                    subst c13
                    have H1 : (none) = some r := by rw [if_neg (show ¬ (false = true) by decide)] at H; exact H
                    clear H
                    have H := H1
                    clear H1
                    exact absurd H (by simp)
                · rw [if_neg c11] at H
                  exact absurd H (by simp)
              · rw [if_neg c9] at H
                exact absurd H (by simp)
            · rw [if_neg c8] at H
              exact absurd H (by simp)
          · rw [if_neg c7] at H
            exact absurd H (by simp)
        · rw [if_neg c6] at H
          exact absurd H (by simp)
      · rw [if_neg c5] at H
        exact absurd H (by simp)
    · rw [if_neg c4] at H
      exact absurd H (by simp)
  · rw [if_neg c3] at H
    exact absurd H (by simp)

/-! ### ebbtideref05_Great: function 9 -/
def ebbtideref05_Great.l0 : Nat → List (S39) → Int → Option (Bool)
  | 0, _, _ => none
  | k + 1, x0, x3 => if x3 < (x0.length : Int) then (if 0 ≤ x3 then (if (((rd_T39 x0 x3).f1).size : Int) > 100 then (some true) else (if (((rd_T39 x0 x3).f2).size : Int) > 100 then (some true) else (ebbtideref05_Great.l0 k x0 (wrap64 (x3 + 1))))) else (none)) else (some false)
def ebbtideref05_Great.f (k : Nat) (l0 : List (S39)) : Option (Bool) := if (l0.length : Int) > 20 then (some true) else (ebbtideref05_Great.l0 k l0 0)
theorem ebbtideref05_Great.mono_l : ∀ k, (∀ y0 y1, LeO (ebbtideref05_Great.l0 k y0 y1) (ebbtideref05_Great.l0 (k + 1) y0 y1))
  | 0 => fun _ _ r h => by simp [ebbtideref05_Great.l0] at h
  | k + 1 => by
    have ih0 := ebbtideref05_Great.mono_l k
    · intro y0 y1
      unfold ebbtideref05_Great.l0
      repeat' first
      | (with_reducible exact ih0 _ _)
      | (with_reducible exact LeO.refl _)
      | (with_reducible exact LeO.none _)
      | (with_reducible refine LeO.ite ?_ ?_)
      | (with_reducible refine LeO.bind ?_ (fun _ => ?_))
      | exact ih0 _ _
      | exact LeO.none _
      | refine LeO.ite ?_ ?_
      | refine LeO.bind ?_ (fun _ => ?_)
theorem ebbtideref05_Great.mono : ∀ a0 k, LeO (ebbtideref05_Great.f k a0) (ebbtideref05_Great.f (k + 1) a0) := by
  intro a0 k
  have ih0 := ebbtideref05_Great.mono_l k
  unfold ebbtideref05_Great.f
  repeat' first
      | (with_reducible exact ih0 _ _)
      | (with_reducible exact LeO.refl _)
      | (with_reducible exact LeO.none _)
      | (with_reducible refine LeO.ite ?_ ?_)
      | (with_reducible refine LeO.bind ?_ (fun _ => ?_))
      | exact ih0 _ _
      | exact LeO.none _
      | refine LeO.ite ?_ ?_
      | refine LeO.bind ?_ (fun _ => ?_)
set_option maxHeartbeats 8000000 in
set_option maxRecDepth 100000 in
theorem ebbtideref05_Great.calls (k : Nat) (A0 : Option Addr) (c0 : Nat) (l0 : List (S39)) (r : Bool) (w : World) (hr0 : Kd.C k39 w A0 l0.length l0) (hc0 : l0.length ≤ c0) (h : ebbtideref05_Great.f k l0 = some r) :
    Calls Tryd.prog 9 #[.slice A0 l0.length c0] w fun e w' => e = .returned (.bool r) ∧ Drawn0 w w' := by
  have HR0 := Aside0.mk hr0
  have HC0 := Aside0.mk hc0
  clear hr0 hc0
  have H : (if (l0.length : Int) > 20 then (some true) else (ebbtideref05_Great.l0 k l0 0)) = some r := h
  clear h
  by_cases c2 : (l0.length : Int) > 20
  · rw [if_pos c2] at H
    have c2b0 : decide (20 < (l0.length : Int)) = true := decide_eq_true c2
    have c2b1 : decide (20 < l0.length) = true := decide_eq_true (by omega)
    clear c2
    obtain rfl := Option.some.inj H
    go_enter Tryd.func9, Tryd.ntmps9
    go_wp2
    go_ret
    exact ⟨by first | rfl | (simp; done) | (simp [*]; done), by repeat (first | exact Drawn0.refl _ | apply Drawn0.step)⟩
  · rw [if_neg c2] at H
    have c2b0 : decide (20 < (l0.length : Int)) = false := decide_eq_false c2
    have c2b1 : decide (20 < l0.length) = false := decide_eq_false (by omega)
    clear c2
    have H' := Aside0.mk H
    clear H
    go_enter Tryd.func9, Tryd.ntmps9
    go_wp2
    go_loopg [3] k (fun kq v3 w' => ∃ (x3_1 : Int), v3 = .int .i64 x3_1 ∧ Aside0 (ebbtideref05_Great.l0 kq l0 x3_1 = some r) ∧ Aside0 (kq ≤ k) ∧ Drawn0 w w')
    case atStart => exact ⟨(0), (by first | rfl | (simp; done) | (simp [*]; done)), H', ⟨Nat.le_refl _⟩, by repeat (first | exact Drawn0.refl _ | apply Drawn0.step)⟩
    case round =>
      clear H'
      try clear c2
      try clear c2b0
      try clear c2b1
      try clear p2
      obtain ⟨x3_1, rfl, HA, HK1, ⟨m1, rfl⟩⟩ := hrel
      cases gk with
      | zero => exact absurd HA.out (by simp [ebbtideref05_Great.l0])
      | succ k1 =>
        have H := HA.out
        clear HA
        simp only [ebbtideref05_Great.l0] at H
        by_cases c3 : x3_1 < (l0.length : Int)
        · rw [if_pos c3] at H
          have c3b0 : decide (x3_1 < (l0.length : Int)) = true := decide_eq_true c3
          clear c3
          by_cases c4 : 0 ≤ x3_1
          · rw [if_pos c4] at H
            have c4b0 : decide (0 ≤ x3_1) = true := decide_eq_true c4
            clear c4
            by_cases c5 : (((rd_T39 l0 x3_1).f1).size : Int) > 100
            · rw [if_pos c5] at H
              have c5b0 : decide (100 < (((rd_T39 l0 x3_1).f1).size : Int)) = true := decide_eq_true c5
              have c5b1 : decide (100 < ((rd_T39 l0 x3_1).f1).size) = true := decide_eq_true (by omega)
              clear c5
              obtain rfl := Option.some.inj H
              have p201 : 0 ≤ (x3_1 : Int) := of_decide_eq_true (by first | (with_reducible assumption) | assumption)
              have q201 : x3_1 < (l0.length : Int) := of_decide_eq_true (by first | (with_reducible assumption) | assumption)
              obtain ⟨ad201, e201, hx201_0, hx201_1, hx201_2⟩ := at_T39 HR0.out x3_1 p201 q201
              cases e201
              replace p201 := eq_true p201
              replace q201 := eq_true q201
              go_wp2
              go_ret
              exact ⟨by first | rfl | (simp; done) | (simp [*]; done), by repeat (first | exact Drawn0.refl _ | apply Drawn0.step)⟩
            · rw [if_neg c5] at H
              have c5b0 : decide (100 < (((rd_T39 l0 x3_1).f1).size : Int)) = false := decide_eq_false c5
              have c5b1 : decide (100 < ((rd_T39 l0 x3_1).f1).size) = false := decide_eq_false (by omega)
              clear c5
              by_cases c6 : (((rd_T39 l0 x3_1).f2).size : Int) > 100
              · rw [if_pos c6] at H
                have c6b0 : decide (100 < (((rd_T39 l0 x3_1).f2).size : Int)) = true := decide_eq_true c6
                have c6b1 : decide (100 < ((rd_T39 l0 x3_1).f2).size) = true := decide_eq_true (by omega)
                clear c6
                obtain rfl := Option.some.inj H
                have p201 : 0 ≤ (x3_1 : Int) := of_decide_eq_true (by first | (with_reducible assumption) | assumption)
                have q201 : x3_1 < (l0.length : Int) := of_decide_eq_true (by first | (with_reducible assumption) | assumption)
                obtain ⟨ad201, e201, hx201_0, hx201_1, hx201_2⟩ := at_T39 HR0.out x3_1 p201 q201
                cases e201
                replace p201 := eq_true p201
                replace q201 := eq_true q201
                have p202 : 0 ≤ (x3_1 : Int) := of_decide_eq_true (by first | (with_reducible assumption) | assumption)
                have q202 : x3_1 < (l0.length : Int) := of_decide_eq_true (by first | (with_reducible assumption) | assumption)
                obtain ⟨ad202, e202, hx202_0, hx202_1, hx202_2⟩ := at_T39 HR0.out x3_1 p202 q202
                obtain rfl : ad201 = ad202 := (by injection e202)
                replace p202 := eq_true p202
                replace q202 := eq_true q202
                go_wp2
                go_ret
                exact ⟨by first | rfl | (simp; done) | (simp [*]; done), by repeat (first | exact Drawn0.refl _ | apply Drawn0.step)⟩
              · rw [if_neg c6] at H
                have c6b0 : decide (100 < (((rd_T39 l0 x3_1).f2).size : Int)) = false := decide_eq_false c6
                have c6b1 : decide (100 < ((rd_T39 l0 x3_1).f2).size) = false := decide_eq_false (by omega)
                clear c6
                have H' := Aside0.mk H
                clear H
                have p201 : 0 ≤ (x3_1 : Int) := of_decide_eq_true (by first | (with_reducible assumption) | assumption)
                have q201 : x3_1 < (l0.length : Int) := of_decide_eq_true (by first | (with_reducible assumption) | assumption)
                obtain ⟨ad201, e201, hx201_0, hx201_1, hx201_2⟩ := at_T39 HR0.out x3_1 p201 q201
                cases e201
                replace p201 := eq_true p201
                replace q201 := eq_true q201
                have p202 : 0 ≤ (x3_1 : Int) := of_decide_eq_true (by first | (with_reducible assumption) | assumption)
                have q202 : x3_1 < (l0.length : Int) := of_decide_eq_true (by first | (with_reducible assumption) | assumption)
                obtain ⟨ad202, e202, hx202_0, hx202_1, hx202_2⟩ := at_T39 HR0.out x3_1 p202 q202
                obtain rfl : ad201 = ad202 := (by injection e202)
                replace p202 := eq_true p202
                replace q202 := eq_true q202
                go_wp2
                go_roundg k1
                case measure => have := HK1.out; omega
                case rel => exact ⟨(wrap64 (x3_1 + 1)), (by first | rfl | (simp; done) | (simp [*]; done)), H', ⟨by have := HK1.out; omega⟩, by repeat (first | exact Drawn0.refl _ | apply Drawn0.step)⟩
          · rw [if_neg c4] at H
            exact absurd H (by simp)
        · rw [if_neg c3] at H
          have c3b0 : decide (x3_1 < (l0.length : Int)) = false := decide_eq_false c3
          clear c3
          obtain rfl := Option.some.inj H
          go_wp2
          go_ret
          exact ⟨by first | rfl | (simp; done) | (simp [*]; done), by repeat (first | exact Drawn0.refl _ | apply Drawn0.step)⟩

/-! ### ebbtideref02_small: function 50 -/
def ebbtideref02_small.f (a0 : Int) : Option (Bool) := if a0 ≥ 97 then (some (decide (a0 ≤ 122))) else (some false)
set_option maxHeartbeats 8000000 in
set_option maxRecDepth 100000 in
theorem ebbtideref02_small.calls (a0 : Int) (r : Bool) (w : World) (h : ebbtideref02_small.f a0 = some r) :
    Calls Tryd.prog 50 #[.int .u8 a0] w fun e w' => e = .returned (.bool r) ∧ Drawn0 w w' := by
  have H : (if a0 ≥ 97 then (some (decide (a0 ≤ 122))) else (some false)) = some r := h
  clear h
  by_cases c2 : a0 ≥ 97
  · rw [if_pos c2] at H
    have c2b0 : decide (97 ≤ a0) = true := decide_eq_true c2
    clear c2
    obtain rfl := Option.some.inj H
    go_enter Tryd.func50, Tryd.ntmps50
    go_wp2
    go_ret
    exact ⟨by first | rfl | (simp; done) | (simp [*]; done), by repeat (first | exact Drawn0.refl _ | apply Drawn0.step)⟩
  · rw [if_neg c2] at H
    have c2b0 : decide (97 ≤ a0) = false := decide_eq_false c2
    clear c2
    obtain rfl := Option.some.inj H
    go_enter Tryd.func50, Tryd.ntmps50
    go_wp2
    go_ret
    exact ⟨by first | rfl | (simp; done) | (simp [*]; done), by repeat (first | exact Drawn0.refl _ | apply Drawn0.step)⟩

/-! ### ebbtideref02_digit: function 51 -/
def ebbtideref02_digit.f (a0 : Int) : Option (Bool) := if a0 ≥ 48 then (some (decide (a0 ≤ 57))) else (some false)
set_option maxHeartbeats 8000000 in
set_option maxRecDepth 100000 in
theorem ebbtideref02_digit.calls (a0 : Int) (r : Bool) (w : World) (h : ebbtideref02_digit.f a0 = some r) :
    Calls Tryd.prog 51 #[.int .u8 a0] w fun e w' => e = .returned (.bool r) ∧ Drawn0 w w' := by
  have H : (if a0 ≥ 48 then (some (decide (a0 ≤ 57))) else (some false)) = some r := h
  clear h
  by_cases c2 : a0 ≥ 48
  · rw [if_pos c2] at H
    have c2b0 : decide (48 ≤ a0) = true := decide_eq_true c2
    clear c2
    obtain rfl := Option.some.inj H
    go_enter Tryd.func51, Tryd.ntmps51
    go_wp2
    go_ret
    exact ⟨by first | rfl | (simp; done) | (simp [*]; done), by repeat (first | exact Drawn0.refl _ | apply Drawn0.step)⟩
  · rw [if_neg c2] at H
    have c2b0 : decide (48 ≤ a0) = false := decide_eq_false c2
    clear c2
    obtain rfl := Option.some.inj H
    go_enter Tryd.func51, Tryd.ntmps51
    go_wp2
    go_ret
    exact ⟨by first | rfl | (simp; done) | (simp [*]; done), by repeat (first | exact Drawn0.refl _ | apply Drawn0.step)⟩

end Go.Proofs.YtdmobcaidjilcaaDoor.X
