/- The plain law of SatStays: what ran over stays; what runs over is the greatest number, or the least; what does neither is just the sum, in either order. -/
import Derived.Test.YtplfiioggbafhaaDoorSatPlain
namespace Go.Proofs.YtplfiioggbafhaaDoor.Pure
open Go.RowKit Go.Proofs.YtplfiioggbafhaaDoor.X Go.Proofs.YtplfiioggbafhaaDoorW.PrintWords Go.Proofs.YtplfiioggbafhaaDoorW.PrintLast Go.Proofs.YtplfiioggbafhaaDoorW.PrintMore Go.Proofs.YtplfiioggbafhaaDoor.Aid

theorem SatStays : ebbtidelaw01_SatStays.Pure := by
  intro x y hx hy
  obtain ⟨K, hK⟩ : ∃ K : Nat, 100 ≤ K := ⟨_, Nat.le_refl _⟩
  refine ⟨K + 1, ?_⟩
  obtain ⟨a, o⟩ := x
  obtain ⟨b, p⟩ := y
  have ha : I64 a := qs hx
  have hb : I64 b := qs hy
  unfold ebbtidelaw01_SatStays.f
  show (ebbtidelaw01_alive.f (K + 1)).bind _ = _
  rw [alive_eq (K + 1) (by omega), Option.bind_some, if_pos rfl]
  show (sat_Add.f (K + 1) a o b p).bind _ = _
  rw [add_eq ha hb, Option.bind_some]
  unfold I64 at ha hb
  cases o
  · rw [if_neg (show ¬ (false = true) by decide)]
    cases p
    · have e : addS a false b false = if 9223372036854775807 < a + b then (9223372036854775807, true) else if a + b < -9223372036854775808 then (-9223372036854775808, true) else (a + b, false) := rfl
      have e' : addS b false a false = if 9223372036854775807 < b + a then (9223372036854775807, true) else if b + a < -9223372036854775808 then (-9223372036854775808, true) else (b + a, false) := rfl
      rw [e]
      by_cases h1 : 9223372036854775807 < a + b
      · rw [if_pos h1]
        simp only [if_true, Bool.false_eq_true, if_false]
        rw [if_pos (by omega), if_pos (by omega)]
      · rw [if_neg h1]
        by_cases h2 : a + b < -9223372036854775808
        · rw [if_pos h2]
          simp only [if_true, Bool.false_eq_true, if_false]
          rw [if_neg (by decide), if_pos (by omega), decide_eq_true (by omega)]
        · rw [if_neg h2]
          simp only [Bool.false_eq_true, if_false]
          rw [w64 (a := a + b) (by omega) (by omega), if_pos rfl, add_eq (k := K) ⟨hb.1, hb.2⟩ ⟨ha.1, ha.2⟩, Option.bind_some, e', if_neg (by omega), if_neg (by omega), Int.add_comm b a]
          simp
    · have e : addS a false b true = (b, true) := rfl
      rw [e]
      simp
  · have e : addS a true b p = (a, true) := by unfold addS; rw [if_pos rfl]
    rw [if_pos rfl, e]
    simp
end Go.Proofs.YtplfiioggbafhaaDoor.Pure
