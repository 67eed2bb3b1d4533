/- The plain law of PinBack: what is added and dropped again leaves all as it was. -/
import Derived.Test.YthgoegjkiofbkaaPinPlain
namespace Go.Proofs.Ythgoegjkiofbkaa.Pure
open Go.RowKit Go.Proofs.Ythgoegjkiofbkaa.X Go.Proofs.YthgoegjkiofbkaaW.PrintWords Go.Proofs.YthgoegjkiofbkaaW.PrintLast Go.Proofs.YthgoegjkiofbkaaW.PrintMore Go.Proofs.Ythgoegjkiofbkaa.Aid

theorem idx_first {x : Int} {l : List Pn} (j : Nat) (hj : j < l.length) (hx : l[j].f0 = x) (hb : ∀ i (h : i < j), l[i].f0 ≠ x) (d : Nat) : ∀ i, i + d = j → idxP x (l.drop i) i = (j : Int) := by
  induction d with
  | zero =>
    intro i hi
    obtain rfl : i = j := by omega
    rw [idx_at hj, if_pos hx]
  | succ d ih =>
    intro i hi
    rw [idx_at (by omega), if_neg (hb i (by omega))]
    exact ih (i + 1) (by omega)
theorem idx_ins {p : Pn} {l : List Pn} : idxP p.f0 (ins p l) 0 = (pos p.f0 l : Int) := by
  have hp := pos_le p.f0 l
  have hl := ins_length p l
  have h := idx_first (x := p.f0) (l := ins p l) (pos p.f0 l) (by omega) (by rw [ins_at _ (by omega), dif_neg (by omega), dif_pos rfl]) (fun i hi => by
    rw [ins_at _ (by omega), dif_pos hi]
    have := pos_lt p.f0 l i (by omega) hi
    omega) (pos p.f0 l) 0 (by omega)
  rw [List.drop_zero] at h
  exact h
theorem ins_drop (p : Pn) (l : List Pn) : (ins p l).take (pos p.f0 l) ++ (ins p l).drop (pos p.f0 l + 1) = l := by
  have hp := pos_le p.f0 l
  have h1 : (l.take (pos p.f0 l)).length = pos p.f0 l := by rw [List.length_take]; omega
  have h2 : (l.take (pos p.f0 l) ++ [p]).length = pos p.f0 l + 1 := by rw [List.length_append, h1, List.length_singleton]
  have e1 : (ins p l).drop (pos p.f0 l + 1) = l.drop (pos p.f0 l) := List.drop_left' h2
  have e2 : (ins p l).take (pos p.f0 l) = l.take (pos p.f0 l) := by
    unfold ins
    rw [List.append_assoc]
    exact List.take_left' h1
  rw [e1, e2, List.take_append_drop]
theorem PinBack : ebbtidelaw15_PinBack.Pure := by
  intro l p hl _ _
  obtain ⟨K, hK⟩ : ∃ K : Nat, 10000 ≤ K := ⟨_, Nat.le_refl _⟩
  refine ⟨K, ?_⟩
  unfold ebbtidelaw15_PinBack.f
  rw [alive_eq K (by omega), Option.bind_some, if_pos rfl]
  by_cases h1 : (l.length : Int) > 100
  · rw [if_pos h1]
  · rw [if_neg h1, add_eq (l := l) (ps := [(⟨p.f0, p.f1⟩ : Pn)]) (by omega) (by simp) (by omega), Option.bind_some]
    by_cases ho : Ord l
    · have ea : addR l [(⟨p.f0, p.f1⟩ : Pn)] = if p.f1 < 0 then ([], 1) else if isAt p.f0 l = true then ([], 5) else (ins p l, 0) := by
        unfold addR
        rw [if_pos ho]
        rfl
      rw [ea]
      by_cases c1 : p.f1 < 0
      · rw [if_pos c1, if_neg (show ¬ (1 : Int) = 0 by decide)]
        rfl
      · rw [if_neg c1]
        by_cases c2 : isAt p.f0 l = true
        · rw [if_pos c2, if_neg (show ¬ (5 : Int) = 0 by decide)]
          rfl
        · rw [if_neg c2, if_pos rfl]
          have hi := ins_length p l
          have hpl := pos_le p.f0 l
          have hoi := ins_ord ho (by omega) (Bool.eq_false_iff.2 c2)
          have e1 : findR p.f0 (ins p l) = (p.f1, true) := by
            unfold findR
            rw [idx_ins, if_neg (by omega), rdP (by omega), ins_at _ (by omega), dif_neg (by omega), dif_pos rfl]
          have e2 : dropR p.f0 (ins p l) = (l, 0) := by
            unfold dropR
            rw [idx_ins, if_neg (by omega), Int.toNat_natCast, ins_drop]
          obtain ⟨b, _, e3, e4⟩ := right_eq (l := ins p l) (by omega) (k := K) (by omega)
          obtain rfl := e4.2 hoi
          have e5 : pin_Drop.f (ins p l) p.f0 = some (dropR p.f0 (ins p l)) := drop_eq (by omega) _
          show (pin_Find.f (ins p l) p.f0).bind _ = _
          rw [find_eq, e1, Option.bind_some, e5, e2, Option.bind_some, if_pos rfl, if_pos rfl, e3, Option.bind_some, if_pos rfl, if_pos rfl, same_self l (by omega) (by omega), Option.bind_some]
    · have ea : addR l [(⟨p.f0, p.f1⟩ : Pn)] = ([], 9) := by
        unfold addR
        rw [if_neg ho]
      rw [ea, if_neg (show ¬ (9 : Int) = 0 by decide)]
      rfl
end Go.Proofs.Ythgoegjkiofbkaa.Pure
