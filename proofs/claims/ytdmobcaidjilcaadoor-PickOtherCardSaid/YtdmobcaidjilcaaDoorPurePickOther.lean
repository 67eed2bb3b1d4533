/- The plain law of PickOther: what is so isn't otherwise; what is so begins so; what begins so is there. -/
import Derived.Test.YtdmobcaidjilcaaDoorPickFit
import Derived.Test.YtdmobcaidjilcaaDoorXx17
namespace Go.Proofs.YtdmobcaidjilcaaDoor.Pure
open Go.RowKit Go.Proofs.YtdmobcaidjilcaaDoor.X Go.Proofs.YtdmobcaidjilcaaDoorW.PrintWords Go.Proofs.YtdmobcaidjilcaaDoorW.PrintLast Go.Proofs.YtdmobcaidjilcaaDoorW.PrintMore Go.Proofs.YtdmobcaidjilcaaDoor.Aid Go.Proofs.YtdmobcaidjilcaaDoor.Bytes

theorem begin_head (v : ByteArray) (h : Nat) (hh : h ≤ v.size) : beginB v (v.extract 0 h) = true := by
  obtain ⟨l, rfl⟩ := str_mk v
  rw [mk_size] at hh
  unfold beginB
  rw [mk_upto, mk_size, mk_size, mk_upto, List.length_take]
  rw [show min h l.length = h by omega, decide_eq_true (show h ≤ l.length from hh)]
  simp
theorem other_j0 {t : List Tg} (ht : t.length ≤ 20) (n v : ByteArray) (m : Nat) (hv : v.size ≤ 100) (hm : m ≤ 255) {k : Nat} (hk : 3000 ≤ k) : ebbtidelaw05_PickOther.j0 (k + 1) t (m : Int) false n v = some true := by
  have e1 : wrap64 ((v.size : Int) + 1) = ((v.size + 1 : Nat) : Int) := w64s (by omega)
  have e2 : wrap64 (m : Int) = (m : Int) := w64 (by omega) (by omega)
  have e3 : Int.tmod (m : Int) ((v.size + 1 : Nat) : Int) = ((m % (v.size + 1) : Nat) : Int) := rfl
  have hlt : m % (v.size + 1) < v.size + 1 := Nat.mod_lt _ (by omega)
  rw [ebbtidelaw05_PickOther.j0, if_neg (by decide), e1, e2, e3, if_neg (by omega), if_pos (by omega), if_pos (by omega), Int.toNat_natCast]
  generalize m % (v.size + 1) = h at hlt ⊢
  rw [fits_eq _ (by omega) (by omega), Option.bind_some, fits_eq _ (by omega) (by omega), Option.bind_some, fits_eq _ (by omega) (by omega), Option.bind_some, fits_eq _ (by omega) (by omega), Option.bind_some]
  simp only [List.all_cons, List.all_nil, Bool.and_true]
  have f1 : fitS t ⟨1, n, v⟩ = ((findS t n).2 && ((findS t n).1.toList == v.toList)) := rfl
  have f2 : fitS t ⟨2, n, v⟩ = !((findS t n).2 && ((findS t n).1.toList == v.toList)) := rfl
  have f3 : fitS t ⟨3, n, v.extract 0 h⟩ = ((findS t n).2 && beginB (findS t n).1 (v.extract 0 h)) := rfl
  have f4 : fitS t ⟨4, n, (⟨#[]⟩ : ByteArray)⟩ = (findS t n).2 := rfl
  rw [f1, f2, f3, f4]
  cases hb : (findS t n).2
  · rfl
  · simp only [Bool.true_and]
    by_cases hq : (findS t n).1.toList = v.toList
    · have hq' : (findS t n).1 = v := by
        rw [← bl_eta (findS t n).1, ← bl_eta v]
        rw [ByteArray.toList_eq, ByteArray.toList_eq] at hq
        exact congrArg mk hq
      rw [hq', beq_self_eq_true, begin_head v h (by omega)]
      rfl
    · rw [beq_eq_false_iff_ne.mpr hq, if_pos (by rfl), if_neg (by decide)]
      split <;> rfl
theorem PickOther : ebbtidelaw05_PickOther.Pure := by
  intro t x a _ _ _ ha
  obtain ⟨c, rfl⟩ := byte_of ha
  obtain ⟨K, hK⟩ : ∃ K : Nat, 3000 ≤ K := ⟨_, Nat.le_refl _⟩
  refine ⟨K + 1, ?_⟩
  have hc := c.toNat_lt
  have ht0 : ∀ n v, ebbtidelaw05_PickOther.j0 (K + 1) t (c.toNat : Int) true n v = some true := fun n v => by rw [ebbtidelaw05_PickOther.j0, if_pos rfl]
  unfold ebbtidelaw05_PickOther.f
  rw [alive_eq (by omega), Option.bind_some, if_pos rfl]
  rcases tgreat_eq t (k := K + 1) (by omega) with h | ⟨h, ht⟩
  · rw [h, Option.bind_some, if_pos rfl]
    exact ht0 _ _
  · rw [h, Option.bind_some, if_neg (by decide)]
    by_cases h1 : (x.f0.size : Int) > 100
    · rw [if_pos h1]
      exact ht0 _ _
    · rw [if_neg h1]
      by_cases h2 : (x.f1.size : Int) > 100
      · rw [decide_eq_true h2]
        exact ht0 _ _
      · rw [decide_eq_false h2]
        exact other_j0 ht _ _ _ (by omega) (by omega) hK
end Go.Proofs.YtdmobcaidjilcaaDoor.Pure
