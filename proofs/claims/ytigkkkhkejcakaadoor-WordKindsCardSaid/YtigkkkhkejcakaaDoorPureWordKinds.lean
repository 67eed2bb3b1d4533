/- The plain law of WordKinds: what a name is, and a value, is alike in both. No condition of its own. -/
import Derived.Test.YtigkkkhkejcakaaDoorWordPlain
import Derived.Test.YtigkkkhkejcakaaDoorXx4
import Derived.Test.YtigkkkhkejcakaaDoorXx3
namespace Go.Proofs.YtigkkkhkejcakaaDoor.Pure
open Go.RowKit Go.Proofs.YtigkkkhkejcakaaDoor.X Go.Proofs.YtigkkkhkejcakaaDoorW.PrintWords Go.Proofs.YtigkkkhkejcakaaDoorW.PrintLast Go.Proofs.YtigkkkhkejcakaaDoorW.PrintMore Go.Proofs.YtigkkkhkejcakaaDoor.Aid Go.Proofs.YtigkkkhkejcakaaDoor.Bytes

theorem rname_l0 {l : T} (hl : l.length ≤ 100000) (d : Nat) : ∀ (i k : Nat), i + d = l.length → d < k → ebbtideref02_Name.l0 k (mk l) (i : Int) = some ((l.drop i).all okN) := by
  induction d with
  | zero =>
    intro i k hi hk
    obtain ⟨k, rfl⟩ := succ_of hk
    simp only [ebbtideref02_Name.l0]
    rw [mk_size, if_neg (by omega), List.drop_of_length_le (by omega)]
    rfl
  | succ d ih =>
    intro i k hi hk
    obtain ⟨k, rfl⟩ := succ_of hk
    have hlt : i < l.length := by omega
    simp only [ebbtideref02_Name.l0]
    rw [mk_size, if_pos (by omega), if_pos (by omega), bt_mk hlt, rsmall_eq, w64s (by omega), ih (i + 1) k (by omega) (by omega), drop_at hlt, List.all_cons, rdigit_eq]
    simp only [Option.bind_some]
    unfold okN
    by_cases h1 : okS l[i] = true
    · rw [if_pos h1, h1]; simp
    · rw [if_neg h1, Bool.eq_false_iff.mpr h1, Bool.false_or]
      by_cases h2 : okD l[i] = true
      · rw [if_pos h2, h2]; simp
      · rw [if_neg h2, Bool.eq_false_iff.mpr h2, Bool.false_or]
        by_cases h3 : l[i].toNat = 95
        · rw [if_pos (by omega), decide_eq_true h3]; simp
        · rw [if_neg (by omega), decide_eq_false h3]; simp
theorem rname_eq {l : T} (hl : l.length ≤ 100000) (k : Nat) (hk : l.length + 1 < k) : ebbtideref02_Name.f k (mk l) = some (isName l) := by
  obtain ⟨k, rfl⟩ := succ_of hk
  have h0 := rname_l0 hl l.length 0 k (by omega) (by omega)
  rw [show ((0 : Nat) : Int) = 0 from rfl, List.drop_zero] at h0
  unfold ebbtideref02_Name.f isName
  simp only [ebbtideref02_Name.j0]
  rw [mk_size, h0]
  cases l with
  | nil => rw [if_pos (by simp), if_pos trivial]; simp
  | cons x l =>
    have hb : bt (mk (x :: l)) 0 = (x.toNat : Int) := bt_mk (l := x :: l) (i := 0) (by simp)
    rw [if_neg (by simp only [List.length_cons]; omega), if_pos (show (0 : Int) < ((x :: l).length : Int) by simp only [List.length_cons]; omega), hb, rsmall_eq]
    simp only [Option.bind_some]
    rw [decide_eq_true (show x :: l ≠ [] by simp), Bool.true_and]
    by_cases h2 : (x :: l).length ≤ 12
    · rw [if_neg (by omega), decide_eq_true h2, Bool.true_and]
      cases okS x with
      | true => simp
      | false => simp
    · rw [if_pos (by omega), if_pos trivial, decide_eq_false h2]
      simp
theorem name_val {l : T} (h : isName l = true) : isVal l = true := by
  unfold isName at h
  unfold isVal
  rw [Bool.and_eq_true, Bool.and_eq_true, Bool.and_eq_true] at h
  rw [Bool.and_eq_true, Bool.and_eq_true]
  refine ⟨h.1.1, h.1.2.1, ?_⟩
  rw [List.all_eq_true]
  intro b hb
  have := List.all_eq_true.mp h.1.2.2 b hb
  unfold okV
  rw [this]
  rfl
theorem WordKinds : ebbtidelaw02_WordKinds.Pure := by
  intro s _
  obtain ⟨l, rfl⟩ := str_mk s
  obtain ⟨K, hK⟩ : ∃ K : Nat, K = 30000 := ⟨_, rfl⟩
  refine ⟨K, ?_⟩
  unfold ebbtidelaw02_WordKinds.f
  rw [alive_eq K (by omega)]
  simp only [Option.bind_some, if_true]
  rw [mk_size]
  by_cases h : (l.length : Int) > 1000
  · rw [if_pos h]
  · rw [if_neg h, name_eq (by omega), rname_eq (by omega) K (by omega), value_eq (by omega), rvalue_eq (by omega) K (by omega)]
    simp only [Option.bind_some]
    rw [if_pos (by simp), if_pos (by simp)]
    by_cases h2 : isName l = true
    · rw [if_pos h2, name_val h2]
    · rw [if_neg h2]
end Go.Proofs.YtigkkkhkejcakaaDoor.Pure
