/- The plain law of WordBack: what was split, joined, is as it was. No condition of its own. -/
import Derived.Test.YtigkkkhkejcakaaDoorWordPlain
import Derived.Test.YtigkkkhkejcakaaDoorXx6
namespace Go.Proofs.YtigkkkhkejcakaaDoor.Pure
open Go.RowKit Go.Proofs.YtigkkkhkejcakaaDoor.X Go.Proofs.YtigkkkhkejcakaaDoorW.PrintWords Go.Proofs.YtigkkkhkejcakaaDoorW.PrintLast Go.Proofs.YtigkkkhkejcakaaDoorW.PrintMore Go.Proofs.YtigkkkhkejcakaaDoor.Aid Go.Proofs.YtigkkkhkejcakaaDoor.Bytes

theorem join_glue (x : T) (L : List T) (hL : L ≠ []) (s : T) : Lib.join (glue x L) s = x ++ Lib.join L s := by
  cases L with
  | nil => exact absurd rfl hL
  | cons h t => rw [glue, Lib.join_cons, Lib.join_cons, List.append_assoc]
theorem join_spl (c : UInt8) (l : T) : Lib.join (spl c l) [c] = l := by
  induction l with
  | nil => rfl
  | cons x l ih =>
    rw [spl_cons]
    by_cases h : x = c
    · rw [if_pos h]
      have hne := spl_ne c l
      cases hs : spl c l with
      | nil => exact absurd hs hne
      | cons y L =>
        rw [hs, Lib.join_cons] at ih
        rw [Lib.join_cons, Lib.joinTail, List.map_cons, List.flatten_cons, ← Lib.joinTail, List.nil_append, h, List.append_assoc, ih]
        rfl
    · rw [if_neg h, join_glue [x] _ (spl_ne c l), ih]
      rfl
theorem WordBack : ebbtidelaw02_WordBack.Pure := by
  intro s a _ ha
  obtain ⟨l, rfl⟩ := str_mk s
  obtain ⟨c, rfl⟩ := byte_of ha
  obtain ⟨K, hK⟩ : ∃ K : Nat, K = 30000 := ⟨_, rfl⟩
  refine ⟨K, ?_⟩
  unfold ebbtidelaw02_WordBack.f
  rw [alive_eq K (by omega)]
  simp only [Option.bind_some, if_true]
  rw [mk_size]
  by_cases h : (l.length : Int) > 1000
  · rw [if_pos h]
  · have hl := spl_len c l
    rw [if_neg h, split_eq c (by omega) K (by omega)]
    simp only [Option.bind_some]
    rw [one_mk, join_eq (by omega) (by rw [join_spl]; omega), join_spl]
    simp only [Option.bind_some]
    rw [mk_toList, beq_self_eq_true]
end Go.Proofs.YtigkkkhkejcakaaDoor.Pure
