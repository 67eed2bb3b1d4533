/- The plain law of SatBack: a sum's text is read back as the sum, and a text that is read is the sum's text. -/
import Derived.Test.YtplfiioggbafhaaDoorSatText
namespace Go.Proofs.YtplfiioggbafhaaDoor.Pure
open Go.RowKit Go.Proofs.YtplfiioggbafhaaDoor.X Go.Proofs.YtplfiioggbafhaaDoorW.PrintWords Go.Proofs.YtplfiioggbafhaaDoorW.PrintLast Go.Proofs.YtplfiioggbafhaaDoorW.PrintMore Go.Proofs.YtplfiioggbafhaaDoor.Aid Go.Proofs.YtplfiioggbafhaaDoor.Bytes Go.Proofs.YtplfiioggbafhaaDoor.Decs

theorem read_itoa {n : Int} (h : I64 n) : readS (Lib.itoa n) = (n, 0) := by
  unfold I64 at h
  rw [itoa_sgn]
  unfold readS sgn
  have hn := num_dec n.natAbs
  have hv := dec_val n.natAbs
  by_cases hs : n < 0
  · have es : strip ([45] ++ Lib.decDigits n.natAbs) = Lib.decDigits n.natAbs := rfl
    rw [if_pos hs, es, hv, if_pos ⟨hn, fun e => by
      have e2 : Lib.decDigits n.natAbs = [48] := by simpa using e
      rw [e2] at hv
      have : val [48] = 0 := rfl
      omega⟩]
    unfold fin
    rw [if_pos (by rfl), if_pos (by omega), show -(n.natAbs : Int) = n by omega]
  · rw [if_neg hs, List.nil_append]
    have hh : ¬ (Lib.decDigits n.natAbs).head? = some 45 := fun e => by
      have := hn.2.2 45 (List.mem_of_mem_head? (by rw [e]; rfl))
      exact absurd this (by decide)
    have es : strip (Lib.decDigits n.natAbs) = Lib.decDigits n.natAbs := by unfold strip; rw [if_neg hh]
    rw [es, hv, if_pos ⟨hn, fun e => hh (by rw [e]; rfl)⟩, decide_eq_false hh]
    unfold fin
    rw [if_neg (by decide), if_pos (by omega), show (n.natAbs : Int) = n by omega]
theorem itoa_last (n : Int) : ¬ (Lib.itoa n).getLast? = some 33 := by
  rw [itoa_sgn]
  intro e
  have hn := dec_ne n.natAbs
  rw [List.getLast?_append, List.getLast?_eq_some_getLast hn] at e
  have e2 : (Lib.decDigits n.natAbs).getLast hn = 33 := by simpa using e
  have := dec_dig n.natAbs _ (List.getLast_mem hn)
  rw [e2] at this
  exact absurd this (by decide)
theorem parse_txt {n : Int} (h : I64 n) (o : Bool) : parseS (txt n o) = (n, o, 0) := by
  cases o
  · rw [show txt n false = Lib.itoa n from rfl, parse_o (itoa_last n), read_itoa h, if_pos rfl]
  · rw [show txt n true = Lib.itoa n ++ [33] from rfl, parse_33, read_itoa h, if_pos rfl]
theorem read_back {l : T} (h : (readS l).2 = 0) : I64 (readS l).1 ∧ Lib.itoa (readS l).1 = l := by
  unfold readS at h ⊢
  by_cases hn : Num (strip l) ∧ l ≠ [45, 48]
  · rw [if_pos hn] at h ⊢
    unfold fin at h ⊢
    by_cases hh : l.head? = some 45
    · obtain ⟨r, rfl⟩ : ∃ r, l = 45 :: r := by
        cases l with
        | nil => exact absurd hh (by simp)
        | cons c r =>
          refine ⟨r, ?_⟩
          rw [show c = 45 by simpa using hh]
      have es : strip (45 :: r) = r := rfl
      rw [es] at hn h ⊢
      rw [if_pos (by rfl)] at h ⊢
      by_cases hv : val r ≤ 9223372036854775808
      · rw [if_pos hv]
        have hp := val_pos r hn.1 (fun e => hn.2 (by rw [e]))
        refine ⟨by unfold I64; show _ ≤ -(val r : Int) ∧ -(val r : Int) ≤ _; omega, ?_⟩
        show Lib.itoa (-(val r : Int)) = _
        rw [itoa_sgn]
        unfold sgn
        rw [if_pos (by omega), show (-(val r : Int)).natAbs = val r by omega, dec_of r.length r (Nat.le_refl _) hn.1]
        rfl
      · rw [if_neg hv] at h
        exact absurd h (by decide)
    · have es : strip l = l := by unfold strip; rw [if_neg hh]
      rw [es] at hn h ⊢
      rw [if_neg (by simpa using hh)] at h ⊢
      by_cases hv : val l < 9223372036854775808
      · rw [if_pos hv]
        refine ⟨by unfold I64; show _ ≤ (val l : Int) ∧ (val l : Int) ≤ _; omega, ?_⟩
        show Lib.itoa (val l : Int) = _
        rw [itoa_sgn]
        unfold sgn
        rw [if_neg (by omega), show ((val l : Int)).natAbs = val l by omega, dec_of l.length l (Nat.le_refl _) hn.1]
        rfl
      · rw [if_neg hv] at h
        exact absurd h (by decide)
  · rw [if_neg hn] at h
    exact absurd h (by decide)
theorem parse_back {l : T} (h : (parseS l).2.2 = 0) : I64 (parseS l).1 ∧ txt (parseS l).1 (parseS l).2.1 = l := by
  unfold parseS at h ⊢
  by_cases hg : l.getLast? = some 33
  · rw [if_pos hg] at h ⊢
    by_cases hr : (readS l.dropLast).2 = 0
    · rw [if_pos hr]
      obtain ⟨h1, h2⟩ := read_back hr
      refine ⟨h1, ?_⟩
      show txt (readS l.dropLast).1 true = l
      unfold txt
      rw [if_pos rfl, h2]
      rcases List.eq_nil_or_concat l with rfl | ⟨r, c, rfl⟩
      · exact absurd hg (by decide)
      · rw [List.concat_eq_append] at hg ⊢
        rw [List.dropLast_concat, show c = 33 by simpa using hg]
    · rw [if_neg hr] at h
      exact absurd h hr
  · rw [if_neg hg] at h ⊢
    by_cases hr : (readS l).2 = 0
    · rw [if_pos hr]
      exact ⟨(read_back hr).1, (read_back hr).2⟩
    · rw [if_neg hr] at h
      exact absurd h hr
theorem parse_no {l : T} (h : ¬ (parseS l).2.2 = 0) : (parseS l).1 = 0 ∧ (parseS l).2.1 = false := by
  unfold parseS at h ⊢
  by_cases hg : l.getLast? = some 33
  · rw [if_pos hg] at h ⊢
    by_cases hr : (readS l.dropLast).2 = 0
    · rw [if_pos hr] at h
      exact absurd rfl h
    · rw [if_neg hr]
      exact ⟨rfl, rfl⟩
  · rw [if_neg hg] at h ⊢
    by_cases hr : (readS l).2 = 0
    · rw [if_pos hr] at h
      exact absurd rfl h
    · rw [if_neg hr]
      exact ⟨rfl, rfl⟩
theorem txt_len {n : Int} (h : I64 n) (o : Bool) : (txt n o).length ≤ 101 := by
  have := itoa_len h
  unfold txt
  split
  · rw [List.length_append, List.length_singleton]; omega
  · omega
theorem SatBack : ebbtidelaw01_SatBack.Pure := by
  intro x s hx _
  obtain ⟨l, rfl⟩ := str_mk s
  obtain ⟨K, hK⟩ : ∃ K : Nat, 1001 ≤ K := ⟨_, Nat.le_refl _⟩
  refine ⟨K, ?_⟩
  unfold ebbtidelaw01_SatBack.f
  rw [alive_eq K (by omega), Option.bind_some, if_pos rfl, mk_size]
  by_cases h : (l.length : Int) > 200
  · rw [if_pos h]
  · have hl := txt_len (qs hx) x.f1
    rw [if_neg h, (text_eq (qs hx) x.f1 (k := K) (by omega)).1, Option.bind_some, parse_eq (by omega), Option.bind_some, parse_eq (by omega), Option.bind_some, parse_txt (qs hx)]
    simp only [if_true, beq_self_eq_true, Bool.and_self]
    by_cases hp : (parseS l).2.2 = 0
    · obtain ⟨h1, h2⟩ := parse_back hp
      rw [if_pos hp, (text_eq h1 (parseS l).2.1 (k := K) (by omega)).1, Option.bind_some, h2]
      simp
    · obtain ⟨h1, h2⟩ := parse_no hp
      rw [if_neg hp, h1, h2]
      rfl
end Go.Proofs.YtplfiioggbafhaaDoor.Pure
