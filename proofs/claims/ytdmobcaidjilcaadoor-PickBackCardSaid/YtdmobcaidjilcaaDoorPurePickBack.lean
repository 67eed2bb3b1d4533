/- The plain law of PickBack: matches that may be are parsed from their text as they were; what is parsed has just that text. -/
import Derived.Test.YtdmobcaidjilcaaDoorPickText
import Derived.Test.YtdmobcaidjilcaaDoorXx16
namespace Go.Proofs.YtdmobcaidjilcaaDoor.Pure
open Go.RowKit Go.Proofs.YtdmobcaidjilcaaDoor.X Go.Proofs.YtdmobcaidjilcaaDoorW.PrintWords Go.Proofs.YtdmobcaidjilcaaDoorW.PrintLast Go.Proofs.YtdmobcaidjilcaaDoorW.PrintMore Go.Proofs.YtdmobcaidjilcaaDoor.Aid Go.Proofs.YtdmobcaidjilcaaDoor.Bytes

open Go.Lib (index occAt NoOcc)
theorem okV_not {b : UInt8} (h : okV b = true) : b ≠ 33 ∧ b ≠ 61 ∧ b ≠ 42 ∧ b ≠ 44 := by
  refine ⟨?_, ?_, ?_, ?_⟩ <;> (rintro rfl; exact absurd h (by decide))
/-- Bytes of a name, or of a value. -/
def Pl (l : T) : Prop := ∀ b ∈ l, okV b = true
theorem pl_val {l : T} (h : isVal l = true) : Pl l := by
  unfold isVal at h
  rw [Bool.and_eq_true, Bool.and_eq_true] at h
  exact List.all_eq_true.mp h.2.2
theorem pl_name {l : T} (h : isName l = true) : Pl l ∧ l ≠ [] := by
  unfold isName at h
  rw [Bool.and_eq_true, Bool.and_eq_true, Bool.and_eq_true] at h
  refine ⟨fun b hb => ?_, of_decide_eq_true h.1.1⟩
  have := List.all_eq_true.mp h.1.2.2 b hb
  unfold okV
  rw [this]
  rfl
theorem pl_no {l : T} (h : Pl l) : (33 : UInt8) ∉ l ∧ (61 : UInt8) ∉ l ∧ (42 : UInt8) ∉ l ∧ (44 : UInt8) ∉ l :=
  ⟨fun g => (okV_not (h _ g)).1 rfl, fun g => (okV_not (h _ g)).2.1 rfl, fun g => (okV_not (h _ g)).2.2.1 rfl, fun g => (okV_not (h _ g)).2.2.2 rfl⟩
theorem last_no {l : T} (h : (42 : UInt8) ∉ l) : ¬ l.getLast? = some 42 := fun g => h (List.mem_of_getLast? g)
theorem may_parts {a : Int} {n v : T} (h : mayT a n v = true) : Pl n ∧ n ≠ [] ∧ Pl v ∧ (a = 1 ∨ a = 2 ∨ a = 3 ∨ (a = 4 ∧ v = [])) := by
  unfold mayT at h
  rw [Bool.and_eq_true] at h
  obtain ⟨h1, h2⟩ := h
  obtain ⟨hn, hne⟩ := pl_name h1
  have pn : Pl ([] : T) := fun b hb => absurd hb List.not_mem_nil
  refine ⟨hn, hne, ?_⟩
  by_cases c : a = 1 ∨ a = 2
  · rw [if_pos c] at h2
    exact ⟨pl_val h2, by rcases c with c | c; exact .inl c; exact .inr (.inl c)⟩
  · rw [if_neg c] at h2
    by_cases c3 : a = 3
    · rw [if_pos c3, Bool.or_eq_true] at h2
      rcases h2 with h2 | h2
      · rw [of_decide_eq_true h2]
        exact ⟨pn, .inr (.inr (.inl c3))⟩
      · exact ⟨pl_val h2, .inr (.inr (.inl c3))⟩
    · rw [if_neg c3] at h2
      by_cases c4 : a = 4
      · rw [if_pos c4] at h2
        rw [of_decide_eq_true h2]
        exact ⟨pn, .inr (.inr (.inr ⟨c4, rfl⟩))⟩
      · rw [if_neg c4] at h2
        exact absurd h2 (by decide)
theorem text_no {a : Int} {n v : T} (h : mayT a n v = true) : (44 : UInt8) ∉ textT a n v := by
  obtain ⟨hn, _, hv, _⟩ := may_parts h
  have n4 := (pl_no hn).2.2.2
  have v4 := (pl_no hv).2.2.2
  unfold textT
  split
  · simp only [List.mem_append, List.mem_cons, List.not_mem_nil, or_false, not_or]
    exact ⟨⟨n4, by decide⟩, v4⟩
  · split
    · simp only [List.mem_append, List.mem_cons, List.not_mem_nil, or_false, not_or]
      exact ⟨⟨n4, by decide, by decide⟩, v4⟩
    · split
      · simp only [List.mem_append, List.mem_cons, List.not_mem_nil, or_false, not_or]
        exact ⟨⟨n4, by decide⟩, v4, by decide⟩
      · exact n4
theorem text_ne {a : Int} {n v : T} (h : n ≠ []) : textT a n v ≠ [] := by
  unfold textT
  split
  · simp
  · split
    · simp
    · split
      · simp
      · exact h
/-- A match's text is read as the match. -/
theorem read_text {a : Int} {n v : T} (h : mayT a n v = true) : readT (textT a n v) = (a, n, v) := by
  obtain ⟨hn, _, hv, hk⟩ := may_parts h
  obtain ⟨n1, n2, n3, _⟩ := pl_no hn
  obtain ⟨v1, v2, v3, _⟩ := pl_no hv
  rcases hk with rfl | rfl | rfl | ⟨rfl, rfl⟩
  · have e : textT 1 n v = n ++ ([61] ++ v) := by unfold textT; rw [if_pos rfl, List.append_assoc]
    have h0 : index (n ++ ([61] ++ v)) [33, 61] = -1 := index_no (by
      simp only [List.mem_append, List.mem_cons, List.not_mem_nil, or_false, not_or]
      exact ⟨n1, by decide, v1⟩)
    rw [e, readT_61 h0 rfl (index_at n2), if_neg (last_no v3)]
  · have e : textT 2 n v = n ++ ([33, 61] ++ v) := by unfold textT; rw [if_neg (by decide), if_pos rfl, List.append_assoc]
    rw [e, readT_33 rfl (index_at n1)]
  · have e : textT 3 n v = n ++ ([61] ++ (v ++ [42])) := by unfold textT; rw [if_neg (by decide), if_neg (by decide), if_pos rfl, List.append_assoc]
    have h0 : index (n ++ ([61] ++ (v ++ [42]))) [33, 61] = -1 := index_no (by
      simp only [List.mem_append, List.mem_cons, List.not_mem_nil, or_false, not_or]
      exact ⟨n1, by decide, v1, by decide⟩)
    rw [e, readT_61 h0 rfl (index_at n2), if_pos List.getLast?_concat, List.dropLast_concat]
  · have e : textT 4 n [] = n := by unfold textT; rw [if_neg (by decide), if_neg (by decide), if_neg (by decide)]
    rw [e, readT_no (index_no n1) (index_no n2)]
/-- What is read has just that text. -/
theorem text_read (s : T) : textT (readT s).1 (readT s).2.1 (readT s).2.2 = s := by
  rcases index_cases s 33 [61] with h | ⟨a, v, e, h⟩
  · rcases index_cases s 61 [] with h2 | ⟨a, v, e, h2⟩
    · rw [readT_no h h2]
      show textT 4 s [] = s
      unfold textT
      rw [if_neg (by decide), if_neg (by decide), if_neg (by decide)]
    · rw [readT_61 h e h2]
      by_cases hg : v.getLast? = some 42
      · rw [if_pos hg]
        show textT 3 a v.dropLast = s
        unfold textT
        rw [if_neg (by decide), if_neg (by decide), if_pos rfl, e]
        rcases List.eq_nil_or_concat v with rfl | ⟨r, c, rfl⟩
        · exact absurd hg (by simp)
        · rw [List.concat_eq_append] at hg ⊢
          rw [List.getLast?_concat] at hg
          rw [Option.some.inj hg]
          simp
      · rw [if_neg hg]
        show textT 1 a v = s
        unfold textT
        rw [if_pos rfl, e, List.append_assoc]
  · rw [readT_33 e h]
    show textT 2 a v = s
    unfold textT
    rw [if_neg (by decide), if_pos rfl, List.append_assoc, ← e]
theorem textM_read (s : T) : textM (readM s) = s := by
  unfold textM readM bl
  rw [mk_data, mk_data]
  exact text_read s
theorem read_textM {x : Mt} (h : mayM x = true) : readM (textM x) = x := by
  unfold mayM at h
  unfold readM textM
  rw [read_text h, bl_eta, bl_eta]
theorem parse_text {l : List Mt} (h : rightS l = true) : parseS (textS l) = (l, 0) := by
  unfold rightS at h
  rw [Bool.and_eq_true] at h
  have hl : l.length ≤ 4 := of_decide_eq_true h.1
  have hm := List.all_eq_true.mp h.2
  by_cases hne : l = []
  · subst hne
    rfl
  · have hL : l.map textM ≠ [] := by simpa using hne
    have h44 : ∀ x ∈ l.map textM, (44 : UInt8) ∉ x := fun x hx => by
      obtain ⟨y, hy, rfl⟩ := List.mem_map.mp hx
      exact text_no (hm y hy)
    have hs : textS l ≠ [] := by
      unfold textS
      cases l with
      | nil => exact absurd rfl hne
      | cons x l =>
        rw [List.map_cons, Lib.join_cons]
        intro e
        have h1 := (List.append_eq_nil_iff.mp e).1
        exact text_ne (may_parts (hm x List.mem_cons_self)).2.1 h1
    have hr : (l.map textM).map readM = l := by
      rw [List.map_map]
      conv => rhs; rw [← List.map_id l]
      exact List.map_congr_left fun x hx => read_textM (hm x hx)
    unfold parseS
    rw [if_neg hs]
    unfold textS
    rw [spl_join 44 _ hL h44]
    unfold parseL
    rw [if_pos (List.all_eq_true.mpr fun p hp => by
      obtain ⟨y, hy, rfl⟩ := List.mem_map.mp hp
      rw [read_textM (hm y hy)]
      exact hm y hy), if_neg (by rw [List.length_map]; omega), hr]
theorem parse_back {s : T} (h : (parseS s).2 = 0) : rightS (parseS s).1 = true ∧ textS (parseS s).1 = s := by
  unfold parseS at h ⊢
  by_cases hs : s = []
  · rw [if_pos hs, hs]
    exact ⟨rfl, rfl⟩
  · rw [if_neg hs] at h ⊢
    unfold parseL at h ⊢
    by_cases ha : (spl 44 s).all (fun p => mayM (readM p)) = true
    · rw [if_pos ha] at h ⊢
      by_cases h4 : (spl 44 s).length > 4
      · rw [if_pos h4] at h
        exact absurd h (by decide)
      · rw [if_neg h4]
        refine ⟨?_, ?_⟩
        · unfold rightS
          rw [Bool.and_eq_true]
          refine ⟨decide_eq_true (by rw [List.length_map]; omega), List.all_eq_true.mpr fun x hx => ?_⟩
          obtain ⟨p, hp, rfl⟩ := List.mem_map.mp hx
          exact List.all_eq_true.mp ha p hp
        · unfold textS
          have e : ((spl 44 s).map readM).map textM = spl 44 s := by
            rw [List.map_map]
            conv => rhs; rw [← List.map_id (spl 44 s)]
            exact List.map_congr_left fun x _ => textM_read x
          simp only []
          rw [e, join_spl]
    · rw [if_neg ha] at h
      exact absurd h (by decide)
theorem parse_no {s : T} (h : ¬ (parseS s).2 = 0) : (parseS s).1 = [] := by
  unfold parseS at h ⊢
  by_cases hs : s = []
  · rw [if_pos hs]
  · rw [if_neg hs] at h ⊢
    unfold parseL at h ⊢
    split at h
    · split at h
      · rename_i a b
        rw [if_pos a, if_pos b]
      · exact absurd rfl h
    · rename_i a
      rw [if_neg a]
theorem sh_parse {s : T} (hs : s.length ≤ 500) : Sh (parseS s).1 := by
  intro x hx
  unfold parseS parseL at hx
  split at hx
  · exact absurd hx List.not_mem_nil
  · split at hx
    · split at hx
      · exact absurd hx List.not_mem_nil
      · obtain ⟨p, hp, rfl⟩ := List.mem_map.mp hx
        have h1 := spl_short 44 s p hp
        have h2 := readT_len p
        unfold readM
        simp only [mk_size]
        omega
    · exact absurd hx List.not_mem_nil
theorem back_j1 {s : T} (hs : s.length ≤ 500) {k : Nat} (hk : 30000 ≤ k) : ebbtidelaw05_PickBack.j1 (k + 1) (mk s) = some true := by
  have hl := parse_len s
  rw [ebbtidelaw05_PickBack.j1, (parse_eq (s := s) (by omega) hk).1, Option.bind_some]
  by_cases h : (parseS s).2 = 0
  · obtain ⟨h1, h2⟩ := parse_back h
    rw [if_pos h, rright_eq (sh_parse hs) (by omega) (by omega), Option.bind_some, h1, if_pos rfl, text_eq (sh_parse hs) (by omega) (by omega), Option.bind_some, h2]
    simp
  · rw [if_neg h, parse_no h]
    rfl
theorem PickBack : ebbtidelaw05_PickBack.Pure := by
  intro l s _ _ _
  obtain ⟨s, rfl⟩ := str_mk s
  obtain ⟨K, hK⟩ : ∃ K : Nat, 30000 ≤ K := ⟨_, Nat.le_refl _⟩
  refine ⟨K + 2, ?_⟩
  unfold ebbtidelaw05_PickBack.f
  rw [alive_eq (by omega), Option.bind_some, if_pos rfl]
  rcases great_eq l (k := K + 2) (by omega) with h | ⟨h, hl, hs⟩
  · rw [h, Option.bind_some, if_pos rfl, ebbtidelaw05_PickBack.j0, if_pos rfl]
  · rw [h, Option.bind_some, if_neg (by decide), mk_size]
    by_cases hb : (s.length : Int) > 500
    · rw [decide_eq_true hb, ebbtidelaw05_PickBack.j0, if_pos rfl]
    · have hj := back_j1 (s := s) (by omega) hK
      rw [decide_eq_false hb, ebbtidelaw05_PickBack.j0, if_neg (by decide), rright_eq (sh_of hs) (by omega) (by omega), Option.bind_some]
      by_cases hr : rightS l = true
      · have hlen : (textS l).length ≤ 1000 := by
          have h1 := join_len [44] (l.map textM)
          have h2 := tot_texts (b := 200) (fun x hx => by have := hs x hx; omega)
          have h3 : l.length ≤ 4 := by
            unfold rightS at hr
            rw [Bool.and_eq_true] at hr
            exact of_decide_eq_true hr.1
          have h4 : l.length * 202 ≤ 4 * 202 := Nat.mul_le_mul_right _ h3
          rw [List.length_map, List.length_singleton, Nat.mul_one] at h1
          unfold textS
          omega
        rw [if_pos hr, text_eq (sh_of hs) (by omega) (by omega), Option.bind_some, (parse_eq hlen (by omega)).1, Option.bind_some, parse_text hr, if_pos rfl, same_self (a := l) (by omega) (by omega), Option.bind_some, if_pos rfl]
        exact hj
      · rw [if_neg hr]
        exact hj
end Go.Proofs.YtdmobcaidjilcaaDoor.Pure
