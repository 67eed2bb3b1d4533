/- What a text of matches is parsed as, in plain Lean; and that the program's functions and the references' compute just that. Conditions: the texts are short. -/
import Derived.Test.YtdmobcaidjilcaaDoorPickPlain
import Derived.Test.YtdmobcaidjilcaaDoorXx6
import Derived.Test.YtdmobcaidjilcaaDoorXx15
import Derived.Test.YtdmobcaidjilcaaDoorXx13
import Derived.Lib.IndexMore
namespace Go.Proofs.YtdmobcaidjilcaaDoor.Pure
open Go.RowKit Go.Proofs.YtdmobcaidjilcaaDoor.X Go.Proofs.YtdmobcaidjilcaaDoorW.PrintWords Go.Proofs.YtdmobcaidjilcaaDoorW.PrintLast Go.Proofs.YtdmobcaidjilcaaDoorW.PrintMore Go.Proofs.YtdmobcaidjilcaaDoor.Aid Go.Proofs.YtdmobcaidjilcaaDoor.Bytes

theorem join_glue (x : T) (L : List T) (hL : L ≠ []) (s : T) : Lib.join (glue x L) s = x ++ Lib.join L s := by
  cases L with
  | nil => exact absurd rfl hL
  | cons h t => rw [glue, Lib.join_cons, Lib.join_cons, List.append_assoc]
theorem join_spl (c : UInt8) (l : T) : Lib.join (spl c l) [c] = l := by
  induction l with
  | nil => rfl
  | cons x l ih =>
    rw [spl_cons]
    by_cases h : x = c
    · rw [if_pos h]
      have hne := spl_ne c l
      cases hs : spl c l with
      | nil => exact absurd hs hne
      | cons y L =>
        rw [hs, Lib.join_cons] at ih
        rw [Lib.join_cons, Lib.joinTail, List.map_cons, List.flatten_cons, ← Lib.joinTail, List.nil_append, h, List.append_assoc, ih]
        rfl
    · rw [if_neg h, join_glue [x] _ (spl_ne c l), ih]
      rfl
theorem spl_no (c : UInt8) (x : T) (h : c ∉ x) : spl c x = [x] := by
  induction x with
  | nil => rfl
  | cons y x ih =>
    rw [List.mem_cons, not_or] at h
    rw [spl_cons, if_neg (fun e => h.1 e.symm), ih h.2]
    rfl
theorem spl_app (c : UInt8) (x y : T) (h : c ∉ x) : spl c (x ++ c :: y) = x :: spl c y := by
  induction x with
  | nil => rw [List.nil_append, spl_cons, if_pos rfl]
  | cons z x ih =>
    rw [List.mem_cons, not_or] at h
    rw [List.cons_append, spl_cons, if_neg (fun e => h.1 e.symm), ih h.2]
    rfl
theorem spl_join (c : UInt8) : ∀ (L : List T), L ≠ [] → (∀ x ∈ L, c ∉ x) → spl c (Lib.join L [c]) = L
  | [], h, _ => absurd rfl h
  | [x], _, h => by rw [Lib.join_one, spl_no c x (h x List.mem_cons_self)]
  | x :: y :: L, _, h => by
    have ih := spl_join c (y :: L) (by simp) (fun z hz => h z (List.mem_cons_of_mem _ hz))
    rw [Lib.join_cons] at ih
    rw [Lib.join_cons, tail_cons, List.append_assoc, List.singleton_append, spl_app c x _ (h x List.mem_cons_self), ih]

theorem rsplit_l0 (c : UInt8) {l : T} (hl : l.length ≤ 20000) (d : Nat) : ∀ (i from_ k : Nat) (acc : List T), i + d = l.length → from_ ≤ i → d < k → acc.length ≤ i →
    ebbtideref02_Split.l0 k (mk l) (c.toNat : Int) (acc.map mk) (from_ : Int) (i : Int) = some ((acc ++ glue ((l.drop from_).take (i - from_)) (spl c (l.drop i))).map mk) := by
  induction d with
  | zero =>
    intro i f k acc hi hf hk ha
    obtain ⟨k, rfl⟩ := succ_of hk
    simp only [ebbtideref02_Split.l0]
    have he := mk_from l f
    rw [mk_size] at he
    rw [mk_size, if_neg (by omega), if_pos (by omega), if_pos (by omega), List.length_map, if_pos (by omega), Int.toNat_natCast, he, List.drop_of_length_le (show l.length ≤ i by omega), List.take_of_length_le (by rw [List.length_drop]; omega)]
    simp [spl, glue]
  | succ d ih =>
    intro i f k acc hi hf hk ha
    obtain ⟨k, rfl⟩ := succ_of hk
    have hlt : i < l.length := by omega
    have hd : l.drop i = l[i] :: l.drop (i + 1) := drop_at hlt
    have hm : (acc.map mk) ++ [mk ((l.drop f).take (i - f))] = (acc ++ [(l.drop f).take (i - f)]).map mk := by simp
    have h1 := ih (i + 1) (i + 1) k (acc ++ [(l.drop f).take (i - f)]) (by omega) (Nat.le_refl _) (by omega) (by rw [List.length_append, List.length_singleton]; omega)
    have h2 := ih (i + 1) f k acc (by omega) (by omega) (by omega) (by omega)
    simp only [ebbtideref02_Split.l0]
    rw [mk_size, if_pos (by omega), if_pos (by omega), bt_mk hlt, w64s (by omega), h2, hd, spl_cons]
    by_cases h : l[i] = c
    · rw [if_pos (byte_eq.mpr h), if_pos h, if_pos (by omega), if_pos (by omega), if_pos (by omega), List.length_map, if_pos (by omega), Int.toNat_natCast, Int.toNat_natCast, mk_extract, hm, h1, Nat.sub_self, List.take_zero, glue_nil (spl_ne c _)]
      simp [glue]
    · rw [if_neg (fun e => h (byte_eq.mp e)), if_neg h, glue_glue]
      have ht : (l.drop f).take (i + 1 - f) = (l.drop f).take (i - f) ++ [l[i]] := by
        have hj : i - f < (l.drop f).length := by rw [List.length_drop]; omega
        rw [show i + 1 - f = (i - f) + 1 by omega, take_at hj, List.getElem_drop]
        simp [show f + (i - f) = i by omega]
      rw [ht]
theorem rsplit_eq (c : UInt8) {l : T} (hl : l.length ≤ 20000) (k : Nat) (hk : 20010 < k) : ebbtideref02_Split.f k (mk l) (c.toNat : Int) = some ((spl c l).map mk) := by
  have h := rsplit_l0 c hl l.length 0 0 k [] (by omega) (Nat.le_refl _) (by omega) (Nat.le_refl _)
  rw [List.drop_zero, Nat.sub_self, List.take_zero, glue_nil (spl_ne c l)] at h
  exact h
open Go.Lib (index occAt NoOcc)
theorem occ_iff {s sub : T} {i : Nat} : occAt s sub i = true ↔ ∃ v, s.drop i = sub ++ v := by
  unfold occAt
  rw [List.isPrefixOf_iff_prefix]
  exact ⟨fun ⟨v, h⟩ => ⟨v, h.symm⟩, fun ⟨v, h⟩ => ⟨v, h.symm⟩⟩
theorem no_occ {a r t : T} {c : UInt8} (h : c ∉ a) : NoOcc (a ++ r) (c :: t) a.length := by
  intro j hj
  rw [Bool.eq_false_iff]
  intro e
  obtain ⟨v, hv⟩ := occ_iff.mp e
  rw [List.drop_append_of_le_length (by omega), drop_at hj, List.cons_append, List.cons_append] at hv
  injection hv with h1 _
  exact h (by rw [← h1]; exact List.getElem_mem hj)
theorem index_at {a t v : T} {c : UInt8} (h : c ∉ a) : index (a ++ ((c :: t) ++ v)) (c :: t) = (a.length : Int) :=
  Go.Lib.index_hit (no_occ h) (by rw [List.length_append]; omega) (occ_iff.mpr ⟨v, by rw [List.drop_left]⟩)
theorem index_no {a t : T} {c : UInt8} (h : c ∉ a) : index a (c :: t) = -1 := by
  have h2 := no_occ (r := []) (t := t) h
  rw [List.append_nil] at h2
  exact Go.Lib.index_past (by simp) h2 (by simp)
/-- The first place of a text in another one, or none. -/
theorem index_cases (s : T) (c : UInt8) (t : T) : index s (c :: t) = -1 ∨ ∃ a v, s = a ++ ((c :: t) ++ v) ∧ index s (c :: t) = (a.length : Int) := by
  rcases Go.Lib.index_spec s (c :: t) with ⟨h, _⟩ | ⟨i, h1, h2, h3, _⟩
  · exact .inl h
  · obtain ⟨v, hv⟩ := occ_iff.mp h3
    refine .inr ⟨s.take i, v, by rw [← hv, List.take_append_drop], ?_⟩
    rw [h1, List.length_take, show min i s.length = i by omega]
theorem find_l0' {s sub : T} (hs : s.length ≤ 100000) (hb : sub.length ≤ 1000) (hne : sub ≠ []) (d : Nat) : ∀ (i k : Nat), NoOcc s sub i → i + d = s.length + 1 → d < k →
    ebbtideref05_find.l0 k (mk s) (mk sub) (i : Int) = some (index s sub) := by
  have hp : 0 < sub.length := List.length_pos_iff.mpr hne
  induction d with
  | zero =>
    intro i k ho hi hk
    obtain ⟨k, rfl⟩ := succ_of hk
    have e : wrap64 ((i : Int) + (sub.length : Int)) = ((i + sub.length : Nat) : Int) := by rw [w64 (by omega) (by omega)]; omega
    rw [ebbtideref05_find.l0, mk_size, mk_size, e, if_neg (by omega), Go.Lib.index_past hne ho (by omega)]
  | succ d ih =>
    intro i k ho hi hk
    obtain ⟨k, rfl⟩ := succ_of hk
    have e : wrap64 ((i : Int) + (sub.length : Int)) = ((i + sub.length : Nat) : Int) := by rw [w64 (by omega) (by omega)]; omega
    rw [ebbtideref05_find.l0, mk_size, mk_size, e]
    by_cases h : i + sub.length ≤ s.length
    · rw [if_pos (by omega), if_pos (by omega), if_pos (by omega), Int.toNat_natCast, Int.toNat_natCast, mk_extract, mk_toList, mk_toList, show i + sub.length - i = sub.length by omega, w64s (by omega)]
      by_cases hh : (s.drop i).take sub.length = sub
      · rw [if_pos hh, Go.Lib.index_hit ho (by omega) (occ_iff.mpr ⟨(s.drop i).drop sub.length, by
          conv => lhs; rw [← List.take_append_drop sub.length (s.drop i)]
          rw [hh]⟩)]
      · rw [if_neg hh]
        refine ih (i + 1) k (ho.succ ?_) (by omega) (by omega)
        rw [Bool.eq_false_iff]
        intro g
        obtain ⟨v, hv⟩ := occ_iff.mp g
        exact hh (by rw [hv, List.take_left])
    · rw [if_neg (by omega), Go.Lib.index_past hne ho (by omega)]
theorem rfind_eq {s sub : T} (hs : s.length ≤ 2000) (hb : sub.length ≤ 1000) (hne : sub ≠ []) {k : Nat} (hk : 2010 ≤ k) : ebbtideref05_find.f k (mk s) (mk sub) = some (index s sub) :=
  find_l0' (by omega) hb hne (s.length + 1) 0 k (Go.Lib.NoOcc.zero s sub) (by omega) (by omega)
/-- What a text's one part is read as. -/
def readT (s : T) : Int × T × T :=
  if 0 ≤ index s [33, 61] then (2, s.take (index s [33, 61]).toNat, s.drop ((index s [33, 61]).toNat + 2))
  else if 0 ≤ index s [61] then
    (if (s.drop ((index s [61]).toNat + 1)).getLast? = some 42 then (3, s.take (index s [61]).toNat, (s.drop ((index s [61]).toNat + 1)).dropLast)
      else (1, s.take (index s [61]).toNat, s.drop ((index s [61]).toNat + 1)))
  else (4, s, [])
theorem readT_len (s : T) : (readT s).2.1.length ≤ s.length ∧ (readT s).2.2.length ≤ s.length := by
  unfold readT
  split
  · simp only [List.length_take, List.length_drop]; omega
  · split
    · split
      · simp only [List.length_take, List.length_dropLast, List.length_drop]; omega
      · simp only [List.length_take, List.length_drop]; omega
    · simp
theorem readT_33 {s a v : T} (e : s = a ++ ([33, 61] ++ v)) (h : index s [33, 61] = (a.length : Int)) : readT s = (2, a, v) := by
  unfold readT
  rw [h, if_pos (by omega), Int.toNat_natCast, e, List.take_left, show a ++ ([33, 61] ++ v) = (a ++ [33, 61]) ++ v by simp, List.drop_left' (by simp)]
theorem readT_61 {s a v : T} (h0 : index s [33, 61] = -1) (e : s = a ++ ([61] ++ v)) (h : index s [61] = (a.length : Int)) : readT s = if v.getLast? = some 42 then (3, a, v.dropLast) else (1, a, v) := by
  unfold readT
  have ht : s.take a.length = a := by rw [e, List.take_left]
  have hd : s.drop (a.length + 1) = v := by
    rw [e, show a ++ ([61] ++ v) = (a ++ [61]) ++ v by simp]
    exact List.drop_left' (by simp)
  rw [h0, if_neg (by decide), h, if_pos (by omega), Int.toNat_natCast, ht, hd]
theorem readT_no {s : T} (h0 : index s [33, 61] = -1) (h : index s [61] = -1) : readT s = (4, s, []) := by
  unfold readT
  rw [h0, if_neg (by decide), h, if_neg (by decide)]
def out (r : Int × T × T) : Int × ByteArray × ByteArray := (r.1, mk r.2.1, mk r.2.2)
theorem cut_suffix {l : T} (h : l.length ≤ 100000) : strings_CutSuffix.f (mk l) (⟨#[42]⟩ : ByteArray) = some (if l.getLast? = some 42 then (mk l.dropLast, true) else (mk l, false)) := by
  unfold strings_CutSuffix.f stringslite_CutSuffix.f stringslite_HasSuffix.f
  have e1 : ((⟨#[42]⟩ : ByteArray).size : Int) = 1 := rfl
  rw [e1]
  rcases List.eq_nil_or_concat l with rfl | ⟨r, c, rfl⟩
  · rfl
  · rw [List.concat_eq_append] at h ⊢
    have h2 : ((mk (r ++ [c])).size : Int) = (r.length : Int) + 1 := by rw [mk_size, List.length_append, List.length_singleton]; omega
    rw [List.length_append] at h
    have h1 : wrap64 (((mk (r ++ [c])).size : Int) - 1) = (r.length : Int) := by rw [h2, w64 (by omega) (by omega)]; omega
    have et : (⟨#[42]⟩ : ByteArray).toList = [42] := mk_toList [42]
    have ex : (mk (r ++ [c])).extract r.length (mk (r ++ [c])).size = mk [c] := by rw [mk_from, List.drop_left]
    have ey : (mk (r ++ [c])).extract 0 r.length = mk r := by rw [mk_upto, List.take_left]
    have ei : ((r.length : Int)).toNat = r.length := by omega
    rw [h1, ei, ex, ey, h2, if_pos (by omega), if_pos (by omega), if_pos (by omega), mk_toList, et, Option.bind_some]
    by_cases hc : c = 42
    · subst hc
      rw [if_pos (by rfl), if_pos (by omega), if_pos (by omega), if_pos (by simp), List.dropLast_concat]
      rfl
    · rw [if_neg (by simpa using hc), if_neg (by simpa using hc)]
      rfl
theorem read_eq {s : T} (hs : s.length ≤ 100000) : pick_read.f (mk s) = some (out (readT s)) := by
  unfold pick_read.f readT strings_Cut.f
  rw [mk_size, if_pos (by omega), Option.bind_some, mk_data, show (⟨#[33, 61]⟩ : ByteArray) = mk [33, 61] from rfl, show (⟨#[61]⟩ : ByteArray) = mk [61] from rfl, mk_data]
  unfold Go.Lib.cut
  by_cases h1 : 0 ≤ index s [33, 61]
  · rw [if_pos h1, if_pos h1]
    rfl
  · rw [if_neg h1, if_neg h1]
    simp only [Bool.false_eq_true, if_false]
    rw [if_pos (by omega), Option.bind_some, mk_data]
    by_cases h2 : 0 ≤ index s [61]
    · rw [if_pos h2, if_pos h2]
      simp only [if_true]
      have hc := cut_suffix (l := s.drop ((index s [61]).toNat + 1)) (by rw [List.length_drop]; omega)
      show ((strings_CutSuffix.f (mk (s.drop ((index s [61]).toNat + 1))) (⟨#[42]⟩ : ByteArray)).bind fun bt163 => (if bt163.2 = true then some (3, mk (s.take (index s [61]).toNat), bt163.1) else some (1, mk (s.take (index s [61]).toNat), mk (s.drop ((index s [61]).toNat + 1))))) = _
      rw [hc, Option.bind_some]
      split <;> rfl
    · rw [if_neg h2, if_neg h2]
      simp only [Bool.false_eq_true, if_false]
      rfl
theorem part_eq {s : T} (hs : s.length ≤ 2000) {k : Nat} (hk : 2010 ≤ k) : ebbtideref05_part.f k (mk s) = some (out (readT s)) := by
  unfold ebbtideref05_part.f
  rw [show (⟨#[33, 61]⟩ : ByteArray) = mk [33, 61] from rfl, show (⟨#[61]⟩ : ByteArray) = mk [61] from rfl, rfind_eq hs (by simp) (by simp) hk, Option.bind_some]
  rcases index_cases s 33 [61] with h | ⟨a, v, e, h⟩
  · rw [h, if_neg (by decide), rfind_eq hs (by simp) (by simp) hk, Option.bind_some]
    rcases index_cases s 61 [] with h2 | ⟨a, v, e, h2⟩
    · rw [h2, if_pos (by decide), readT_no h h2]
      rfl
    · have hl : s.length = a.length + 1 + v.length := by rw [e]; simp only [List.length_append, List.length_cons, List.length_nil]; omega
      have hw : wrap64 ((s.length : Int) - 1) = ((s.length - 1 : Nat) : Int) := by rw [w64 (by omega) (by omega)]; omega
      have hd : s.drop (a.length + 1) = v := by
        rw [e, show a ++ ([61] ++ v) = (a ++ [61]) ++ v by simp]
        exact List.drop_left' (by simp)
      have ht : s.take a.length = a := by rw [e, List.take_left]
      have hi : s.length - 1 < s.length := by omega
      rw [h2, if_neg (by omega), readT_61 h e h2, mk_size, hw, if_pos (by omega), if_pos (by omega), bt_mk hi, w64s (by omega)]
      rcases List.eq_nil_or_concat v with rfl | ⟨r, c, rfl⟩
      · have hg : s[s.length - 1] = 61 := by
          have : s[s.length - 1]? = some 61 := by
            rw [hl, e]
            simp
          rw [List.getElem?_eq_getElem hi] at this
          exact Option.some.inj this
        rw [hg, if_neg (show ¬ ([] : T).getLast? = some 42 by simp), if_neg (by decide), if_pos (by omega), if_pos (by omega), if_pos (by omega), if_pos (by omega), Int.toNat_natCast, Int.toNat_natCast, mk_upto, ht]
        have := mk_from s (a.length + 1)
        rw [mk_size] at this
        rw [this, hd]
        rfl
      · rw [List.concat_eq_append] at e hd ⊢
        have hl2 : s.length = a.length + 1 + (r.length + 1) := by rw [hl]; simp
        have hg : s[s.length - 1] = c := by
          have : s[s.length - 1]? = some c := by
            rw [← List.getLast?_eq_getElem?, e, show a ++ ([61] ++ (r ++ [c])) = (a ++ 61 :: r) ++ [c] by simp]
            exact List.getLast?_concat
          rw [List.getElem?_eq_getElem hi] at this
          exact Option.some.inj this
        rw [hg]
        by_cases hc : c = 42
        · subst hc
          rw [if_pos (show (r ++ [42] : T).getLast? = some 42 by simp), if_pos (by rfl), if_pos (by omega), if_pos (by omega), if_pos (by omega), if_pos (by omega), if_pos (by omega), Int.toNat_natCast, Int.toNat_natCast, Int.toNat_natCast, mk_upto, ht, mk_extract, hd, List.dropLast_concat, show s.length - 1 - (a.length + 1) = r.length by omega, List.take_left]
          rfl
        · have hc' : ¬ (c.toNat : Int) = 42 := fun g => hc (byte_eq.mp (show (c.toNat : Int) = ((42 : UInt8).toNat : Int) from g))
          rw [if_neg (show ¬ (r ++ [c] : T).getLast? = some 42 by simpa using hc), if_neg hc', if_pos (by omega), if_pos (by omega), if_pos (by omega), if_pos (by omega), Int.toNat_natCast, Int.toNat_natCast, mk_upto, ht]
          have := mk_from s (a.length + 1)
          rw [mk_size] at this
          rw [this, hd]
          rfl
  · have hl : s.length = a.length + 2 + v.length := by rw [e]; simp only [List.length_append, List.length_cons, List.length_nil]; omega
    have hw : wrap64 ((a.length : Int) + 2) = ((a.length + 2 : Nat) : Int) := by rw [w64 (by omega) (by omega)]; omega
    rw [readT_33 e h, h, if_pos (by omega), if_pos (by omega), if_pos (by rw [mk_size]; omega), hw, if_pos (by omega), if_pos (by rw [mk_size]; omega), Int.toNat_natCast, Int.toNat_natCast, mk_upto, mk_from, e, List.take_left, show a ++ ([33, 61] ++ v) = (a ++ [33, 61]) ++ v by simp, List.drop_left' (by simp)]
    rfl
def readM (s : T) : Mt := ⟨(readT s).1, mk (readT s).2.1, mk (readT s).2.2⟩
/-- What a text is parsed as. -/
def parseL (L : List T) : List Mt × Int := if L.all (fun p => mayM (readM p)) = true then (if L.length > 4 then ([], 4) else (L.map readM, 0)) else ([], 2)
theorem mayM_read (s : T) : mayM (readM s) = mayT (readT s).1 (readT s).2.1 (readT s).2.2 := by
  unfold mayM readM bl
  rw [mk_data, mk_data]
theorem parse_l0 {L : List T} (hL : ∀ p ∈ L, p.length ≤ 1000) (hn : L.length ≤ 2000) (d : Nat) : ∀ (i k : Nat), i + d = L.length → d + 2100 < k → (∀ p ∈ L.take i, mayM (readM p) = true) →
    pick_Parse.l0 k ((L.take i).map readM) (L.map mk) (L.length : Int) (i : Int) = some (parseL L) ∧ ebbtideref05_Parse.l0 k ((L.take i).map readM) (L.map mk) (i : Int) = some (parseL L) := by
  induction d with
  | zero =>
    intro i k hi hk hm
    obtain ⟨k, rfl⟩ := succ_of hk
    rw [List.take_of_length_le (by omega)] at hm ⊢
    have ha : L.all (fun p => mayM (readM p)) = true := List.all_eq_true.mpr hm
    have c1 : ¬ (i : Int) < (L.length : Int) := by omega
    simp only [pick_Parse.l0, ebbtideref05_Parse.l0, List.length_map, if_neg c1]
    unfold parseL
    rw [if_pos ha]
    by_cases h : L.length > 4
    · rw [if_pos (by omega), if_pos h]
      exact ⟨rfl, rfl⟩
    · rw [if_neg (by omega), if_neg h]
      exact ⟨rfl, rfl⟩
  | succ d ih =>
    intro i k hi hk hm
    obtain ⟨k, rfl⟩ := succ_of hk
    have hlt : i < L.length := by omega
    have c1 : (i : Int) < (L.length : Int) := by omega
    have c2 : 0 ≤ (i : Int) := by omega
    have hp := hL _ (List.getElem_mem hlt)
    have hr := readT_len L[i]
    obtain ⟨k', hk'⟩ := succ_of (show 0 < k by omega)
    have e1 : pick_match_may.f k (readT L[i]).1 (mk (readT L[i]).2.1) (mk (readT L[i]).2.2) = some (mayM (readM L[i])) := by
      rw [mayM_read, hk']
      exact may_eq _ (by omega) (by omega) _
    have e2 : ebbtideref05_may.f k (readT L[i]).1 (mk (readT L[i]).2.1) (mk (readT L[i]).2.2) = some (mayM (readM L[i])) := by
      rw [mayM_read]
      exact rmay_eq _ (by omega) (by omega) (by omega)
    have c3 : ((L.take i).map readM).length < 3518437208883 := by rw [List.length_map, List.length_take]; omega
    simp only [pick_Parse.l0, ebbtideref05_Parse.l0, List.length_map, if_pos c1, if_pos c2]
    rw [rds hlt, read_eq (by omega), part_eq (by omega) (by omega), Option.bind_some, Option.bind_some]
    unfold out
    simp only []
    rw [e1, e2, Option.bind_some, Option.bind_some, w64s (by omega)]
    by_cases h : mayM (readM L[i]) = true
    · have hm2 : ∀ p ∈ L.take (i + 1), mayM (readM p) = true := fun p hp => by
        rw [take_at hlt, List.mem_append, List.mem_singleton] at hp
        rcases hp with hp | rfl
        · exact hm p hp
        · exact h
      have h2 := ih (i + 1) k (by omega) (by omega) hm2
      rw [take_at hlt, List.map_append] at h2
      rw [List.length_map] at c3
      simp only [if_pos h, if_pos c3]
      exact h2
    · have hna : ¬ L.all (fun p => mayM (readM p)) = true := fun g => h (List.all_eq_true.mp g _ (List.getElem_mem hlt))
      have hp2 : parseL L = ([], 2) := by
        unfold parseL
        rw [if_neg hna]
      simp only [if_neg h]
      rw [hp2]
      exact ⟨rfl, rfl⟩
def parseS (s : T) : List Mt × Int := if s = [] then ([], 0) else parseL (spl 44 s)
theorem spl_short (c : UInt8) : ∀ (l : T), ∀ p ∈ spl c l, p.length ≤ l.length
  | [], p, hp => by
    rw [show spl c [] = [[]] from rfl, List.mem_singleton] at hp
    rw [hp]
    exact Nat.le_refl _
  | x :: l, p, hp => by
    rw [spl_cons] at hp
    by_cases h : x = c
    · rw [if_pos h] at hp
      rcases List.mem_cons.mp hp with rfl | hp
      · exact Nat.zero_le _
      · have := spl_short c l p hp
        rw [List.length_cons]
        omega
    · rw [if_neg h] at hp
      have hne := spl_ne c l
      cases hq : spl c l with
      | nil => exact absurd hq hne
      | cons y L =>
        rw [hq] at hp
        unfold glue at hp
        rcases List.mem_cons.mp hp with rfl | hp
        · have := spl_short c l y (by rw [hq]; exact List.mem_cons_self)
          simp only [List.length_append, List.length_cons, List.length_nil]
          omega
        · have := spl_short c l p (by rw [hq]; exact List.mem_cons_of_mem _ hp)
          rw [List.length_cons]
          omega
theorem parse_eq {s : T} (hs : s.length ≤ 1000) {k : Nat} (hk : 30000 ≤ k) : pick_Parse.f k (mk s) = some (parseS s) ∧ ebbtideref05_Parse.f k (mk s) = some (parseS s) := by
  unfold pick_Parse.f ebbtideref05_Parse.f parseS
  rw [mk_toList]
  by_cases h : s = []
  · rw [if_pos h, if_pos h, if_pos h]
    exact ⟨rfl, rfl⟩
  · rw [if_neg h, if_neg h, if_neg h]
    have h44 : (44 : Int) = ((44 : UInt8).toNat : Int) := rfl
    rw [h44, split_eq 44 (by omega) k (by omega), rsplit_eq 44 (by omega) k (by omega), Option.bind_some, Option.bind_some, List.length_map]
    have hl := spl_len 44 s
    exact parse_l0 (L := spl 44 s) (fun p hp => Nat.le_trans (spl_short 44 s p hp) hs) (by omega) (spl 44 s).length 0 k (by omega) (by omega) (fun p hp => by rw [List.take_zero] at hp; exact absurd hp List.not_mem_nil)
theorem parse_len (s : T) : (parseS s).1.length ≤ 4 := by
  unfold parseS parseL
  split
  · simp
  · split
    · split
      · simp
      · rw [List.length_map]
        omega
    · simp
end Go.Proofs.YtdmobcaidjilcaaDoor.Pure
