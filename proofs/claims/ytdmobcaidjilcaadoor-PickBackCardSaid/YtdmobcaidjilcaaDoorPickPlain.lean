/- What matches are, in plain Lean: whether they may be, their text, the same ones, tags that fit; and that the program's functions and the references' compute just that. Conditions: the texts are short enough for the machine. -/
import Derived.Test.YtdmobcaidjilcaaDoorPickWord
import Derived.Test.YtdmobcaidjilcaaDoorXx3
import Derived.Test.YtdmobcaidjilcaaDoorXx3
import Derived.Test.YtdmobcaidjilcaaDoorXx3
import Derived.Test.YtdmobcaidjilcaaDoorXx9
import Derived.Test.YtdmobcaidjilcaaDoorXx10
import Derived.Test.YtdmobcaidjilcaaDoorXx10
import Derived.Test.YtdmobcaidjilcaaDoorXx7
import Derived.Test.YtdmobcaidjilcaaDoorXx7
namespace Go.Proofs.YtdmobcaidjilcaaDoor.Pure
open Go.RowKit Go.Proofs.YtdmobcaidjilcaaDoor.X Go.Proofs.YtdmobcaidjilcaaDoorW.PrintWords Go.Proofs.YtdmobcaidjilcaaDoorW.PrintLast Go.Proofs.YtdmobcaidjilcaaDoorW.PrintMore Go.Proofs.YtdmobcaidjilcaaDoor.Aid Go.Proofs.YtdmobcaidjilcaaDoor.Bytes

abbrev Mt := S39
abbrev Tg := S37
def bl (s : ByteArray) : T := s.data.toList
theorem bl_eta (s : ByteArray) : mk (bl s) = s := mk_eta s
theorem bl_len (s : ByteArray) : (bl s).length = s.size := by rw [← mk_size, bl_eta]
theorem rdM {l : List Mt} {i : Nat} (h : i < l.length) : rd_T39 l (i : Int) = l[i] := getD_at h _
theorem rdT {l : List Tg} {i : Nat} (h : i < l.length) : rd_T37 l (i : Int) = l[i] := getD_at h _
/-- May a match be? -/
def mayT (a : Int) (n v : T) : Bool := isName n && (if a = 1 ∨ a = 2 then isVal v else if a = 3 then (decide (v = []) || isVal v) else if a = 4 then decide (v = []) else false)
theorem beq_nil (v : T) : (v == ([] : List UInt8)) = decide (v = []) := by
  cases v with
  | nil => rfl
  | cons x v => rfl
theorem may_eq (a : Int) {n v : T} (hn : n.length ≤ 100000) (hv : v.length ≤ 100000) (k : Nat) : pick_match_may.f (k + 1) a (mk n) (mk v) = some (mayT a n v) := by
  unfold pick_match_may.f mayT
  rw [name_eq hn, Option.bind_some]
  by_cases h : isName n = true
  · rw [if_pos h, h, Bool.true_and]
    simp only [pick_match_may.j0]
    rw [value_eq hv, mk_toList, Option.bind_some]
    by_cases h1 : a = 1
    · subst h1
      rfl
    · rw [if_neg h1]
      by_cases h2 : a = 2
      · subst h2
        rfl
      · rw [if_neg (by simpa using h2), if_neg (show ¬ (a = 1 ∨ a = 2) from fun h => h.elim h1 h2)]
        by_cases h3 : a = 3
        · rw [if_pos h3, if_pos h3]
          by_cases hz : v = []
          · rw [if_pos hz, decide_eq_true hz, Bool.true_or]
          · rw [if_neg hz, decide_eq_false hz, Bool.false_or]
        · rw [if_neg h3, if_neg h3, beq_nil]
          split <;> rfl
  · rw [if_neg h, Bool.eq_false_iff.mpr h, Bool.false_and]
theorem rmay_eq (a : Int) {n v : T} (hn : n.length ≤ 1000) (hv : v.length ≤ 1000) {k : Nat} (hk : 1010 ≤ k) : ebbtideref05_may.f k a (mk n) (mk v) = some (mayT a n v) := by
  obtain ⟨k, rfl⟩ := succ_of (show 0 < k by omega)
  unfold ebbtideref05_may.f mayT
  rw [rname_eq (by omega) _ (by omega), Option.bind_some]
  by_cases h : isName n = true
  · rw [if_pos h, h, Bool.true_and]
    simp only [ebbtideref05_may.j0]
    rw [rvalue_eq (by omega) k (by omega), mk_toList, Option.bind_some]
    by_cases h1 : a = 1
    · subst h1
      rfl
    · rw [if_neg h1]
      by_cases h2 : a = 2
      · subst h2
        rfl
      · rw [if_neg (by simpa using h2), if_neg (show ¬ (a = 1 ∨ a = 2) from fun h => h.elim h1 h2)]
        by_cases h3 : a = 3
        · rw [if_pos h3, if_pos h3]
          by_cases hz : v = []
          · rw [if_pos hz, decide_eq_true hz, Bool.true_or]
          · rw [if_neg hz, decide_eq_false hz, Bool.false_or]
        · rw [if_neg h3, if_neg h3, beq_nil]
          split <;> rfl
  · rw [if_neg h, Bool.eq_false_iff.mpr h, Bool.false_and]
def mayM (x : Mt) : Bool := mayT x.f0 (bl x.f1) (bl x.f2)
/-- Texts that are short. -/
def Sh (l : List Mt) : Prop := ∀ x ∈ l, x.f1.size ≤ 1000 ∧ x.f2.size ≤ 1000
theorem may_m {x : Mt} (h : x.f1.size ≤ 1000 ∧ x.f2.size ≤ 1000) (k : Nat) : pick_match_may.f (k + 1) x.f0 x.f1 x.f2 = some (mayM x) := by
  have e := may_eq x.f0 (n := bl x.f1) (v := bl x.f2) (by rw [bl_len]; omega) (by rw [bl_len]; omega) k
  rw [bl_eta, bl_eta] at e
  exact e
theorem rmay_m {x : Mt} (h : x.f1.size ≤ 1000 ∧ x.f2.size ≤ 1000) {k : Nat} (hk : 1010 ≤ k) : ebbtideref05_may.f k x.f0 x.f1 x.f2 = some (mayM x) := by
  have e := rmay_eq x.f0 (n := bl x.f1) (v := bl x.f2) (by rw [bl_len]; omega) (by rw [bl_len]; omega) hk
  rw [bl_eta, bl_eta] at e
  exact e
/-- May they be? -/
def rightS (l : List Mt) : Bool := decide (l.length ≤ 4) && l.all mayM
theorem right_l0 {l : List Mt} (hs : Sh l) (hl : l.length ≤ 1000) (d : Nat) : ∀ (i k : Nat), i + d = l.length → d + 1 < k →
    ∃ r : Int, api_Match_with_22_36.l0 k l (l.length : Int) (i : Int) = some r ∧ decide (r ≥ 0) = !((l.drop i).all mayM) := by
  induction d with
  | zero =>
    intro i k hi hk
    obtain ⟨k, rfl⟩ := succ_of hk
    simp only [api_Match_with_22_36.l0]
    rw [if_neg (by omega), List.drop_of_length_le (by omega)]
    exact ⟨-1, rfl, rfl⟩
  | succ d ih =>
    intro i k hi hk
    obtain ⟨k, rfl⟩ := succ_of hk
    obtain ⟨k, rfl⟩ := succ_of (show d < k by omega)
    have hlt : i < l.length := by omega
    simp only [api_Match_with_22_36.l0]
    unfold pick_Right_1.f
    rw [if_pos (by omega), if_pos (by omega), if_pos (by omega), rdM hlt, may_m (hs _ (List.getElem_mem hlt)), Option.bind_some, Option.bind_some, w64s (by omega), drop_at hlt, List.all_cons]
    by_cases h : mayM l[i] = true
    · rw [h, if_neg (by decide), Bool.true_and]
      exact ih (i + 1) (k + 1) (by omega) (by omega)
    · rw [Bool.eq_false_iff.mpr h, if_pos (show (!false) = true from rfl), Bool.false_and]
      exact ⟨(i : Int), rfl, decide_eq_true (by omega)⟩
theorem right_eq {l : List Mt} (hs : Sh l) (hl : l.length ≤ 1000) {k : Nat} (hk : 1010 ≤ k) : pick_Right.f k l = some (rightS l) := by
  unfold pick_Right.f rightS
  by_cases h : l.length ≤ 4
  · obtain ⟨r, e1, e2⟩ := right_l0 hs hl l.length 0 k (by omega) (by omega)
    unfold api_Match_with_22_21.f api_Match_with_22_36.f
    rw [if_pos (by omega), show (0 : Int) = ((0 : Nat) : Int) from rfl, e1, Option.bind_some, Option.bind_some, show ((0 : Nat) : Int) = 0 from rfl, e2, List.drop_zero, decide_eq_true h, Bool.true_and, Bool.not_not]
  · rw [if_neg (by omega), decide_eq_false h, Bool.false_and]
theorem rright_l0 {l : List Mt} (hs : Sh l) (hl : l.length ≤ 1000) (d : Nat) : ∀ (i k : Nat), i + d = l.length → d + 1010 < k →
    ebbtideref05_Right.l0 k l (i : Int) = some (decide (l.length ≤ 4) && (l.drop i).all mayM) := by
  induction d with
  | zero =>
    intro i k hi hk
    obtain ⟨k, rfl⟩ := succ_of hk
    simp only [ebbtideref05_Right.l0]
    rw [if_neg (by omega), List.drop_of_length_le (by omega), List.all_nil, Bool.and_true]
    exact congrArg some (decide_eq_decide.mpr (by omega))
  | succ d ih =>
    intro i k hi hk
    obtain ⟨k, rfl⟩ := succ_of hk
    have hlt : i < l.length := by omega
    simp only [ebbtideref05_Right.l0]
    rw [if_pos (by omega), if_pos (by omega), rdM hlt, rmay_m (hs _ (List.getElem_mem hlt)) (by omega), Option.bind_some, w64s (by omega), ih (i + 1) k (by omega) (by omega), drop_at hlt, List.all_cons]
    by_cases h : mayM l[i] = true
    · rw [if_pos h, h, Bool.true_and]
    · rw [if_neg h, Bool.eq_false_iff.mpr h, Bool.false_and, Bool.and_false]
theorem rright_eq {l : List Mt} (hs : Sh l) (hl : l.length ≤ 1000) {k : Nat} (hk : 2100 ≤ k) : ebbtideref05_Right.f k l = some (rightS l) := by
  have h := rright_l0 hs hl l.length 0 k (by omega) (by omega)
  rw [List.drop_zero] at h
  exact h
/-- A match's text. -/
def textT (a : Int) (n v : T) : T := if a = 1 then n ++ [61] ++ v else if a = 2 then n ++ [33, 61] ++ v else if a = 3 then n ++ [61] ++ (v ++ [42]) else n
theorem join2 (n v s : T) : Lib.join [n, v] s = n ++ s ++ v := by simp [Lib.join_cons, Lib.joinTail]
theorem text1_eq (a : Int) {n v : T} (hn : n.length ≤ 10000) (hv : v.length ≤ 10000) : pick_match_text.f a (mk n) (mk v) = some (mk (textT a n v)) := by
  have hj : ∀ s : T, s.length ≤ 2 → ∀ w : T, w.length ≤ 10001 → word_Join.f (mk s) [mk n, mk w] = some (mk (n ++ s ++ w)) := fun s hs w hw => by
    have := join_eq (L := [n, w]) (s := s) (by simp) (by rw [join2]; simp only [List.length_append]; omega)
    rw [join2] at this
    exact this
  have e1 := hj [61] (by simp) v (by omega)
  have e2 := hj [33, 61] (by simp) v (by omega)
  have e3 := hj [61] (by simp) (v ++ [42]) (by simp only [List.length_append, List.length_singleton]; omega)
  rw [← mk_append] at e3
  unfold pick_match_text.f textT
  by_cases h1 : a = 1
  · rw [if_pos h1, if_pos h1, show (⟨#[61]⟩ : ByteArray) = mk [61] from rfl, e1]
    rfl
  · rw [if_neg h1, if_neg h1]
    by_cases h2 : a = 2
    · rw [if_pos h2, if_pos h2, show (⟨#[33, 61]⟩ : ByteArray) = mk [33, 61] from rfl, e2]
      rfl
    · rw [if_neg h2, if_neg h2]
      by_cases h3 : a = 3
      · rw [if_pos h3, if_pos h3, mk_size, if_pos (by omega), show (⟨#[61]⟩ : ByteArray) = mk [61] from rfl, show (⟨#[42]⟩ : ByteArray) = mk [42] from rfl, e3]
        rfl
      · rw [if_neg h3, if_neg h3]
def textM (x : Mt) : T := textT x.f0 (bl x.f1) (bl x.f2)
theorem text1_m {x : Mt} (h : x.f1.size ≤ 1000 ∧ x.f2.size ≤ 1000) : pick_match_text.f x.f0 x.f1 x.f2 = some (mk (textM x)) := by
  have e := text1_eq x.f0 (n := bl x.f1) (v := bl x.f2) (by rw [bl_len]; omega) (by rw [bl_len]; omega)
  rw [bl_eta, bl_eta] at e
  exact e
theorem textM_len {x : Mt} : (textM x).length ≤ x.f1.size + x.f2.size + 2 := by
  unfold textM textT
  rw [← bl_len, ← bl_len]
  split
  · simp only [List.length_append, List.length_cons, List.length_nil]; omega
  · split
    · simp only [List.length_append, List.length_cons, List.length_nil]; omega
    · split
      · simp only [List.length_append, List.length_cons, List.length_nil]; omega
      · omega
/-- Their text. -/
def textS (l : List Mt) : T := Lib.join (l.map textM) [44]
theorem tot_texts {l : List Mt} {b : Nat} (h : ∀ x ∈ l, x.f1.size + x.f2.size ≤ b) : tot (l.map textM) ≤ l.length * (b + 2) := by
  induction l with
  | nil => simp [tot]
  | cons x l ih =>
    have h1 := h x List.mem_cons_self
    have h2 := ih (fun y hy => h y (List.mem_cons_of_mem _ hy))
    have h3 := textM_len (x := x)
    rw [List.map_cons, tot_cons, List.length_cons, Nat.succ_mul]
    omega
theorem textS_len {l : List Mt} (hs : Sh l) (hl : l.length ≤ 1000) : (textS l).length ≤ 3000000 := by
  have h1 := join_len [44] (l.map textM)
  have h2 := tot_texts (b := 2000) (fun x hx => by have := hs x hx; omega)
  have h3 : l.length * 2002 ≤ 1000 * 2002 := Nat.mul_le_mul_right _ hl
  rw [List.length_map, List.length_singleton, Nat.mul_one] at h1
  unfold textS
  omega
theorem text_l0 {l : List Mt} (hs : Sh l) (hl : l.length ≤ 1000) (d : Nat) : ∀ (i k : Nat), i + d = l.length → d < k →
    pick_Text.l0 k (((l.take i).map textM).map mk) l (l.length : Int) (i : Int) = some (mk (textS l)) := by
  induction d with
  | zero =>
    intro i k hi hk
    obtain ⟨k, rfl⟩ := succ_of hk
    have hj := textS_len hs hl
    unfold textS at hj ⊢
    simp only [pick_Text.l0]
    rw [if_neg (by omega), List.take_of_length_le (by omega), show (⟨#[44]⟩ : ByteArray) = mk [44] from rfl, join_eq (by rw [List.length_map]; omega) (by omega)]
    rfl
  | succ d ih =>
    intro i k hi hk
    obtain ⟨k, rfl⟩ := succ_of hk
    have hlt : i < l.length := by omega
    have h := ih (i + 1) k (by omega) (by omega)
    rw [take_at hlt, List.map_append, List.map_append] at h
    simp only [pick_Text.l0]
    rw [if_pos (by omega), if_pos (by omega), if_pos (by omega), rdM hlt, text1_m (hs _ (List.getElem_mem hlt)), Option.bind_some, if_pos (by rw [List.length_map, List.length_map, List.length_take]; omega), w64s (by omega)]
    exact h
theorem text_eq {l : List Mt} (hs : Sh l) (hl : l.length ≤ 1000) {k : Nat} (hk : 1010 ≤ k) : pick_Text.f k l = some (mk (textS l)) :=
  text_l0 hs hl l.length 0 k (by omega) (by omega)
theorem rtext_l0 {l : List Mt} (hs : ∀ x ∈ l, x.f1.size ≤ 100 ∧ x.f2.size ≤ 100) (hl : l.length ≤ 20) (d : Nat) : ∀ (i k : Nat), i + d = l.length → d + 300 < k →
    ebbtideref05_Text.l0 k l (((l.take i).map textM).map mk) (i : Int) = some (mk (textS l)) := by
  induction d with
  | zero =>
    intro i k hi hk
    obtain ⟨k, rfl⟩ := succ_of hk
    have ht := tot_texts (b := 200) (fun x hx => by have := hs x hx; omega)
    have h3 : l.length * 202 ≤ 20 * 202 := Nat.mul_le_mul_right _ hl
    simp only [ebbtideref05_Text.l0]
    rw [if_neg (by omega), List.take_of_length_le (by omega), show (⟨#[44]⟩ : ByteArray) = mk [44] from rfl, rjoin_eq (by rw [List.length_map]; omega) (by simp) (by omega) k (by omega)]
    rfl
  | succ d ih =>
    intro i k hi hk
    obtain ⟨k, rfl⟩ := succ_of hk
    have hlt : i < l.length := by omega
    have h := ih (i + 1) k (by omega) (by omega)
    have hb := hs _ (List.getElem_mem hlt)
    rw [take_at hlt, List.map_append, List.map_append] at h
    have hlen : (((l.take i).map textM).map mk).length < 8796093022208 := by rw [List.length_map, List.length_map, List.length_take]; omega
    simp only [ebbtideref05_Text.l0]
    rw [if_pos (by omega), if_pos (by omega), rdM hlt, w64s (by omega)]
    generalize hx : l[i] = x at h hb ⊢
    obtain ⟨a, n, v⟩ := x
    obtain ⟨n, rfl⟩ := str_mk n
    obtain ⟨v, rfl⟩ := str_mk v
    have hbn : bl (mk n) = n := mk_data n
    have hbv : bl (mk v) = v := mk_data v
    simp only [mk_size] at hb
    have et : textM ⟨a, mk n, mk v⟩ = textT a n v := by unfold textM; rw [hbn, hbv]
    rw [List.map_cons, List.map_nil, List.map_cons, List.map_nil, et] at h
    unfold textT at h
    simp only [show (⟨#[61]⟩ : ByteArray) = mk [61] from rfl, show (⟨#[33, 61]⟩ : ByteArray) = mk [33, 61] from rfl, show (⟨#[42]⟩ : ByteArray) = mk [42] from rfl, mk_append, mk_size, List.length_append, List.length_cons, List.length_nil]
    by_cases h1 : a = 1
    · rw [if_pos h1] at h ⊢
      rw [if_pos (by omega), if_pos (by omega), if_pos hlen]
      exact h
    · rw [if_neg h1] at h ⊢
      by_cases h2 : a = 2
      · rw [if_pos h2] at h ⊢
        rw [if_pos (by omega), if_pos (by omega), if_pos hlen]
        exact h
      · rw [if_neg h2] at h ⊢
        by_cases h3 : a = 3
        · rw [if_pos h3] at h ⊢
          rw [if_pos (by omega), if_pos (by omega), if_pos (by omega), if_pos hlen]
          rw [← List.append_assoc] at h
          exact h
        · rw [if_neg h3] at h ⊢
          rw [if_pos hlen]
          exact h
theorem rtext_eq {l : List Mt} (hs : ∀ x ∈ l, x.f1.size ≤ 100 ∧ x.f2.size ≤ 100) (hl : l.length ≤ 20) {k : Nat} (hk : 400 ≤ k) : ebbtideref05_Text.f k l = some (mk (textS l)) :=
  rtext_l0 hs hl l.length 0 k (by omega) (by omega)
theorem same_l0 {a b : List Mt} (he : a.length = b.length) (hl : a.length ≤ 100000) (d : Nat) : ∀ (i k : Nat), i + d = a.length → d < k →
    ∃ r, api_Match_28.l0 k a b (a.length : Int) (i : Int) = some r ∧ ebbtideref05_Same.l0 k a b (i : Int) = some r := by
  induction d with
  | zero =>
    intro i k hi hk
    obtain ⟨k, rfl⟩ := succ_of hk
    simp only [api_Match_28.l0, ebbtideref05_Same.l0]
    rw [if_neg (by omega)]
    exact ⟨_, rfl, if_neg (by omega)⟩
  | succ d ih =>
    intro i k hi hk
    obtain ⟨k, rfl⟩ := succ_of hk
    simp only [api_Match_28.l0, ebbtideref05_Same.l0]
    have c1 : (i : Int) < (a.length : Int) := by omega
    have c2 : 0 ≤ (i : Int) := by omega
    have c3 : (i : Int) < (b.length : Int) := by omega
    simp only [if_pos c1, if_pos c2, if_pos c3]
    rw [w64s (by omega)]
    obtain ⟨r, h1, h2⟩ := ih (i + 1) k (by omega) (by omega)
    rw [h1, h2]
    split
    · exact ⟨_, rfl, rfl⟩
    · exact ⟨_, rfl, rfl⟩
theorem same_both {a b : List Mt} (hl : a.length ≤ 100000) {k : Nat} (hk : a.length < k) : ∃ r, pick_Same.f k a b = some r ∧ ebbtideref05_Same.f k a b = some r := by
  unfold pick_Same.f api_Match_28.f ebbtideref05_Same.f
  by_cases he : a.length = b.length
  · obtain ⟨r, h1, h2⟩ := same_l0 he hl a.length 0 k (by omega) hk
    rw [if_pos (by omega), if_pos (by omega)]
    refine ⟨r, ?_, h2⟩
    rw [show (0 : Int) = ((0 : Nat) : Int) from rfl, h1]
    rfl
  · rw [if_neg (by omega), if_neg (by omega)]
    exact ⟨false, rfl, rfl⟩
theorem same_self_l0 {a : List Mt} (hl : a.length ≤ 100000) (d : Nat) : ∀ (i k : Nat), i + d = a.length → d < k → ebbtideref05_Same.l0 k a a (i : Int) = some true := by
  induction d with
  | zero =>
    intro i k hi hk
    obtain ⟨k, rfl⟩ := succ_of hk
    simp only [ebbtideref05_Same.l0]
    rw [if_neg (by omega)]
  | succ d ih =>
    intro i k hi hk
    obtain ⟨k, rfl⟩ := succ_of hk
    simp only [ebbtideref05_Same.l0]
    rw [if_pos (by omega), if_pos (by omega), if_pos (by omega), w64s (by omega), ih (i + 1) k (by omega) (by omega)]
    simp
theorem same_self {a : List Mt} (hl : a.length ≤ 100000) {k : Nat} (hk : a.length < k) : ebbtideref05_Same.f k a a = some true := by
  unfold ebbtideref05_Same.f
  rw [if_pos rfl]
  exact same_self_l0 hl a.length 0 k (by omega) hk
/-- Some matches are too many or too long, or they are few and short. -/
theorem great_l0 {l : List Mt} (hl : l.length ≤ 20) (d : Nat) : ∀ (i k : Nat), i + d = l.length → d < k →
    ebbtideref05_Great.l0 k l (i : Int) = some true ∨ (ebbtideref05_Great.l0 k l (i : Int) = some false ∧ ∀ x ∈ l.drop i, x.f1.size ≤ 100 ∧ x.f2.size ≤ 100) := by
  induction d with
  | zero =>
    intro i k hi hk
    obtain ⟨k, rfl⟩ := succ_of hk
    simp only [ebbtideref05_Great.l0]
    rw [if_neg (by omega), List.drop_of_length_le (by omega)]
    exact .inr ⟨rfl, fun x hx => absurd hx List.not_mem_nil⟩
  | succ d ih =>
    intro i k hi hk
    obtain ⟨k, rfl⟩ := succ_of hk
    have hlt : i < l.length := by omega
    simp only [ebbtideref05_Great.l0]
    rw [if_pos (by omega), if_pos (by omega), rdM hlt, w64s (by omega), drop_at hlt]
    by_cases h1 : (l[i].f1.size : Int) > 100
    · rw [if_pos h1]
      exact .inl rfl
    · rw [if_neg h1]
      by_cases h2 : (l[i].f2.size : Int) > 100
      · rw [if_pos h2]
        exact .inl rfl
      · rw [if_neg h2]
        rcases ih (i + 1) k (by omega) (by omega) with h | ⟨h, h3⟩
        · exact .inl h
        · refine .inr ⟨h, fun x hx => ?_⟩
          rcases List.mem_cons.mp hx with rfl | hx
          · omega
          · exact h3 x hx
theorem great_eq (l : List Mt) {k : Nat} (hk : 30 ≤ k) : ebbtideref05_Great.f k l = some true ∨ (ebbtideref05_Great.f k l = some false ∧ l.length ≤ 20 ∧ ∀ x ∈ l, x.f1.size ≤ 100 ∧ x.f2.size ≤ 100) := by
  unfold ebbtideref05_Great.f
  by_cases h : (l.length : Int) > 20
  · rw [if_pos h]
    exact .inl rfl
  · rw [if_neg h]
    rcases great_l0 (l := l) (by omega) l.length 0 k (by omega) (by omega) with h1 | ⟨h1, h2⟩
    · exact .inl h1
    · exact .inr ⟨h1, by omega, by rw [List.drop_zero] at h2; exact h2⟩
theorem sh_of {l : List Mt} (h : ∀ x ∈ l, x.f1.size ≤ 100 ∧ x.f2.size ≤ 100) : Sh l := fun x hx => by have := h x hx; omega
theorem alive_eq {k : Nat} (hk : 400 ≤ k) : ebbtidelaw05_alive.f k = some true :=
  at_rounds (g := fun k => ebbtidelaw05_alive.f k) ebbtidelaw05_alive.mono (Nat.le_trans (by decide : 60 ≤ 400) hk) (by decide +kernel)
end Go.Proofs.YtdmobcaidjilcaaDoor.Pure
