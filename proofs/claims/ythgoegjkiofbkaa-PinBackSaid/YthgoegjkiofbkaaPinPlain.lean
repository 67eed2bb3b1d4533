/- What pins are, in plain Lean: in order, found, joined, dropped; and that the program's functions and the references' compute just that. Conditions: there are not too many for the machine. -/
import Derived.Test.YthgoegjkiofbkaaAid
import Derived.Test.YthgoegjkiofbkaaXx
namespace Go.Proofs.Ythgoegjkiofbkaa.Pure
open Go.RowKit Go.Proofs.Ythgoegjkiofbkaa.X Go.Proofs.YthgoegjkiofbkaaW.PrintWords Go.Proofs.YthgoegjkiofbkaaW.PrintLast Go.Proofs.YthgoegjkiofbkaaW.PrintMore Go.Proofs.Ythgoegjkiofbkaa.Aid

abbrev Pn := S35
theorem rdP {l : List Pn} {i : Nat} (h : i < l.length) : rd_T35 l (i : Int) = l[i] := getD_at h _
def cmpI (a b : Int) : Int := if a < b then -1 else if a > b then 1 else 0
theorem order_eq (a b c d : Int) : pin_order.f a b c d = some (cmpI a c) := by
  simp [pin_order.f, cmp_Compare_int.f, cmp_isNaN_int.f, cmpI]
  split
  · rfl
  · split <;> rfl
theorem cmp_neg {a b : Int} : cmpI a b < 0 ↔ a < b := by unfold cmpI; split <;> (try split) <;> omega
theorem cmp_zero {a b : Int} : (cmpI a b == 0) = decide (a = b) := by
  unfold cmpI
  split
  · rw [decide_eq_false (by omega)]; rfl
  · split
    · rw [decide_eq_false (by omega)]; rfl
    · rw [decide_eq_true (by omega)]; rfl

/-- In order. -/
def Ord (l : List Pn) : Prop := ∀ j (h : j < l.length), 0 ≤ l[j].f1 ∧ ∀ h' : 0 < j, l[j - 1].f0 < l[j].f0
theorem right_same (l : List Pn) (hl : l.length ≤ 1000000) : ∀ (k i : Nat), pin_Right.l0 k l l (l.length : Int) (i : Int) = ebbtideref15_Right.l0 k l (i : Int) := by
  intro k
  induction k with
  | zero => intro i; rfl
  | succ k ih =>
    intro i
    by_cases h : (i : Int) < (l.length : Int)
    · have hi0 : 0 ≤ (i : Int) := by omega
      simp only [pin_Right.l0, ebbtideref15_Right.l0, if_pos h, if_pos hi0]
      rw [w64s (by omega)]
      by_cases h1 : (rd_T35 l (i : Int)).f1 < 0
      · rw [if_pos h1, if_pos h1]
      · rw [if_neg h1, if_neg h1]
        by_cases h0 : (i : Int) > 0
        · have hm0 : 0 ≤ (i : Int) - 1 := by omega
          have hm1 : (i : Int) - 1 < (l.length : Int) := by omega
          simp only [w64p (show i < 9223372036854775807 by omega), if_pos h0, if_pos hm0, if_pos hm1, order_eq, Option.bind_some]
          by_cases hc : (rd_T35 l ((i : Int) - 1)).f0 < (rd_T35 l (i : Int)).f0
          · rw [if_neg (by have := cmp_neg.2 hc; omega), if_neg (by omega)]
            exact ih (i + 1)
          · rw [if_pos (by have := mt cmp_neg.1 hc; omega), if_pos (by omega)]
        · rw [if_neg h0, if_neg h0]
          exact ih (i + 1)
    · simp only [pin_Right.l0, ebbtideref15_Right.l0, if_neg h]
theorem right_l0 {l : List Pn} (hl : l.length ≤ 1000000) (d : Nat) : ∀ (i k : Nat), i + d = l.length → d < k → ∃ b, ebbtideref15_Right.l0 k l (i : Int) = some b ∧ (b = true ↔ ∀ j (h : j < l.length), i ≤ j → 0 ≤ l[j].f1 ∧ ∀ h' : 0 < j, l[j - 1].f0 < l[j].f0) := by
  induction d with
  | zero =>
    intro i k hi hk
    obtain ⟨k, rfl⟩ := succ_of hk
    refine ⟨true, by simp only [ebbtideref15_Right.l0]; rw [if_neg (by omega)], by simp; intro j h1 h2; omega⟩
  | succ d ih =>
    intro i k hi hk
    obtain ⟨k, rfl⟩ := succ_of hk
    have hlt : i < l.length := by omega
    simp only [ebbtideref15_Right.l0]
    rw [if_pos (by omega), if_pos (by omega), rdP hlt, w64s (by omega)]
    obtain ⟨b, hb, hs⟩ := ih (i + 1) k (by omega) (by omega)
    by_cases h1 : l[i].f1 < 0
    · rw [if_pos h1]
      refine ⟨false, rfl, ⟨fun h => (by cases h), fun h => absurd (h i hlt (Nat.le_refl _)).1 (by omega)⟩⟩
    · rw [if_neg h1]
      by_cases h0 : (i : Int) > 0
      · have e : ((i : Int) - 1) = ((i - 1 : Nat) : Int) := by omega
        rw [if_pos h0, w64p (by omega), if_pos (by omega), if_pos (by omega), e, rdP (by omega)]
        by_cases hc : l[i - 1].f0 ≥ l[i].f0
        · rw [if_pos hc]
          refine ⟨false, rfl, ⟨fun h => (by cases h), fun h => absurd ((h i hlt (Nat.le_refl _)).2 (by omega)) (by omega)⟩⟩
        · rw [if_neg hc]
          refine ⟨b, hb, hs.trans ⟨fun h j hj hij => ?_, fun h j hj hij => h j hj (by omega)⟩⟩
          rcases Nat.lt_or_ge i j with hlt' | hge
          · exact h j hj hlt'
          · obtain rfl : j = i := by omega
            exact ⟨by omega, fun _ => by omega⟩
      · rw [if_neg h0]
        refine ⟨b, hb, hs.trans ⟨fun h j hj hij => ?_, fun h j hj hij => h j hj (by omega)⟩⟩
        rcases Nat.lt_or_ge i j with hlt' | hge
        · exact h j hj hlt'
        · obtain rfl : j = i := by omega
          exact ⟨by omega, fun _ => by omega⟩
theorem right_eq {l : List Pn} (hl : l.length ≤ 1000000) {k : Nat} (hk : l.length < k) : ∃ b, pin_Right.f k l = some b ∧ ebbtideref15_Right.f k l = some b ∧ (b = true ↔ Ord l) := by
  obtain ⟨b, hb, hs⟩ := right_l0 hl l.length 0 k (by omega) hk
  refine ⟨b, ?_, hb, hs.trans ⟨fun h j hj => h j hj (Nat.zero_le _), fun h j hj _ => h j hj⟩⟩
  unfold pin_Right.f
  exact (right_same l hl k 0).trans hb

theorem ord_lt {l : List Pn} (h : Ord l) (i : Nat) (d : Nat) : ∀ (hj : i + d + 1 < l.length), (l[i]'(by omega)).f0 < (l[i + d + 1]).f0 := by
  induction d with
  | zero => intro hj; exact (h (i + 1) hj).2 (by omega)
  | succ d ih =>
    intro hj
    have h1 := ih (by omega)
    have h2 := (h (i + (d + 1) + 1) hj).2 (by omega)
    have e : l[i + (d + 1) + 1 - 1]'(by omega) = l[i + d + 1]'(by omega) := by congr 1
    rw [e] at h2
    omega
theorem ord_mono {l : List Pn} (h : Ord l) {i j : Nat} (hij : i < j) (hj : j < l.length) : l[i].f0 < l[j].f0 := by
  obtain ⟨d, rfl⟩ : ∃ d, j = i + d + 1 := ⟨j - i - 1, by omega⟩
  exact ord_lt h i d hj

/-- How many come ahead of x. -/
def pos (x : Int) : List Pn → Nat
  | [] => 0
  | p :: l => if p.f0 < x then pos x l + 1 else 0
theorem pos_le (x : Int) : ∀ l : List Pn, pos x l ≤ l.length
  | [] => Nat.le_refl _
  | p :: l => by
    unfold pos
    split
    · have := pos_le x l
      rw [List.length_cons]
      omega
    · exact Nat.zero_le _
theorem pos_lt (x : Int) : ∀ (l : List Pn) (i : Nat) (h : i < l.length), i < pos x l → l[i].f0 < x
  | p :: l, i, h, hi => by
    unfold pos at hi
    split at hi
    · rename_i hp
      cases i with
      | zero => exact hp
      | succ i => exact pos_lt x l i (by simpa using h) (by omega)
    · omega
theorem pos_at (x : Int) : ∀ (l : List Pn) (h : pos x l < l.length), ¬ l[pos x l].f0 < x
  | p :: l, h => by
    by_cases hp : p.f0 < x
    · have e : pos x (p :: l) = pos x l + 1 := by rw [pos, if_pos hp]
      have h' : pos x l < l.length := by rw [e] at h; simpa using h
      have := pos_at x l h'
      simp only [e, List.getElem_cons_succ]
      exact this
    · have e : pos x (p :: l) = 0 := by rw [pos, if_neg hp]
      simp only [e, List.getElem_cons_zero]
      exact hp
/-- Is x there? -/
def isAt (x : Int) (l : List Pn) : Bool := if h : pos x l < l.length then decide (l[pos x l].f0 = x) else false

theorem bs_l0 {l : List Pn} (hl : l.length ≤ 1000000) (ho : Ord l) (x y : Int) (d : Nat) : ∀ (i j k : Nat), i ≤ pos x l → pos x l ≤ j → j ≤ l.length → j - i ≤ d → d < k →
    api_Pin_21.l0 k l (l.length : Int) (i : Int) (j : Int) x y = some ((pos x l : Int), isAt x l) := by
  induction d with
  | zero =>
    intro i j k h1 h2 h3 hd hk
    obtain ⟨k, rfl⟩ := succ_of hk
    obtain rfl : i = pos x l := by omega
    simp only [api_Pin_21.l0]
    rw [if_neg (by omega)]
    unfold isAt
    by_cases hn : pos x l < l.length
    · rw [if_pos (by omega), if_pos (by omega), if_pos (by omega), rdP hn, order_eq, dif_pos hn]
      simp only [Option.bind_some, cmp_zero]
    · rw [if_neg (by omega), dif_neg hn]
  | succ d ih =>
    intro i j k h1 h2 h3 hd hk
    by_cases hij : i < j
    · obtain ⟨k, rfl⟩ := succ_of hk
      obtain ⟨m, hm⟩ : ∃ m : Nat, m = (i + j) / 2 := ⟨_, rfl⟩
      have e : wrap64 ((IntKind.u64.wrap (wrap64 ((i : Int) + (j : Int)))) / 2) = (m : Int) := by
        rw [w64 (a := (i : Int) + (j : Int)) (by omega) (by omega)]
        have : IntKind.u64.wrap ((i : Int) + (j : Int)) = (i : Int) + (j : Int) := by
          simp only [IntKind.wrap, IntKind.signed, IntKind.bits]
          simp
          omega
        rw [this, w64 (by omega) (by omega)]
        omega
      have hml : m < l.length := by omega
      simp only [api_Pin_21.l0]
      rw [if_pos (by omega), e, if_pos (by omega), if_pos (by omega), rdP hml, order_eq]
      simp only [Option.bind_some]
      by_cases hc : l[m].f0 < x
      · rw [if_pos (cmp_neg.2 hc), w64s (by omega)]
        refine ih (m + 1) j k ?_ h2 h3 (by omega) (by omega)
        rcases Nat.lt_or_ge m (pos x l) with h | h
        · exact h
        · exfalso
          have hp : pos x l < l.length := by omega
          have h5 := pos_at x l hp
          rcases Nat.lt_or_ge (pos x l) m with h6 | h6
          · have := ord_mono ho h6 hml
            omega
          · have h7 : pos x l = m := by omega
            simp only [h7] at h5
            exact h5 hc
      · rw [if_neg (mt cmp_neg.1 hc)]
        refine ih i m k h1 ?_ (by omega) (by omega) (by omega)
        rcases Nat.lt_or_ge m (pos x l) with h | h
        · exact absurd (pos_lt x l m hml h) hc
        · exact h
    · exact ih i j k h1 h2 h3 (by omega) (by omega)
theorem bs_eq {l : List Pn} (hl : l.length ≤ 1000000) (ho : Ord l) (x y : Int) {k : Nat} (hk : l.length < k) : api_Pin_21.f k l x y = some ((pos x l : Int), isAt x l) := by
  unfold api_Pin_21.f
  exact bs_l0 hl ho x y l.length 0 l.length k (Nat.zero_le _) (pos_le x l) (Nat.le_refl _) (by omega) hk

/-- One more. -/
def ins (p : Pn) (l : List Pn) : List Pn := l.take (pos p.f0 l) ++ [p] ++ l.drop (pos p.f0 l)
theorem ins_length (p : Pn) (l : List Pn) : (ins p l).length = l.length + 1 := by
  have := pos_le p.f0 l
  simp only [ins, List.length_append, List.length_take, List.length_drop, List.length_singleton]
  omega
theorem ins_get (p : Pn) (l : List Pn) (j : Nat) : (ins p l)[j]? = if j < pos p.f0 l then l[j]? else if j = pos p.f0 l then some p else l[j - 1]? := by
  have hp := pos_le p.f0 l
  have h1 : (l.take (pos p.f0 l)).length = pos p.f0 l := by rw [List.length_take]; omega
  unfold ins
  rw [List.append_assoc]
  split
  · rename_i h
    rw [List.getElem?_append_left (by rw [h1]; exact h), List.getElem?_take, if_pos h]
  · rename_i h
    rw [List.getElem?_append_right (by rw [h1]; omega), h1]
    split
    · rename_i h2
      rw [h2, Nat.sub_self]
      rfl
    · rename_i h2
      obtain ⟨m, hm⟩ : ∃ m, j - pos p.f0 l = m + 1 := ⟨j - pos p.f0 l - 1, by omega⟩
      rw [hm]
      show (l.drop (pos p.f0 l))[m]? = _
      rw [List.getElem?_drop]
      congr 1
      omega
theorem ins_at {p : Pn} {l : List Pn} (j : Nat) (hj : j < (ins p l).length) : (ins p l)[j] = if h : j < pos p.f0 l then l[j]'(by have := pos_le p.f0 l; omega) else if h2 : j = pos p.f0 l then p else l[j - 1]'(by rw [ins_length] at hj; omega) := by
  have hp := pos_le p.f0 l
  have hl := ins_length p l
  have e := ins_get p l j
  rw [List.getElem?_eq_getElem hj] at e
  apply Option.some.inj
  rw [e]
  by_cases h : j < pos p.f0 l
  · rw [if_pos h, dif_pos h, List.getElem?_eq_getElem]
  · rw [if_neg h, dif_neg h]
    by_cases h2 : j = pos p.f0 l
    · rw [if_pos h2, dif_pos h2]
    · rw [if_neg h2, dif_neg h2, List.getElem?_eq_getElem]
theorem ins_ord {p : Pn} {l : List Pn} (ho : Ord l) (h0 : 0 ≤ p.f1) (hn : isAt p.f0 l = false) : Ord (ins p l) := by
  have hp := pos_le p.f0 l
  have hgt : ∀ j (h : j < l.length), pos p.f0 l ≤ j → p.f0 < l[j].f0 := by
    intro j h hj
    have hlt : pos p.f0 l < l.length := by omega
    have h1 := pos_at p.f0 l hlt
    unfold isAt at hn
    rw [dif_pos hlt] at hn
    have h2 := of_decide_eq_false hn
    rcases Nat.lt_or_ge (pos p.f0 l) j with h3 | h3
    · have := ord_mono ho h3 h
      omega
    · have e : pos p.f0 l = j := by omega
      simp only [e] at h1 h2
      omega
  intro j hj
  have hl := ins_length p l
  refine ⟨?_, fun h' => ?_⟩
  · rw [ins_at j hj]
    split
    · exact (ho j (by omega)).1
    · split
      · exact h0
      · exact (ho (j - 1) (by omega)).1
  · rw [ins_at j hj, ins_at (j - 1) (by omega)]
    by_cases h1 : j < pos p.f0 l
    · rw [dif_pos h1, dif_pos (by omega)]
      exact (ho j (by omega)).2 h'
    · rw [dif_neg h1]
      by_cases h2 : j = pos p.f0 l
      · rw [dif_pos h2, dif_pos (by omega)]
        exact pos_lt p.f0 l (j - 1) (by omega) (by omega)
      · rw [dif_neg h2]
        by_cases h3 : j - 1 < pos p.f0 l
        · omega
        · rw [dif_neg h3]
          by_cases h4 : j - 1 = pos p.f0 l
          · rw [dif_pos h4]
            exact hgt (j - 1) (by omega) (by omega)
          · rw [dif_neg h4]
            exact (ho (j - 1) (by omega)).2 (by omega)

/-- Some more, one by one. -/
def adds : List Pn → List Pn → List Pn × Int
  | [], l => (l, 0)
  | p :: ps, l => if p.f1 < 0 then ([], 1) else if isAt p.f0 l = true then ([], 5) else adds ps (ins p l)
theorem adds_len : ∀ (ps l : List Pn), (adds ps l).1.length ≤ l.length + ps.length
  | [], l => Nat.le_refl _
  | p :: ps, l => by
    unfold adds
    split
    · exact Nat.zero_le _
    · split
      · exact Nat.zero_le _
      · have := adds_len ps (ins p l)
        rw [ins_length] at this
        rw [List.length_cons]
        omega
theorem add_l0 {ps : List Pn} (hp : ps.length ≤ 1000) (d : Nat) : ∀ (i k : Nat) (l : List Pn), i + d = ps.length → l.length ≤ 1000 + i → Ord l → d + 3000 < k →
    pin_Add.l0 k l ps (ps.length : Int) (i : Int) = some (adds (ps.drop i) l) := by
  induction d with
  | zero =>
    intro i k l hi hl ho hk
    obtain ⟨k, rfl⟩ := succ_of hk
    simp only [pin_Add.l0]
    rw [if_neg (by omega), List.drop_of_length_le (by omega)]
    rfl
  | succ d ih =>
    intro i k l hi hl ho hk
    obtain ⟨k, rfl⟩ := succ_of hk
    have hlt : i < ps.length := by omega
    simp only [pin_Add.l0]
    rw [if_pos (by omega), if_pos (by omega), if_pos (by omega), rdP hlt, bs_eq (by omega) ho _ _ (by omega), drop_at hlt]
    simp only [Option.bind_some, adds]
    by_cases h1 : ps[i].f1 < 0
    · rw [if_pos h1, if_pos h1]
    · rw [if_neg h1, if_neg h1]
      by_cases h2 : isAt ps[i].f0 l = true
      · rw [if_pos h2, if_pos h2]
      · rw [if_neg h2, if_neg h2]
        have hpl := pos_le ps[i].f0 l
        have e : api_Pin_23.f l (pos ps[i].f0 l : Int) [(⟨ps[i].f0, ps[i].f1⟩ : Pn)] = some (ins ps[i] l) := by
          unfold api_Pin_23.f
          rw [if_pos (by simp), if_pos (by omega), if_pos (by omega), if_pos (by simp; omega), Int.toNat_natCast]
          rfl
        rw [e]
        simp only [Option.bind_some]
        rw [w64s (by omega)]
        exact ih (i + 1) k _ (by omega) (by rw [ins_length]; omega) (ins_ord ho (by omega) (Bool.eq_false_iff.2 h2)) (by omega)

theorem radd_l1 {ps l : List Pn} (hp : ps.length ≤ 1000) (hl : l.length ≤ 2000) {i : Nat} (hi : i < ps.length) {r : List Pn × Int} {K : Nat} (hr : isAt ps[i].f0 l = false → ∀ k, K ≤ k → ebbtideref15_Add.l0 k ps (ins ps[i] l) ((i + 1 : Nat) : Int) = some r) (hr2 : isAt ps[i].f0 l = true → r = ([], 5)) (d : Nat) :
    ∀ (j k : Nat), j + d = pos ps[i].f0 l → d + K < k → ebbtideref15_Add.l1 k ps l (i : Int) (j : Int) = some r := by
  have hpl := pos_le ps[i].f0 l
  induction d with
  | zero =>
    intro j k hj hk
    obtain ⟨k, rfl⟩ := succ_of hk
    obtain rfl : j = pos ps[i].f0 l := by omega
    have tail : isAt ps[i].f0 l = false → ebbtideref15_Add.l0 k ps (l.take (pos ps[i].f0 l) ++ [(⟨ps[i].f0, ps[i].f1⟩ : Pn)] ++ l.drop (pos ps[i].f0 l)) ((i + 1 : Nat) : Int) = some r := fun h => hr h k (by omega)
    simp only [ebbtideref15_Add.l1, Option.bind_some, List.nil_append, List.length_nil, Nat.zero_add, Int.toNat_natCast]
    by_cases hn : pos ps[i].f0 l < l.length
    · have hge := pos_at ps[i].f0 l hn
      rw [if_pos (by omega), if_pos (by omega), if_pos (by omega), if_pos (by omega), rdP hn, rdP hi, if_neg hge]
      by_cases he : l[pos ps[i].f0 l].f0 = ps[i].f0
      · rw [if_pos he, hr2 (by unfold isAt; rw [dif_pos hn]; exact decide_eq_true he)]
      · rw [if_neg he, if_pos (by omega), if_pos (by rw [List.length_drop]; omega), if_pos (by rw [List.length_take]; omega), if_pos (by rw [List.length_append, List.length_take, List.length_drop, List.length_singleton]; omega), w64s (by omega)]
        exact tail (by unfold isAt; rw [dif_pos hn]; exact decide_eq_false he)
    · rw [if_neg (by omega), if_pos (by omega), if_pos (by omega), if_pos (by rw [List.length_drop]; omega), if_pos (by omega), if_pos (by omega), rdP hi, if_pos (by rw [List.length_take]; omega), if_pos (by rw [List.length_append, List.length_take, List.length_drop, List.length_singleton]; omega), w64s (by omega)]
      exact tail (by unfold isAt; rw [dif_neg hn])
  | succ d ih =>
    intro j k hj hk
    obtain ⟨k, rfl⟩ := succ_of hk
    have hlt : j < l.length := by omega
    simp only [ebbtideref15_Add.l1]
    rw [if_pos (by omega), if_pos (by omega), if_pos (by omega), if_pos (by omega), rdP hlt, rdP hi, if_pos (pos_lt ps[i].f0 l j hlt (by omega)), w64s (by omega)]
    exact ih (j + 1) k (by omega) (by omega)
def bud (B : Nat) : Nat → Nat
  | 0 => 0
  | d + 1 => bud B d + B
theorem bud_le (B : Nat) : ∀ d, bud B d = d * B
  | 0 => by rw [bud, Nat.zero_mul]
  | d + 1 => by rw [bud, bud_le B d, Nat.succ_mul]
theorem radd_l0 {B : Nat} (hB : 2500 ≤ B) {ps : List Pn} (hp : ps.length ≤ 1000) (d : Nat) : ∀ (i : Nat) (l : List Pn), i + d = ps.length → l.length ≤ 1000 + i →
    ∀ k, bud B d < k → ebbtideref15_Add.l0 k ps l (i : Int) = some (adds (ps.drop i) l) := by
  induction d with
  | zero =>
    intro i l hi hl k hk
    obtain ⟨k, rfl⟩ := succ_of hk
    simp only [ebbtideref15_Add.l0]
    rw [if_neg (by omega), List.drop_of_length_le (by omega)]
    rfl
  | succ d ih =>
    intro i l hi hl k hk
    obtain ⟨k, rfl⟩ := succ_of hk
    have hlt : i < ps.length := by omega
    simp only [ebbtideref15_Add.l0]
    rw [if_pos (by omega), if_pos (by omega), rdP hlt, drop_at hlt]
    simp only [adds]
    by_cases h1 : ps[i].f1 < 0
    · rw [if_pos h1, if_pos h1]
    · rw [if_neg h1, if_neg h1]
      have hpl := pos_le ps[i].f0 l
      have hb : bud B (d + 1) = bud B d + B := rfl
      refine radd_l1 hp (by omega) hlt (K := bud B d + 1) (fun h k hk => ?_) (fun h => by rw [if_pos h]) (pos ps[i].f0 l) 0 k (by omega) (by omega)
      rw [if_neg (by rw [h]; decide)]
      exact ih (i + 1) _ (by omega) (by rw [ins_length]; omega) k (by omega)
/-- What some pins make of others. -/
noncomputable def addR (l ps : List Pn) : List Pn × Int := open Classical in if Ord l then adds ps l else ([], 9)
theorem add_eq {l ps : List Pn} (hl : l.length ≤ 1000) (hp : ps.length ≤ 1000) {k : Nat} (hk : 5000 ≤ k) : pin_Add.f k l ps = some (addR l ps) := by
  obtain ⟨b, h1, _, hs⟩ := right_eq (l := l) (by omega) (k := k) (by omega)
  unfold pin_Add.f addR
  rw [h1]
  simp only [Option.bind_some]
  cases b with
  | true =>
    have ho := hs.1 rfl
    rw [if_pos rfl, if_pos ho]
    unfold api_Pin_20.f
    rw [if_pos (by omega)]
    have e := add_l0 hp ps.length 0 k l (by omega) (by omega) ho (by omega)
    rw [List.drop_zero] at e
    exact e
  | false => rw [if_neg (by decide), if_neg (fun ho => by have := hs.2 ho; simp at this)]
theorem radd_eq {l ps : List Pn} (hl : l.length ≤ 1000) (hp : ps.length < 1000) {k : Nat} {B : Nat} (hB : 2500 ≤ B) (hk : 1000 * B ≤ k) (hk0 : 1001 ≤ k) : ebbtideref15_Add.f k l ps = some (addR l ps) := by
  obtain ⟨b, _, h1, hs⟩ := right_eq (l := l) (by omega) (k := k) (by omega)
  unfold ebbtideref15_Add.f addR
  rw [h1]
  simp only [Option.bind_some]
  cases b with
  | true =>
    have ho := hs.1 rfl
    rw [if_pos rfl, if_pos ho, if_pos (by simp; omega)]
    have hb : bud B ps.length < k := by
      rw [bud_le]
      have := Nat.mul_le_mul_right B (show ps.length + 1 ≤ 1000 by omega)
      rw [Nat.succ_mul] at this
      omega
    have e := radd_l0 (ps := ps) hB (by omega) ps.length 0 l (by omega) (by omega) k hb
    rw [List.drop_zero] at e
    exact e
  | false => rw [if_neg (by decide), if_neg (fun ho => by have := hs.2 ho; simp at this)]

/-- The first of an Id; -1: there is none. -/
def idxP (x : Int) (l : List Pn) (i : Nat) : Int := api_Pin_30.idx (fun p => p.f0 == x) l i
theorem place_eq (l : List Pn) (x : Int) : pin_place.f l x = some (idxP x l 0) := rfl
theorem idx_at {x : Int} {l : List Pn} {i : Nat} (h : i < l.length) : idxP x (l.drop i) i = if l[i].f0 = x then (i : Int) else idxP x (l.drop (i + 1)) (i + 1) := by
  rw [drop_at h]
  unfold idxP
  rw [api_Pin_30.idx]
  by_cases hc : l[i].f0 = x
  · rw [if_pos hc, if_pos (by simpa using hc)]
  · rw [if_neg hc, if_neg (by simpa using hc)]
theorem idx_end {x : Int} {l : List Pn} {i : Nat} (h : l.length ≤ i) : idxP x (l.drop i) i = -1 := by
  rw [List.drop_of_length_le h]
  rfl
theorem idx_lt {x : Int} {l : List Pn} (d : Nat) : ∀ i, i + d = l.length → idxP x (l.drop i) i = -1 ∨ (i : Int) ≤ idxP x (l.drop i) i ∧ idxP x (l.drop i) i < l.length := by
  induction d with
  | zero => intro i hi; exact .inl (idx_end (by omega))
  | succ d ih =>
    intro i hi
    rw [idx_at (by omega)]
    split
    · exact .inr (by omega)
    · rcases ih (i + 1) (by omega) with h | h
      · exact .inl h
      · exact .inr (by omega)
def dropR (x : Int) (l : List Pn) : List Pn × Int := if idxP x l 0 < 0 then ([], 6) else (l.take (idxP x l 0).toNat ++ l.drop ((idxP x l 0).toNat + 1), 0)
def findR (x : Int) (l : List Pn) : Int × Bool := if idxP x l 0 < 0 then (0, false) else ((rd_T35 l (idxP x l 0)).f1, true)
theorem drop_eq {l : List Pn} (hl : l.length ≤ 1000000) (x : Int) : pin_Drop.f l x = some (dropR x l) := by
  unfold pin_Drop.f dropR
  rw [place_eq]
  simp only [Option.bind_some]
  rcases idx_lt (x := x) (l := l) l.length 0 (by omega) with h | h
  · rw [List.drop_zero] at h
    rw [if_pos (by rw [h]; decide), if_pos (by rw [h]; decide)]
  · rw [List.drop_zero] at h
    obtain ⟨m, hm⟩ : ∃ m : Nat, idxP x l 0 = (m : Int) := ⟨(idxP x l 0).toNat, by omega⟩
    rw [hm] at h
    rw [hm, if_neg (by omega), if_neg (by omega)]
    unfold api_Pin_20.f api_Pin_25.f
    rw [if_pos (by omega), Option.bind_some, w64s (by omega), if_pos (by omega), if_pos (by omega), if_pos (by omega), Int.toNat_natCast, Int.toNat_natCast, Option.bind_some]
theorem rdrop_l0 {l : List Pn} (hl : l.length ≤ 1000000) (x : Int) (d : Nat) : ∀ (i k : Nat), i + d = l.length → d < k → ebbtideref15_Drop.l0 k l x (i : Int) = some (if idxP x (l.drop i) i < 0 then ([], 6) else (l.take (idxP x (l.drop i) i).toNat ++ l.drop ((idxP x (l.drop i) i).toNat + 1), 0)) := by
  induction d with
  | zero =>
    intro i k hi hk
    obtain ⟨k, rfl⟩ := succ_of hk
    simp only [ebbtideref15_Drop.l0]
    rw [if_neg (by omega), idx_end (by omega), if_pos (by decide)]
  | succ d ih =>
    intro i k hi hk
    obtain ⟨k, rfl⟩ := succ_of hk
    have hlt : i < l.length := by omega
    simp only [ebbtideref15_Drop.l0]
    rw [if_pos (by omega), if_pos (by omega), rdP hlt, idx_at hlt, w64s (by omega)]
    by_cases h : l[i].f0 = x
    · rw [if_pos h, if_pos h, Option.bind_some, if_pos (by omega), Option.bind_some, if_pos (by rw [List.length_take]; simp only [List.length_nil]; omega), Option.bind_some, if_pos (by omega), if_pos (by omega), Option.bind_some, if_pos (by simp only [List.nil_append, List.length_take, List.length_drop]; omega), if_neg (by omega), List.nil_append, Int.toNat_natCast, Int.toNat_natCast]
    · rw [if_neg h, if_neg h]
      exact ih (i + 1) k (by omega) (by omega)
theorem rdrop_eq {l : List Pn} (hl : l.length ≤ 1000000) (x : Int) {k : Nat} (hk : l.length < k) : ebbtideref15_Drop.f k l x = some (dropR x l) := rdrop_l0 hl x l.length 0 k (by omega) hk
theorem find_eq {l : List Pn} (x : Int) : pin_Find.f l x = some (findR x l) := by
  unfold pin_Find.f findR
  rw [place_eq]
  simp only [Option.bind_some]
  rcases idx_lt (x := x) (l := l) l.length 0 (by omega) with h | h
  · rw [List.drop_zero] at h
    rw [if_pos (by rw [h]; decide), if_pos (by rw [h]; decide)]
  · rw [List.drop_zero] at h
    rw [if_neg (by omega), if_pos (by omega), if_pos (by omega), if_neg (by omega)]
theorem rfind_l0 {l : List Pn} (hl : l.length ≤ 1000000) (x : Int) (d : Nat) : ∀ (i k : Nat), i + d = l.length → d < k → ebbtideref15_Find.l0 k l x (i : Int) = some (if idxP x (l.drop i) i < 0 then (0, false) else ((rd_T35 l (idxP x (l.drop i) i)).f1, true)) := by
  induction d with
  | zero =>
    intro i k hi hk
    obtain ⟨k, rfl⟩ := succ_of hk
    simp only [ebbtideref15_Find.l0]
    rw [if_neg (by omega), idx_end (by omega), if_pos (by decide)]
  | succ d ih =>
    intro i k hi hk
    obtain ⟨k, rfl⟩ := succ_of hk
    have hlt : i < l.length := by omega
    simp only [ebbtideref15_Find.l0]
    rw [if_pos (by omega), if_pos (by omega), rdP hlt, idx_at hlt, w64s (by omega)]
    by_cases h : l[i].f0 = x
    · rw [if_pos h, if_pos h, if_neg (by omega), rdP hlt]
    · rw [if_neg h, if_neg h]
      exact ih (i + 1) k (by omega) (by omega)
theorem rfind_eq {l : List Pn} (hl : l.length ≤ 1000000) (x : Int) {k : Nat} (hk : l.length < k) : ebbtideref15_Find.f k l x = some (findR x l) := rfind_l0 hl x l.length 0 k (by omega) hk

theorem same_l0 {a b : List Pn} (ha : a.length ≤ 1000000) (hab : a.length = b.length) (d : Nat) : ∀ (i k : Nat), i + d = a.length → d < k → ebbtideref15_Same.l0 k a b (i : Int) = api_Pin_26.l0 k a b (a.length : Int) (i : Int) ∧ ∃ r, ebbtideref15_Same.l0 k a b (i : Int) = some r ∧ (a = b → r = true) := by
  induction d with
  | zero =>
    intro i k hi hk
    obtain ⟨k, rfl⟩ := succ_of hk
    simp only [ebbtideref15_Same.l0, api_Pin_26.l0]
    rw [if_neg (by omega), if_neg (by omega)]
    exact ⟨rfl, true, rfl, fun _ => rfl⟩
  | succ d ih =>
    intro i k hi hk
    obtain ⟨k, rfl⟩ := succ_of hk
    obtain ⟨h1, r, h2, h3⟩ := ih (i + 1) k (by omega) (by omega)
    have c1 : (i : Int) < (a.length : Int) := by omega
    have c2 : 0 ≤ (i : Int) := by omega
    have c3 : (i : Int) < (b.length : Int) := by omega
    simp only [ebbtideref15_Same.l0, api_Pin_26.l0, if_pos c1, if_pos c2, if_pos c3]
    rw [rdP (by omega), rdP (by omega), w64s (by omega)]
    by_cases hc : (!(a[i].f0 == b[i].f0) || !(a[i].f1 == b[i].f1)) = true
    · rw [if_pos hc, if_pos hc]
      refine ⟨rfl, false, rfl, fun e => ?_⟩
      subst e
      simp at hc
    · rw [if_neg hc, if_neg hc]
      exact ⟨h1, r, h2, h3⟩
theorem same_eq {a b : List Pn} (ha : a.length ≤ 1000000) {k : Nat} (hk : a.length < k) : pin_Same.f k a b = ebbtideref15_Same.f k a b ∧ ∃ r, ebbtideref15_Same.f k a b = some r ∧ (a = b → r = true) := by
  unfold pin_Same.f api_Pin_26.f ebbtideref15_Same.f
  by_cases h : a.length = b.length
  · obtain ⟨h1, r, h2, h3⟩ := same_l0 ha h a.length 0 k (by omega) hk
    rw [if_pos (by omega), if_pos (by omega)]
    refine ⟨?_, r, h2, h3⟩
    have h1' : ebbtideref15_Same.l0 k a b 0 = api_Pin_26.l0 k a b (a.length : Int) 0 := h1
    rw [← h1']
    cases ebbtideref15_Same.l0 k a b 0 <;> rfl
  · rw [if_neg (by omega), if_neg (by omega)]
    exact ⟨rfl, false, rfl, fun e => absurd (by rw [e]) h⟩
theorem same_self (a : List Pn) (ha : a.length ≤ 1000000) {k : Nat} (hk : a.length < k) : ebbtideref15_Same.f k a a = some true := by
  obtain ⟨_, r, h, h2⟩ := same_eq (b := a) ha hk
  rw [h, h2 rfl]

def floorR (s : Int) (l : List Pn) : Int := l.foldl (fun s p => mn s p.f1) s
theorem floor_l0 {l : List Pn} (hl : l.length ≤ 1000000) (d : Nat) : ∀ (i k : Nat) (s : Int), i + d = l.length → d < k → pin_Floor.l0 k s l (l.length : Int) (i : Int) = some (floorR s (l.drop i)) ∧ ebbtideref15_Floor.l0 k s l (i : Int) = some (floorR s (l.drop i)) := by
  induction d with
  | zero =>
    intro i k s hi hk
    obtain ⟨k, rfl⟩ := succ_of hk
    simp only [pin_Floor.l0, ebbtideref15_Floor.l0]
    rw [if_neg (by omega), if_neg (by omega), List.drop_of_length_le (by omega)]
    exact ⟨rfl, rfl⟩
  | succ d ih =>
    intro i k s hi hk
    obtain ⟨k, rfl⟩ := succ_of hk
    have hlt : i < l.length := by omega
    have c1 : (i : Int) < (l.length : Int) := by omega
    have c2 : 0 ≤ (i : Int) := by omega
    simp only [pin_Floor.l0, ebbtideref15_Floor.l0, if_pos c1, if_pos c2]
    rw [rdP hlt, w64s (by omega), drop_at hlt]
    obtain ⟨h1, h2⟩ := ih (i + 1) k (mn s l[i].f1) (by omega) (by omega)
    refine ⟨h1, ?_⟩
    unfold mn at h2
    by_cases h : l[i].f1 < s
    · rw [if_pos h] at h2 ⊢
      rw [h2]
      simp only [floorR, List.foldl_cons, mn, if_pos h]
    · rw [if_neg h] at h2 ⊢
      rw [h2]
      simp only [floorR, List.foldl_cons, mn, if_neg h]
theorem alive_eq (k : Nat) (hk : 14 ≤ k) : ebbtidelaw15_alive.f k = some true :=
  at_rounds (g := fun k => ebbtidelaw15_alive.f k) ebbtidelaw15_alive.mono hk (by decide +kernel)
end Go.Proofs.Ythgoegjkiofbkaa.Pure
