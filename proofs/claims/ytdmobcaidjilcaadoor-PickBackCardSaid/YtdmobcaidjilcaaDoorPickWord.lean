/- What words are, in plain Lean: their bytes, a text's parts, texts joined; and that the program's functions and the references' compute just that. Conditions: the texts are short enough for the machine. -/
import Derived.Test.YtdmobcaidjilcaaDoorBytes
import Derived.Test.YtdmobcaidjilcaaDoorXx5
import Derived.Test.YtdmobcaidjilcaaDoorXx2
import Derived.Test.YtdmobcaidjilcaaDoorXx2
import Derived.Test.YtdmobcaidjilcaaDoorXx3
import Derived.Test.YtdmobcaidjilcaaDoorXx8
import Derived.Test.YtdmobcaidjilcaaDoorXx8
import Derived.Test.YtdmobcaidjilcaaDoorXx9
namespace Go.Proofs.YtdmobcaidjilcaaDoor.Pure
open Go.RowKit Go.Proofs.YtdmobcaidjilcaaDoor.X Go.Proofs.YtdmobcaidjilcaaDoorW.PrintWords Go.Proofs.YtdmobcaidjilcaaDoorW.PrintLast Go.Proofs.YtdmobcaidjilcaaDoorW.PrintMore Go.Proofs.YtdmobcaidjilcaaDoor.Aid Go.Proofs.YtdmobcaidjilcaaDoor.Bytes

abbrev T := List UInt8
/-- The parts of a text at a byte. -/
def glue (p : T) : List T → List T
  | [] => [p]
  | h :: t => (p ++ h) :: t
def spl (c : UInt8) : T → List T
  | [] => [[]]
  | x :: l => if x = c then [] :: spl c l else glue [x] (spl c l)
theorem spl_cons (c x : UInt8) (l : T) : spl c (x :: l) = if x = c then [] :: spl c l else glue [x] (spl c l) := rfl
theorem spl_ne (c : UInt8) (l : T) : spl c l ≠ [] := by
  cases l with
  | nil => simp [spl]
  | cons x l =>
    rw [spl_cons]
    split
    · simp
    · unfold glue
      split <;> simp
theorem glue_nil {L : List T} (h : L ≠ []) : glue [] L = L := by
  cases L with
  | nil => exact absurd rfl h
  | cons x L => rfl
theorem glue_glue (p q : T) (L : List T) : glue p (glue q L) = glue (p ++ q) L := by
  cases L with
  | nil => rfl
  | cons x L => simp [glue]
theorem spl_len (c : UInt8) (l : T) : (spl c l).length ≤ l.length + 1 := by
  induction l with
  | nil => simp [spl]
  | cons x l ih =>
    rw [spl_cons, List.length_cons]
    split
    · rw [List.length_cons]; omega
    · have := spl_ne c l
      cases h : spl c l with
      | nil => exact absurd h this
      | cons y L =>
        rw [h] at ih
        simp only [glue, List.length_cons] at ih ⊢
        omega
theorem idx_spl (c : UInt8) (l : T) : (Lib.indexByte l c = -1 ∧ spl c l = [l]) ∨ ∃ i : Nat, Lib.indexByte l c = (i : Int) ∧ i < l.length ∧ spl c l = l.take i :: spl c (l.drop (i + 1)) := by
  induction l with
  | nil => exact .inl ⟨rfl, rfl⟩
  | cons x l ih =>
    unfold Lib.indexByte
    rw [spl_cons]
    by_cases h : x = c
    · rw [if_pos (beq_iff_eq.mpr h), if_pos h]
      exact .inr ⟨0, rfl, by simp, by simp⟩
    · rw [if_neg (by simpa using h), if_neg h]
      rcases ih with ⟨h1, h2⟩ | ⟨i, h1, h2, h3⟩
      · rw [h1, h2]
        exact .inl ⟨rfl, rfl⟩
      · rw [h1, h3, if_neg (by simp only [beq_iff_eq]; omega)]
        exact .inr ⟨i + 1, by omega, by simp only [List.length_cons]; omega, by simp [glue]⟩
theorem split_l0 (c : UInt8) (n : Nat) : ∀ (l : T) (k : Nat) (acc : List ByteArray), l.length ≤ n → n + 1 < k → acc.length + n + 1 < 100000 → word_Split.l0 k (mk l) (c.toNat : Int) acc = some (acc ++ (spl c l).map mk) := by
  induction n with
  | zero =>
    intro l k acc hl hk ha
    obtain ⟨k, rfl⟩ := succ_of hk
    have e : l = [] := List.eq_nil_of_length_eq_zero (by omega)
    subst e
    simp only [word_Split.l0, strings_IndexByte.f, Option.bind_some, mk_data, byte_back]
    rw [if_pos (by simp [Lib.indexByte]), if_pos (by omega)]
    rfl
  | succ n ih =>
    intro l k acc hl hk ha
    obtain ⟨k, rfl⟩ := succ_of hk
    simp only [word_Split.l0, strings_IndexByte.f, Option.bind_some, mk_data, byte_back, mk_size]
    rcases idx_spl c l with ⟨h1, h2⟩ | ⟨i, h1, h2, h3⟩
    · rw [h1, h2, if_pos (by decide), if_pos (by omega)]
      rfl
    · have hw : wrap64 ((i : Int) + 1) = ((i + 1 : Nat) : Int) := w64s (by omega)
      rw [h1, if_neg (by omega), if_pos (by omega), if_pos (by omega), if_pos (by omega), hw, if_pos (by omega), if_pos (by omega), Int.toNat_natCast, Int.toNat_natCast, mk_upto]
      have he := mk_from l (i + 1)
      rw [mk_size] at he
      rw [he, ih (l.drop (i + 1)) k _ (by rw [List.length_drop]; omega) (by omega) (by rw [List.length_append, List.length_singleton]; omega), h3, List.map_cons, List.append_assoc]
      rfl
theorem split_eq (c : UInt8) {l : T} (hl : l.length ≤ 20000) (k : Nat) (hk : 20010 < k) : word_Split.f k (mk l) (c.toNat : Int) = some ((spl c l).map mk) :=
  split_l0 c 20000 l k [] hl (by omega) (by simp)
/-- The bytes of a name, and of a value. -/
def okS (b : UInt8) : Bool := decide (97 ≤ b.toNat) && decide (b.toNat ≤ 122)
def okD (b : UInt8) : Bool := decide (48 ≤ b.toNat) && decide (b.toNat ≤ 57)
def okN (b : UInt8) : Bool := okS b || okD b || decide (b.toNat = 95)
def okV (b : UInt8) : Bool := okN b || decide (b.toNat = 45) || decide (b.toNat = 46)
def smallL : T := [97, 98, 99, 100, 101, 102, 103, 104, 105, 106, 107, 108, 109, 110, 111, 112, 113, 114, 115, 116, 117, 118, 119, 120, 121, 122]
def nameL : T := smallL ++ [48, 49, 50, 51, 52, 53, 54, 55, 56, 57, 95]
def valL : T := nameL ++ [45, 46]
theorem byte_all {p : UInt8 → Prop} (h : ∀ n, n < 256 → p (UInt8.ofNat n)) (b : UInt8) : p b := by
  have := h b.toNat b.toNat_lt
  rwa [UInt8.ofNat_toNat] at this
theorem name_ok (b : UInt8) : nameL.contains b = okN b := byte_all (p := fun b => nameL.contains b = okN b) (by decide +kernel) b
theorem val_ok (b : UInt8) : valL.contains b = okV b := byte_all (p := fun b => valL.contains b = okV b) (by decide +kernel) b
theorem small_ok (b : UInt8) : decide (Lib.indexByte smallL b ≥ 0) = okS b := byte_all (p := fun b => decide (Lib.indexByte smallL b ≥ 0) = okS b) (by decide +kernel) b
theorem dropW_nil (p : UInt8 → Bool) (l : T) : l.dropWhile p = [] ↔ l.all p = true := by
  induction l with
  | nil => simp
  | cons x l ih =>
    rw [List.dropWhile_cons, List.all_cons]
    by_cases h : p x = true
    · rw [if_pos h, h, Bool.true_and]
      exact ih
    · rw [if_neg h, Bool.eq_false_iff.mpr h, Bool.false_and]
      simp
theorem trim_nil (l cs : T) : Lib.trimS l cs = [] ↔ l.all (fun b => cs.contains b) = true := by
  unfold Lib.trimS Lib.trimLeftS Lib.trimRightS
  rw [dropW_nil]
  by_cases h : (l.reverse.dropWhile fun b => cs.contains b) = []
  · have h2 := (dropW_nil _ _).mp h
    rw [List.all_reverse] at h2
    rw [h, h2]
    simp
  · have h2 : ¬ l.all (fun b => cs.contains b) = true := fun e => h ((dropW_nil _ _).mpr (by rw [List.all_reverse]; exact e))
    rw [List.all_reverse]
    constructor
    · intro e
      exfalso
      obtain ⟨x, r, hr⟩ := List.exists_cons_of_ne_nil h
      have hx : ¬ cs.contains x = true := by
        have := List.head_dropWhile_not (fun b => cs.contains b) h
        simp only [hr, List.head_cons] at this
        simpa using this
      rw [hr, List.all_cons] at e
      exact hx (by simpa using (Bool.and_eq_true_iff.mp e).1)
    · intro e
      exact absurd e h2
/-- Is it 1 to 12 bytes of some? -/
def made (l cs : T) : Bool := decide (l ≠ []) && (decide (l.length ≤ 12) && l.all fun b => cs.contains b)
theorem made_eq {l cs : T} (hl : l.length ≤ 100000) (hc : cs.length ≤ 1000) (ha : cs.all (fun b => decide (b.toNat < 128)) = true) : word_made.f (mk l) (mk cs) = some (made l cs) := by
  unfold word_made.f made strings_Trim.f
  rw [mk_toList, mk_size, mk_size, mk_data, mk_data]
  by_cases h : l = []
  · rw [if_pos h]
    simp [h]
  · rw [if_neg h]
    by_cases h2 : (l.length : Int) ≤ 12
    · rw [if_pos h2, if_pos ⟨by omega, by omega, ha⟩]
      simp only [Option.bind_some]
      have h3 : (⟨(Lib.trimS l cs).toArray⟩ : ByteArray) = mk (Lib.trimS l cs) := rfl
      rw [h3, mk_toList, decide_eq_true h, decide_eq_true (show l.length ≤ 12 by omega), Bool.true_and, Bool.true_and]
      congr 1
      rw [Bool.eq_iff_iff, beq_iff_eq]
      exact trim_nil l cs
    · rw [if_neg h2, decide_eq_false (show ¬ l.length ≤ 12 by omega)]
      simp
def isVal (l : T) : Bool := decide (l ≠ []) && (decide (l.length ≤ 12) && l.all okV)
def isName (l : T) : Bool := decide (l ≠ []) && (decide (l.length ≤ 12) && l.all okN) && (match l with | [] => false | x :: _ => okS x)
theorem value_eq {l : T} (hl : l.length ≤ 100000) : word_Value.f (mk l) = some (isVal l) := by
  unfold word_Value.f
  have h : word_made.f (mk l) (mk valL) = some (made l valL) := made_eq hl (by decide) (by decide +kernel)
  have h2 : made l valL = isVal l := by
    unfold made isVal
    simp only [val_ok]
  rw [h2] at h
  have h3 : ∀ x, x = some (isVal l) → (x.bind fun t106 => (some t106 : Option Bool)) = some (isVal l) := fun x hx => by rw [hx]; rfl
  exact h3 _ h
theorem name_eq {l : T} (hl : l.length ≤ 100000) : word_Name.f (mk l) = some (isName l) := by
  unfold word_Name.f
  have h : word_made.f (mk l) (mk nameL) = some (made l nameL) := made_eq hl (by decide) (by decide +kernel)
  have h2 : made l nameL = (decide (l ≠ []) && (decide (l.length ≤ 12) && l.all okN)) := by
    unfold made
    simp only [name_ok]
  rw [h2] at h
  have h' : word_made.f (mk l) (⟨#[97, 98, 99, 100, 101, 102, 103, 104, 105, 106, 107, 108, 109, 110, 111, 112, 113, 114, 115, 116, 117, 118, 119, 120, 121, 122, 48, 49, 50, 51, 52, 53, 54, 55, 56, 57, 95]⟩ : ByteArray) = some (decide (l ≠ []) && (decide (l.length ≤ 12) && l.all okN)) := h
  rw [h']
  simp only [Option.bind_some]
  unfold isName
  by_cases c : (decide (l ≠ []) && (decide (l.length ≤ 12) && l.all okN)) = true
  · rw [if_pos c, c, Bool.true_and]
    cases l with
    | nil => simp at c
    | cons x l =>
      rw [mk_size, if_pos (by simp only [List.length_cons]; omega)]
      have hb : bt (mk (x :: l)) 0 = (x.toNat : Int) := bt_mk (l := x :: l) (i := 0) (by simp)
      rw [hb]
      simp only [strings_IndexByte.f, Option.bind_some, byte_back]
      congr 1
      exact small_ok x
  · rw [if_neg c, Bool.eq_false_iff.mpr c, Bool.false_and]
theorem rsmall_eq (b : UInt8) : ebbtideref02_small.f (b.toNat : Int) = some (okS b) := by
  unfold ebbtideref02_small.f okS
  by_cases h : 97 ≤ b.toNat
  · rw [if_pos (by omega), decide_eq_true h, Bool.true_and]
    exact congrArg some (decide_eq_decide.mpr (by omega))
  · rw [if_neg (by omega), decide_eq_false h, Bool.false_and]
theorem rdigit_eq (b : UInt8) : ebbtideref02_digit.f (b.toNat : Int) = some (okD b) := by
  unfold ebbtideref02_digit.f okD
  by_cases h : 48 ≤ b.toNat
  · rw [if_pos (by omega), decide_eq_true h, Bool.true_and]
    exact congrArg some (decide_eq_decide.mpr (by omega))
  · rw [if_neg (by omega), decide_eq_false h, Bool.false_and]
theorem rvalue_l0 {l : T} (hl : l.length ≤ 100000) (d : Nat) : ∀ (i k : Nat), i + d = l.length → d < k → ebbtideref02_Value.l0 k (mk l) (i : Int) = some ((l.drop i).all okV) := by
  induction d with
  | zero =>
    intro i k hi hk
    obtain ⟨k, rfl⟩ := succ_of hk
    simp only [ebbtideref02_Value.l0]
    rw [mk_size, if_neg (by omega), List.drop_of_length_le (by omega)]
    rfl
  | succ d ih =>
    intro i k hi hk
    obtain ⟨k, rfl⟩ := succ_of hk
    have hlt : i < l.length := by omega
    simp only [ebbtideref02_Value.l0]
    rw [mk_size, if_pos (by omega), if_pos (by omega), bt_mk hlt, rsmall_eq, w64s (by omega), ih (i + 1) k (by omega) (by omega), drop_at hlt, List.all_cons, rdigit_eq]
    simp only [Option.bind_some]
    unfold okV okN
    by_cases h1 : okS l[i] = true
    · rw [if_pos h1, h1]; simp
    · rw [if_neg h1, Bool.eq_false_iff.mpr h1, Bool.false_or]
      by_cases h2 : okD l[i] = true
      · rw [if_pos h2, h2]; simp
      · rw [if_neg h2, Bool.eq_false_iff.mpr h2, Bool.false_or]
        by_cases h3 : l[i].toNat = 95
        · rw [if_pos (by omega), decide_eq_true h3]; simp
        · rw [if_neg (by omega), decide_eq_false h3, Bool.false_or]
          by_cases h4 : l[i].toNat = 45
          · rw [if_pos (by omega), decide_eq_true h4]; simp
          · rw [if_neg (by omega), decide_eq_false h4, Bool.false_or]
            by_cases h5 : l[i].toNat = 46
            · rw [if_pos (by omega), decide_eq_true h5]; simp
            · rw [if_neg (by omega), decide_eq_false h5]; simp
theorem rvalue_eq {l : T} (hl : l.length ≤ 100000) (k : Nat) (hk : l.length + 1 < k) : ebbtideref02_Value.f k (mk l) = some (isVal l) := by
  obtain ⟨k, rfl⟩ := succ_of hk
  have h0 := rvalue_l0 hl l.length 0 k (by omega) (by omega)
  rw [show ((0 : Nat) : Int) = 0 from rfl, List.drop_zero] at h0
  unfold ebbtideref02_Value.f isVal
  simp only [ebbtideref02_Value.j0]
  rw [mk_size, h0]
  by_cases h1 : l = []
  · rw [if_pos (by simp [h1]), if_pos trivial]
    simp [h1]
  · have : l.length ≠ 0 := fun e => h1 (List.eq_nil_of_length_eq_zero e)
    rw [if_neg (by omega), decide_eq_true h1, Bool.true_and]
    by_cases h2 : l.length ≤ 12
    · rw [if_neg (by simp; omega), decide_eq_true h2, Bool.true_and]
    · rw [if_pos (by simp; omega), decide_eq_false h2, Bool.false_and]
theorem join_eq {L : List T} {s : T} (hn : L.length ≤ 100000) (hj : (Lib.join L s).length ≤ 100000000) : word_Join.f (mk s) (L.map mk) = some (mk (Lib.join L s)) := by
  unfold word_Join.f strings_Join.f
  rw [List.length_map, map_mk, mk_data, if_pos ⟨by omega, by omega⟩]
  rfl
/-- How many bytes. -/
def tot (L : List T) : Nat := L.flatten.length
theorem tot_cons (x : T) (L : List T) : tot (x :: L) = x.length + tot L := by simp [tot]
theorem tail_cons (s x : T) (L : List T) : Lib.joinTail s (x :: L) = s ++ x ++ Lib.joinTail s L := by simp [Lib.joinTail]
theorem tail_len (s : T) (L : List T) : (Lib.joinTail s L).length = L.length * s.length + tot L := by
  induction L with
  | nil => simp [Lib.joinTail, tot]
  | cons x L ih =>
    have : Lib.joinTail s (x :: L) = s ++ x ++ Lib.joinTail s L := by simp [Lib.joinTail]
    rw [this, tot_cons, List.length_append, List.length_append, ih, List.length_cons, Nat.succ_mul]
    omega
theorem join_len (s : T) (L : List T) : (Lib.join L s).length ≤ L.length * s.length + tot L := by
  cases L with
  | nil => simp [Lib.join_nil]
  | cons x L =>
    rw [Lib.join_cons, List.length_append, tail_len, tot_cons, List.length_cons, Nat.succ_mul]
    omega
theorem rjoin_l0 {L : List T} {s : T} (hn : L.length ≤ 100) (d : Nat) : ∀ (i k : Nat) (acc : T), i + d = L.length → d < k → 0 < i → acc.length + d * s.length + tot (L.drop i) ≤ 200000 →
    ebbtideref02_Join.l0 k (mk s) (L.map mk) (mk acc) (i : Int) = some (mk (acc ++ Lib.joinTail s (L.drop i))) := by
  induction d with
  | zero =>
    intro i k acc hi hk _ _
    obtain ⟨k, rfl⟩ := succ_of hk
    simp only [ebbtideref02_Join.l0, List.length_map]
    rw [if_neg (by omega), List.drop_of_length_le (by omega)]
    simp [Lib.joinTail]
  | succ d ih =>
    intro i k acc hi hk h0 hb
    obtain ⟨k, rfl⟩ := succ_of hk
    have hlt : i < L.length := by omega
    rw [drop_at hlt, tot_cons, Nat.succ_mul] at hb
    simp only [ebbtideref02_Join.l0, List.length_map]
    rw [if_pos (by omega), if_pos (by omega), mk_append, rds hlt, mk_append, mk_size, mk_size, mk_size, mk_size, List.length_append, if_pos (by omega), if_pos (by omega), if_pos (by omega), w64s (by omega), ih (i + 1) k _ (by omega) (by omega) (by omega) (by rw [List.length_append, List.length_append]; omega), drop_at hlt, tail_cons]
    simp only [List.append_assoc]
theorem rjoin_eq {L : List T} {s : T} (hn : L.length ≤ 100) (hs : s.length ≤ 1000) (ht : tot L ≤ 5000) (k : Nat) (hk : 200 < k) : ebbtideref02_Join.f k (mk s) (L.map mk) = some (mk (Lib.join L s)) := by
  obtain ⟨k, rfl⟩ := succ_of hk
  have hm : L.length * s.length ≤ 100 * 1000 := Nat.mul_le_mul hn hs
  unfold ebbtideref02_Join.f
  simp only [ebbtideref02_Join.l0, List.length_map]
  cases L with
  | nil =>
    rw [if_neg (by simp)]
    rfl
  | cons x L =>
    rw [tot_cons] at ht
    rw [List.length_cons, Nat.succ_mul] at hm
    have he : ∀ y : ByteArray, (⟨#[]⟩ : ByteArray) ++ y = y := fun y => by
      have := mk_append [] y.data.toList
      rw [mk_eta, List.nil_append, mk_eta] at this
      exact this
    have hr : rdOf ByteArray.empty ((x :: L).map mk) 0 = mk x := rds (L := x :: L) (i := 0) (by simp)
    rw [if_pos (by simp only [List.length_cons]; omega), if_neg (by omega), if_pos (by omega), hr, he, mk_size, if_pos (by show 0 + x.length ≤ _; omega)]
    have h := rjoin_l0 (L := x :: L) (s := s) hn L.length 1 k x (by rw [List.length_cons]; omega) (by simp at hn; omega) (by omega) (by rw [List.drop_succ_cons, List.drop_zero]; omega)
    rw [List.drop_succ_cons, List.drop_zero, ← Lib.join_cons] at h
    rw [show wrap64 (0 + 1) = ((1 : Nat) : Int) from by unfold wrap64; omega]
    exact h
theorem rname_l0 {l : T} (hl : l.length ≤ 100000) (d : Nat) : ∀ (i k : Nat), i + d = l.length → d < k → ebbtideref02_Name.l0 k (mk l) (i : Int) = some ((l.drop i).all okN) := by
  induction d with
  | zero =>
    intro i k hi hk
    obtain ⟨k, rfl⟩ := succ_of hk
    simp only [ebbtideref02_Name.l0]
    rw [mk_size, if_neg (by omega), List.drop_of_length_le (by omega)]
    rfl
  | succ d ih =>
    intro i k hi hk
    obtain ⟨k, rfl⟩ := succ_of hk
    have hlt : i < l.length := by omega
    simp only [ebbtideref02_Name.l0]
    rw [mk_size, if_pos (by omega), if_pos (by omega), bt_mk hlt, rsmall_eq, w64s (by omega), ih (i + 1) k (by omega) (by omega), drop_at hlt, List.all_cons, rdigit_eq]
    simp only [Option.bind_some]
    unfold okN
    by_cases h1 : okS l[i] = true
    · rw [if_pos h1, h1]; simp
    · rw [if_neg h1, Bool.eq_false_iff.mpr h1, Bool.false_or]
      by_cases h2 : okD l[i] = true
      · rw [if_pos h2, h2]; simp
      · rw [if_neg h2, Bool.eq_false_iff.mpr h2, Bool.false_or]
        by_cases h3 : l[i].toNat = 95
        · rw [if_pos (by omega), decide_eq_true h3]; simp
        · rw [if_neg (by omega), decide_eq_false h3]; simp
theorem rname_eq {l : T} (hl : l.length ≤ 100000) (k : Nat) (hk : l.length + 1 < k) : ebbtideref02_Name.f k (mk l) = some (isName l) := by
  obtain ⟨k, rfl⟩ := succ_of hk
  have h0 := rname_l0 hl l.length 0 k (by omega) (by omega)
  rw [show ((0 : Nat) : Int) = 0 from rfl, List.drop_zero] at h0
  unfold ebbtideref02_Name.f isName
  simp only [ebbtideref02_Name.j0]
  rw [mk_size, h0]
  cases l with
  | nil => rw [if_pos (by simp), if_pos trivial]; simp
  | cons x l =>
    have hb : bt (mk (x :: l)) 0 = (x.toNat : Int) := bt_mk (l := x :: l) (i := 0) (by simp)
    rw [if_neg (by simp only [List.length_cons]; omega), if_pos (show (0 : Int) < ((x :: l).length : Int) by simp only [List.length_cons]; omega), hb, rsmall_eq]
    simp only [Option.bind_some]
    rw [decide_eq_true (show x :: l ≠ [] by simp), Bool.true_and]
    by_cases h2 : (x :: l).length ≤ 12
    · rw [if_neg (by omega), decide_eq_true h2, Bool.true_and]
      cases okS x with
      | true => simp
      | false => simp
    · rw [if_pos (by omega), if_pos trivial, decide_eq_false h2]
      simp
end Go.Proofs.YtdmobcaidjilcaaDoor.Pure
